import PyProof.Rows.All
import PySem.Syntax
import PySem.Str
import HandS.List
import HandS.Text
import PyProof.ReprReads
import PyProof.Rows.SetFrom
import Wide.All
import OpenK.AllK
import Wide.FinOn
import HandS.ForMost
import HandS.Exc
import HandS.ExcOwn
import HandS.WordsExc
import HandS.CallSlots
import HandS.Flow
import HandS.Wide
import HandS.WideBits
import HandS.Walk
import HandS.Defaults
import HandS.TupAny
import HandS.Star
import HandS.IsInst
import HandS.Rev
import HandS.RevTup
import HandS.AnyAll
import HandS.SortInts
import HandS.MakeKw
import HandS.Property
import HandS.MethStar
import HandS.WordsDict
import HandS.FStr
import HandS.Small
import HandS.Zip
import HandS.WideMore
import HandS.Iter
import HandS.Comp
import HandS.Conv
import HandS.TupLen
import HandS.TupMul
import HandS.TupLe
import HandS.Nested
import HandS.Style
import KE.IntTextLaws
import HandS.TryOnly
import HandS.SetFor
import HandS.Dict
import HandS.TupSets
import HandS.Strs
import HandS.RaiseMore
import KE.KCallOwn
import OpenK.KDescr
import HandS.More
import HandS.Head0
import HandS.Head1
import HandS.Head2
import HandS.HeadEnd
import HandS.HeadHook1
import HandS.HeadHook2
import HandS.HeadNt
import HandS.EndBits
import PySem.Challenge.RW_wordshuffles_k70_claims_of_any_kind
import PyProof.ReprLen
import PyProof.FitsInt
-- WdEv
set_option linter.all false
/-! The small language, its values, its evaluator. -/
namespace Wd
open PySem

/-- data -/
inductive D where
  | non | bl (b : Bool) | int (i : Int) | str (s : Str)
  | tup (l : List D) | lst (l : List D) | scr (l : List D) | dct (ks : List (Sum Int Str)) (l : List D) | ins (c : Str) (ns : List Str) (l : List D)
  | ty (n : String) | cls (c : Str)
  deriving Inhabited

inductive Bop where | add | sub | mul | fdiv | mod | pow deriving DecidableEq, Inhabited
inductive Cop where | eq | ne | lt | le | gt | ge | isn | notn | inn | nin deriving DecidableEq, Inhabited
inductive Bi where | abs | all | any | bool | divmod | int | isinst | len | list | max | min | sorted | sum | tuple | lenset | sortedset | listrange | lenrange | indict | ixdict | isbl deriving DecidableEq, Inhabited, Repr
inductive Mt where | append | count | get | index | join | pop | split deriving DecidableEq, Inhabited
/-- where a parameter's value comes from: the k-th argument as written, a default -/
inductive Pm where | a (k : Nat) | d (v : D) deriving Inhabited

mutual
inductive Ie where
  | var (i : Nat) | con (d : D)
  | bin (o : Bop) (a b : Ie) | neg (a : Ie) | nt (a : Ie) | and (a b : Ie) | or (a b : Ie)
  | cmp (o : Cop) (a b : Ie) | chain (o1 o2 : Cop) (a b c : Ie) | ite (c a b : Ie)
  | call (f : Str) (pm : List Pm) (n m : Nat) (as ks : Ia)
  | mk (c : Str) (pm : List Pm) (n m : Nat) (as ks : Ia)
  | meth (f : Str) (o : Ie) (pm : List Pm) (n m : Nat) (as ks : Ia)
  | strc (a : Ie) | reprc (a : Ie)
  | attr (o : Ie) (f : Str)
  | bi (b : Bi) (as : Ia)
  | mt (m : Mt) (o : Ie) (as : Ia)
  | ix (a i : Ie) | sl (a lo hi : Ie) | slr (a : Ie) | slk (a lo : Ie) (k : Nat)
  | lst (as : Ia) | tup (as : Ia) | dct (ks : Ia) (vs : Ia)
  | lc (g : Ig) (own : List Nat)
  | fstr (as : Ia)
inductive Ia where
  | nil | cons (e : Ie) (r : Ia) | star (e : Ie) (r : Ia)
inductive Ig where
  | one (t : List Nat) (it : Ii) (cs : Ia) (e : Ie)
  | two (t : List Nat) (it : Ii) (cs : Ia) (g : Ig)
inductive Ii where
  | e (a : Ie) | rg (k : Nat) (as : Ia) | en (as : Ia) | zp (as : Ia)
end
instance : Inhabited Ie := ⟨.con .non⟩
instance : Inhabited Ia := ⟨.nil⟩

/-- a target: a name, an item of what a name holds -/
inductive T1 where | nm (i : Nat) | ix (i : Nat) (e : Ie)

mutual
inductive Is where
  | set (t : T1) (e : Ie)
  | unp (ts : List T1) (e : Ie)
  | par (ts : List T1) (as : Ia)
  | parN (is : List Nat) (as : Ia)
  | fld (i : Nat) (f : Str) (e : Ie)
  | aug (t : T1) (e : Ie)
  | ex (e : Ie)
  | iff (c : Ie) (t e : Ib)
  | for_ (t : List Nat) (it : Ii) (b : Ib)
  | whl (c : Ie) (b : Ib)
  | ret (e : Ie) | brk | pass
  | raise (c : Str) (as : Ia)
  | tr (b : Ib) (hs : Ih)
inductive Ib where
  | nil | cons (s : Is) (b : Ib)
inductive Ih where
  | nil | cons (cs : List Str) (nm : Option Nat) (b : Ib) (r : Ih)
end
instance : Inhabited Ib := ⟨.nil⟩

/-- a slot: not assigned; frozen data; an object of its own; a borrowed object of its own -/
inductive Sl where | un | fr (d : D) | ow (d : D) | bo (d : D) deriving Inhabited
abbrev Sto := List Sl
/-- a result: data; a new object; what a slot holds -/
inductive Rv where | v (d : D) | n (d : D) | b (i : Nat) deriving Inhabited
inductive Res (α : Type) where | ok (a : α) (s : Sto) | ex (e : D) (s : Sto) | bad (w : String)
  deriving Inhabited
inductive CRes where | ok (r : Rv) (outs : List Sl) | ex (e : D) (outs : List Sl) | bad (w : String)
  deriving Inhabited
/-- how a statement ends -/
inductive Fl where | nx | rt (r : Rv) | bk

structure FD where
  ps : List Str
  io : List Bool
  n : Nat
  body : Ib
  deriving Inhabited
structure Tab where
  fns : List (Str × FD)
  cls : List Str          -- classes with __init__
  props : List (Str × Str)
  fds : List (Str × Str)  -- (class, field)
  eqs : List Str          -- classes with __eq__

def isSet (o : Option Sl) : Bool := match o with | some .un => false | none => false | _ => true
def Sl.con : Sl → Option D | .un => none | .fr d => some d | .ow d => some d | .bo d => some d

@[inline] def bnd {α β : Type} (x : Res α) (f : α → Sto → Res β) : Res β := match x with | .ok a s => f a s | .ex e s => .ex e s | .bad w => .bad w

/-- the data of a result -/
def peek (r : Rv) (s : Sto) : Option D := match r with | .v d => some d | .n d => some d | .b i => (s[i]?).bind Sl.con
/-- the data of a result that will be shared: never changed from here on -/
def frz (r : Rv) (s : Sto) : Option (D × Sto) := match r with
  | .v d => some (d, s)
  | .n d => some (d, s)
  | .b i => match s[i]? with
    | some (.ow d) => some (d, s.set i (.fr d))
    | some (.fr d) => some (d, s)
    | _ => none

def LIM : Nat := 1000000
/-- data of which == is told item by item -/
def pk (d : D) : Bool := match d with | .non | .bl _ | .int _ | .str _ => true | _ => false

def slen (s : Str) : Nat := s.cps.size
def b2i (b : Bool) : Int := if b then 1 else 0
mutual
def deq : D → D → Bool
  | .non, .non => true
  | .bl a, .bl b => a == b
  | .int a, .int b => a == b
  | .bl a, .int b => b2i a == b
  | .int a, .bl b => a == b2i b
  | .str a, .str b => a == b
  | .tup a, .tup b => deqs a b
  | .lst a, .lst b => deqs a b
  | _, _ => false
def deqs : List D → List D → Bool
  | [], [] => true
  | a :: r, b :: t => deq a b && deqs r t
  | _, _ => false
end

def keyOf (d : D) : Option (Sum Int Str) := match d with | .int i => some (.inl i) | .str s => some (.inr s) | _ => none

def bits (i : Int) : Nat := i.natAbs.log2
def addD (x y : D) : Option Rv := match x, y with
  | .int a, .int b => some (.v (.int (a + b)))
  | .str a, .str b => if slen a + slen b ≤ LIM then some (.v (.str (a ++ b))) else none
  | .lst a, .lst b => if a.length + b.length ≤ LIM then some (.n (.lst (a ++ b))) else none
  | .tup a, .tup b => if a.length + b.length ≤ LIM then some (.v (.tup (a ++ b))) else none
  | _, _ => none
def subD (x y : D) : Option Rv := match x, y with
  | .int a, .int b => some (.v (.int (a - b)))
  | _, _ => none
def mulD (x y : D) : Option Rv := match x, y with
  | .int a, .int b => if bits a + bits b < 1000000 then some (.v (.int (a * b))) else none
  | .lst a, .int k => if -(2 ^ 63) ≤ k ∧ k < 2 ^ 63 ∧ a.length * k.toNat ≤ LIM then some (.n (.lst (List.replicate k.toNat a).flatten)) else none
  | .tup a, .int k => if k = 1 then some (.v (.tup a)) else if a.isEmpty = false ∧ 2 ≤ k ∧ k ≤ 1000 ∧ a.length ≤ 1000 then some (.v (.tup (List.replicate k.toNat a).flatten)) else none
  | _, _ => none
def fdivD (x y : D) : Option Rv := match x, y with
  | .int a, .int b => if 0 < b ∧ bits b < 9000 then some (.v (.int (a / b))) else none
  | _, _ => none
def modD (x y : D) : Option Rv := match x, y with
  | .int a, .int b => if 0 < b then some (.v (.int (a % b))) else none
  | _, _ => none
def powD (x y : D) : Option Rv := match x, y with
  | .int a, .int b => if 0 ≤ b ∧ b ≤ 1000000 ∧ a.natAbs < 2 ^ 64 then some (.v (.int (a ^ b.toNat))) else none
  | _, _ => none
def bop (o : Bop) (x y : D) : Option Rv := match o with
  | .add => addD x y | .sub => subD x y | .mul => mulD x y | .fdiv => fdivD x y | .mod => modD x y | .pow => powD x y

def kget : List (Sum Int Str) → List D → Sum Int Str → Option D
  | q :: ks, d :: l, k => if q = k then some d else kget ks l k
  | _, _, _ => none
/-- the items with key k replaced -/
def krep : List (Sum Int Str) → List D → Sum Int Str → D → List D
  | q :: ks, e :: l, k, d => (if q = k then d else e) :: krep ks l k d
  | _, _, _, _ => []
/-- in its place, or at the end -/
def kput (ks : List (Sum Int Str)) (l : List D) (k : Sum Int Str) (d : D) : List (Sum Int Str) × List D :=
  if (ks.any fun q => decide (q = k)) = true then (ks, krep ks l k d) else (ks ++ [k], l ++ [d])

/-- data whose == is told item by item -/
def okD : Nat → D → Bool
  | _, .non => true | _, .bl _ => true | _, .int _ => true
  | _, .str s => s.cps.all (· < 0x110000)
  | n + 1, .tup l => l.all (okD n)
  | n + 1, .lst l => l.all (okD n)
  | _, _ => false
def eqD (x y : D) : Option Bool := match x, y with
  | .int a, .int b => some (a == b)
  | .str a, .str b => some (a == b)
  | .bl a, .bl b => some (a == b)
  | x, y => if okD 60 x && okD 60 y then some (deq x y) else none
/-- x == y; any tuple and the empty one -/
def eqT (x y : D) : Option Bool := match x, y with
  | .tup l, .tup [] => some l.isEmpty
  | x, y => eqD x y
def inD (x y : D) : Option Bool := match y with
  | .tup l => if pk x && l.all pk then some (l.any fun z => deq z x) else none
  | .lst l => if pk x && l.all pk then some (l.any fun z => deq z x) else none
  | .dct ks l => (keyOf x).map fun k => (kget ks l k).isSome
  | .str s => match x with
    | .str ⟨⟨[c]⟩⟩ => some (decide (c ∈ s.cps.toList))
    | _ => none
  | _ => none
def ints? : List D → Option (List Int)
  | [] => some []
  | .int i :: r => (ints? r).map (i :: ·)
  | _ => none
def lexlt (a b : List Int) : Bool := HT.lexLt a b
def ltD (x y : D) : Option Bool := match x, y with
  | .int a, .int b => some (decide (a < b))
  | .str a, .str b => some (decide (a.cps.toList < b.cps.toList))
  | .tup a, .tup b => match ints? a, ints? b with | some a, some b => some (lexlt a b) | _, _ => none
  | _, _ => none
def leI (f : Int → Int → Bool) (x y : D) : Option Bool := match x, y with | .int a, .int b => some (f a b) | _, _ => none
def isnD (x y : D) : Option Bool := match y with | .non => some (match x with | .non => true | _ => false) | _ => none
def cop (o : Cop) (x y : D) : Option Bool := match o with
  | .eq => eqT x y
  | .ne => (eqD x y).map (!·)
  | .isn => isnD x y
  | .notn => (isnD x y).map (!·)
  | .inn => inD x y
  | .nin => (inD x y).map (!·)
  | .lt => ltD x y
  | .le => leI (fun a b => decide (a ≤ b)) x y
  | .gt => leI (fun a b => decide (a > b)) x y
  | .ge => leI (fun a b => decide (a ≥ b)) x y

def truth (d : D) : Option Bool := match d with
  | .non => some false | .bl b => some b | .int i => some (i != 0) | .str s => if slen s ≤ LIM then some ((slen s : Int) != 0) else none
  | .tup l => some (!l.isEmpty) | .lst l => some (!l.isEmpty) | .dct ks _ => some (!ks.isEmpty) | _ => none

def strI (i : Int) : Option Str := if bits i < 1920 then some (toString i : String) else none

/-! ### repr -/
mutual
def toPy : D → PyData
  | .bl b => .bool b
  | .int i => .int i
  | .str s => .str s
  | .tup l => .tuple (toPys l)
  | .lst l => .list (toPys l)
  | _ => .none
def toPys : List D → List PyData
  | [] => []
  | d :: l => toPy d :: toPys l
end
def shownOk (d : D) : Bool := okD 60 d && (toPy d).showable && decide ((toPy d).shown.length ≤ LIM)
def reprD (d : D) : Option Str := match d with
  | .tup _ => if shownOk d then some (toPy d).shown else none
  | .lst _ => if shownOk d then some (toPy d).shown else none
  | .int i => if i.natAbs.log2 < 1920 then some (toString i : String) else none
  | .bl b => some (if b then "True" else "False")
  | .non => some "None"
  | .str s => if slen (reprText s) ≤ LIM then some (reprText s) else none
  | _ => none

def strs? : List D → Option (List Str)
  | [] => some []
  | .str i :: r => (strs? r).map (i :: ·)
  | _ => none
def bls? : List D → Option (List Bool)
  | [] => some []
  | .bl i :: r => (bls? r).map (i :: ·)
  | _ => none
def items? (d : D) : Option (List D) := match d with | .tup l => some l | .lst l => some l | _ => none

def insI (a : Int) : List Int → List Int
  | [] => [a]
  | b :: r => if a ≤ b then a :: b :: r else b :: insI a r
def sortI : List Int → List Int
  | [] => []
  | a :: r => insI a (sortI r)
def leD (a b : D) : Bool := match cop .lt b a with | some true => false | _ => true
def insD (a : D) : List D → List D
  | [] => [a]
  | b :: r => if leD a b then a :: b :: r else b :: insD a r
def sortD : List D → List D
  | [] => []
  | a :: r => insD a (sortD r)
def dedup : List Int → List Int
  | [] => []
  | a :: r => a :: (dedup r).filter (· != a)

def tyn (d : D) : String := match d with
  | .non => "NoneType" | .bl _ => "bool" | .int _ => "int" | .str _ => "str" | .tup _ => "tuple" | .lst _ => "list" | .scr _ => "list" | .dct _ _ => "dict" | _ => ""
def tynames : List String := ["int", "bool", "str", "tuple", "list", "dict"]
def isinst (d : D) (t : D) : Option Bool := match t with
  | .ty T => if T ∈ tynames then (match d with | .ins _ _ _ => some false | .ty _ => none | .cls _ => none | _ => some (tyn d == T || (tyn d == "bool" && T == "int"))) else none
  | .cls c => (match d with | .ins e _ _ => some (e == c) | .ty _ => none | .cls _ => none | _ => some false)
  | _ => none

/-- the number that digits write -/
def digN (l : List Nat) : Option Nat := if l ≠ [] ∧ l.length ≤ 600 ∧ (l.all fun c => 48 ≤ c && c ≤ 57) then some (l.foldl (fun n c => 10 * n + (c - 48)) 0) else none
def strD (d : D) : Option Rv := match d with
  | .int i => (strI i).map fun s => .v (.str s)
  | .str s => some (.v (.str s))
  | _ => none
def absB (xs : List D) : Option Rv := match xs with | [.int i] => some (.v (.int (if i < 0 then -i else i))) | _ => none
def allB (xs : List D) : Option Rv := match xs with | [.lst l] => (bls? l).map fun bs => .v (.bl (bs.all id)) | _ => none
def anyB (xs : List D) : Option Rv := match xs with | [.lst l] => (bls? l).map fun bs => .v (.bl (bs.any id)) | _ => none
def boolB (xs : List D) : Option Rv := match xs with | [.int i] => some (.v (.bl (i != 0))) | [.bl i] => some (.v (.bl i)) | _ => none
def divmodB (xs : List D) : Option Rv := match xs with | [.int a, .int b] => if 0 < b ∧ bits b < 9000 then some (.v (.tup [.int (a / b), .int (a % b)])) else none | _ => none
def intB (xs : List D) : Option Rv := match xs with
  | [.int i] => some (.v (.int i))
  | [.bl i] => some (.v (.int (b2i i)))
  | [.str s] => (digN s.cps.toList).map fun n => .v (.int (n : Nat))
  | _ => none
def isinstB (xs : List D) : Option Rv := match xs with | [d, t] => (isinst d t).map fun b => .v (.bl b) | _ => none
/-- x is True, x is False -/
def isblB (xs : List D) : Option Rv := match xs with | [.bl a, .bl b] => some (.v (.bl (decide (a = b)))) | _ => none
/-- of a dict of the module, keys that are strings -/
def indictB (xs : List D) : Option Rv := match xs with | [.str z, .dct ks l] => some (.v (.bl (kget ks l (.inr z)).isSome)) | _ => none
def ixdictB (xs : List D) : Option Rv := match xs with | [.dct ks l, .str z] => (kget ks l (.inr z)).map fun d => .v d | _ => none
def lenB (xs : List D) : Option Rv := match xs with
  | [.str s] => if slen s ≤ LIM then some (.v (.int (slen s))) else none
  | [.lst l] => some (.v (.int l.length))
  | [.tup l] => some (.v (.int l.length))
  | [.scr l] => some (.v (.int l.length))
  | [.dct ks _] => some (.v (.int ks.length))
  | _ => none
def listB (xs : List D) : Option Rv := match xs with | [.lst l] => some (.n (.lst l)) | [.tup l] => some (.n (.lst l)) | [.scr l] => some (.n (.lst l)) | _ => none
def foldI (f : Int → Int → Int) (l : List Int) : Option Rv := match l with | [] => none | a :: r => some (.v (.int (r.foldl f a)))
def maxB (xs : List D) : Option Rv := match xs with
  | [.int a, .int b] => some (.v (.int (if b > a then b else a)))
  | [.lst l] => (ints? l).bind (foldI fun m b => if b > m then b else m)
  | _ => none
def minB (xs : List D) : Option Rv := match xs with
  | [.int a, .int b] => some (.v (.int (if b < a then b else a)))
  | [.lst l] => (ints? l).bind (foldI fun m b => if b < m then b else m)
  | _ => none
/-- keys that are whole numbers -/
def ikeys? : List (Sum Int Str) → Option (List Int)
  | [] => some []
  | .inl i :: r => (ikeys? r).map fun l => i :: l
  | _ => none
def sortedB (xs : List D) : Option Rv := match xs with
  | [.lst l] => (ints? l).map fun l => .n (.lst ((sortI l).map .int))
  | [.dct ks _] => (ikeys? ks).bind fun l => if l.length < 64 then some (.n (.lst ((sortI l).map .int))) else none
  | _ => none
def sumB (xs : List D) : Option Rv := match xs with
  | [.lst l] => (ints? l).map fun l => .v (.int l.sum)
  | [.tup l] => (ints? l).map fun l => .v (.int l.sum)
  | _ => none
def tupleB (xs : List D) : Option Rv := match xs with | [.lst l] => some (.v (.tup l)) | [.tup l] => some (.v (.tup l)) | _ => none
def lensetB (xs : List D) : Option Rv := match xs with
  | [.lst l] => (ints? l).bind fun l => if l.length ≤ 4000 then some (.v (.int (l.foldl PyProof.Rows.step_dedup []).length)) else none
  | _ => none
def sortedsetB (xs : List D) : Option Rv := match xs with
  | [.lst l] => (ints? l).bind fun l => if l.length ≤ 4000 ∧ (l.foldl PyProof.Rows.step_dedup []).length < 64 then some (.n (.lst ((sortI (l.foldl PyProof.Rows.step_dedup [])).map .int))) else none
  | _ => none
def listrangeB (xs : List D) : Option Rv := match xs with | [.int a, .int b] => if -(2 ^ 62) ≤ a ∧ a < 2 ^ 62 ∧ -(2 ^ 62) ≤ b ∧ b < 2 ^ 62 ∧ (b - a).toNat ≤ LIM then some (.n (.lst ((List.range (b - a).toNat).map fun (k : Nat) => .int (a + k)))) else none | _ => none
def lenrangeB (xs : List D) : Option Rv := match xs with
  | [.int i, .int j, .int k] => if k ≠ 0 ∧ k.natAbs < 1073741824 ∧ Builtin.Range.small i j k = true ∧ 0 ≤ Builtin.Range.rangeSize i j k ∧ Builtin.Range.rangeSize i j k < 2 ^ 62 then some (.v (.int (Builtin.Range.rangeSize i j k))) else none
  | _ => none
def bi (b : Bi) (xs : List D) : Option Rv := match b with
  | .abs => absB xs | .all => allB xs | .any => anyB xs | .bool => boolB xs | .divmod => divmodB xs | .int => intB xs | .isinst => isinstB xs | .len => lenB xs | .list => listB xs
  | .max => maxB xs | .min => minB xs | .sorted => sortedB xs | .sum => sumB xs | .tuple => tupleB xs | .lenset => lensetB xs | .sortedset => sortedsetB xs | .listrange => listrangeB xs | .lenrange => lenrangeB xs | .indict => indictB xs | .ixdict => ixdictB xs | .isbl => isblB xs

def atIx (l : List D) (i : Int) : Option D := if 0 ≤ i then l[i.toNat]? else if 0 ≤ i + l.length then l[(i + l.length).toNat]? else none
def ixN (n : Nat) (i : Int) : Option Nat := if 0 ≤ i ∧ i < n then some i.toNat else if i < 0 ∧ 0 ≤ i + n then some (i + n).toNat else none
def ixS (s : Str) (i : Int) : Option Rv := if slen s ≤ LIM then (ixN (slen s) i).bind fun k => (s.cps[k]?).map fun c => .v (.str ⟨#[c]⟩) else none
def ixD (a i : D) : Option Rv := match a with
  | .lst l => (match i with | .int i => (atIx l i).map .v | _ => none)
  | .tup l => (match i with | .int i => (atIx l i).map .v | _ => none)
  | .scr l => (match i with | .int i => (atIx l i).map .v | _ => none)
  | .str s => (match i with | .int i => ixS s i | _ => none)
  | .dct ks l => ((keyOf i).bind (kget ks l)).map .v
  | _ => none
def cut {α : Type} (l : List α) (a b : Nat) : List α := (l.drop a).take (b - a)
/-- a part of a slice -/
def part (d : D) : Option (Option Int) := match d with | .non => some none | .int i => some (some i) | _ => none
def slD (a : D) (lo hi : Option Int) : Option Rv := match a with
  | .lst l => some (.n (.lst (cut l (HT.sIx l.length 0 lo) (HT.sIx l.length l.length hi))))
  | .scr l => some (.n (.lst (cut l (HT.sIx l.length 0 lo) (HT.sIx l.length l.length hi))))
  | .tup l => some (.v (.tup (cut l (HT.sIx l.length 0 lo) (HT.sIx l.length l.length hi))))
  | .str s => if slen s ≤ LIM then some (.v (.str ⟨(cut s.cps.toList (HT.sIx (slen s) 0 lo) (HT.sIx (slen s) (slen s) hi)).toArray⟩)) else none
  | _ => none
/-- each k-th one from a on, c of them -/
def pickL {α : Type} (l : List α) (a k : Int) (c : Nat) : List α := (List.range c).filterMap fun (m : Nat) => l[(a + (m : Int) * k).toNat]?
def slrD (a : D) : Option Rv := match a with
  | .lst l => some (.n (.lst (pickL l ((l.length : Int) - 1) (-1) l.length)))
  | .tup l => some (.v (.tup (pickL l ((l.length : Int) - 1) (-1) l.length)))
  | _ => none
def stepN (n lo k : Nat) : Nat := (Builtin.Slice.slicePlaces ((min lo n : Nat) : Int) (n : Int) (k : Int))
def slkD (a : D) (lo k : Nat) : Option Rv := match a with
  | .lst l => some (.n (.lst (pickL l (min lo l.length : Nat) k (stepN l.length lo k))))
  | .tup l => some (.v (.tup (pickL l (min lo l.length : Nat) k (stepN l.length lo k))))
  | _ => none

/-- a method of a built-in type that leaves its object as it was -/
def mt (m : Mt) (o : D) (xs : List D) : Option Rv := match m, o, xs with
  | .count, .lst l, [.int x] => (ints? l).map fun ns => .v (.int (ns.count x : Nat))
  | .index, .lst l, [.int x] => (ints? l).bind fun ns => (ns.idxOf? x).map fun (k : Nat) => .v (.int k)
  | .get, .dct ks l, [k, .int x] => (keyOf k).map fun k => .v ((kget ks l k).getD (.int x))
  | .join, .str s, [.lst l] => (strs? l).bind fun l => if (l.map slen).sum + l.length * slen s ≤ LIM then some (.v (.str (Txt.join s l))) else none
  | .join, .str s, [.tup l] => (strs? l).bind fun l => if (l.map slen).sum + l.length * slen s ≤ LIM then some (.v (.str (Txt.join s l))) else none
  | .split, .str s, [.str t] => if slen t ≠ 0 ∧ slen s ≤ LIM then some (.n (.lst ((Txt.split s t).map .str))) else none
  | _, _, _ => none
/-- one that changes it: what it gives, the object behind it -/
def mtM (m : Mt) (o : D) (xs : List D) : Option (D × D) := match m, o, xs with
  | .append, .lst l, [x] => if l.length < LIM then some (.non, .lst (l ++ [x])) else none
  | .pop, .lst l, [] => match l.getLast? with | some x => some (x, .lst l.dropLast) | none => none
  | _, _, _ => none
def setixD (o i v : D) : Option D := match o, i with
  | .lst l, .int k => (ixN l.length k).map fun j => .lst (l.set j v)
  | .dct ks l, k => (keyOf k).bind fun k => if ks.length < LIM then some (.dct (kput ks l k v).1 (kput ks l k v).2) else none
  | _, _ => none
def isMut (m : Mt) : Bool := match m with | .append | .pop => true | _ => false

def mtOk (m : Mt) (d : D) : Bool := match m, d with
  | .append, .lst _ => true | .pop, .lst _ => true | .index, .lst _ => true | .count, .lst _ => true
  | .get, .dct _ _ => true | .join, .str _ => true | .split, .str _ => true | _, _ => false
/-- an object of its own at a slot is changed -/
def upS (s : Sto) (i : Nat) (d : D) : Option Sto := match s[i]? with | some (.ow _) => some (s.set i (.ow d)) | some (.bo _) => some (s.set i (.bo d)) | _ => none

def wipe (s : Sto) : List Nat → Sto
  | [] => s
  | i :: l => (wipe s l).set i .un
/-- the slots of l as they stood -/
def back (s old : Sto) : List Nat → Sto
  | [] => s
  | i :: l => (back s old l).set i (old.getD i .un)

def putR (s : Sto) (i : Nat) (r : Rv) : Res Unit := match s[i]? with
  | some (.bo _) => .bad "assign borrowed"
  | none => .bad "no slot"
  | _ => match r with
    | .v d => .ok () (s.set i (.fr d))
    | .n d => .ok () (s.set i (match d with | .lst _ | .dct _ _ | .ins _ _ _ => .ow d | _ => .fr d))
    | .b j => match frz (.b j) s with
      | some (d, s) => .ok () (s.set i (.fr d))
      | none => .bad "alias of borrowed"

def putNs : List Nat → List Rv → Sto → Res Unit
  | [], [], s => .ok () s
  | i :: is, r :: rs, s => bnd (putR s i r) fun _ s => putNs is rs s
  | _, _, _ => .bad "unpack"
def putTup (is : List Nat) (d : D) (s : Sto) : Res Unit := match d with
  | .tup l => putNs is (l.map .v) s
  | .lst l => putNs is (l.map .v) s
  | _ => .bad "unpack"
def putTg (s : Sto) (t : List Nat) (d : D) : Res Unit := match t with
  | [i] => putR s i (.v d)
  | is => putTup is d s

/-! ### calls -/
/-- what is handed over: frozen data, a slot's own object, a new object -/
inductive Lk where | fr (d : D) | sl (i : Nat) | tm (d : D) deriving Inhabited
def lend1 (m : Bool) (r : Rv) (s : Sto) : Option (Lk × Sto) := match m, r with
  | true, .b i => (match s[i]? with
    | some (.ow _) => some (.sl i, s)
    | some (.bo _) => some (.sl i, s)
    | some (.fr d) => some (.fr d, s)
    | _ => none)
  | true, .n d => some (.tm d, s)
  | _, r => (frz r s).map fun p => (.fr p.1, p.2)
def lend : List Bool → List Rv → Sto → Option (List Lk × Sto)
  | _, [], s => some ([], s)
  | io, r :: rs, s => (lend1 (io.headD false) r s).bind fun p => (lend io.tail rs p.2).map fun q => (p.1 :: q.1, q.2)
/-- the callee's slot -/
def finS (s : Sto) (k : Lk) : Option Sl := match k with
  | .fr d => some (.fr d)
  | .tm d => some (.bo d)
  | .sl i => (match s[i]? with | some (.ow d) => some (.bo d) | some (.bo d) => some (.bo d) | _ => none)
def finAll (s : Sto) : List Lk → Option (List Sl)
  | [] => some []
  | k :: ks => (finS s k).bind fun z => (finAll s ks).map fun l => z :: l
def lentIx : List Lk → List Nat
  | [] => []
  | .sl i :: ks => i :: lentIx ks
  | _ :: ks => lentIx ks
/-- what was lent comes back -/
def takeBack : List Lk → List Sl → Sto → Option Sto
  | [], _, s => some s
  | .sl i :: ks, .bo d :: os, s => (upS s i d).bind fun s => takeBack ks os s
  | .fr _ :: ks, _ :: os, s => takeBack ks os s
  | .tm _ :: ks, _ :: os, s => takeBack ks os s
  | _, _, _ => none
def nodup : List Nat → Bool
  | [] => true
  | a :: l => !l.contains a && nodup l
/-- the callee's slots, what was handed over, the caller's slots -/
def lendAll (io : List Bool) (rs : List Rv) (s : Sto) : Option (List Lk × List Sl × Sto) := match lend io rs s with
  | some (ks, s) => if nodup (lentIx ks) = true then (finAll s ks).map fun sl => (ks, sl, s) else none
  | none => none

def pickR : List Pm → List Rv → Option (List Rv)
  | [], _ => some []
  | .a k :: pm, all => (all[k]?).bind fun r => (pickR pm all).map fun l => r :: l
  | .d v :: pm, all => (pickR pm all).map fun l => .v v :: l
def pmIx : List Pm → List Nat
  | [] => []
  | .a k :: pm => k :: pmIx pm
  | .d _ :: pm => pmIx pm
/-- the parameters' values: n by position, m by keywords -/
def pick (pm : List Pm) (n m : Nat) (rs zs : List Rv) : Option (List Rv) := if rs.length = n ∧ zs.length = m ∧ nodup (pmIx pm) = true then pickR pm (rs ++ zs) else none

def fdOf (T : Tab) (f : Str) : Option FD := T.fns.lookup f
def callF (T : Tab) (C : Str → List Sl → CRes) (f : Str) (rs : List Rv) (s : Sto) : Res Rv := match fdOf T f with
  | none => .bad ("no function " ++ f.toString)
  | some fd => match lendAll fd.io rs s with
    | none => .bad ("lend " ++ f.toString)
    | some (ks, sl, s) => match C f sl with
      | .bad w => .bad w
      | .ex e outs => (match takeBack ks outs s with | some s => .ex e s | none => .bad "take back")
      | .ok r outs => (match takeBack ks outs s with | some s => .ok r s | none => .bad "take back")
/-- a new instance -/
def mkI (T : Tab) (C : Str → List Sl → CRes) (c : Str) (rs : List Rv) (s : Sto) : Res Rv := match fdOf T (c ++ ".__init__") with
  | none => .bad "no class"
  | some fd => if T.cls.contains c = true then match lendAll fd.io.tail rs s with
    | none => .bad "lend"
    | some (ks, sl, s) => match C (c ++ ".__init__") (.bo (.ins c [] []) :: sl) with
      | .bad w => .bad w
      | .ex e (_ :: outs) => (match takeBack ks outs s with | some s => .ex e s | none => .bad "take back")
      | .ok (.v .non) (.bo d :: outs) => (match takeBack ks outs s with | some s => .ok (.n d) s | none => .bad "take back")
      | _ => .bad "init"
    else .bad "class"

section
variable (T : Tab) (C : Str → List Sl → CRes) (W : Nat)
def opt {α : Type} (w : String) (o : Option α) (s : Sto) : Res α := match o with | some a => .ok a s | none => .bad w
/-- the data of a result, read and no more -/
def rd (x : Res Rv) : Res D := bnd x fun r s => opt "peek" (peek r s) s
def frzR (r : Rv) (s : Sto) : Res D := match frz r s with | some (d, s) => .ok d s | none => .bad "freeze"
def fz (x : Res Rv) : Res D := bnd x frzR
def rds (rs : List Rv) (s : Sto) : Option (List D) := rs.mapM fun r => peek r s
def fzs : List Rv → Sto → Option (List D × Sto)
  | [], s => some ([], s)
  | r :: rs, s => match frz r s with
    | some (d, s) => (fzs rs s).map fun (l, s) => (d :: l, s)
    | none => none

def cmpE (o : Cop) (x y : D) (s : Sto) : Res Rv := opt "compare" ((cop o x y).map fun b => .v (.bl b)) s

def rangeL (a c : Int) (n : Nat) : List D := (List.range n).map fun (k : Nat) => .int (a + k * c)
def enumL (l : List D) : List D := (List.range l.length).zip l |>.map fun (k, d) => .tup [.int (k : Nat), d]

def rangeD (k : Nat) (ds : List D) : Option (List D) := match k, ds with
  | 1, [.int n] => if -(2 ^ 62) ≤ n ∧ n < 2 ^ 62 then some (rangeL 0 1 n.toNat) else none
  | 2, [.int i, .int j] => if -(2 ^ 62) ≤ i ∧ i < 2 ^ 62 ∧ -(2 ^ 62) ≤ j ∧ j < 2 ^ 62 then some (rangeL i 1 (j - i).toNat) else none
  | 3, [.int i, .int j, .int k] => if k ≠ 0 ∧ k.natAbs < 1073741824 ∧ Builtin.Range.small i j k = true ∧ 0 ≤ Builtin.Range.rangeSize i j k then some (rangeL i k (Builtin.Range.rangeSize i j k).toNat) else none
  | _, _ => none
def zipD (ds : List D) : Option (List D) := match ds with
  | [.lst l, .lst m] => some ((l.zip m).map fun p => .tup [p.1, p.2])
  | [.tup l, .tup m] => some ((l.zip m).map fun p => .tup [p.1, p.2])
  | _ => none
def noEx {α : Type} (x : Res α) : Res α := match x with | .ex _ _ => .bad "exception in a comprehension" | x => x
def freeAt (s : Sto) (l : List Nat) : Bool := l.all fun i => match s[i]? with | some .un => true | some (.fr _) => true | _ => false
/-- the turns of a comprehension: its own names forgotten ahead of each -/
def lcL (t : List Nat) (cs : Sto → Res Bool) (f : Sto → List D → Res (List D)) : List D → Sto → List D → Res (List D)
  | [], s, acc => .ok acc s
  | d :: l, s, acc => bnd (putTg (wipe s t) t d) fun _ s => bnd (cs s) fun b s => if b = true then bnd (f s acc) fun acc s => lcL t cs f l s acc else lcL t cs f l s acc
/-- the outer turns of a comprehension of two walks: all its names are forgotten ahead of each -/
def lcW (w t : List Nat) (cs : Sto → Res Bool) (f : Sto → List D → Res (List D)) : List D → Sto → List D → Res (List D)
  | [], s, acc => .ok acc s
  | d :: l, s, acc => bnd (putTg (wipe s w) t d) fun _ s => bnd (cs s) fun b s => if b = true then bnd (f s acc) fun acc s => lcW w t cs f l s acc else lcW w t cs f l s acc
def grow (acc : List D) (x : D) (s : Sto) : Res (List D) := if acc.length < LIM then .ok (acc ++ [x]) s else .bad "long"
/-- the class whose method is meant -/
def clsOf (T : Tab) (d : D) (f : Str) : Option Str := match d with
  | .ins c ns _ => if ns.contains f = true ∨ (fdOf T (c ++ "." ++ f)).isNone = true then none else some c
  | _ => none
/-- a field, a property -/
def attrF (x : Rv) (f : Str) (d : D) (s : Sto) : Res Rv := match d with
  | .ins c ns l => if T.fds.contains (c, f) = true then opt "field" (((ns.zip l).lookup f).map .v) s else if T.props.contains (c, f) = true then noEx (callF T C (c ++ "." ++ f) [x] s) else .bad "attribute"
  | _ => .bad "attribute"
/-- x.append(..), x.pop() -/
def mutM (m : Mt) (x : Rv) (rs : List Rv) (s : Sto) : Res Rv := match x with
  | .b i => (match fzs rs s with
    | some (ds, s) => (match peek (.b i) s with
      | some d => (match mtM m d ds with
        | some (v, d') => (match upS s i d' with | some s => .ok (.v v) s | none => .bad "slot")
        | none => .bad "method")
      | none => .bad "peek")
    | none => .bad "freeze")
  | _ => .bad "method of what is not one's own"
mutual
def evE : Ie → Sto → Res Rv
  | .var i, s => match s[i]? with
    | some (.fr d) => .ok (.v d) s
    | some (.ow _) => .ok (.b i) s
    | some (.bo _) => .ok (.b i) s
    | _ => .bad "unbound"
  | .con d, s => .ok (.v d) s
  | .bin o a b, s => bnd (evE a s) fun x s => bnd (evE b s) fun y s => bnd (opt "peek" (peek x s) s) fun x s => bnd (opt "peek" (peek y s) s) fun y s => opt "bin" (bop o x y) s
  | .neg a, s => bnd (rd (evE a s)) fun x s => match x with | .int i => .ok (.v (.int (-i))) s | _ => .bad "neg"
  | .nt a, s => bnd (rd (evE a s)) fun x s => opt "truth" ((truth x).map fun b => .v (.bl (!b))) s
  | .and a b, s => bnd (evE a s) fun x s => bnd (opt "peek" (peek x s) s) fun d s => match truth d with | some true => evE b s | some false => .ok x s | none => .bad "truth"
  | .or a b, s => bnd (evE a s) fun x s => bnd (opt "peek" (peek x s) s) fun d s => match truth d with | some true => .ok x s | some false => evE b s | none => .bad "truth"
  | .cmp o a b, s => bnd (evE a s) fun x s => bnd (evE b s) fun y s => bnd (opt "peek" (peek x s) s) fun x s => bnd (opt "peek" (peek y s) s) fun y s => cmpE o x y s
  | .chain o1 o2 a b c, s => bnd (evE a s) fun x s => bnd (evE b s) fun y s => bnd (opt "peek" (peek x s) s) fun x s => bnd (opt "peek" (peek y s) s) fun y1 s => bnd (opt "compare" (cop o1 x y1) s) fun r s =>
    if r = true then bnd (evE c s) fun z s => bnd (opt "peek" (peek y s) s) fun y s => bnd (opt "peek" (peek z s) s) fun z s => cmpE o2 y z s else .ok (.v (.bl false)) s
  | .ite c a b, s => bnd (rd (evE c s)) fun x s => match truth x with | some true => evE a s | some false => evE b s | none => .bad "truth"
  | .call f pm n m as ks, s => bnd (evA as s) fun rs s => if rs.length = n then bnd (evA ks s) fun zs s => bnd (opt "args" (pick pm n m rs zs) s) fun rs s => callF T C f rs s else .bad "args"
  | .mk c pm n m as ks, s => bnd (evA as s) fun rs s => if rs.length = n then bnd (evA ks s) fun zs s => bnd (opt "args" (pick pm n m rs zs) s) fun rs s => mkI T C c rs s else .bad "args"
  | .strc a, s => bnd (evE a s) fun x s => bnd (opt "peek" (peek x s) s) fun d s => match d with
    | .ins c _ _ => bnd (noEx (callF T C (c ++ ".__str__") [x] s)) fun r s => (match r with | .v (.str _) => .ok r s | _ => .bad "str")
    | d => opt "str" (strD d) s
  | .reprc a, s => bnd (evE a s) fun x s => bnd (opt "peek" (peek x s) s) fun d s => opt "repr" ((reprD d).map fun s => .v (.str s)) s
  | .meth f o pm n m as ks, s => bnd (evE o s) fun x s => bnd (opt "peek" (peek x s) s) fun d s => bnd (opt "method" (clsOf T d f) s) fun c s =>
    bnd (evA as s) fun rs s => if rs.length = n then bnd (evA ks s) fun zs s => bnd (opt "args" (pick pm n m rs zs) s) fun rs s => callF T C (c ++ "." ++ f) (x :: rs) s else .bad "args"
  | .attr o f, s => bnd (evE o s) fun x s => bnd (opt "peek" (peek x s) s) fun d s => attrF T C x f d s
  | .bi b as, s => bnd (evA as s) fun rs s => bnd (opt "peek" (rds rs s) s) fun ds s => opt ("builtin " ++ toString (Repr.reprPrec b 0)) (bi b ds) s
  | .mt m o as, s => bnd (evE o s) fun x s => bnd (opt "peek" (peek x s) s) fun d s => if mtOk m d = true then bnd (evA as s) fun rs s => (match isMut m with
    | true => mutM m x rs s
    | false => bnd (opt "peek" (peek x s) s) fun d s => bnd (opt "peek" (rds rs s) s) fun ds s => opt "method" (mt m d ds) s) else .bad "method: its type"
  | .ix a i, s => bnd (evE a s) fun x s => bnd (evE i s) fun y s => bnd (opt "peek" (peek x s) s) fun d s => bnd (opt "peek" (peek y s) s) fun k s => opt "index" (ixD d k) s
  | .sl a lo hi, s => bnd (evE a s) fun x s => bnd (rd (evE lo s)) fun l s => bnd (opt "slice" (part l) s) fun l s => bnd (rd (evE hi s)) fun h s => bnd (opt "slice" (part h) s) fun h s => bnd (opt "peek" (peek x s) s) fun d s => opt "slice" (slD d l h) s
  | .slr a, s => bnd (rd (evE a s)) fun d s => opt "slice" (slrD d) s
  | .slk a lo k, s => bnd (evE a s) fun x s => bnd (evE lo s) fun y s => bnd (opt "peek" (peek x s) s) fun d s => bnd (opt "peek" (peek y s) s) fun l s => match l with | .int (.ofNat lo) => opt "slice" (slkD d lo k) s | _ => .bad "slice"
  | .lst as, s => bnd (evA as s) fun rs s => match fzs rs s with | some (l, s) => if l.length ≤ LIM then .ok (.n (.lst l)) s else .bad "long" | none => .bad "freeze"
  | .tup as, s => bnd (evA as s) fun rs s => match fzs rs s with | some (l, s) => if l.length ≤ LIM then .ok (.v (.tup l)) s else .bad "long" | none => .bad "freeze"
  | .dct ks vs, s => bnd (evA ks s) fun ks s => bnd (evA vs s) fun vs s => bnd (opt "peek" (rds ks s) s) fun ks s => match fzs vs s with
    | some (l, s) => opt "keys" ((ks.mapM keyOf).map fun ks => let r := (ks.zip l).foldl (fun (a : List (Sum Int Str) × List D) p => kput a.1 a.2 p.1 p.2) ([], []); .n (.dct r.1 r.2)) s
    | none => .bad "freeze"
  | .lc (.one t it cs e) _, s => bnd (evI it s) fun l s => if freeAt s t = true then bnd (lcL t (fun s => noEx (evCs cs s)) (fun s acc => noEx (bnd (fz (evE e s)) fun x s => grow acc x s)) l s []) fun acc s' => .ok (.n (.lst acc)) (back s' s t) else .bad "own"
  | .lc (.two t it cs (.one t1 it1 cs1 e)) own, s => bnd (evI it s) fun l s => if freeAt s own = true then bnd (lcW own t (fun s => noEx (evCs cs s)) (fun s acc => bnd (noEx (evI it1 s)) fun l1 s => bnd (lcL t1 (fun s => noEx (evCs cs1 s)) (fun s acc => noEx (bnd (fz (evE e s)) fun x s => grow acc x s)) l1 s acc) fun acc s => .ok acc (wipe s t1)) l s []) fun acc s' => .ok (.n (.lst acc)) (back s' s own) else .bad "own"
  | .lc g own, s => bnd (evG g (wipe s own) []) fun l s' => .ok (.n (.lst l)) (back s' s own)
  | .fstr as, s => bnd (evA as s) fun rs s => bnd (opt "peek" (rds rs s) s) fun ds s => match strs? ds with
    | some l => .ok (.v (.str (l.foldl (· ++ ·) ""))) s
    | none => .bad "fstr"
def evA : Ia → Sto → Res (List Rv)
  | .nil, s => .ok [] s
  | .cons e r, s => bnd (evE e s) fun x s => bnd (evA r s) fun xs s => .ok (x :: xs) s
  | .star e r, s => bnd (rd (evE e s)) fun x s => bnd (opt "star" (items? x) s) fun l s => bnd (evA r s) fun xs s => .ok (l.map .v ++ xs) s
def evI : Ii → Sto → Res (List D)
  | .e a, s => bnd (fz (evE a s)) fun d s => match d with
    | .tup l => .ok l s
    | .lst l => .ok l s
    | .scr l => .ok l s
    | .str z => .ok (z.cps.toList.map fun c => .str ⟨#[c]⟩) s
    | _ => .bad "iter"
  | .rg k as, s => bnd (evA as s) fun rs s => bnd (opt "peek" (rds rs s) s) fun ds s => opt "range" (rangeD k ds) s
  | .en as, s => bnd (evA as s) fun rs s => match fzs rs s with
    | some ([d], s) => opt "enumerate" ((items? d).map enumL) s
    | _ => .bad "enumerate"
  | .zp as, s => bnd (evA as s) fun rs s => match fzs rs s with
    | some (ds, s) => opt "zip" (zipD ds) s
    | _ => .bad "zip"
def evCs : Ia → Sto → Res Bool
  | .nil, s => .ok true s
  | .cons e r, s => bnd (rd (evE e s)) fun d s => match truth d with | some true => evCs r s | some false => .ok false s | none => .bad "truth"
  | .star _ _, _ => .bad "if"
def evG : Ig → Sto → List D → Res (List D)
  | .one t it cs e, s, acc => bnd (evI it s) fun l s =>
    lcL t (fun s => evCs cs s) (fun s acc => bnd (fz (evE e s)) fun x s => grow acc x s) l s acc
  | .two t it cs g, s, acc => bnd (evI it s) fun l s => lcL t (fun s => evCs cs s) (fun s acc => evG g s acc) l s acc
end

/-- an item is stored -/
def putIx (i : Nat) (k v : D) (s : Sto) : Option Sto := ((s[i]?).bind Sl.con).bind fun o => (setixD o k v).bind fun o' => upS s i o'
def putB (i : Nat) (k : D) (r : Rv) (s : Sto) : Res Unit := match frz r s with
  | some (v, s) => (match putIx i k v s with
    | some s => .ok () s
    | none => .bad "store")
  | none => .bad "freeze"
/-- r goes into a target; what else waits is frozen -/
def putT (t : T1) (r : Rv) (s : Sto) : Res Unit := match t with
  | .nm i => putR s i r
  | .ix i e => if isSet s[i]? = true then bnd (evE T C e s) fun k s => bnd (opt "peek" (peek k s) s) fun k s => putB i k r s else .bad "unbound"
def putTs : List T1 → List D → Sto → Res Unit
  | [], [], s => .ok () s
  | t :: ts, d :: ds, s => bnd (putT T C t (.v d) s) fun _ s => putTs ts ds s
  | _, _, _ => .bad "unpack"
/-- names alone: the values wait; new objects stay one's own -/
def settle : List Rv → Sto → Option (List Rv × Sto)
  | [], s => some ([], s)
  | r :: rs, s => match r with
    | .b j => (match frz (.b j) s with
      | some (d, s) => (settle rs s).map fun (l, s) => (.v d :: l, s)
      | none => none)
    | r => (settle rs s).map fun (l, s) => (r :: l, s)
def intS (o : Option D) : Option Int := match o with | some (.int i) => some i | _ => none
def itemS (o : Option D) (k : Int) : Option D := match o with | some (.lst l) => atIx l k | _ => none
/-- a field is stored -/
def putN (ns : List Str) (f : Str) : List Str := match ns with | [] => [f] | q :: r => if q = f then q :: r else q :: putN r f
def putD (ns : List Str) (l : List D) (f : Str) (v : D) : List D := match ns, l with | q :: r, d :: l => if q = f then v :: l else d :: putD r l f v | _, _ => [v]
def putFl (T : Tab) (i : Nat) (f : Str) (v : D) (s : Sto) : Option Sto := match (s[i]?).bind Sl.con with
  | some (.ins c ns l) => if T.fds.contains (c, f) && decide (ns.length < 900) then upS s i (.ins c (putN ns f) (putD ns l f v)) else none
  | _ => none
def isA (e : D) (cs : List Str) : Bool := match e with | .ins c _ _ => cs.contains c | _ => false
/-- behind a turn of a loop -/
def next (f : Fl) (s : Sto) (k : Res Fl) : Res Fl := match f with | .nx => k | .bk => .ok .nx s | f => .ok f s
def whileN (test : Sto → Res D) (body : Sto → Res Fl) : Nat → Sto → Res Fl
  | 0, _ => .bad "fuel"
  | n + 1, s => bnd (test s) fun d s => match truth d with
    | some true => bnd (body s) fun f s => next f s (whileN test body n s)
    | some false => .ok .nx s
    | none => .bad "truth"
def forL (t : List Nat) (body : Sto → Res Fl) : List D → Sto → Res Fl
  | [], s => .ok .nx s
  | d :: l, s => bnd (putTg s t d) fun _ s => bnd (body s) fun f s => next f s (forL t body l s)
mutual
def evS : Is → Sto → Res Fl
  | .set t e, s => bnd (evE T C e s) fun r s => bnd (putT T C t r s) fun _ s => .ok .nx s
  | .unp ts e, s => bnd (fz (evE T C e s)) fun d s => match d with
    | .tup l => if l.length = ts.length then bnd (putTs T C ts l s) fun _ s => .ok .nx s else .bad "unpack"
    | .lst l => if l.length = ts.length then bnd (putTs T C ts l s) fun _ s => .ok .nx s else .bad "unpack"
    | _ => .bad "unpack"
  | .par ts as, s => bnd (evA T C as s) fun rs s => match fzs rs s with
    | some (l, s) => if l.length = ts.length ∧ l.length ≤ LIM then bnd (putTs T C ts l s) fun _ s => .ok .nx s else .bad "unpack"
    | none => .bad "freeze"
  | .parN is as, s => bnd (evA T C as s) fun rs s => match settle rs s with
    | some (rs, s) => if rs.length = is.length ∧ rs.length ≤ LIM then bnd (putNs is rs s) fun _ s => .ok .nx s else .bad "unpack"
    | none => .bad "freeze"
  | .fld i f e, s => bnd (fz (evE T C e s)) fun v s => match putFl T i f v s with
    | some s => .ok .nx s
    | none => .bad "field of what is not one's own"
  | .aug (.nm i) e, s => bnd (opt "aug" (intS ((s[i]?).bind Sl.con)) s) fun x s => bnd (rd (evE T C e s)) fun y s => bnd (opt "aug" (intS (some y)) s) fun y s => bnd (putR s i (.v (.int (x + y)))) fun _ s => .ok .nx s
  | .aug (.ix i k) e, s => if isSet s[i]? = true then bnd (evE T C k s) fun k s => bnd (opt "aug" (intS (peek k s)) s) fun k s => bnd (opt "aug" (intS (itemS ((s[i]?).bind Sl.con) k)) s) fun x s =>
      bnd (rd (evE T C e s)) fun y s => bnd (opt "aug" (intS (some y)) s) fun y s => bnd (opt "store" (putIx i (.int k) (.int (x + y)) s) s) fun s' _ => .ok .nx s' else .bad "unbound"
  | .ex e, s => bnd (evE T C e s) fun _ s => .ok .nx s
  | .iff c t e, s => bnd (rd (evE T C c s)) fun d s => match truth d with | some true => evB t s | some false => evB e s | none => .bad "truth"
  | .for_ t it b, s => bnd (evI T C it s) fun l s => forL t (fun s => evB b s) l s
  | .whl c b, s => whileN (fun s => rd (evE T C c s)) (fun s => evB b s) W s
  | .ret e, s => bnd (evE T C e s) fun r s => .ok (.rt r) s
  | .brk, s => .ok .bk s
  | .pass, s => .ok .nx s
  | .raise c as, s => bnd (evA T C as s) fun rs s => .bad ("raise " ++ c.toString)
  | .tr b hs, s => noEx (evB b s)
def evB : Ib → Sto → Res Fl
  | .nil, s => .ok .nx s
  | .cons x b, s => bnd (evS x s) fun f s => match f with | .nx => evB b s | f => .ok f s
end
end

/-- a def's run -/
def fin (np : Nat) (x : Res Fl) : CRes := match x with
  | .bad w => .bad w
  | .ex e s => .ex e (s.take np)
  | .ok .nx s => .ok (.v .non) (s.take np)
  | .ok (.rt (.v d)) s => .ok (.v d) (s.take np)
  | .ok (.rt (.n d)) s => .ok (.n d) (s.take np)
  | .ok (.rt (.b i)) s => (match s[i]? with
    | some (.ow d) => .ok (.n d) (s.take np)
    | some (.fr d) => .ok (.v d) (s.take np)
    | _ => .bad "return of what was lent")
  | .ok .bk _ => .bad "break"
def evF (T : Tab) (W : Nat) : Nat → Str → List Sl → CRes
  | 0, _, _ => .bad "depth"
  | n + 1, f, sl => match fdOf T f with
    | none => .bad "no function"
    | some fd => if sl.length = fd.ps.length then fin fd.ps.length (evB T (evF T W n) W fd.body (sl ++ List.replicate (fd.n - fd.ps.length) .un)) else .bad "arity"
end Wd
-- WdCp
set_option linter.all false
/-! The small language out of the model's syntax. -/
namespace Wd
open PySem
def idx (N : List Str) (x : Str) : Option Nat := let i := N.findIdx (· == x); if i < N.length then some i else none
def copOf : CmpOp → Option Cop
  | .Eq => some .eq | .NotEq => some .ne | .Lt => some .lt | .LtE => some .le | .Gt => some .gt | .GtE => some .ge
  | .Is => some .isn | .IsNot => some .notn | .In => some .inn | .NotIn => some .nin
def bopOf : Operator → Option Bop
  | .Add => some .add | .Sub => some .sub | .Mult => some .mul | .FloorDiv => some .fdiv | .Mod => some .mod | .Pow => some .pow | _ => none
def biOf (x : Str) : Option Bi :=
  if x = "abs" then some .abs else if x = "all" then some .all else if x = "any" then some .any else if x = "bool" then some .bool else if x = "divmod" then some .divmod else
  if x = "int" then some .int else if x = "isinstance" then some .isinst else if x = "len" then some .len else if x = "list" then some .list else if x = "max" then some .max else
  if x = "min" then some .min else if x = "sorted" then some .sorted else if x = "sum" then some .sum else if x = "tuple" then some .tuple else none
def mtOf (x : Str) : Option Mt :=
  if x = "append" then some .append else if x = "count" then some .count else if x = "get" then some .get else if x = "index" then some .index else if x = "join" then some .join else if x = "pop" then some .pop else if x = "split" then some .split else none
def typs : List (Str × String) := [("int", "int"), ("bool", "bool"), ("str", "str"), ("tuple", "tuple"), ("list", "list"), ("dict", "dict")]
def constOf : Const → Option D | .none => some .non | .bool b => some (.bl b) | .int i => some (.int i) | .str s => some (.str s) | _ => none

end Wd
-- WdSd1
set_option linter.all false
set_option maxRecDepth 100000
set_option maxHeartbeats 2000000
set_option Elab.async false
/-! What data are in the heap; how slots hold them. -/
namespace Wd
open PySem L2

/-- the fixed things: the written part, where classes stand, which classes are known -/
structure Wo where
  K : PySem.W.Frag
  cA : Str → Addr
  kn : Str → Prop
  /-- where what was lent stands -/
  B : Nat → Option Addr

mutual
/-- v is d, in the part of the heap that never changes -/
def Isd (Z : Wo) (Hf : Hp) : D → V → Prop
  | .non, v => v = .non
  | .bl b, v => v = .bl b
  | .int i, v => v = .int i
  | .str s, v => v = .str s
  | .tup l, v => ∃ a vs, v = .ref a ∧ SqT Z.K Hf a vs ∧ Isl Z Hf l vs
  | .lst l, v => ∃ a vs, v = .ref a ∧ Hf a = some (.lst vs) ∧ Isl Z Hf l vs
  | .scr l, v => ∃ a vs, v = .ref a ∧ SqL Z.K Hf a vs ∧ Isl Z Hf l vs
  | .dct ks l, v => ∃ a vs, v = .ref a ∧ ks.length = vs.length ∧ Hf a = some (.dK (ks.zip vs)) ∧ Isl Z Hf l vs
  | .ins c ns l, v => ∃ a dx vs, v = .ref a ∧ ns.length = vs.length ∧ Hf a = some (.ins (Z.cA c) dx (ns.zip vs)) ∧ Isl Z Hf l vs ∧ Z.kn c
  | .ty n, v => v = .ty n
  | .cls c, v => v = .ref (Z.cA c) ∧ Z.kn c
def Isl (Z : Wo) (Hf : Hp) : List D → List V → Prop
  | [], vs => vs = []
  | d :: l, vs => ∃ v r, vs = v :: r ∧ Isd Z Hf d v ∧ Isl Z Hf l r
end
/-- an object that may change: its item data -/
def Iso (Z : Wo) (Hf : Hp) (o : HO) : D → Prop
  | .lst l => ∃ vs, o = .lst vs ∧ Isl Z Hf l vs
  | .dct ks l => ∃ vs, ks.length = vs.length ∧ o = .dK (ks.zip vs) ∧ Isl Z Hf l vs
  | .ins c ns l => ∃ dx vs, ns.length = vs.length ∧ o = .ins (Z.cA c) dx (ns.zip vs) ∧ Isl Z Hf l vs ∧ Z.kn c
  | _ => False

theorem sqt_mono {K : PySem.W.Frag} {H H' : Hp} {a : Addr} {xs : List V} (e : Same H H') (h : SqT K H a xs) : SqT K H' a xs := by
  rcases h with (h | ⟨o, h⟩) | h
  · exact .inl (.inl (e _ _ h))
  · exact .inl (.inr ⟨o, e _ _ h⟩)
  · exact .inr h
theorem same_upd {H : Hp} {p : Addr} {o : HO} (h : H p = none) : Same H (upd H p o) := fun a u e => by
  rw [upd_ne (ne_of_none e h)]
  exact e
section
variable {Z : Wo} {Hf Hf' H H' F F' : Hp}
mutual
theorem Isd.mono (e : Same Hf Hf') : ∀ {d : D} {v : V}, Isd Z Hf d v → Isd Z Hf' d v
  | .non, _, h => h
  | .bl _, _, h => h
  | .int _, _, h => h
  | .str _, _, h => h
  | .ty _, _, h => h
  | .cls _, _, h => h
  | .tup l, v, h => by
    unfold Isd at h ⊢
    obtain ⟨a, vs, h1, h2, h3⟩ := h
    exact ⟨a, vs, h1, sqt_mono e h2, Isl.mono e h3⟩
  | .lst l, v, h => by
    unfold Isd at h ⊢
    obtain ⟨a, vs, h1, h2, h3⟩ := h
    exact ⟨a, vs, h1, e _ _ h2, Isl.mono e h3⟩
  | .scr l, v, h => by
    unfold Isd at h ⊢
    obtain ⟨a, vs, h1, h2, h3⟩ := h
    exact ⟨a, vs, h1, e.seq h2, Isl.mono e h3⟩
  | .dct ks l, v, h => by
    unfold Isd at h ⊢
    obtain ⟨a, vs, h1, h2, h3, h4⟩ := h
    exact ⟨a, vs, h1, h2, e _ _ h3, Isl.mono e h4⟩
  | .ins c ns l, v, h => by
    unfold Isd at h ⊢
    obtain ⟨a, dx, vs, h1, h2, h3, h4, h5⟩ := h
    exact ⟨a, dx, vs, h1, h2, e _ _ h3, Isl.mono e h4, h5⟩
theorem Isl.mono (e : Same Hf Hf') : ∀ {l : List D} {vs : List V}, Isl Z Hf l vs → Isl Z Hf' l vs
  | [], _, h => h
  | d :: l, vs, h => by
    unfold Isl at h ⊢
    obtain ⟨v, r, h1, h2, h3⟩ := h
    exact ⟨v, r, h1, Isd.mono e h2, Isl.mono e h3⟩
end
theorem Iso.mono (e : Same Hf Hf') {o : HO} : ∀ {d : D}, Iso Z Hf o d → Iso Z Hf' o d
  | .lst l, ⟨vs, h1, h2⟩ => ⟨vs, h1, h2.mono e⟩
  | .dct ks l, ⟨vs, h0, h1, h2⟩ => ⟨vs, h0, h1, h2.mono e⟩
  | .ins c ns l, ⟨dx, vs, h0, h1, h2, h3⟩ => ⟨dx, vs, h0, h1, h2.mono e, h3⟩
  | .non, h => h | .bl _, h => h | .int _, h => h | .str _, h => h | .tup _, h => h | .scr _, h => h | .ty _, h => h | .cls _, h => h
theorem Iso.fix {o : HO} {p : Addr} (hp : Hf p = some o) : ∀ {d : D}, Iso Z Hf o d → Isd Z Hf d (.ref p)
  | .lst l, ⟨vs, h1, h2⟩ => by
    unfold Isd
    exact ⟨p, vs, rfl, by rw [hp, h1], h2⟩
  | .dct ks l, ⟨vs, h0, h1, h2⟩ => by
    unfold Isd
    exact ⟨p, vs, rfl, h0, by rw [hp, h1], h2⟩
  | .ins c ns l, ⟨dx, vs, h0, h1, h2, h3⟩ => by
    unfold Isd
    exact ⟨p, dx, vs, rfl, h0, by rw [hp, h1], h2, h3⟩
  | .non, h => h.elim | .bl _, h => h.elim | .int _, h => h.elim | .str _, h => h.elim | .tup _, h => h.elim | .scr _, h => h.elim | .ty _, h => h.elim | .cls _, h => h.elim
theorem isl_nil {vs : List V} : Isl Z Hf [] vs ↔ vs = [] := by unfold Isl; exact Iff.rfl
theorem isl_cons {d : D} {l : List D} {vs : List V} : Isl Z Hf (d :: l) vs ↔ ∃ v r, vs = v :: r ∧ Isd Z Hf d v ∧ Isl Z Hf l r := by conv => lhs; unfold Isl
theorem Isl.length : ∀ {l : List D} {vs : List V}, Isl Z Hf l vs → l.length = vs.length
  | [], vs, h => by rw [isl_nil.mp h]; rfl
  | d :: l, vs, h => by
    obtain ⟨v, r, rfl, _, h3⟩ := isl_cons.mp h
    simp [Isl.length h3]
theorem Isl.get : ∀ {l : List D} {vs : List V} {i : Nat} {d : D}, Isl Z Hf l vs → l[i]? = some d → ∃ v, vs[i]? = some v ∧ Isd Z Hf d v
  | [], _, _, _, _, e => by simp at e
  | _ :: _, vs, 0, d, h, e => by
    obtain ⟨v, r, rfl, h2, h3⟩ := isl_cons.mp h
    simp at e; subst e
    exact ⟨v, rfl, h2⟩
  | _ :: l, vs, i + 1, d, h, e => by
    obtain ⟨v, r, rfl, h2, h3⟩ := isl_cons.mp h
    obtain ⟨w, hw, q⟩ := Isl.get (i := i) h3 (by simpa using e)
    exact ⟨w, by simpa using hw, q⟩
theorem Isl.getV : ∀ {l : List D} {vs : List V} {i : Nat} {v : V}, Isl Z Hf l vs → vs[i]? = some v → ∃ d, l[i]? = some d ∧ Isd Z Hf d v
  | [], _, _, _, h, e => by rw [isl_nil.mp h] at e; simp at e
  | d :: _, vs, 0, w, h, e => by
    obtain ⟨v, r, rfl, h2, h3⟩ := isl_cons.mp h
    simp at e; subst e
    exact ⟨d, rfl, h2⟩
  | _ :: l, vs, i + 1, w, h, e => by
    obtain ⟨v, r, rfl, h2, h3⟩ := isl_cons.mp h
    obtain ⟨d, hd, q⟩ := Isl.getV (i := i) h3 (by simpa using e)
    exact ⟨d, by simpa using hd, q⟩
theorem Isl.append : ∀ {l m : List D} {vs ws : List V}, Isl Z Hf l vs → Isl Z Hf m ws → Isl Z Hf (l ++ m) (vs ++ ws)
  | [], m, vs, ws, h, k => by rw [isl_nil.mp h]; exact k
  | d :: l, m, vs, ws, h, k => by
    obtain ⟨v, r, rfl, h2, h3⟩ := isl_cons.mp h
    exact isl_cons.mpr ⟨v, r ++ ws, rfl, h2, Isl.append h3 k⟩
theorem Isl.one {d : D} {v : V} (h : Isd Z Hf d v) : Isl Z Hf [d] [v] := isl_cons.mpr ⟨v, [], rfl, h, isl_nil.mpr rfl⟩
theorem Isl.drop : ∀ {l : List D} {vs : List V} (n : Nat), Isl Z Hf l vs → Isl Z Hf (l.drop n) (vs.drop n)
  | _, _, 0, h => by simpa using h
  | [], vs, n + 1, h => by rw [isl_nil.mp h]; simpa using isl_nil.mpr rfl
  | d :: l, vs, n + 1, h => by
    obtain ⟨v, r, rfl, h2, h3⟩ := isl_cons.mp h
    simpa using Isl.drop n h3
theorem Isl.take : ∀ {l : List D} {vs : List V} (n : Nat), Isl Z Hf l vs → Isl Z Hf (l.take n) (vs.take n)
  | _, _, 0, h => by simpa using isl_nil.mpr rfl
  | [], vs, n + 1, h => by rw [isl_nil.mp h]; simpa using isl_nil.mpr rfl
  | d :: l, vs, n + 1, h => by
    obtain ⟨v, r, rfl, h2, h3⟩ := isl_cons.mp h
    simp only [List.take_succ_cons]
    exact isl_cons.mpr ⟨v, _, rfl, h2, Isl.take n h3⟩
theorem Isl.set : ∀ {l : List D} {vs : List V} {d : D} {v : V} (n : Nat), Isl Z Hf l vs → Isd Z Hf d v → Isl Z Hf (l.set n d) (vs.set n v)
  | [], vs, _, _, n, h, _ => by rw [isl_nil.mp h]; simpa using isl_nil.mpr rfl
  | a :: l, vs, d, v, 0, h, q => by
    obtain ⟨w, r, rfl, h2, h3⟩ := isl_cons.mp h
    exact isl_cons.mpr ⟨v, r, rfl, q, h3⟩
  | a :: l, vs, d, v, n + 1, h, q => by
    obtain ⟨w, r, rfl, h2, h3⟩ := isl_cons.mp h
    exact isl_cons.mpr ⟨w, _, rfl, h2, Isl.set n h3 q⟩
theorem Isl.reverse : ∀ {l : List D} {vs : List V}, Isl Z Hf l vs → Isl Z Hf l.reverse vs.reverse
  | [], vs, h => by rw [isl_nil.mp h]; simpa using isl_nil.mpr rfl
  | a :: l, vs, h => by
    obtain ⟨w, r, rfl, h2, h3⟩ := isl_cons.mp h
    rw [List.reverse_cons, List.reverse_cons]
    exact (Isl.reverse h3).append (.one h2)
theorem Isl.dropLast : ∀ {l : List D} {vs : List V}, Isl Z Hf l vs → Isl Z Hf l.dropLast vs.dropLast := fun {l vs} h => by
  rw [List.dropLast_eq_take, List.dropLast_eq_take, ← h.length]
  exact h.take _
theorem Isl.ints : ∀ {l : List Int} {vs : List V}, Isl Z Hf (l.map .int) vs → vs = l.map V.int
  | [], vs, h => by simpa [isl_nil] using h
  | a :: l, vs, h => by
    obtain ⟨w, r, rfl, h2, h3⟩ := isl_cons.mp (by simpa using h)
    unfold Isd at h2
    rw [h2, Isl.ints h3]; rfl
theorem isl_ints (l : List Int) : Isl Z Hf (l.map .int) (l.map V.int) := by
  induction l with
  | nil => exact isl_nil.mpr rfl
  | cons a l ih => exact isl_cons.mpr ⟨_, _, rfl, (by unfold Isd; rfl), ih⟩
end

/-! ### slots -/
def own? : Option Sl → Option D | some (.ow d) => some d | some (.bo d) => some d | _ => none
structure Rel (Z : Wo) (Hf H F : Hp) (s : Sto) (σ : L2.St) : Prop where
  sub : Same Hf H
  fr : ∀ p o, F p = some o → H p = some o ∧ Hf p = none
  len : s.length = σ.length
  fz : ∀ (i : Nat) d, s[i]? = some (.fr d) → ∃ v, σ[i]? = some (some v) ∧ Isd Z Hf d v
  ow : ∀ (i : Nat) d, own? s[i]? = some d → ∃ p o, σ[i]? = some (some (.ref p)) ∧ Hf p = none ∧ F p = none ∧ H p = some o ∧ Iso Z Hf o d
  ap : ∀ (i j : Nat) d e, i ≠ j → own? s[i]? = some d → own? s[j]? = some e → σ[i]? ≠ σ[j]?
  bo : ∀ (i : Nat) d, s[i]? = some (.bo d) → ∃ p, Z.B i = some p ∧ σ[i]? = some (some (.ref p))
/-- v is d, now: frozen, or an object that may change -/
def Rep (Z : Wo) (Hf H : Hp) (d : D) (v : V) : Prop := Isd Z Hf d v ∨ ∃ p o, v = .ref p ∧ H p = some o ∧ Iso Z Hf o d
/-- a result -/
def RR (Z : Wo) (Hf H F : Hp) (s : Sto) (σ : L2.St) (r : Rv) (v : V) : Prop := match r with
  | .v d => Isd Z Hf d v
  | .n d => ∃ p o, v = .ref p ∧ Hf p = none ∧ F p = none ∧ H p = some o ∧ Iso Z Hf o d ∧ ∀ (i : Nat) e, own? s[i]? = some e → σ[i]? ≠ some (some (.ref p))
  | .b i => σ[i]? = some (some v)
/-- a new object that waits is part of the frame -/
def addT (F H : Hp) (r : Rv) (v : V) : Hp := match r, v with
  | .n _, .ref p => fun q => if q = p then H p else F q
  | _, _ => F
def RRs (Z : Wo) (Hf H : Hp) (s : Sto) (σ : L2.St) : Hp → List Rv → List V → Prop
  | _, [], vs => vs = []
  | F, r :: rs, vs => ∃ v w, vs = v :: w ∧ RR Z Hf H F s σ r v ∧ RRs Z Hf H s σ (addT F H r v) rs w
section
variable {Z : Wo} {Hf Hf' H H' F F' : Hp} {s s' : Sto} {σ : L2.St} {r : Rv} {v : V} {d : D}
theorem Rel.weak (R : Rel Z Hf H F s σ) (h : ∀ p o, F' p = some o → F p = some o) : Rel Z Hf H F' s σ :=
  ⟨R.sub, fun p o e => R.fr p o (h p o e), R.len, R.fz, (fun i d e => by
    obtain ⟨p, o, h1, h2, h3, h4, h5⟩ := R.ow i d e
    refine ⟨p, o, h1, h2, ?_, h4, h5⟩
    cases q : F' p with
    | none => rfl
    | some u =>
      rw [h p u q] at h3
      cases h3), R.ap, R.bo⟩
theorem addT_sub (hr : RR Z Hf H F s σ r v) : ∀ p o, F p = some o → addT F H r v p = some o := fun p o e => by
  unfold addT
  cases r with
  | n d =>
    obtain ⟨q, u, rfl, h2, h3, h4, _⟩ := hr
    show (if p = q then H q else F p) = some o
    have : p ≠ q := by rintro rfl; rw [h3] at e; cases e
    rw [if_neg this]; exact e
  | v _ => exact e
  | b _ => exact e
theorem Rel.add (R : Rel Z Hf H F s σ) (hr : RR Z Hf H F s σ r v) : Rel Z Hf H (addT F H r v) s σ := by
  cases r with
  | v _ => exact R
  | b _ => exact R
  | n d =>
    obtain ⟨q, u, rfl, h2, h3, h4, h5, h6⟩ := hr
    refine ⟨R.sub, fun p o e => ?_, R.len, R.fz, fun i e he => ?_, R.ap, R.bo⟩
    · have e' : (if p = q then H q else F p) = some o := e
      by_cases hp : p = q
      · rw [if_pos hp] at e'; rw [hp]; exact ⟨e', h2⟩
      · rw [if_neg hp] at e'; exact R.fr p o e'
    · obtain ⟨p, o, k1, k2, k3, k4, k5⟩ := R.ow i e he
      refine ⟨p, o, k1, k2, ?_, k4, k5⟩
      show (if p = q then H q else F p) = none
      rw [if_neg]
      · exact k3
      · rintro rfl
        exact h6 i e he k1
/-- a result that waited behind more work -/
theorem RR.later (hr : RR Z Hf H F s σ r v) (e : Same Hf Hf') (R : Rel Z Hf' H' (addT F H r v) s' σ) : RR Z Hf' H' F s' σ r v := by
  cases r with
  | v _ => exact Isd.mono e hr
  | b _ => exact hr
  | n d =>
    obtain ⟨q, u, rfl, h2, h3, h4, h5, h6⟩ := hr
    have hq : addT F H (.n d) (.ref q) q = some u := by
      show (if q = q then H q else F q) = some u
      rw [if_pos rfl]; exact h4
    obtain ⟨k1, k2⟩ := R.fr q u hq
    refine ⟨q, u, rfl, k2, h3, k1, h5.mono e, fun i e2 he => ?_⟩
    obtain ⟨p, o, g1, g2, g3, g4, g5⟩ := R.ow i e2 he
    rw [g1]
    intro z
    have : p = q := by simpa using z
    rw [this, hq] at g3; cases g3
theorem own_fr {o : Option Sl} {d : D} (h : own? o = some d) : o = some (.ow d) ∨ o = some (.bo d) := by
  cases o with
  | none => cases h
  | some x => cases x with
    | ow e => cases h; exact .inl rfl
    | bo e => cases h; exact .inr rfl
    | un => cases h
    | fr e => cases h
theorem rep_of (R : Rel Z Hf H F s σ) (hr : RR Z Hf H F s σ r v) (hp : peek r s = some d) : Rep Z Hf H d v := by
  cases r with
  | v e =>
    have : e = d := Option.some.inj hp
    subst this
    exact .inl hr
  | n e =>
    have : e = d := Option.some.inj hp
    subst this
    obtain ⟨p, o, h1, h2, h3, h4, h5, h6⟩ := hr
    exact .inr ⟨p, o, h1, h4, h5⟩
  | b i =>
    have hs : (s[i]?).bind Sl.con = some d := hp
    have hr' : σ[i]? = some (some v) := hr
    cases e : s[i]? with
    | none => rw [e] at hs; cases hs
    | some x =>
      rw [e] at hs
      cases x with
      | un => cases hs
      | fr e2 =>
        have : e2 = d := Option.some.inj hs
        subst this
        obtain ⟨w, h1, h2⟩ := R.fz i e2 e
        rw [hr'] at h1
        have : v = w := by simpa using h1
        subst this
        exact .inl h2
      | ow e2 =>
        have : e2 = d := Option.some.inj hs
        subst this
        obtain ⟨p, o, h1, h2, h3, h4, h5⟩ := R.ow i e2 (by rw [e]; rfl)
        rw [hr'] at h1
        have : v = .ref p := by simpa using h1
        subst this
        exact .inr ⟨p, o, rfl, h4, h5⟩
      | bo e2 =>
        have : e2 = d := Option.some.inj hs
        subst this
        obtain ⟨p, o, h1, h2, h3, h4, h5⟩ := R.ow i e2 (by rw [e]; rfl)
        rw [hr'] at h1
        have : v = .ref p := by simpa using h1
        subst this
        exact .inr ⟨p, o, rfl, h4, h5⟩
/-- a slot that held an object of its own is frozen -/
theorem Rel.freeze (R : Rel Z Hf H F s σ) {i : Nat} (h : s[i]? = some (.ow d)) (hv : σ[i]? = some (some v)) :
    ∃ Hf', Same Hf Hf' ∧ Rel Z Hf' H F (s.set i (.fr d)) σ ∧ Isd Z Hf' d v ∧ ∀ q, Hf' q ≠ Hf q → v = .ref q := by
  obtain ⟨p, o, h1, h2, h3, h4, h5⟩ := R.ow i d (by rw [h]; rfl)
  rw [hv] at h1
  have e1 : v = .ref p := by simpa using h1
  subst e1
  have sm : Same Hf (upd Hf p o) := same_upd h2
  have hi : i < s.length := (List.getElem?_eq_some_iff.mp h).1
  refine ⟨upd Hf p o, sm, ⟨fun a u e => ?_, fun q u e => ?_, by simpa using R.len, fun j e he => ?_, fun j e he => ?_, fun j k e g hjk he hg => ?_, fun j e he => ?_⟩, (h5.mono sm).fix upd_same, fun q hq => ?_⟩
  · by_cases ha : a = p
    · subst ha; rw [upd_same] at e; cases e; exact h4
    · rw [upd_ne ha] at e; exact R.sub a u e
  · obtain ⟨k1, k2⟩ := R.fr q u e
    refine ⟨k1, ?_⟩
    have : q ≠ p := by rintro rfl; rw [h3] at e; cases e
    rw [upd_ne this]; exact k2
  · by_cases hj : j = i
    · subst hj
      rw [List.getElem?_set_self hi] at he
      have : d = e := by simpa using he
      subst this
      exact ⟨_, hv, (h5.mono sm).fix upd_same⟩
    · rw [List.getElem?_set_ne (Ne.symm hj)] at he
      obtain ⟨w, k1, k2⟩ := R.fz j e he
      exact ⟨w, k1, k2.mono sm⟩
  · by_cases hj : j = i
    · subst hj
      rw [List.getElem?_set_self hi] at he; cases he
    · rw [List.getElem?_set_ne (Ne.symm hj)] at he
      obtain ⟨q, u, k1, k2, k3, k4, k5⟩ := R.ow j e he
      refine ⟨q, u, k1, ?_, k3, k4, k5.mono sm⟩
      have : q ≠ p := by
        rintro rfl
        exact R.ap j i e d hj he (by rw [h]; rfl) (by rw [k1, hv])
      rw [upd_ne this]; exact k2
  · by_cases hj : j = i
    · subst hj; rw [List.getElem?_set_self hi] at he; cases he
    · by_cases hk : k = i
      · subst hk; rw [List.getElem?_set_self hi] at hg; cases hg
      · rw [List.getElem?_set_ne (Ne.symm hj)] at he
        rw [List.getElem?_set_ne (Ne.symm hk)] at hg
        exact R.ap j k e g hjk he hg
  · by_cases hj : j = i
    · subst hj; rw [List.getElem?_set_self hi] at he; cases he
    · rw [List.getElem?_set_ne (Ne.symm hj)] at he
      exact R.bo j e he
  · by_cases hq2 : q = p
    · rw [hq2]
    · exact absurd (upd_ne hq2) hq
/-- a new object is frozen -/
theorem Rel.freezeN (R : Rel Z Hf H F s σ) (hr : RR Z Hf H F s σ (.n d) v) : ∃ Hf', Same Hf Hf' ∧ Rel Z Hf' H F s σ ∧ Isd Z Hf' d v ∧ ∀ q, Hf' q ≠ Hf q → v = .ref q := by
  obtain ⟨p, o, rfl, h2, h3, h4, h5, h6⟩ := hr
  have sm : Same Hf (upd Hf p o) := same_upd h2
  refine ⟨upd Hf p o, sm, ⟨fun a u e => ?_, fun q u e => ?_, R.len, fun j e he => ?_, fun j e he => ?_, R.ap, R.bo⟩, (h5.mono sm).fix upd_same, fun q hq => ?_⟩
  · by_cases ha : a = p
    · subst ha; rw [upd_same] at e; cases e; exact h4
    · rw [upd_ne ha] at e; exact R.sub a u e
  · obtain ⟨k1, k2⟩ := R.fr q u e
    refine ⟨k1, ?_⟩
    have : q ≠ p := by rintro rfl; rw [h3] at e; cases e
    rw [upd_ne this]; exact k2
  · obtain ⟨w, k1, k2⟩ := R.fz j e he
    exact ⟨w, k1, k2.mono sm⟩
  · obtain ⟨q, u, k1, k2, k3, k4, k5⟩ := R.ow j e he
    refine ⟨q, u, k1, ?_, k3, k4, k5.mono sm⟩
    have : q ≠ p := by
      rintro rfl
      exact h6 j e he k1
    rw [upd_ne this]; exact k2
  · by_cases hq2 : q = p
    · rw [hq2]
    · exact absurd (upd_ne hq2) hq
theorem Rel.frz (R : Rel Z Hf H F s σ) (hr : RR Z Hf H F s σ r v) (h : Wd.frz r s = some (d, s')) :
    ∃ Hf', Same Hf Hf' ∧ Rel Z Hf' H F s' σ ∧ Isd Z Hf' d v ∧ ∀ q, Hf' q ≠ Hf q → v = .ref q := by
  cases r with
  | v e =>
    have : e = d ∧ s = s' := by simpa [Wd.frz] using h
    obtain ⟨rfl, rfl⟩ := this
    exact ⟨Hf, Same.refl _, R, hr, fun q hq => absurd rfl hq⟩
  | n e =>
    have : e = d ∧ s = s' := by simpa [Wd.frz] using h
    obtain ⟨rfl, rfl⟩ := this
    exact R.freezeN hr
  | b i =>
    have h' : (match s[i]? with
      | some (.ow d) => some (d, s.set i (.fr d))
      | some (.fr d) => some (d, s)
      | _ => none) = some (d, s') := h
    cases e : s[i]? with
    | none => rw [e] at h'; cases h'
    | some x =>
      rw [e] at h'
      cases x with
      | un => cases h'
      | bo _ => cases h'
      | fr e2 =>
        have : e2 = d ∧ s = s' := by simpa using h'
        obtain ⟨rfl, rfl⟩ := this
        obtain ⟨w, k1, k2⟩ := R.fz i e2 e
        have hr' : σ[i]? = some (some v) := hr
        rw [hr'] at k1
        have : v = w := by simpa using k1
        subst this
        exact ⟨Hf, Same.refl _, R, k2, fun q hq => absurd rfl hq⟩
      | ow e2 =>
        have : e2 = d ∧ s.set i (.fr e2) = s' := by simpa using h'
        obtain ⟨rfl, rfl⟩ := this
        exact R.freeze e hr
end
end Wd
-- WdSd2
set_option linter.all false
set_option maxRecDepth 100000
set_option maxHeartbeats 2000000
set_option Elab.async false
/-! What a run of the evaluator promises of the heap. -/
namespace Wd
open PySem L2

def Exd (Z : Wo) (Hf : Hp) (e : D) (cls : Value) (d : Option Addr) : Prop := match e with
  | .ins c ns l => cls = .ref (Z.cA c) ∧ ((ns = [] ∧ d = none) ∨ ∃ dd vs, d = some dd ∧ ns.length = vs.length ∧ Hf dd = some (.xd (ns.zip vs)) ∧ Isl Z Hf l vs)
  | _ => False
/-- what follows of a result -/
def Po {α : Type} (Z : Wo) (W : WX) (Hf F : Hp) (σ : L2.St) (x : Res α) (k : α → Sto → Hp → Hp → Prop) : Prop := match x with
  | .ok a s => ∀ H' Hf', Same Hf Hf' → Rel Z Hf' H' F s σ → k a s H' Hf'
  | .ex e s => ∀ cls d H' Hf', Same Hf Hf' → Rel Z Hf' H' F s σ → Exd Z Hf' e cls d → W cls d σ H'
  | .bad _ => False
section
variable {α β : Type} {Z : Wo} {W : WX} {Hf Hf' H F F' : Hp} {σ : L2.St} {x : Res α} {k k' : α → Sto → Hp → Hp → Prop}
theorem Po.mono (h : Po Z W Hf F σ x k) (e : Same Hf Hf') : Po Z W Hf' F σ x k := by
  cases x with
  | ok a s => exact fun H' Hf2 e2 R => h H' Hf2 (e.trans e2) R
  | ex a s => exact fun c d H' Hf2 e2 R => h c d H' Hf2 (e.trans e2) R
  | bad w => exact h
theorem Po.imp (h : Po Z W Hf F σ x k) (f : ∀ a s H' Hf', Same Hf Hf' → Rel Z Hf' H' F s σ → k a s H' Hf' → k' a s H' Hf') : Po Z W Hf F σ x k' := by
  cases x with
  | ok a s => exact fun H' Hf2 e2 R => f a s H' Hf2 e2 R (h H' Hf2 e2 R)
  | ex a s => exact h
  | bad w => exact h
theorem Po.frame (h : Po Z W Hf F σ x k) (f : ∀ p o, F p = some o → F' p = some o) : Po Z W Hf F' σ x k := by
  cases x with
  | ok a s => exact fun H' Hf2 e2 R => h H' Hf2 e2 (R.weak f)
  | ex a s => exact fun c d H' Hf2 e2 R => h c d H' Hf2 e2 (R.weak f)
  | bad w => exact h
theorem Po.bind {f : α → Sto → Res β} {k : β → Sto → Hp → Hp → Prop} (h : Po Z W Hf F σ (bnd x f) k) : Po Z W Hf F σ x fun a s _ Hf' => Po Z W Hf' F σ (f a s) k := by
  cases x with
  | ok a s => exact fun H' Hf2 e2 R => Po.mono (x := f a s) h e2
  | ex a s => exact h
  | bad w => exact h
theorem Po.opt {w : String} {o : Option α} {s : Sto} (h : Po Z W Hf F σ (Wd.opt w o s) k) (R : Rel Z Hf H F s σ) : ∃ a, o = some a ∧ k a s H Hf := by
  cases o with
  | none => exact h.elim
  | some a => exact ⟨a, rfl, h H Hf (Same.refl _) R⟩
theorem Po.bindE {f : α → Sto → Res β} {k : β → Sto → Hp → Hp → Prop} (h : Po Z W Hf F σ (bnd x f) k) : Po Z W Hf F σ x fun a s _ Hf' => x = .ok a s ∧ Po Z W Hf' F σ (f a s) k := by
  cases x with
  | ok a s => exact fun H' Hf2 e2 R => ⟨rfl, Po.mono (x := f a s) h e2⟩
  | ex a s => exact h
  | bad w => exact h
/-- of an option, without the heap -/
theorem Po.optP {w : String} {o : Option α} {s : Sto} (h : Po Z W Hf F σ (Wd.opt w o s) k) : ∃ a, o = some a ∧ Po Z W Hf F σ (.ok a s) k := by
  cases o with
  | none => exact h.elim
  | some a => exact ⟨a, rfl, h⟩
theorem Po.at {a : α} {s : Sto} (h : Po Z W Hf F σ (.ok a s) k) (R : Rel Z Hf H F s σ) : k a s H Hf := h H Hf (Same.refl _) R
end

section
variable {Z : Wo} {Hf Hf' H H' F F' : Hp} {s s' : Sto} {σ : L2.St} {r : Rv} {v : V} {d : D} {p : Addr} {o : HO}
theorem RR.weak (hr : RR Z Hf H F' s σ r v) (f : ∀ p o, F p = some o → F' p = some o) : RR Z Hf H F s σ r v := by
  cases r with
  | v _ => exact hr
  | b _ => exact hr
  | n d =>
    obtain ⟨q, u, h1, h2, h3, h4⟩ := hr
    refine ⟨q, u, h1, h2, ?_, h4⟩
    cases e : F q with
    | none => rfl
    | some w => rw [f q w e] at h3; cases h3
theorem Rel.alloc (R : Rel Z Hf H F s σ) (hp : H p = none) : Rel Z Hf (upd H p o) F s σ := by
  refine ⟨R.sub.trans (same_upd hp), fun q u e => ?_, R.len, R.fz, fun i e he => ?_, R.ap, R.bo⟩
  · obtain ⟨k1, k2⟩ := R.fr q u e
    exact ⟨same_upd hp _ _ k1, k2⟩
  · obtain ⟨q, u, k1, k2, k3, k4, k5⟩ := R.ow i e he
    exact ⟨q, u, k1, k2, k3, same_upd hp _ _ k4, k5⟩
theorem Rel.hf_none (R : Rel Z Hf H F s σ) (hp : H p = none) : Hf p = none := Same.free R.sub hp
theorem Rel.f_none (R : Rel Z Hf H F s σ) (hp : H p = none) : F p = none := by
  cases e : F p with
  | none => rfl
  | some u => rw [(R.fr p u e).1] at hp; cases hp
theorem Rel.not_own (R : Rel Z Hf H F s σ) (hp : H p = none) : ∀ (i : Nat) e, own? s[i]? = some e → σ[i]? ≠ some (some (.ref p)) := fun i e he z => by
  obtain ⟨q, u, k1, _, _, k4, _⟩ := R.ow i e he
  rw [k1] at z
  have : q = p := by simpa using z
  rw [this, hp] at k4; cases k4
theorem Rel.allocN (R : Rel Z Hf H F s σ) (hp : H p = none) (h : Iso Z Hf o d) : RR Z Hf (upd H p o) F s σ (.n d) (.ref p) :=
  ⟨p, o, rfl, R.hf_none hp, R.f_none hp, upd_same, h, R.not_own hp⟩
theorem Rel.allocF (R : Rel Z Hf H F s σ) (hp : H p = none) : Rel Z (upd Hf p o) (upd H p o) F s σ := by
  have sm : Same Hf (upd Hf p o) := same_upd (R.hf_none hp)
  refine ⟨fun a u e => ?_, fun q u e => ?_, R.len, fun i e he => ?_, fun i e he => ?_, R.ap, R.bo⟩
  · by_cases ha : a = p
    · subst ha; rw [upd_same] at e ⊢; exact e
    · rw [upd_ne ha] at e ⊢; exact R.sub a u e
  · obtain ⟨k1, k2⟩ := R.fr q u e
    have : q ≠ p := by rintro rfl; rw [hp] at k1; cases k1
    rw [upd_ne this, upd_ne this]; exact ⟨k1, k2⟩
  · obtain ⟨w, k1, k2⟩ := R.fz i e he
    exact ⟨w, k1, k2.mono sm⟩
  · obtain ⟨q, u, k1, k2, k3, k4, k5⟩ := R.ow i e he
    have : q ≠ p := by rintro rfl; rw [hp] at k4; cases k4
    exact ⟨q, u, k1, by rw [upd_ne this]; exact k2, k3, by rw [upd_ne this]; exact k4, k5.mono sm⟩
/-! ### readings of the data -/
theorem Rep.int {i : Int} (h : Rep Z Hf H (.int i) v) : v = .int i := by
  rcases h with h | ⟨_, _, _, _, h⟩
  · unfold Isd at h; exact h
  · exact h.elim
theorem Rep.bl {i : Bool} (h : Rep Z Hf H (.bl i) v) : v = .bl i := by
  rcases h with h | ⟨_, _, _, _, h⟩
  · unfold Isd at h; exact h
  · exact h.elim
theorem Rep.str {i : Str} (h : Rep Z Hf H (.str i) v) : v = .str i := by
  rcases h with h | ⟨_, _, _, _, h⟩
  · unfold Isd at h; exact h
  · exact h.elim
theorem Rep.non (h : Rep Z Hf H .non v) : v = .non := by
  rcases h with h | ⟨_, _, _, _, h⟩
  · unfold Isd at h; exact h
  · exact h.elim
theorem Rep.ty {n : String} (h : Rep Z Hf H (.ty n) v) : v = .ty n := by
  rcases h with h | ⟨_, _, _, _, h⟩
  · unfold Isd at h; exact h
  · exact h.elim
theorem Rep.cls {n : Str} (h : Rep Z Hf H (.cls n) v) : v = .ref (Z.cA n) ∧ Z.kn n := by
  rcases h with h | ⟨_, _, _, _, h⟩
  · unfold Isd at h; exact h
  · exact h.elim
theorem Rep.lst {l : List D} (h : Rep Z Hf H (.lst l) v) (sub : Same Hf H) : ∃ a vs, v = .ref a ∧ H a = some (.lst vs) ∧ Isl Z Hf l vs := by
  rcases h with h | ⟨p, o, h1, h2, vs, h3, h4⟩
  · unfold Isd at h
    obtain ⟨a, vs, h1, h2, h3⟩ := h
    exact ⟨a, vs, h1, sub _ _ h2, h3⟩
  · subst h3; exact ⟨p, vs, h1, h2, h4⟩
theorem Rep.tup {l : List D} (h : Rep Z Hf H (.tup l) v) (sub : Same Hf H) : ∃ a vs, v = .ref a ∧ SqT Z.K H a vs ∧ Isl Z Hf l vs := by
  rcases h with h | ⟨p, o, h1, h2, h⟩
  · unfold Isd at h
    obtain ⟨a, vs, h1, h2, h3⟩ := h
    exact ⟨a, vs, h1, sqt_mono sub h2, h3⟩
  · exact h.elim
theorem Rep.scr {l : List D} (h : Rep Z Hf H (.scr l) v) (sub : Same Hf H) : ∃ a vs, v = .ref a ∧ SqL Z.K H a vs ∧ Isl Z Hf l vs := by
  rcases h with h | ⟨p, o, h1, h2, h⟩
  · unfold Isd at h
    obtain ⟨a, vs, h1, h2, h3⟩ := h
    exact ⟨a, vs, h1, sub.seq h2, h3⟩
  · exact h.elim
theorem Rep.dct {ks : List (Sum Int Str)} {l : List D} (h : Rep Z Hf H (.dct ks l) v) (sub : Same Hf H) : ∃ a vs, v = .ref a ∧ ks.length = vs.length ∧ H a = some (.dK (ks.zip vs)) ∧ Isl Z Hf l vs := by
  rcases h with h | ⟨p, o, h1, h2, vs, h3, h4, h5⟩
  · unfold Isd at h
    obtain ⟨a, vs, h1, h2, h3, h4⟩ := h
    exact ⟨a, vs, h1, h2, sub _ _ h3, h4⟩
  · subst h4; exact ⟨p, vs, h1, h3, h2, h5⟩
theorem Rep.ins {c : Str} {ns : List Str} {l : List D} (h : Rep Z Hf H (.ins c ns l) v) (sub : Same Hf H) : ∃ a dx vs, v = .ref a ∧ ns.length = vs.length ∧ H a = some (.ins (Z.cA c) dx (ns.zip vs)) ∧ Isl Z Hf l vs ∧ Z.kn c := by
  rcases h with h | ⟨p, o, h1, h2, dx, vs, h3, h4, h5, h6⟩
  · unfold Isd at h
    obtain ⟨a, dx, vs, h1, h2, h3, h4, h5⟩ := h
    exact ⟨a, dx, vs, h1, h2, sub _ _ h3, h4, h5⟩
  · subst h4; exact ⟨p, dx, vs, h1, h3, h2, h5, h6⟩
end

/-! ### judgements -/
/-- an expression's reading -/
def tE (Z : Wo) (W : WX) (f : Sto → Res Rv) : TE := fun σ H Q => ∃ Hf F s, Rel Z Hf H F s σ ∧ Po Z W Hf F σ (f s) fun r s' H' Hf' => ∀ v, RR Z Hf' H' F s' σ r v → Q v H'
def tA (Z : Wo) (W : WX) (f : Sto → Res (List Rv)) : TA := fun σ H Q => ∃ Hf F s, Rel Z Hf H F s σ ∧ Po Z W Hf F σ (f s) fun rs s' H' Hf' => ∀ vs, RRs Z Hf' H' s' σ F rs vs → Q vs H'
/-- a test's -/
def tT (Z : Wo) (W : WX) (f : Sto → Res Bool) : TT := fun σ H Q => ∃ Hf F s, Rel Z Hf H F s σ ∧ Po Z W Hf F σ (f s) fun b s' H' Hf' => Q b H'
section
variable {Z : Wo} {W : WX} {X : Cx}
/-- one after another -/
theorem t_two {fa fb : Sto → Res Rv} {k : Rv → Rv → Sto → Res Rv} {r : R2} {Q : VK} {σ : L2.St} {H Hf F : Hp} {s : Sto} {kk : Rv → Sto → Hp → Hp → Prop} (R : Rel Z Hf H F s σ)
    (h : Po Z W Hf F σ (bnd (fa s) fun x s => bnd (fb s) fun y s => k x y s) kk)
    (fin : ∀ x y s2 H2 Hf2 v1 v2, Same Hf Hf2 → Rel Z Hf2 H2 F s2 σ → RR Z Hf2 H2 F s2 σ x v1 → RR Z Hf2 H2 F s2 σ y v2 → Po Z W Hf2 F σ (k x y s2) kk → r v1 v2 H2 Q) :
    tE Z W fa σ H fun v1 H1 => tE Z W fb σ H1 fun v2 H2 => r v1 v2 H2 Q := by
  refine ⟨Hf, F, s, R, h.bind.imp fun x s1 H1 Hf1 e1 R1 h1 v1 r1 => ⟨Hf1, addT F H1 x v1, s1, R1.add r1, ?_⟩⟩
  refine (h1.bind.frame (addT_sub r1)).imp fun y s2 H2 Hf2 e2 R2 h2 v2 r2 => ?_
  exact fin x y s2 H2 Hf2 v1 v2 (e1.trans e2) (R2.weak (addT_sub r1)) (r1.later e2 R2) (r2.weak (addT_sub r1)) h2
end
end Wd
-- WdSd38
set_option linter.all false
set_option maxRecDepth 100000
set_option maxHeartbeats 4000000
set_option Elab.async false
/-! t * 1. -/
namespace Wd
open PySem L2 PySem.Spec PyProof.Rows
theorem tuple_mul1 (l : Addr) (items : Array Value) (n : Nat) (dd : Option Addr) (sl : Array (Option Value)) (u : Tok) :
    Meets (Builtin.«tuple.__mul__» ⟨[.ref l, .int 1 u], []⟩) (fun _ R s => s.heap.get? l = some { cls := .type "tuple", dict := dd, data := .seq items n, slots := sl } ∧
      R (.ok (.ret (Value.ref l))) s) :=
  .of_wp fun prog w A R s h => by
    obtain ⟨hp, g, d, tk, os⟩ := s
    obtain ⟨hl, h⟩ := h
    have f1 := AutoSeq1.idx_int
    have c0 : (decide ((1 : Int) < -(2 ^ 63)) || decide ((1 : Int) ≥ 2 ^ 63)) = false := by decide
    have c1 : (items.isEmpty || (1 : Int) == 1) = true := by rw [show ((1 : Int) == 1) = true from rfl, Bool.or_true]
    wp_walk using wpAny_loadPart' hl
    exact ⟨_, rfl, h⟩
/-- a tuple once -/
def rRep1 (K : PySem.W.Frag) : R2 := fun x y H Q => ∃ l xs, x = .ref l ∧ y = .int 1 ∧ SqT K H l xs ∧ Q (.ref l) H
section
variable {X : Cx}
theorem op_rep1 : OpR X (binaryOp .Mult) (rRep1 X.K) := by
  intro pins s σ H x y v u Q I rx ry h
  obtain ⟨l, xs, rfl, rfl, hT, q⟩ := h
  cases rx
  obtain ⟨t, rfl⟩ := ry
  obtain ⟨its, r, ⟨⟨cls, dd, data, sl⟩, ho, hc, n, hd⟩, hs⟩ := I.tuple hT
  simp only at hc hd
  subst hc hd
  refine wpAny_binaryOp_repeat_ref (T := "tuple") (U := "int") (by decide) ⟨_, ho, rfl⟩ (fun s' => typeIs_int s' 1 t) noFill_tuple_mul F.fills_int_mul F.slot_int_rmul repeat_tuple F.slot_int_index.lookup
    (call_meets F.slot_int_rmul (typeIs_int s 1 t) F.entry_int_rmul (F.args_int_rmul_2 _ _) (int_rmul_tuple 1 t l its.toArray n dd sl)
      ⟨ho, rfl, ⟨_, ho, rfl⟩, call_meets F.slot_tuple_mul ⟨_, ho, rfl⟩ F.entry_tuple_mul (F.args_tuple_mul_2 _ _) (tuple_mul1 l its.toArray n dd sl t) ⟨ho, ?_⟩⟩)
  exact ⟨.ref l, H, I, rfl, q⟩
end
end Wd
-- WdSd3
set_option linter.all false
set_option maxRecDepth 100000
set_option maxHeartbeats 2000000
set_option Elab.async false
/-! Expressions. -/
namespace Wd
open PySem L2
theorem lim_le : LIM ≤ sizeLine := by decide
section
variable {Z : Wo} {W : WX} {X : Cx} {Hf H F : Hp} {s : Sto} {σ : L2.St} {v : V} {d : D}
theorem isd_int {i : Int} : Isd Z Hf (.int i) (.int i) := by unfold Isd; rfl
theorem isd_bl {i : Bool} : Isd Z Hf (.bl i) (.bl i) := by unfold Isd; rfl
theorem isd_str {i : Str} : Isd Z Hf (.str i) (.str i) := by unfold Isd; rfl
theorem isd_non : Isd Z Hf .non .non := by unfold Isd; rfl
theorem isd_tup {l : List D} {a : Addr} {vs : List V} (h : Hf a = some (.tup vs)) (q : Isl Z Hf l vs) : Isd Z Hf (.tup l) (.ref a) := by unfold Isd; exact ⟨a, vs, rfl, .inl (.inl h), q⟩
/-! ### constants, names -/
def Scalar : D → Bool | .non | .bl _ | .int _ | .str _ => true | _ => false
def toV : D → V | .non => .non | .bl b => .bl b | .int i => .int i | .str s => .str s | .ty n => .ty n | _ => .non
theorem isd_toV (h : Scalar d = true) : Isd Z Hf d (toV d) := by
  cases d with
  | non => exact isd_non
  | bl b => exact isd_bl
  | int i => exact isd_int
  | str z => exact isd_str
  | _ => cases h
theorem tE_con {Q : VK} {f : Sto → Res Rv} {d : D} {v : V} (hd : ∀ Hf, Isd Z Hf d v) (hf : ∀ s, f s = .ok (.v d) s) (h : tE Z W f σ H Q) : Q v H := by
  obtain ⟨Hf, F, s, R, h⟩ := h
  rw [hf] at h
  exact h.at R v (hd Hf)
theorem s_con {c : Const} {k : Nat} {pos : Pos} {T : Tab} {C : Str → List Sl → CRes} (hc : constOf c = some d) : PE X (.Constant c k pos) (tE Z W (evE T C (.con d))) := by
  refine ⟨fun pins s σ H Q I h => ?_⟩
  cases c with
  | none =>
    cases hc
    exact pe_non.run pins s σ H Q I (tE_con (v := .non) (fun _ => isd_non) (fun _ => rfl) h)
  | bool b =>
    cases hc
    exact pe_bl.run pins s σ H Q I (tE_con (v := .bl b) (fun _ => isd_bl) (fun _ => rfl) h)
  | int i =>
    cases hc
    exact pe_int.run pins s σ H Q I (tE_con (v := .int i) (fun _ => isd_int) (fun _ => rfl) h)
  | str z =>
    cases hc
    exact pe_str.run pins s σ H Q I (tE_con (v := .str z) (fun _ => isd_str) (fun _ => rfl) h)
  | _ => cases hc
theorem s_var {i : Nat} {x : Str} {pos : Pos} {T : Tab} {C : Str → List Sl → CRes} (hN : X.N[i]? = some x) (hv : Vis X.env.scope x) (hd : (x == ("__debug__" : Str)) = false) (hcd : (x == ("__classdict__" : Str)) = false) : PE X (.Name x pos) (tE Z W (evE T C (.var i))) := by
  refine ⟨fun pins s σ H Q I h => (pe_var hN hv hd hcd).run pins s σ H Q I ?_⟩
  obtain ⟨Hf, F, st, R, h⟩ := h
  unfold evE at h
  cases e : st[i]? with
  | none => rw [e] at h; exact h.elim
  | some sl =>
    rw [e] at h
    cases sl with
    | un => exact h.elim
    | fr d =>
      obtain ⟨v, k1, k2⟩ := R.fz i d e
      exact ⟨v, k1, h.at R v k2⟩
    | ow d =>
      obtain ⟨p, o, k1, _⟩ := R.ow i d (by rw [e]; rfl)
      exact ⟨_, k1, h.at R _ k1⟩
    | bo d =>
      obtain ⟨p, o, k1, _⟩ := R.ow i d (by rw [e]; rfl)
      exact ⟨_, k1, h.at R _ k1⟩
/-! ### what comes out -/
section
variable {Q : VK} {p : Addr} {o : HO}
theorem ret_v {F0 : Hp} (h : Po Z W Hf F σ (.ok (.v d) s) fun r s' H' Hf' => ∀ v, RR Z Hf' H' F0 s' σ r v → Q v H') (R : Rel Z Hf H F s σ) (q : Isd Z Hf d v) : Q v H := h.at R v q
theorem ret_n (h : Po Z W Hf F σ (.ok (.n d) s) fun r s' H' Hf' => ∀ v, RR Z Hf' H' F s' σ r v → Q v H') (R : Rel Z Hf H F s σ) (hp : H p = none) (q : Iso Z Hf o d) : Q (.ref p) (upd H p o) :=
  h _ Hf (Same.refl _) (R.alloc hp) _ (R.allocN hp q)
theorem ret_t {l : List D} {vs : List V} (h : Po Z W Hf F σ (.ok (.v (.tup l)) s) fun r s' H' Hf' => ∀ v, RR Z Hf' H' F s' σ r v → Q v H') (R : Rel Z Hf H F s σ) (hp : H p = none) (q : Isl Z Hf l vs) : Q (.ref p) (upd H p (.tup vs)) :=
  h _ _ (same_upd (R.hf_none hp)) (R.allocF hp) _ (isd_tup upd_same (q.mono (same_upd (R.hf_none hp))))
end
/-! ### operators -/
def rAddD (K : PySem.W.Frag) : R2 := fun x y H Q => (rI0 (fun i j => .int (i + j)) x y H Q ∨ (fun x y H Q => ∃ i j, x = .str i ∧ y = .str j ∧ i.length + j.length ≤ sizeLine ∧ Q (.str (i ++ j)) H : R2) x y H Q) ∨ (rCat x y H Q ∨ rCatA K x y H Q)
theorem op_addD : OpR X (binaryOp .Add) (rAddD X.K) := (op_add.or op_add_str).or (op_cat.or op_catA)
def rMulD (K : PySem.W.Frag) : R2 := fun x y H Q => (rI CMulW (fun i j => .int (i * j)) x y H Q ∨ rRep x y H Q) ∨ (rRep1 K x y H Q ∨ rRepT K x y H Q)
theorem op_mulD : OpR X (binaryOp .Mult) (rMulD X.K) := (op_mulW.or op_rep).or (op_rep1.or op_repT)
theorem Rep.isT {l : List D} (h : Rep Z Hf H (.tup l) v) : Isd Z Hf (.tup l) v := by
  rcases h with h | ⟨_, _, _, _, h⟩
  · exact h
  · exact h.elim
theorem isl_rep {l : List D} {vs : List V} (h : Isl Z Hf l vs) : ∀ k : Nat, Isl Z Hf (List.replicate k l).flatten (List.replicate k vs).flatten
  | 0 => isl_nil.mpr rfl
  | k + 1 => by
    rw [List.replicate_succ, List.replicate_succ, List.flatten_cons, List.flatten_cons]
    exact h.append (isl_rep h k)
/-- what an operator gives, shown -/
theorem bop_add {a b : D} {r : Rv} {Q : VK} {v1 v2 : V} (hK : X.K = Z.K) (R : Rel Z Hf H F s σ) (p1 : Rep Z Hf H a v1) (p2 : Rep Z Hf H b v2) (hb : addD a b = some r)
    (h : Po Z W Hf F σ (.ok r s) fun r s' H' Hf' => ∀ v, RR Z Hf' H' F s' σ r v → Q v H') : rAddD X.K v1 v2 H Q := by
  unfold addD at hb
  split at hb
  · cases hb
    exact .inl (.inl ⟨_, _, p1.int, p2.int, ret_v h R isd_int⟩)
  · split at hb
    · cases hb
      rename_i z1 z2 hz
      exact .inl (.inr ⟨_, _, p1.str, p2.str, Nat.le_trans hz lim_le, ret_v h R isd_str⟩)
    · cases hb
  · split at hb
    · cases hb
      rename_i l1 l2 hz
      obtain ⟨a1, vs1, e1, g1, i1⟩ := p1.lst R.sub
      obtain ⟨a2, vs2, e2, g2, i2⟩ := p2.lst R.sub
      refine .inr (.inl ⟨a1, a2, vs1, vs2, e1, e2, g1, g2, by rw [← i1.length, ← i2.length]; exact Nat.le_trans hz lim_le, fun p hp => ?_⟩)
      exact ret_n h R hp ⟨_, rfl, i1.append i2⟩
    · cases hb
  · split at hb
    · cases hb
      rename_i l1 l2 hz
      obtain ⟨a1, vs1, e1, g1, i1⟩ := p1.tup R.sub
      obtain ⟨a2, vs2, e2, g2, i2⟩ := p2.tup R.sub
      rw [hK]
      refine .inr (.inr ⟨a1, a2, vs1, vs2, e1, e2, g1, g2, by rw [← i1.length, ← i2.length]; exact Nat.le_trans hz lim_le, fun e => ?_, fun _ e => ?_, fun _ _ p hp => ?_⟩)
      · subst e
        have : l1 = [] := List.length_eq_zero_iff.mp i1.length
        subst this
        rw [List.nil_append] at h
        rw [← e2]
        exact ret_v h R p2.isT
      · subst e
        have : l2 = [] := List.length_eq_zero_iff.mp i2.length
        subst this
        rw [List.append_nil] at h
        rw [← e1]
        exact ret_v h R p1.isT
      · exact ret_t h R hp (i1.append i2)
    · cases hb
  · cases hb
theorem bop_mul {a b : D} {r : Rv} {Q : VK} {v1 v2 : V} (hK : X.K = Z.K) (R : Rel Z Hf H F s σ) (p1 : Rep Z Hf H a v1) (p2 : Rep Z Hf H b v2) (hb : mulD a b = some r)
    (h : Po Z W Hf F σ (.ok r s) fun r s' H' Hf' => ∀ v, RR Z Hf' H' F s' σ r v → Q v H') : rMulD X.K v1 v2 H Q := by
  unfold mulD at hb
  split at hb
  · split at hb
    · cases hb
      rename_i hz
      exact .inl (.inl ⟨_, _, p1.int, p2.int, hz, ret_v h R isd_int⟩)
    · cases hb
  · split at hb
    · cases hb
      rename_i l1 l2 hz
      obtain ⟨a1, vs1, e1, g1, i1⟩ := p1.lst R.sub
      refine .inl (.inr ⟨a1, _, vs1, e1, p2.int, g1, hz.1, hz.2.1, by rw [← i1.length]; exact Nat.le_trans hz.2.2 lim_le, fun p hp => ?_⟩)
      exact ret_n h R hp ⟨_, rfl, isl_rep i1 _⟩
    · cases hb
  · rw [hK]
    split at hb
    · rename_i k1
      cases hb
      obtain ⟨a1, vs1, e1, g1, i1⟩ := p1.tup R.sub
      refine .inr (.inl ⟨a1, vs1, e1, by rw [p2.int, k1], g1, ?_⟩)
      rw [← e1]
      exact ret_v h R p1.isT
    · split at hb
      · rename_i hz
        cases hb
        obtain ⟨a1, vs1, e1, g1, i1⟩ := p1.tup R.sub
        refine .inr (.inr ⟨a1, _, vs1, e1, p2.int, g1, fun z => ?_, hz.2.1, hz.2.2.1, by rw [← i1.length]; exact hz.2.2.2, fun p hp => ?_⟩)
        · subst z
          have := List.length_eq_zero_iff.mp i1.length
          subst this
          exact absurd hz.1 (by decide)
        · exact ret_t h R hp (isl_rep i1 _)
      · cases hb
  · cases hb
/-- x op y -/
theorem s_bin {op : Operator} {o : Bop} {a b : Expr} {pos : Pos} {T : Tab} {C : Str → List Sl → CRes} {ia ib : Ie} (hK : X.K = Z.K) (ho : bopOf op = some o) (ha : PE X a (tE Z W (evE T C ia))) (hb : PE X b (tE Z W (evE T C ib))) :
    PE X (.BinOp a op b pos) (tE Z W (evE T C (.bin o ia ib))) := by
  refine ⟨fun pins s σ H Q I h => ?_⟩
  obtain ⟨Hf, F, st, R, h⟩ := h
  unfold evE at h
  have go : ∀ {r : R2}, OpR X (binaryOp op) r → (∀ {Hf H F : Hp} {s : Sto} {d1 d2 : D} {rr : Rv} {v1 v2 : V}, Rel Z Hf H F s σ → Rep Z Hf H d1 v1 → Rep Z Hf H d2 v2 → bop o d1 d2 = some rr →
      Po Z W Hf F σ (.ok rr s) (fun r s' H' Hf' => ∀ v, RR Z Hf' H' F s' σ r v → Q v H') → r v1 v2 H Q) → wpAny (model X.prog X.w) X.A (eval (.BinOp a op b pos) X.env) (EP X pins σ Q) X.xe s := fun {r} hr fin => by
    refine (pe_op hr ha hb).run pins s σ H Q I (t_two R h fun x y s2 H2 Hf2 v1 v2 e2 R2 r1 r2 h2 => ?_)
    obtain ⟨d1, hd1, h3⟩ := h2.bind.opt R2
    obtain ⟨d2, hd2, h4⟩ := h3.bind.opt R2
    obtain ⟨rr, hr, h5⟩ := h4.optP
    exact fin R2 (rep_of R2 r1 hd1) (rep_of R2 r2 hd2) hr h5
  cases op with
  | Add => cases ho; exact go op_addD fun R p1 p2 hb h => bop_add hK R p1 p2 hb h
  | Mult => cases ho; exact go op_mulD fun R p1 p2 hb h => bop_mul hK R p1 p2 hb h
  | Sub =>
    cases ho
    refine go op_sub fun R p1 p2 hb h => ?_
    change subD _ _ = _ at hb
    unfold subD at hb
    split at hb
    · cases hb
      exact ⟨_, _, p1.int, p2.int, ret_v h R isd_int⟩
    · cases hb
  | FloorDiv =>
    cases ho
    refine go op_fdivW fun R p1 p2 hb h => ?_
    change fdivD _ _ = _ at hb
    unfold fdivD at hb
    split at hb
    · split at hb
      · cases hb
        rename_i hz
        exact ⟨_, _, p1.int, p2.int, hz, ret_v h R isd_int⟩
      · cases hb
    · cases hb
  | Mod =>
    cases ho
    refine go op_mod fun R p1 p2 hb h => ?_
    change modD _ _ = _ at hb
    unfold modD at hb
    split at hb
    · split at hb
      · cases hb
        rename_i hz
        exact ⟨_, _, p1.int, p2.int, hz, ret_v h R isd_int⟩
      · cases hb
    · cases hb
  | Pow =>
    cases ho
    refine go op_pow fun R p1 p2 hb h => ?_
    change powD _ _ = _ at hb
    unfold powD at hb
    split at hb
    · split at hb
      · cases hb
        rename_i hz
        exact ⟨_, _, p1.int, p2.int, hz, ret_v h R isd_int⟩
      · cases hb
    · cases hb
  | _ => cases ho
end
end Wd
-- WdSd4
set_option linter.all false
set_option maxRecDepth 100000
set_option maxHeartbeats 2000000
set_option Elab.async false
/-! Expressions, further: truth, tests, arguments, built-ins. -/
namespace Wd
open PySem L2
abbrev PoV (Z : Wo) (W : WX) (Hf F : Hp) (σ : L2.St) (x : Res Rv) (Q : VK) : Prop := Po Z W Hf F σ x fun r s' H' Hf' => ∀ v, RR Z Hf' H' F s' σ r v → Q v H'
section
variable {Z : Wo} {W : WX} {X : Cx} {Hf H F : Hp} {s : Sto} {σ : L2.St} {v : V} {d : D} {T : Tab} {C : Str → List Sl → CRes} {Q : VK}
theorem zip_empty {α : Type} : ∀ {ks : List α} {vs : List V}, ks.length = vs.length → (ks.zip vs).isEmpty = ks.isEmpty
  | [], _, _ => by simp
  | _ :: _, [], h => by simp at h
  | _ :: _, _ :: _, _ => rfl
theorem isl_empty : ∀ {l : List D} {vs : List V}, Isl Z Hf l vs → vs.isEmpty = l.isEmpty
  | [], vs, h => by rw [isl_nil.mp h]; rfl
  | _ :: _, vs, h => by obtain ⟨v, r, rfl, _⟩ := isl_cons.mp h; rfl
theorem tru_of {b : Bool} (hK : X.K = Z.K) (p : Rep Z Hf H d v) (sub : Same Hf H) (h : truth d = some b) : TruV X.K v H b := by
  unfold truth at h
  split at h
  · cases h; rw [p.non]; rfl
  · cases h; rw [p.bl]; rfl
  · cases h; rw [p.int]; rfl
  · split at h
    · cases h; rename_i hz; rw [p.str]; exact ⟨Nat.le_trans hz lim_le, rfl⟩
    · cases h
  · cases h
    obtain ⟨a, vs, rfl, h2, h3⟩ := p.tup sub
    exact .inr (.inl ⟨vs, by rw [hK]; exact h2, by rw [isl_empty h3]⟩)
  · cases h
    obtain ⟨a, vs, rfl, h2, h3⟩ := p.lst sub
    exact .inl ⟨vs, SqL.of h2, by rw [isl_empty h3]⟩
  · cases h
    obtain ⟨a, vs, rfl, h1, h2, h3⟩ := p.dct sub
    exact .inr (.inr ⟨_, h2, by rw [zip_empty h1]⟩)
  · cases h
theorem pt_weak {e : Expr} {t t' : TT} (h : PT X e t) (w : ∀ σ H Q, t' σ H Q → t σ H Q) : PT X e t' := ⟨fun pins s σ H Q I q => h.run pins s σ H Q I (w σ H Q q)⟩
/-! ### one part -/
theorem t_one {fa : Sto → Res Rv} {β : Type} {k : Rv → Sto → Res β} {r : V → Hp → Prop} {kk : β → Sto → Hp → Hp → Prop} (R : Rel Z Hf H F s σ) (h : Po Z W Hf F σ (bnd (fa s) k) kk)
    (fin : ∀ x s2 H2 Hf2 v, Same Hf Hf2 → Rel Z Hf2 H2 F s2 σ → RR Z Hf2 H2 F s2 σ x v → Po Z W Hf2 F σ (k x s2) kk → r v H2) : tE Z W fa σ H r :=
  ⟨Hf, F, s, R, h.bind.imp fun x s1 H1 Hf1 e1 R1 h1 v1 r1 => fin x s1 H1 Hf1 v1 e1 R1 r1 h1⟩
/-- .. whose data are read -/
theorem t_rd {fa : Sto → Res Rv} {β : Type} {k : D → Sto → Res β} {r : V → Hp → Prop} {kk : β → Sto → Hp → Hp → Prop} (R : Rel Z Hf H F s σ) (h : Po Z W Hf F σ (bnd (rd (fa s)) k) kk)
    (fin : ∀ d s2 H2 Hf2 v, Same Hf Hf2 → Rel Z Hf2 H2 F s2 σ → Rep Z Hf2 H2 d v → Po Z W Hf2 F σ (k d s2) kk → r v H2) : tE Z W fa σ H r := by
  have e : bnd (rd (fa s)) k = bnd (fa s) fun r s => bnd (opt "peek" (peek r s) s) k := by
    unfold rd
    cases fa s <;> rfl
  rw [e] at h
  refine t_one R h fun x s2 H2 Hf2 v e2 R2 r2 h2 => ?_
  obtain ⟨d, hd, h3⟩ := h2.bind.opt R2
  exact fin d s2 H2 Hf2 v e2 R2 (rep_of R2 r2 hd) h3
/-- .. with more in the frame -/
theorem t_oneF {F' : Hp} {fa : Sto → Res Rv} {β : Type} {k : Rv → Sto → Res β} {r : V → Hp → Prop} {kk : β → Sto → Hp → Hp → Prop} (hF : ∀ p o, F p = some o → F' p = some o) (R : Rel Z Hf H F' s σ) (h : Po Z W Hf F σ (bnd (fa s) k) kk)
    (fin : ∀ x s2 H2 Hf2 v, Same Hf Hf2 → Rel Z Hf2 H2 F' s2 σ → RR Z Hf2 H2 F' s2 σ x v → Po Z W Hf2 F σ (k x s2) kk → r v H2) : tE Z W fa σ H r :=
  ⟨Hf, F', s, R, (h.bind.frame hF).imp fun x s1 H1 Hf1 e1 R1 h1 v1 r1 => fin x s1 H1 Hf1 v1 e1 R1 r1 h1⟩
theorem t_rdF {F' : Hp} {fa : Sto → Res Rv} {β : Type} {k : D → Sto → Res β} {r : V → Hp → Prop} {kk : β → Sto → Hp → Hp → Prop} (hF : ∀ p o, F p = some o → F' p = some o) (R : Rel Z Hf H F' s σ) (h : Po Z W Hf F σ (bnd (rd (fa s)) k) kk)
    (fin : ∀ d s2 H2 Hf2 v, Same Hf Hf2 → Rel Z Hf2 H2 F' s2 σ → Rep Z Hf2 H2 d v → Po Z W Hf2 F σ (k d s2) kk → r v H2) : tE Z W fa σ H r := by
  have e : bnd (rd (fa s)) k = bnd (fa s) fun r s => bnd (opt "peek" (peek r s) s) k := by
    unfold rd
    cases fa s <;> rfl
  rw [e] at h
  refine t_oneF hF R h fun x s2 H2 Hf2 v e2 R2 r2 h2 => ?_
  obtain ⟨d, hd, h3⟩ := h2.bind.opt (R2.weak hF)
  exact fin d s2 H2 Hf2 v e2 R2 (rep_of R2 r2 hd) h3
theorem s_neg {a : Expr} {ia : Ie} {pos : Pos} (ha : PE X a (tE Z W (evE T C ia))) : PE X (.UnaryOp .USub a pos) (tE Z W (evE T C (.neg ia))) := by
  refine ⟨fun pins s σ H Q I h => (pe_un un_neg ha).run pins s σ H Q I ?_⟩
  obtain ⟨Hf, F, st, R, h⟩ := h
  unfold evE at h
  refine t_rd R h fun d s2 H2 Hf2 v e2 R2 p h2 => ?_
  cases d with
  | int i => exact ⟨i, p.int, ret_v h2 R2 isd_int⟩
  | _ => exact h2.elim
theorem s_not {a : Expr} {ia : Ie} {pos : Pos} (hK : X.K = Z.K) (ha : PE X a (tE Z W (evE T C ia))) : PE X (.UnaryOp .Not a pos) (tE Z W (evE T C (.nt ia))) := by
  refine ⟨fun pins s σ H Q I h => (pe_notT ha).run pins s σ H Q I ?_⟩
  obtain ⟨Hf, F, st, R, h⟩ := h
  unfold evE at h
  refine t_rd R h fun d s2 H2 Hf2 v e2 R2 p h2 => ?_
  obtain ⟨rr, hr, h3⟩ := h2.optP
  obtain ⟨b, hb, rfl⟩ := Option.map_eq_some_iff.mp hr
  exact ⟨b, tru_of hK p R2.sub hb, ret_v h3 R2 isd_bl⟩
theorem s_and {a b : Expr} {rest : List Expr} {ia ib : Ie} {pos : Pos} (hK : X.K = Z.K) (ha : PE X a (tE Z W (evE T C ia))) (hb : PE X (.BoolOp .And (b :: rest) pos) (tE Z W (evE T C ib))) :
    PE X (.BoolOp .And (a :: b :: rest) pos) (tE Z W (evE T C (.and ia ib))) := by
  refine ⟨fun pins s σ H Q I h => (pe_andT ha hb).run pins s σ H Q I ?_⟩
  obtain ⟨Hf, F, st, R, h⟩ := h
  unfold evE at h
  refine t_one R h fun x s2 H2 Hf2 v e2 R2 r2 h2 => ?_
  obtain ⟨d, hd, h3⟩ := h2.bind.opt R2
  have p := rep_of R2 r2 hd
  cases ht : truth d with
  | none => simp only [ht] at h3; exact h3.elim
  | some k =>
    refine ⟨k, tru_of hK p R2.sub ht, ?_⟩
    cases k with
    | true => simp only [ht] at h3; exact iteT ⟨Hf2, F, s2, R2, h3⟩
    | false => simp only [ht] at h3; exact iteF (h3.at R2 v r2)
theorem s_or {a b : Expr} {rest : List Expr} {ia ib : Ie} {pos : Pos} (hK : X.K = Z.K) (ha : PE X a (tE Z W (evE T C ia))) (hb : PE X (.BoolOp .Or (b :: rest) pos) (tE Z W (evE T C ib))) :
    PE X (.BoolOp .Or (a :: b :: rest) pos) (tE Z W (evE T C (.or ia ib))) := by
  refine ⟨fun pins s σ H Q I h => (pe_orT ha hb).run pins s σ H Q I ?_⟩
  obtain ⟨Hf, F, st, R, h⟩ := h
  unfold evE at h
  refine t_one R h fun x s2 H2 Hf2 v e2 R2 r2 h2 => ?_
  obtain ⟨d, hd, h3⟩ := h2.bind.opt R2
  have p := rep_of R2 r2 hd
  cases ht : truth d with
  | none => simp only [ht] at h3; exact h3.elim
  | some k =>
    refine ⟨k, tru_of hK p R2.sub ht, ?_⟩
    cases k with
    | true => simp only [ht] at h3; exact iteT (h3.at R2 v r2)
    | false => simp only [ht] at h3; exact iteF ⟨Hf2, F, s2, R2, h3⟩
/-! ### tests -/
/-- the truth of an expression -/
def evT (T : Tab) (C : Str → List Sl → CRes) (e : Ie) (s : Sto) : Res Bool := bnd (evE T C e s) fun r s => bnd (opt "peek" (peek r s) s) fun d s => opt "truth" (truth d) s
/-- a test that is a plain value -/
theorem p_val {a : Expr} {ia : Ie} (hK : X.K = Z.K) (ha : PE X a (tE Z W (evE T C ia))) (he : ∀ whole, isTrue a X.env whole = (do let v ← whole; standAt a.pos; holding [v] (truthy v))) : PT X a (tT Z W (evT T C ia)) := by
  refine pt_weak (pt_truth ha he) fun σ H Qb h => ?_
  obtain ⟨Hf, F, st, R, h⟩ := h
  refine ⟨Hf, F, st, R, h.bind.imp fun x s2 H2 Hf2 e2 R2 h2 v r2 => ?_⟩
  obtain ⟨d, hd, h3⟩ := h2.bind.opt R2
  obtain ⟨b, hb, h4⟩ := h3.opt R2
  exact ⟨b, tru_of hK (rep_of R2 r2 hd) R2.sub hb, h4⟩
theorem peek_v (d : D) (s : Sto) : peek (.v d) s = some d := rfl
theorem truth_bl (b : Bool) : truth (.bl b) = some b := rfl
theorem p_not {a : Expr} {ia : Ie} {pos : Pos} (ha : PT X a (tT Z W (evT T C ia))) : PT X (.UnaryOp .Not a pos) (tT Z W (evT T C (.nt ia))) := by
  refine pt_weak (pt_not ha) fun σ H Qb h => ?_
  obtain ⟨Hf, F, st, R, h⟩ := h
  refine ⟨Hf, F, st, R, ?_⟩
  have e : evT T C (.nt ia) st = bnd (evT T C ia st) fun b s => .ok (!b) s := by
    unfold evT
    rw [evE]
    unfold rd
    cases h1 : evE T C ia st with
    | ok r s1 =>
      cases h2 : peek r s1 with
      | none => simp [bnd, opt, h2]
      | some d => cases h3 : truth d with
        | none => simp [bnd, opt, h2, h3]
        | some b => simp [bnd, opt, h2, h3, peek_v, truth_bl]
    | ex _ _ => rfl
    | bad _ => rfl
  rw [e] at h
  exact h.bind.imp fun b s2 H2 Hf2 e2 R2 h2 => h2.at R2
end
end Wd
-- WdSd5
set_option linter.all false
set_option maxRecDepth 100000
set_option maxHeartbeats 2000000
set_option Elab.async false
/-! Comparisons. -/
namespace Wd
open PySem L2
theorem toPys_eq (l : List D) : toPys l = l.map toPy := by
  induction l with
  | nil => rfl
  | cons d l ih => unfold toPys; rw [ih]; rfl
theorem okD_list {n : Nat} {l : List D} (h : okD n (.lst l) = true) : ∃ m, n = m + 1 ∧ l.all (okD m) = true := by
  cases n with
  | zero => cases h
  | succ m => exact ⟨m, rfl, by simpa [okD] using h⟩
theorem okD_tup {n : Nat} {l : List D} (h : okD n (.tup l) = true) : ∃ m, n = m + 1 ∧ l.all (okD m) = true := by
  cases n with
  | zero => cases h
  | succ m => exact ⟨m, rfl, by simpa [okD] using h⟩
mutual
theorem shaped_d : ∀ {n : Nat} {d : D}, okD n d = true → (toPy d).canLay0 = true ∧ (toPy d).depth ≤ n
  | _, .non, _ => by unfold toPy; exact ⟨rfl, by unfold PyData.depth; omega⟩
  | _, .bl _, _ => by unfold toPy; exact ⟨rfl, by unfold PyData.depth; omega⟩
  | _, .int _, _ => by unfold toPy; exact ⟨rfl, by unfold PyData.depth; omega⟩
  | n, .str s, h => by
    unfold toPy
    refine ⟨?_, by unfold PyData.depth; omega⟩
    cases n <;> exact h
  | n, .tup l, h => by
    obtain ⟨m, rfl, h2⟩ := okD_tup h
    obtain ⟨a, b⟩ := shaped_l h2
    unfold toPy
    exact ⟨by unfold PyData.canLay0; exact a, by unfold PyData.depth; omega⟩
  | n, .lst l, h => by
    obtain ⟨m, rfl, h2⟩ := okD_list h
    obtain ⟨a, b⟩ := shaped_l h2
    unfold toPy
    exact ⟨by unfold PyData.canLay0; exact a, by unfold PyData.depth; omega⟩
  | 0, .scr _, h => by cases h
  | n + 1, .scr _, h => by cases h
  | 0, .dct _ _, h => by cases h
  | n + 1, .dct _ _, h => by cases h
  | 0, .ins _ _ _, h => by cases h
  | n + 1, .ins _ _ _, h => by cases h
  | 0, .ty _, h => by cases h
  | n + 1, .ty _, h => by cases h
  | 0, .cls _, h => by cases h
  | n + 1, .cls _, h => by cases h
theorem shaped_l : ∀ {n : Nat} {l : List D}, l.all (okD n) = true → PyData.canLayAll0 (toPys l) = true ∧ PyData.depthAll (toPys l) ≤ n
  | n, [], _ => by unfold toPys; exact ⟨rfl, by unfold PyData.depthAll; omega⟩
  | n, d :: l, h => by
    rw [List.all_cons, Bool.and_eq_true] at h
    obtain ⟨a, b⟩ := shaped_d h.1
    obtain ⟨c, e⟩ := shaped_l h.2
    unfold toPys
    exact ⟨by unfold PyData.canLayAll0; rw [a, c]; rfl, by unfold PyData.depthAll; omega⟩
end
theorem shaped_of {d : D} (h : okD 60 d = true) : SeqAt.shaped (toPy d) = true := by
  obtain ⟨a, b⟩ := shaped_d h
  unfold SeqAt.shaped
  rw [a, decide_eq_true (by omega)]; rfl
mutual
theorem eqv_of : ∀ {n m : Nat} {a b : D}, okD n a = true → okD m b = true → PyData.eqv (toPy a) (toPy b) = deq a b
  | n, m, a, b, ha, hb => by
    cases a with
    | tup l => cases b with
      | tup k =>
        obtain ⟨_, _, h1⟩ := okD_tup ha
        obtain ⟨_, _, h2⟩ := okD_tup hb
        unfold toPy deq PyData.eqv
        exact eqvs_of h1 h2
      | lst k => unfold toPy deq PyData.eqv; rfl
      | non => unfold toPy deq PyData.eqv; rfl
      | bl _ => unfold toPy deq PyData.eqv; rfl
      | int _ => unfold toPy deq PyData.eqv; rfl
      | str _ => unfold toPy deq PyData.eqv; rfl
      | _ => cases m <;> cases hb
    | lst l => cases b with
      | lst k =>
        obtain ⟨_, _, h1⟩ := okD_list ha
        obtain ⟨_, _, h2⟩ := okD_list hb
        unfold toPy deq PyData.eqv
        exact eqvs_of h1 h2
      | tup k => unfold toPy deq PyData.eqv; rfl
      | non => unfold toPy deq PyData.eqv; rfl
      | bl _ => unfold toPy deq PyData.eqv; rfl
      | int _ => unfold toPy deq PyData.eqv; rfl
      | str _ => unfold toPy deq PyData.eqv; rfl
      | _ => cases m <;> cases hb
    | non => cases b with
      | non => unfold toPy deq PyData.eqv; rfl
      | bl _ => unfold toPy deq PyData.eqv; rfl
      | int _ => unfold toPy deq PyData.eqv; rfl
      | str _ => unfold toPy deq PyData.eqv; rfl
      | tup k => unfold toPy deq PyData.eqv; rfl
      | lst k => unfold toPy deq PyData.eqv; rfl
      | _ => cases m <;> cases hb
    | bl x => cases b with
      | non => unfold toPy deq PyData.eqv; rfl
      | bl _ => unfold toPy deq PyData.eqv; rfl
      | int _ => unfold toPy deq PyData.eqv; cases x <;> rfl
      | str _ => unfold toPy deq PyData.eqv; rfl
      | tup k => unfold toPy deq PyData.eqv; rfl
      | lst k => unfold toPy deq PyData.eqv; rfl
      | _ => cases m <;> cases hb
    | int _ => cases b with
      | non => unfold toPy deq PyData.eqv; rfl
      | bl x => unfold toPy deq PyData.eqv; cases x <;> rfl
      | int _ => unfold toPy deq PyData.eqv; rfl
      | str _ => unfold toPy deq PyData.eqv; rfl
      | tup k => unfold toPy deq PyData.eqv; rfl
      | lst k => unfold toPy deq PyData.eqv; rfl
      | _ => cases m <;> cases hb
    | str _ => cases b with
      | non => unfold toPy deq PyData.eqv; rfl
      | bl _ => unfold toPy deq PyData.eqv; rfl
      | int _ => unfold toPy deq PyData.eqv; rfl
      | str _ => unfold toPy deq PyData.eqv; rfl
      | tup k => unfold toPy deq PyData.eqv; rfl
      | lst k => unfold toPy deq PyData.eqv; rfl
      | _ => cases m <;> cases hb
    | _ => cases n <;> cases ha
theorem eqvs_of : ∀ {n m : Nat} {a b : List D}, a.all (okD n) = true → b.all (okD m) = true → PyData.eqvAll (toPys a) (toPys b) = deqs a b
  | _, _, [], [], _, _ => by unfold toPys deqs PyData.eqvAll; rfl
  | _, _, [], _ :: _, _, _ => by unfold toPys deqs PyData.eqvAll; rfl
  | _, _, _ :: _, [], _, _ => by unfold toPys deqs PyData.eqvAll; rfl
  | n, m, x :: a, y :: b, ha, hb => by
    rw [List.all_cons, Bool.and_eq_true] at ha hb
    unfold toPys deqs PyData.eqvAll
    rw [eqv_of ha.1 hb.1, eqvs_of ha.2 hb.2]
end
section
variable {Z : Wo} {W : WX} {X : Cx} {Hf H F : Hp} {s : Sto} {σ : L2.St} {v : V} {d : D} {T : Tab} {C : Str → List Sl → CRes} {Q : VK}
mutual
theorem dp_of (sub : Same Hf H) : ∀ {n : Nat} {d : D} {v : V}, okD n d = true → Isd Z Hf d v → Dp Z.K H v (toPy d)
  | n, .non, v, _, h => by unfold Isd at h; subst h; unfold toPy; exact .non
  | n, .bl b, v, _, h => by unfold Isd at h; subst h; unfold toPy; exact .bl b
  | n, .int b, v, _, h => by unfold Isd at h; subst h; unfold toPy; exact .int b
  | n, .str b, v, _, h => by unfold Isd at h; subst h; unfold toPy; exact .str b
  | n, .tup l, v, hk, h => by
    unfold Isd at h
    obtain ⟨a, vs, rfl, h2, h3⟩ := h
    obtain ⟨m, rfl, hk2⟩ := okD_tup hk
    unfold toPy
    exact .tup (sqt_mono sub h2) (dps_of sub hk2 h3)
  | n, .lst l, v, hk, h => by
    unfold Isd at h
    obtain ⟨a, vs, rfl, h2, h3⟩ := h
    obtain ⟨m, rfl, hk2⟩ := okD_list hk
    unfold toPy
    exact .lst (SqL.of (sub _ _ h2)) (dps_of sub hk2 h3)
  | 0, .scr _, _, h, _ => by cases h
  | n + 1, .scr _, _, h, _ => by cases h
  | 0, .dct _ _, _, h, _ => by cases h
  | n + 1, .dct _ _, _, h, _ => by cases h
  | 0, .ins _ _ _, _, h, _ => by cases h
  | n + 1, .ins _ _ _, _, h, _ => by cases h
  | 0, .ty _, _, h, _ => by cases h
  | n + 1, .ty _, _, h, _ => by cases h
  | 0, .cls _, _, h, _ => by cases h
  | n + 1, .cls _, _, h, _ => by cases h
theorem dps_of (sub : Same Hf H) : ∀ {n : Nat} {l : List D} {vs : List V}, l.all (okD n) = true → Isl Z Hf l vs → DpAll Z.K H vs (toPys l)
  | n, [], vs, _, h => by rw [isl_nil.mp h]; unfold toPys; exact .nil
  | n, d :: l, vs, hk, h => by
    obtain ⟨v, r, rfl, h2, h3⟩ := isl_cons.mp h
    rw [List.all_cons, Bool.and_eq_true] at hk
    unfold toPys
    exact .cons (dp_of sub hk.1 h2) (dps_of sub hk.2 h3)
end
theorem Rep.dp {n : Nat} (p : Rep Z Hf H d v) (sub : Same Hf H) (hk : okD n d = true) : Dp Z.K H v (toPy d) := by
  rcases p with h | ⟨q, o, rfl, h2, h3⟩
  · exact dp_of sub hk h
  · cases d with
    | lst l =>
      obtain ⟨vs, rfl, h4⟩ := h3
      obtain ⟨m, rfl, hk2⟩ := okD_list hk
      unfold toPy
      exact .lst (SqL.of h2) (dps_of sub hk2 h4)
    | dct _ _ => cases n <;> cases hk
    | ins _ _ _ => cases n <;> cases hk
    | _ => exact h3.elim
/-! ### == and != -/
def rEqT0 (K : PySem.W.Frag) : R2 := fun x y H Q => ∃ a b xs, x = .ref a ∧ y = .ref b ∧ SqT K H a xs ∧ SqT K H b [] ∧ Q (.bl xs.isEmpty) H
theorem op_eqT0 (hu : X.A.units < cLine) : OpR X (compareOp .Eq) (rEqT0 X.K) := by
  intro pins s σ H x y v u Q I rx ry h
  obtain ⟨a, b, xs, rfl, rfl, ha, hb, q⟩ := h
  cases rx
  cases ry
  obtain ⟨its, rv, ⟨o, ho, hc, n, hd⟩, _⟩ := I.tuple ha
  obtain ⟨its2, rv2, ⟨o2, ho2, hc2, n2, hd2⟩, _⟩ := I.tuple hb
  have z : its2 = [] := by cases rv2; rfl
  subst z
  have hl := rv.length
  refine SeqAt.RcAt.tuples (e := fun _ => true) ⟨_, ho, hc, _, hd⟩ ⟨_, ho2, hc2, _, hd2⟩ hu (fun j h1 h2 => absurd h2 (by simp)) _ _ _ _ ⟨.bl xs.isEmpty, H, I, ?_, q⟩
  show Value.bool _ = Value.bool _
  congr 1
  cases its with
  | nil => cases xs with
    | nil => rfl
    | cons _ _ => simp at hl
  | cons _ _ => cases xs with
    | nil => simp at hl
    | cons _ _ => simp
def rEqA (K : PySem.W.Frag) : R2 := fun x y H Q => rEq x y H Q ∨ rEqD K x y H Q
def rEqB (K : PySem.W.Frag) : R2 := fun x y H Q => rEqA K x y H Q ∨ rEqT0 K x y H Q
def rNeA (K : PySem.W.Frag) : R2 := fun x y H Q => rNe x y H Q ∨ rNeD K x y H Q
theorem eq_ok {a b : D} {k : Bool} {v1 v2 : V} (hK : X.K = Z.K) (p1 : Rep Z Hf H a v1) (p2 : Rep Z Hf H b v2) (sub : Same Hf H) (h : eqD a b = some k) (q : Q (.bl k) H) : rEqA X.K v1 v2 H Q := by
  unfold eqD at h
  split at h
  · cases h; rw [p1.int, p2.int]; refine .inl ⟨rfl, ?_⟩; rw [dec_int]; exact q
  · cases h; rw [p1.str, p2.str]; refine .inl ⟨rfl, ?_⟩; rw [dec_str]; exact q
  · cases h; rw [p1.bl, p2.bl]; refine .inl ⟨rfl, ?_⟩; rw [dec_bl]; exact q
  · split at h
    · cases h
      rename_i hk
      rw [Bool.and_eq_true] at hk
      refine .inr ⟨_, _, by rw [hK]; exact p1.dp sub hk.1, by rw [hK]; exact p2.dp sub hk.2, shaped_of hk.1, shaped_of hk.2, ?_⟩
      rw [eqv_of hk.1 hk.2]; exact q
    · cases h
theorem eqT_ok {a b : D} {k : Bool} {v1 v2 : V} (hK : X.K = Z.K) (p1 : Rep Z Hf H a v1) (p2 : Rep Z Hf H b v2) (sub : Same Hf H) (h : eqT a b = some k) (q : Q (.bl k) H) : rEqB X.K v1 v2 H Q := by
  unfold eqT at h
  split at h
  · cases h
    obtain ⟨p, vs, rfl, h2, h3⟩ := p1.tup sub
    obtain ⟨p', vs', rfl, h4, h5⟩ := p2.tup sub
    have z : vs' = [] := isl_nil.mp h5
    subst z
    refine .inr ⟨p, p', vs, rfl, rfl, by rw [hK]; exact h2, by rw [hK]; exact h4, ?_⟩
    have e : ∀ l : List D, l.length = vs.length → vs.isEmpty = l.isEmpty := fun l hl => by
      cases vs <;> cases l <;> first | rfl | simp at hl
    rw [e _ h3.length]; exact q
  · exact .inl (eq_ok hK p1 p2 sub h q)
theorem ne_ok {a b : D} {k : Bool} {v1 v2 : V} (hK : X.K = Z.K) (p1 : Rep Z Hf H a v1) (p2 : Rep Z Hf H b v2) (sub : Same Hf H) (h : eqD a b = some k) (q : Q (.bl (!k)) H) : rNeA X.K v1 v2 H Q := by
  unfold eqD at h
  split at h
  · cases h; rw [p1.int, p2.int]; refine .inl ⟨rfl, ?_⟩; rw [dec_int]; exact q
  · cases h; rw [p1.str, p2.str]; refine .inl ⟨rfl, ?_⟩; rw [dec_str]; exact q
  · cases h; rw [p1.bl, p2.bl]; refine .inl ⟨rfl, ?_⟩; rw [dec_bl]; exact q
  · split at h
    · cases h
      rename_i hk
      rw [Bool.and_eq_true] at hk
      refine .inr ⟨_, _, by rw [hK]; exact p1.dp sub hk.1, by rw [hK]; exact p2.dp sub hk.2, shaped_of hk.1, shaped_of hk.2, ?_⟩
      rw [eqv_of hk.1 hk.2]; exact q
    · cases h
/-! ### in -/
theorem pk_flat (hp : pk d = true) (h : Isd Z Hf d v) : flatV v = true := by
  cases d with
  | non => unfold Isd at h; subst h; rfl
  | bl _ => unfold Isd at h; subst h; rfl
  | int _ => unfold Isd at h; subst h; rfl
  | str _ => unfold Isd at h; subst h; rfl
  | _ => cases hp
theorem pk_flats : ∀ {l : List D} {vs : List V}, l.all pk = true → Isl Z Hf l vs → vs.all flatV = true
  | [], vs, _, h => by rw [isl_nil.mp h]; rfl
  | d :: l, vs, hp, h => by
    obtain ⟨v, r, rfl, h2, h3⟩ := isl_cons.mp h
    rw [List.all_cons, Bool.and_eq_true] at hp ⊢
    exact ⟨pk_flat hp.1 h2, pk_flats hp.2 h3⟩
theorem eqV_deq {a b : D} {v w : V} (ha : pk a = true) (hb : pk b = true) (h : Isd Z Hf a v) (k : Isd Z Hf b w) : eqV v w = deq a b := by
  cases a with
  | non => cases b with
    | non => unfold Isd at h k; subst h k; unfold deq; rfl
    | bl _ => unfold Isd at h k; subst h k; unfold deq; rfl
    | int _ => unfold Isd at h k; subst h k; unfold deq; rfl
    | str _ => unfold Isd at h k; subst h k; unfold deq; rfl
    | _ => cases hb
  | bl _ => cases b with
    | non => unfold Isd at h k; subst h k; unfold deq; rfl
    | bl _ => unfold Isd at h k; subst h k; unfold deq; rfl
    | int _ => unfold Isd at h k; subst h k; unfold deq; rfl
    | str _ => unfold Isd at h k; subst h k; unfold deq; rfl
    | _ => cases hb
  | int _ => cases b with
    | non => unfold Isd at h k; subst h k; unfold deq; rfl
    | bl _ => unfold Isd at h k; subst h k; unfold deq; rfl
    | int _ => unfold Isd at h k; subst h k; unfold deq; rfl
    | str _ => unfold Isd at h k; subst h k; unfold deq; rfl
    | _ => cases hb
  | str _ => cases b with
    | non => unfold Isd at h k; subst h k; unfold deq; rfl
    | bl _ => unfold Isd at h k; subst h k; unfold deq; rfl
    | int _ => unfold Isd at h k; subst h k; unfold deq; rfl
    | str _ => unfold Isd at h k; subst h k; unfold deq; rfl
    | _ => cases hb
  | _ => cases ha
theorem inV_any {x : D} {w : V} (hx : pk x = true) (k : Isd Z Hf x w) : ∀ {l : List D} {vs : List V}, l.all pk = true → Isl Z Hf l vs → inV w vs = l.any fun z => deq z x
  | [], vs, _, h => by rw [isl_nil.mp h]; rfl
  | d :: l, vs, hp, h => by
    obtain ⟨v, r, rfl, h2, h3⟩ := isl_cons.mp h
    rw [List.all_cons, Bool.and_eq_true] at hp
    have ih := inV_any hx k hp.2 h3
    unfold inV at ih ⊢
    rw [List.any_cons, List.any_cons, ih, eqV_deq hp.1 hx h2 k]
theorem Rep.pk (p : Rep Z Hf H d v) (h : Wd.pk d = true) : Isd Z Hf d v := by
  rcases p with p | ⟨_, _, _, _, p⟩
  · exact p
  · cases d <;> first | exact p.elim | cases h
def rDIn : R2 := fun y x H Q => ∃ a o, x = .ref a ∧ DGet H a y o ∧ Q (.bl o.isSome) H
def rDNin : R2 := fun y x H Q => ∃ a o, x = .ref a ∧ DGet H a y o ∧ Q (.bl (!o.isSome)) H
theorem op_din (hu : X.A.units + 1 < cLine) : OpR X (compareOp .In) rDIn := by
  intro pins s σ H y x u v Q I ry rx h
  obtain ⟨a, o, rfl, g, q⟩ := h
  cases rx
  exact d_in hu I g ry fun s3 I3 => ⟨.bl o.isSome, H, I3, rfl, q⟩
theorem op_dnin (hu : X.A.units + 1 < cLine) : OpR X (compareOp .NotIn) rDNin := by
  intro pins s σ H y x u v Q I ry rx h
  obtain ⟨a, o, rfl, g, q⟩ := h
  cases rx
  exact d_notIn hu I g ry fun s3 I3 => ⟨.bl (!o.isSome), H, I3, rfl, q⟩
theorem keyOf_kV {k : Sum Int Str} (h : keyOf d = some k) (p : Rep Z Hf H d v) : v = kV k := by
  unfold keyOf at h
  split at h
  · cases h; rw [p.int]; rfl
  · cases h; rw [p.str]; rfl
  · cases h
theorem valV_kget : ∀ {ks : List (Sum Int Str)} {l : List D} {vs : List V} {k : Sum Int Str}, ks.length = vs.length → Isl Z Hf l vs → (∀ d, kget ks l k = some d → ∃ v, valV (ks.zip vs) k = some v ∧ Isd Z Hf d v) ∧ (kget ks l k = none → valV (ks.zip vs) k = none)
  | [], l, vs, k, hl, h => by
    refine ⟨fun d e => ?_, fun _ => by simp [valV]⟩
    unfold kget at e; cases e
  | q :: ks, [], vs, k, hl, h => by
    rw [isl_nil.mp h] at hl; simp at hl
  | q :: ks, d :: l, vs, k, hl, h => by
    obtain ⟨v, r, rfl, h2, h3⟩ := isl_cons.mp h
    obtain ⟨i1, i2⟩ := valV_kget (k := k) (by simpa using hl) h3
    rw [List.zip_cons_cons]
    unfold kget
    by_cases e : q = k
    · rw [if_pos e]
      refine ⟨fun d' e' => ?_, fun e' => by cases e'⟩
      cases e'
      exact ⟨v, valV_pos e, h2⟩
    · rw [if_neg e]
      refine ⟨fun d' e' => ?_, fun e' => ?_⟩
      · obtain ⟨w, k1, k2⟩ := i1 d' e'
        exact ⟨w, by rw [valV_neg e]; exact k1, k2⟩
      · rw [valV_neg e]; exact i2 e'
theorem valV_isSome {ks : List (Sum Int Str)} {l : List D} {vs : List V} {k : Sum Int Str} (hl : ks.length = vs.length) (h : Isl Z Hf l vs) : (valV (ks.zip vs) k).isSome = (kget ks l k).isSome := by
  obtain ⟨i1, i2⟩ := valV_kget (k := k) hl h
  cases e : kget ks l k with
  | none => rw [i2 e]; rfl
  | some d => obtain ⟨w, k1, _⟩ := i1 d e; rw [k1]; rfl
def rInA (K : PySem.W.Frag) : R2 := fun x y H Q => rIn K false x y H Q ∨ ((fun x y H Q => ∃ (c : Nat) (z : Str), x = .str ⟨#[c]⟩ ∧ y = .str z ∧ Q (.bl (decide (c ∈ z.cps.toList))) H : R2) x y H Q ∨ rDIn x y H Q)
def rNinA (K : PySem.W.Frag) : R2 := fun x y H Q => rIn K true x y H Q ∨ ((fun x y H Q => ∃ (c : Nat) (z : Str), x = .str ⟨#[c]⟩ ∧ y = .str z ∧ Q (.bl (!decide (c ∈ z.cps.toList))) H : R2) x y H Q ∨ rDNin x y H Q)
theorem in_ok {a b : D} {k : Bool} {v1 v2 : V} (hK : X.K = Z.K) (p1 : Rep Z Hf H a v1) (p2 : Rep Z Hf H b v2) (sub : Same Hf H) (h : inD a b = some k) :
    (Q (.bl k) H → rInA X.K v1 v2 H Q) ∧ (Q (.bl (!k)) H → rNinA X.K v1 v2 H Q) := by
  unfold inD at h
  split at h
  · split at h
    · cases h
      rename_i hk
      rw [Bool.and_eq_true] at hk
      obtain ⟨q, vs, rfl, h2, h3⟩ := p2.tup sub
      have e := inV_any hk.1 (p1.pk hk.1) hk.2 h3
      have f1 := pk_flat hk.1 (p1.pk hk.1)
      have f2 := pk_flats hk.2 h3
      rw [hK]
      refine ⟨fun z => .inl ⟨q, vs, rfl, .inr h2, f1, f2, ?_⟩, fun z => .inl ⟨q, vs, rfl, .inr h2, f1, f2, ?_⟩⟩
      · rw [e]; exact z
      · rw [e]; exact z
    · cases h
  · split at h
    · cases h
      rename_i hk
      rw [Bool.and_eq_true] at hk
      obtain ⟨q, vs, rfl, h2, h3⟩ := p2.lst sub
      have e := inV_any hk.1 (p1.pk hk.1) hk.2 h3
      have f1 := pk_flat hk.1 (p1.pk hk.1)
      have f2 := pk_flats hk.2 h3
      rw [hK]
      refine ⟨fun z => .inl ⟨q, vs, rfl, .inl (SqL.of h2), f1, f2, ?_⟩, fun z => .inl ⟨q, vs, rfl, .inl (SqL.of h2), f1, f2, ?_⟩⟩
      · rw [e]; exact z
      · rw [e]; exact z
    · cases h
  · obtain ⟨key, hk, rfl⟩ := Option.map_eq_some_iff.mp h
    obtain ⟨q, vs, rfl, h1, h2, h3⟩ := p2.dct sub
    have ev := keyOf_kV hk p1
    subst ev
    have es := valV_isSome (k := key) h1 h3
    refine ⟨fun z => .inr (.inr ⟨q, _, rfl, DGet.k h2, ?_⟩), fun z => .inr (.inr ⟨q, _, rfl, DGet.k h2, ?_⟩)⟩
    · rw [es]; exact z
    · rw [es]; exact z
  · split at h
    · cases h
      rw [p1.str, p2.str]
      exact ⟨fun z => .inr (.inl ⟨_, _, rfl, rfl, z⟩), fun z => .inr (.inl ⟨_, _, rfl, rfl, z⟩)⟩
    · cases h
  · cases h
theorem ints_isl : ∀ {l : List D} {ns : List Int} {vs : List V}, ints? l = some ns → Isl Z Hf l vs → vs = ns.map V.int
  | [], ns, vs, e, h => by
    cases e
    rw [isl_nil.mp h]; rfl
  | d :: l, ns, vs, e, h => by
    obtain ⟨v, r, rfl, h2, h3⟩ := isl_cons.mp h
    cases d with
    | int i =>
      obtain ⟨ms, e1, rfl⟩ := Option.map_eq_some_iff.mp (show (ints? l).map (i :: ·) = some ns from e)
      unfold Isd at h2
      rw [h2, ints_isl e1 h3]; rfl
    | _ => cases e
def rLtA (K : PySem.W.Frag) : R2 := fun x y H Q => rI0 (fun i j => .bl (decide (i < j))) x y H Q ∨ ((fun x y H Q => ∃ i j, x = .str i ∧ y = .str j ∧ Q (.bl (decide (i.cps.toList < j.cps.toList))) H : R2) x y H Q ∨ rLtT K x y H Q)
theorem lt_ok {a b : D} {k : Bool} {v1 v2 : V} (hK : X.K = Z.K) (p1 : Rep Z Hf H a v1) (p2 : Rep Z Hf H b v2) (sub : Same Hf H) (h : ltD a b = some k) (q : Q (.bl k) H) : rLtA X.K v1 v2 H Q := by
  unfold ltD at h
  split at h
  · cases h; exact .inl ⟨_, _, p1.int, p2.int, q⟩
  · cases h; exact .inr (.inl ⟨_, _, p1.str, p2.str, q⟩)
  · split at h
    · cases h
      rename_i ns ms e1 e2
      obtain ⟨a1, vs1, rfl, g1, i1⟩ := p1.tup sub
      obtain ⟨a2, vs2, rfl, g2, i2⟩ := p2.tup sub
      rw [hK]
      exact .inr (.inr ⟨a1, a2, ns, ms, rfl, rfl, by rw [← ints_isl e1 i1]; exact g1, by rw [← ints_isl e2 i2]; exact g2, q⟩)
    · cases h
  · cases h
theorem le_ok {f : Int → Int → Bool} {a b : D} {k : Bool} {v1 v2 : V} (p1 : Rep Z Hf H a v1) (p2 : Rep Z Hf H b v2) (h : leI f a b = some k) (q : Q (.bl k) H) : rI0 (fun i j => .bl (f i j)) v1 v2 H Q := by
  unfold leI at h
  split at h
  · cases h; exact ⟨_, _, p1.int, p2.int, q⟩
  · cases h
theorem isn_ok {a b : D} {k : Bool} {v1 v2 : V} (p1 : Rep Z Hf H a v1) (p2 : Rep Z Hf H b v2) (h : isnD a b = some k) : v2 = .non ∧ decide (v1 = .non) = k := by
  unfold isnD at h
  split at h
  · refine ⟨p2.non, ?_⟩
    cases h
    cases a with
    | non => rw [p1.non]; rfl
    | bl _ => rw [p1.bl]; rfl
    | int _ => rw [p1.int]; rfl
    | str _ => rw [p1.str]; rfl
    | tup l =>
      rcases p1 with h | ⟨_, _, _, _, h⟩
      · unfold Isd at h; obtain ⟨_, _, rfl, _⟩ := h; rfl
      · exact h.elim
    | scr l =>
      rcases p1 with h | ⟨_, _, _, _, h⟩
      · unfold Isd at h; obtain ⟨_, _, rfl, _⟩ := h; rfl
      · exact h.elim
    | lst l =>
      rcases p1 with h | ⟨_, _, rfl, _, h⟩
      · unfold Isd at h; obtain ⟨_, _, rfl, _⟩ := h; rfl
      · rfl
    | dct _ l =>
      rcases p1 with h | ⟨_, _, rfl, _, h⟩
      · unfold Isd at h; obtain ⟨_, _, rfl, _⟩ := h; rfl
      · rfl
    | ins _ _ l =>
      rcases p1 with h | ⟨_, _, rfl, _, h⟩
      · unfold Isd at h; obtain ⟨_, _, _, rfl, _⟩ := h; rfl
      · rfl
    | ty n => rw [p1.ty]; rfl
    | cls n => rw [p1.cls.1]; rfl
  · cases h
/-! ### any of them -/
def rCmp (K : PySem.W.Frag) : Cop → R2
  | .eq => rEqB K | .ne => rNeA K | .lt => rLtA K
  | .le => rI0 fun i j => .bl (decide (i ≤ j))
  | .gt => rI0 fun i j => .bl (decide (j < i))
  | .ge => rI0 fun i j => .bl (decide (j ≤ i))
  | .isn => fun x y H Q => y = .non ∧ Q (.bl (decide (x = .non))) H
  | .notn => fun x y H Q => y = .non ∧ Q (.bl (!decide (x = .non))) H
  | .inn => rInA K | .nin => rNinA K
theorem op_cmp {op : CmpOp} {o : Cop} (h : copOf op = some o) (hu : X.A.units + 64 < cLine) : OpR X (compareOp op) (rCmp X.K o) := by
  cases op <;> cases h
  · exact (op_eq.or (op_eqD hu)).or (op_eqT0 (by omega))
  · exact op_ne.or (op_neD hu)
  · exact op_lt.or (op_lt_str.or (op_ltT (by omega)))
  · exact op_le
  · exact op_gt
  · exact op_ge
  · exact op_isN
  · exact op_notN
  · exact op_in_seq.or (op_in_sign.or (op_din (by omega)))
  · exact op_notIn_seq.or (op_notIn_sign.or (op_dnin (by omega)))
theorem cop_ok {o : Cop} {a b : D} {k : Bool} {v1 v2 : V} (hK : X.K = Z.K) (p1 : Rep Z Hf H a v1) (p2 : Rep Z Hf H b v2) (sub : Same Hf H) (h : cop o a b = some k) (q : Q (.bl k) H) : rCmp X.K o v1 v2 H Q := by
  cases o with
  | eq => exact eqT_ok hK p1 p2 sub h q
  | ne =>
    obtain ⟨b, h1, rfl⟩ := Option.map_eq_some_iff.mp (show (eqD a b).map (!·) = some k from h)
    exact ne_ok hK p1 p2 sub h1 q
  | lt => exact lt_ok hK p1 p2 sub h q
  | le => exact le_ok (f := fun a b => decide (a ≤ b)) p1 p2 h q
  | gt => exact le_ok (f := fun a b => decide (b < a)) p1 p2 h q
  | ge => exact le_ok (f := fun a b => decide (b ≤ a)) p1 p2 h q
  | isn =>
    obtain ⟨h1, h2⟩ := isn_ok p1 p2 h
    exact ⟨h1, by rw [h2]; exact q⟩
  | notn =>
    obtain ⟨b, h1, rfl⟩ := Option.map_eq_some_iff.mp (show (isnD a b).map (!·) = some k from h)
    obtain ⟨h2, h3⟩ := isn_ok p1 p2 h1
    exact ⟨h2, by rw [h3]; exact q⟩
  | inn => exact (in_ok hK p1 p2 sub h).1 q
  | nin =>
    obtain ⟨b, h1, rfl⟩ := Option.map_eq_some_iff.mp (show (inD a b).map (!·) = some k from h)
    exact (in_ok hK p1 p2 sub h1).2 q
end
end Wd
-- WdSd6
set_option linter.all false
set_option maxRecDepth 100000
set_option maxHeartbeats 2000000
set_option Elab.async false
/-! Comparisons as values, tests; conditional expressions. -/
namespace Wd
open PySem L2
section
variable {Z : Wo} {W : WX} {X : Cx} {Hf H F : Hp} {s : Sto} {σ : L2.St} {v : V} {d : D} {T : Tab} {C : Str → List Sl → CRes} {Q : VK}
theorem t_rd2 {fa fb : Sto → Res Rv} {k : D → D → Sto → Res Rv} {r : V → V → Hp → Prop} {kk : Rv → Sto → Hp → Hp → Prop} (R : Rel Z Hf H F s σ)
    (h : Po Z W Hf F σ (bnd (fa s) fun x s => bnd (fb s) fun y s => bnd (opt "peek" (peek x s) s) fun x s => bnd (opt "peek" (peek y s) s) fun y s => k x y s) kk)
    (fin : ∀ d1 d2 s2 H2 Hf2 v1 v2, Same Hf Hf2 → Rel Z Hf2 H2 F s2 σ → Rep Z Hf2 H2 d1 v1 → Rep Z Hf2 H2 d2 v2 → Po Z W Hf2 F σ (k d1 d2 s2) kk → r v1 v2 H2) :
    tE Z W fa σ H fun v1 H1 => tE Z W fb σ H1 fun v2 H2 => r v1 v2 H2 := by
  refine t_two (r := fun x y H _ => r x y H) (Q := fun _ _ => True) R h fun x y s2 H2 Hf2 v1 v2 e2 R2 r1 r2 h2 => ?_
  obtain ⟨d1, hd1, h3⟩ := h2.bind.opt R2
  obtain ⟨d2, hd2, h4⟩ := h3.bind.opt R2
  exact fin d1 d2 s2 H2 Hf2 v1 v2 e2 R2 (rep_of R2 r1 hd1) (rep_of R2 r2 hd2) h4
theorem s_cmp {op : CmpOp} {o : Cop} {a b : Expr} {ia ib : Ie} {pos : Pos} (hK : X.K = Z.K) (hu : X.A.units + 64 < cLine) (ho : copOf op = some o) (hm : behindInMarks op b = false) (ha : PE X a (tE Z W (evE T C ia))) (hb : PE X b (tE Z W (evE T C ib))) :
    PE X (.Compare a [op] [b] pos) (tE Z W (evE T C (.cmp o ia ib))) := by
  refine ⟨fun pins s σ H Q I h => (pe_cmpR (op_cmp ho hu) ha hb hm).run pins s σ H Q I ?_⟩
  obtain ⟨Hf, F, st, R, h⟩ := h
  unfold evE at h
  refine t_rd2 R h fun d1 d2 s2 H2 Hf2 v1 v2 e2 R2 p1 p2 h2 => ?_
  obtain ⟨rr, hr, h3⟩ := Po.optP h2
  obtain ⟨b, hb, rfl⟩ := Option.map_eq_some_iff.mp hr
  exact cop_ok hK p1 p2 R2.sub hb (ret_v h3 R2 isd_bl)
theorem p_cmp {op : CmpOp} {o : Cop} {a b : Expr} {ia ib : Ie} {pos : Pos} (hK : X.K = Z.K) (hu : X.A.units + 64 < cLine) (ho : copOf op = some o) (hm : behindInMarks op b = false) (ha : PE X a (tE Z W (evE T C ia))) (hb : PE X b (tE Z W (evE T C ib))) :
    PT X (.Compare a [op] [b] pos) (tT Z W (evT T C (.cmp o ia ib))) := by
  refine pt_weak (pt_cmpR (op_cmp ho hu) ha hb hm) fun σ H Qb h => ?_
  obtain ⟨Hf, F, st, R, h⟩ := h
  unfold evT at h
  rw [evE] at h
  have h' : Po Z W Hf F σ (bnd (evE T C ia st) fun x s => bnd (evE T C ib s) fun y s => bnd (opt "peek" (peek x s) s) fun x s => bnd (opt "peek" (peek y s) s) fun y s => bnd (cmpE o x y s) fun r s => .ok r s)
      fun r s' H' Hf' => ∀ b, r = .v (.bl b) → Qb b H' := by
    revert h
    cases evE T C ia st with
    | bad _ => exact fun h => h
    | ex _ _ => exact fun h => h
    | ok x s1 =>
      show Po Z W Hf F σ (bnd (bnd (evE T C ib s1) _) _) _ → Po Z W Hf F σ (bnd (evE T C ib s1) _) _
      cases evE T C ib s1 with
      | bad _ => exact fun h => h
      | ex _ _ => exact fun h => h
      | ok y s2 =>
        show Po Z W Hf F σ (bnd (bnd (opt "peek" (peek x s2) s2) _) _) _ → Po Z W Hf F σ (bnd (opt "peek" (peek x s2) s2) _) _
        cases peek x s2 with
        | none => exact fun h => h
        | some d1 =>
          show Po Z W Hf F σ (bnd (bnd (opt "peek" (peek y s2) s2) _) _) _ → Po Z W Hf F σ (bnd (opt "peek" (peek y s2) s2) _) _
          cases peek y s2 with
          | none => exact fun h => h
          | some d2 =>
            show Po Z W Hf F σ (bnd (cmpE o d1 d2 s2) _) _ → Po Z W Hf F σ (bnd (cmpE o d1 d2 s2) _) _
            unfold cmpE
            cases cop o d1 d2 with
            | none => exact fun h => h
            | some b =>
              intro h H' Hf' e R b' hb'
              cases hb'
              exact h H' Hf' e R
  have e1 : tE Z W (evE T C ia) σ H (fun v1 H1 => tE Z W (evE T C ib) σ H1 (fun v2 H2 => rCmp X.K o v1 v2 H2 fun x H' => ∃ k, x = .bl k ∧ Qb k H')) := by
    refine t_rd2 R h' fun d1 d2 s2 H2 Hf2 v1 v2 e2 R2 p1 p2 h2 => ?_
    obtain ⟨rr, hr, h3⟩ := Po.optP h2.bind
    obtain ⟨b, hb, rfl⟩ := Option.map_eq_some_iff.mp hr
    exact cop_ok hK p1 p2 R2.sub hb ⟨b, rfl, (h3.at R2).at R2 b rfl⟩
  exact e1
theorem s_chain {op1 op2 : CmpOp} {o1 o2 : Cop} {a b c : Expr} {ia ib ic : Ie} {pos : Pos} (hK : X.K = Z.K) (hu : X.A.units + 64 < cLine) (h1 : copOf op1 = some o1) (h2 : copOf op2 = some o2) (hm : lastMarks [op1, op2] [b, c] = false)
    (ha : PE X a (tE Z W (evE T C ia))) (hb : PE X b (tE Z W (evE T C ib))) (hc : PE X c (tE Z W (evE T C ic))) : PE X (.Compare a [op1, op2] [b, c] pos) (tE Z W (evE T C (.chain o1 o2 ia ib ic))) := by
  refine ⟨fun pins s σ H Q I h => (pe_chain (op_cmp h1 hu) (op_cmp h2 hu) ha hb hc hm).run pins s σ H Q I ?_⟩
  obtain ⟨Hf, F, st, R, h⟩ := h
  rw [evE] at h
  refine t_one R h fun x s1 H1 Hf1 v1 e1 R1 r1 h => ?_
  refine t_one (R1.add r1) (h.frame (addT_sub r1)) fun y s2 H2 Hf2 v2 e2 R2 r2 h => ?_
  obtain ⟨d1, hd1, h⟩ := h.bind.opt R2
  obtain ⟨d2, hd2, h⟩ := h.bind.opt R2
  obtain ⟨k, hk, h⟩ := h.bind.opt R2
  have p1 := rep_of (R2.weak (addT_sub r1)) (r1.later e2 R2) hd1
  have p2 := rep_of R2 r2 hd2
  refine cop_ok hK p1 p2 R2.sub hk ⟨k, rfl, ?_⟩
  cases k with
  | false => exact iteF (ret_v h R2 isd_bl)
  | true =>
    refine iteT (t_one (R2.add r2) (h.frame (addT_sub r2)) fun z s3 H3 Hf3 v3 e3 R3 r3 h => ?_)
    obtain ⟨d2', hd2', h⟩ := h.bind.opt R3
    obtain ⟨d3, hd3, h⟩ := h.bind.opt R3
    obtain ⟨rr, hr, h⟩ := Po.optP h
    obtain ⟨b, hb, rfl⟩ := Option.map_eq_some_iff.mp hr
    exact cop_ok hK (rep_of (R3.weak (addT_sub r2)) (r2.later e3 R3) hd2') (rep_of R3 r3 hd3) R3.sub hb (ret_v h R3 isd_bl)
/-! ### and, or as tests -/
theorem evT_and (ia ib : Ie) (s : Sto) : evT T C (.and ia ib) s = bnd (evT T C ia s) fun b s => if b = true then evT T C ib s else .ok false s := by
  unfold evT
  rw [evE]
  cases h1 : evE T C ia s with
  | bad _ => rfl
  | ex _ _ => rfl
  | ok x s1 =>
    cases hp : peek x s1 with
    | none => simp [bnd, opt, hp]
    | some d =>
      cases ht : truth d with
      | none => simp [bnd, opt, hp, ht]
      | some k => cases k <;> simp [bnd, opt, hp, ht]
theorem evT_or (ia ib : Ie) (s : Sto) : evT T C (.or ia ib) s = bnd (evT T C ia s) fun b s => if b = true then .ok true s else evT T C ib s := by
  unfold evT
  rw [evE]
  cases h1 : evE T C ia s with
  | bad _ => rfl
  | ex _ _ => rfl
  | ok x s1 =>
    cases hp : peek x s1 with
    | none => simp [bnd, opt, hp]
    | some d =>
      cases ht : truth d with
      | none => simp [bnd, opt, hp, ht]
      | some k => cases k <;> simp [bnd, opt, hp, ht]
theorem evT_ite (ic ia ib : Ie) (s : Sto) : evT T C (.ite ic ia ib) s = bnd (evT T C ic s) fun b s => if b = true then evT T C ia s else evT T C ib s := by
  unfold evT
  rw [evE]
  unfold rd
  cases h1 : evE T C ic s with
  | bad _ => rfl
  | ex _ _ => rfl
  | ok x s1 =>
    cases hp : peek x s1 with
    | none => simp [bnd, opt, hp]
    | some d =>
      cases ht : truth d with
      | none => simp [bnd, opt, hp, ht]
      | some k => cases k <;> simp [bnd, opt, hp, ht]
theorem pw_weak {e : Expr} {t t' : TT} (h : PW X e t) (w : ∀ σ H Q, t' σ H Q → t σ H Q) : PW X e t' := ⟨fun wh pins s σ H Q I q => h.run wh pins s σ H Q I (w σ H Q q)⟩
theorem w_and {a b : Expr} {rest : List Expr} {ia ib : Ie} {pos : Pos} (ha : PT X a (tT Z W (evT T C ia))) (hb : PW X (.BoolOp .And (b :: rest) pos) (tT Z W (evT T C ib))) : PW X (.BoolOp .And (a :: b :: rest) pos) (tT Z W (evT T C (.and ia ib))) := by
  refine pw_weak (pw_and ha hb) fun σ H Qb h => ?_
  obtain ⟨Hf, F, st, R, h⟩ := h
  rw [evT_and] at h
  refine ⟨Hf, F, st, R, h.bind.imp fun k s2 H2 Hf2 e2 R2 h2 => ?_⟩
  cases k with
  | true => exact iteT ⟨Hf2, F, s2, R2, h2⟩
  | false => exact iteF (h2.at R2)
theorem w_or {a b : Expr} {rest : List Expr} {ia ib : Ie} {pos : Pos} (ha : PT X a (tT Z W (evT T C ia))) (hb : PW X (.BoolOp .Or (b :: rest) pos) (tT Z W (evT T C ib))) : PW X (.BoolOp .Or (a :: b :: rest) pos) (tT Z W (evT T C (.or ia ib))) := by
  refine pw_weak (pw_or ha hb) fun σ H Qb h => ?_
  obtain ⟨Hf, F, st, R, h⟩ := h
  rw [evT_or] at h
  refine ⟨Hf, F, st, R, h.bind.imp fun k s2 H2 Hf2 e2 R2 h2 => ?_⟩
  cases k with
  | true => exact iteT (h2.at R2)
  | false => exact iteF ⟨Hf2, F, s2, R2, h2⟩
theorem s_ite {c a b : Expr} {ic ia ib : Ie} {pos : Pos} (hc : PT X c (tT Z W (evT T C ic))) (ha : PE X a (tE Z W (evE T C ia))) (hb : PE X b (tE Z W (evE T C ib))) : PE X (.IfExp c a b pos) (tE Z W (evE T C (.ite ic ia ib))) := by
  refine ⟨fun pins s σ H Q I h => (pe_ifExp hc ha hb).run pins s σ H Q I ?_⟩
  obtain ⟨Hf, F, st, R, h⟩ := h
  have e : evE T C (.ite ic ia ib) st = bnd (evT T C ic st) fun b s => if b = true then evE T C ia s else evE T C ib s := by
    unfold evT
    rw [evE]
    unfold rd
    cases h1 : evE T C ic st with
    | bad _ => rfl
    | ex _ _ => rfl
    | ok x s1 =>
      cases hp : peek x s1 with
      | none => simp [bnd, opt, hp]
      | some d =>
        cases ht : truth d with
        | none => simp [bnd, opt, hp, ht]
        | some k => cases k <;> simp [bnd, opt, hp, ht]
  rw [e] at h
  refine ⟨Hf, F, st, R, h.bind.imp fun k s2 H2 Hf2 e2 R2 h2 => ?_⟩
  cases k with
  | true => exact iteT ⟨Hf2, F, s2, R2, h2⟩
  | false => exact iteF ⟨Hf2, F, s2, R2, h2⟩
theorem p_ite {c a b : Expr} {ic ia ib : Ie} {pos : Pos} (hc : PT X c (tT Z W (evT T C ic))) (ha : PT X a (tT Z W (evT T C ia))) (hb : PT X b (tT Z W (evT T C ib))) : PT X (.IfExp c a b pos) (tT Z W (evT T C (.ite ic ia ib))) := by
  refine ⟨fun pins s σ H Qb I h => ?_⟩
  obtain ⟨Hf, F, st, R, h⟩ := h
  rw [evT_ite] at h
  refine PyProof.Rows.isTrue_IfExp (thn (hc.run pins s σ H (fun k H2 => if k = true then tT Z W (evT T C ia) σ H2 Qb else tT Z W (evT T C ib) σ H2 Qb) I ⟨Hf, F, st, R, h.bind.imp fun k s2 H2 Hf2 e2 R2 h2 => ?_⟩) fun k s1 ⟨H1, I1, q⟩ => ?_)
  · cases k with
    | true => exact iteT ⟨Hf2, F, s2, R2, h2⟩
    | false => exact iteF ⟨Hf2, F, s2, R2, h2⟩
  · cases k with
    | true => exact ha.run pins s1 σ H1 Qb I1 q
    | false => exact hb.run pins s1 σ H1 Qb I1 q
end
end Wd
-- WdSd7
set_option linter.all false
set_option maxRecDepth 100000
set_option maxHeartbeats 2000000
set_option Elab.async false
/-! Subscripts, slices. -/
namespace Wd
open PySem L2 PySem.Spec PyProof.Rows
section
variable {Z : Wo} {W : WX} {X : Cx} {Hf H F : Hp} {s : Sto} {σ : L2.St} {v : V} {d : D} {T : Tab} {C : Str → List Sl → CRes} {Q : VK}
def rIxK : R2 := fun x y H Q => ∃ a v, x = .ref a ∧ DGet H a y (some v) ∧ Q v H
theorem ix_dct (hu : X.A.units + 1 < cLine) : IxR X rIxK := by
  intro value slice pins s σ H x y v u Q I rx ry h hs
  obtain ⟨a, w, rfl, g, q⟩ := h
  cases rx
  have hT := dict_typeIs I g
  unfold subscriptTail
  refine wpAny_bind ?_
  rw [getitemInPython_of_ne hT.not_modules]
  refine wpAny_bind (wpAny_specialOf hT PySem.F.slot_dict_getitem.lookup ?_)
  have h₂ : wpAny (model X.prog X.w) X.A (getItem (.ref a) u) (EP X pins σ Q) X.xe s := d_getItem hu I g ry fun w' s3 I3 rw' => ⟨w, H, I3, rw', q⟩
  have fin : wpAny (model X.prog X.w) X.A (subscripted slice false (.ref a) u) (fun r s₃ => wpAny (model X.prog X.w) X.A (letTemporaryGo value (.ref a) r >>= fun _ => pure r) (EP X pins σ Q) X.xe s₃) X.xe s := by
    rw [hs]
    exact wpAny_operating (wpAny_mono h₂ (fun r s₃ h₃ => wpAny_bind (wpAny_letTemporaryGo (wpAny_pure h₃))) fun _ _ x => x)
  first
    | exact wpAny_pure (wpAny_bind fin)
    | exact wpAny_bind (wpAny_pure (wpAny_bind fin))
    | exact wpAny_bind fin
def rIxA (K : PySem.W.Frag) : R2 := fun x y H Q => rIx K x y H Q ∨ rIxK x y H Q
theorem op_ix (hu : X.A.units + 64 < cLine) : IxR X (rIxA X.K) := ix_seq.or (ix_dct (by omega))
theorem atIx_V {l : List D} {vs : List V} {i : Int} (h : Isl Z Hf l vs) (e : atIx l i = some d) : ∃ v, L2.atI vs i = some v ∧ Isd Z Hf d v := by
  unfold atIx at e
  have hl := h.length
  unfold L2.atI L2.ixN
  split at e
  · rename_i h0
    obtain ⟨v, hv, q⟩ := h.get e
    refine ⟨v, ?_, q⟩
    have : i.toNat < vs.length := (List.getElem?_eq_some_iff.mp hv).1
    rw [if_pos h0, if_pos (by omega)]
    exact hv
  · rename_i h0
    split at e
    · rename_i h1
      obtain ⟨v, hv, q⟩ := h.get e
      refine ⟨v, ?_, q⟩
      rw [if_neg h0, if_pos (by omega), ← hl]
      exact hv
    · cases e
theorem ixD_ok {a k : D} {r : Rv} {v1 v2 : V} (hK : X.K = Z.K) (R : Rel Z Hf H F s σ) (p1 : Rep Z Hf H a v1) (p2 : Rep Z Hf H k v2) (hb : ixD a k = some r)
    (h : Po Z W Hf F σ (.ok r s) fun r s' H' Hf' => ∀ v, RR Z Hf' H' F s' σ r v → Q v H') : rIxA X.K v1 v2 H Q := by
  unfold ixD at hb
  split at hb
  · split at hb
    · obtain ⟨d, hd, rfl⟩ := Option.map_eq_some_iff.mp hb
      obtain ⟨a1, vs1, e1, g1, i1⟩ := p1.lst R.sub
      obtain ⟨v, hv, q⟩ := atIx_V i1 hd
      exact .inl (.inl ⟨a1, vs1, _, v, e1, p2.int, SqL.of g1, hv, ret_v h R q⟩)
    · cases hb
  · split at hb
    · obtain ⟨d, hd, rfl⟩ := Option.map_eq_some_iff.mp hb
      obtain ⟨a1, vs1, e1, g1, i1⟩ := p1.tup R.sub
      obtain ⟨v, hv, q⟩ := atIx_V i1 hd
      exact .inl (.inr (.inl ⟨a1, vs1, _, v, e1, p2.int, by rw [hK]; exact g1, hv, ret_v h R q⟩))
    · cases hb
  · split at hb
    · obtain ⟨d, hd, rfl⟩ := Option.map_eq_some_iff.mp hb
      obtain ⟨a1, vs1, e1, g1, i1⟩ := p1.scr R.sub
      obtain ⟨v, hv, q⟩ := atIx_V i1 hd
      exact .inl (.inl ⟨a1, vs1, _, v, e1, p2.int, by rw [hK]; exact g1, hv, ret_v h R q⟩)
    · cases hb
  · split at hb
    · rename_i z _ i
      unfold ixS at hb
      split at hb
      · rename_i hz
        obtain ⟨j, hj, hb⟩ := Option.bind_eq_some_iff.mp hb
        obtain ⟨c, hc, rfl⟩ := Option.map_eq_some_iff.mp hb
        refine .inl (.inr (.inr ⟨z, i, c, p1.str, p2.int, Nat.le_trans hz lim_le, ?_, ret_v h R isd_str⟩))
        have hl : z.cps.toList.length = slen z := by simp [slen]
        unfold L2.atI L2.ixN
        unfold ixN at hj
        rw [hl]
        split at hj
        · cases hj
          rename_i h1
          rw [if_pos h1.1, if_pos h1.2]
          simpa using hc
        · split at hj
          · cases hj
            rename_i h0 h1
            rw [if_neg (by omega), if_pos (by omega)]
            simpa using hc
          · cases hj
      · cases hb
    · cases hb
  · obtain ⟨d, hd, rfl⟩ := Option.map_eq_some_iff.mp hb
    obtain ⟨k', hk, hd⟩ := Option.bind_eq_some_iff.mp hd
    obtain ⟨a1, vs1, e1, e2, g1, i1⟩ := p1.dct R.sub
    obtain ⟨v, hv, q⟩ := (valV_kget e2 i1).1 d hd
    refine .inr ⟨a1, v, e1, ?_, ret_v h R q⟩
    rw [keyOf_kV hk p2, ← hv]
    exact DGet.k g1
  · cases hb
theorem s_ix {a b : Expr} {ia ib : Ie} {pos : Pos} (hK : X.K = Z.K) (hu : X.A.units + 64 < cLine) (hs : PlainIx b) (ha : PE X a (tE Z W (evE T C ia))) (hb : PE X b (tE Z W (evE T C ib))) :
    PE X (.Subscript a b pos) (tE Z W (evE T C (.ix ia ib))) := by
  refine ⟨fun pins s σ H Q I h => (pe_ix (op_ix hu) ha hb hs).run pins s σ H Q I ?_⟩
  obtain ⟨Hf, F, st, R, h⟩ := h
  rw [evE] at h
  refine t_rd2 R h fun d1 d2 s2 H2 Hf2 v1 v2 e2 R2 p1 p2 h2 => ?_
  obtain ⟨rr, hr, h3⟩ := Po.optP h2
  exact ixD_ok hK R2 p1 p2 hr h3
end
end Wd
-- WdSd8
set_option linter.all false
set_option maxRecDepth 100000
set_option maxHeartbeats 2000000
set_option Elab.async false
/-! Slices. -/
namespace HT
open PySem PySem.Spec PyProof.Rows
section
variable {prog : Program} {w : World} {A : Around} {E : Value → Shared → Prop} {s : Shared}
theorem sliceApplied_step {sl : Addr} {vl vu vs : Value} {lo hi : Option Int} {k : Int} {n : Nat} {Q : Int × Int × Nat → Shared → Prop} (hs : s.heap.IsSliceOf sl vl vu vs) (pl : IsPart vl lo) (pu : IsPart vu hi) (pk : IsPart vs (some k)) (h0 : k ≠ 0)
    (h : Q ((Builtin.Slice.sliceAdjust lo hi k (n : Int)).1, k, Builtin.Slice.slicePlaces (Builtin.Slice.sliceAdjust lo hi k (n : Int)).1 (Builtin.Slice.sliceAdjust lo hi k (n : Int)).2 k) s) : wpAny (model prog w) A (Builtin.Slice.sliceApplied (.ref sl) (pure (n : Int))) Q E s := by
  obtain ⟨os, hos, hcs, hds⟩ := id hs
  unfold Builtin.Slice.sliceApplied Builtin.Slice.sliceFields
  refine wpAny_bind (wpAny_bind (wpAny_field hos hds (x := vl) rfl (wpAny_bind (wpAny_field hos hds (x := vu) rfl (wpAny_bind (wpAny_field hos hds (x := vs) rfl (wpAny_pure ?_)))))))
  refine wpAny_bind (slicePart_ pk ?_)
  show wpAny _ _ (if (k == 0) = true then _ else _) _ _ s
  rw [if_neg (by simpa using h0)]
  refine wpAny_bind (slicePart_ pl (wpAny_bind (slicePart_ pu (wpAny_bind (wpAny_pure ?_)))))
  exact wpAny_pure h
theorem pickL_size {xs : Array Value} (a k : Int) (c : Nat) : ((List.range c).filterMap fun (m : Nat) => xs[(a + (m : Int) * k).toNat]?).toArray.size ≤ c := by
  rw [List.size_toArray]
  exact Nat.le_trans (List.length_filterMap_le _ _) (by simp)
theorem getItem_tuple_step {t sl : Addr} {items : Array Value} {vl vu vs : Value} {lo hi : Option Int} {k : Int} {Q : Value → Shared → Prop} (ht : IsTup s.heap t items) (hs : s.heap.IsSliceOf sl vl vu vs) (pl : IsPart vl lo) (pu : IsPart vu hi) (pk : IsPart vs (some k))
    (h0 : k ≠ 0) (h1 : k ≠ 1) (hz : Builtin.Slice.slicePlaces (Builtin.Slice.sliceAdjust lo hi k (items.size : Int)).1 (Builtin.Slice.sliceAdjust lo hi k (items.size : Int)).2 k ≤ sizeLine)
    (h : Q (.ref s.heap.objs.size) { s with heap := s.heap.push { cls := .type "tuple", data := .seq ((List.range (Builtin.Slice.slicePlaces (Builtin.Slice.sliceAdjust lo hi k (items.size : Int)).1 (Builtin.Slice.sliceAdjust lo hi k (items.size : Int)).2 k)).filterMap fun (m : Nat) => items[((Builtin.Slice.sliceAdjust lo hi k (items.size : Int)).1 + (m : Int) * k).toNat]?).toArray } })
    : wpAny (model prog w) A (getItem (.ref t) (.ref sl)) Q E s := by
  have htake : sizeOk (.seq ((List.range (Builtin.Slice.slicePlaces (Builtin.Slice.sliceAdjust lo hi k (items.size : Int)).1 (Builtin.Slice.sliceAdjust lo hi k (items.size : Int)).2 k)).filterMap fun (m : Nat) => items[((Builtin.Slice.sliceAdjust lo hi k (items.size : Int)).1 + (m : Int) * k).toNat]?).toArray) := by
    exact Nat.le_trans (pickL_size _ _ _) hz
  obtain ⟨os, hos, hcs, hds⟩ := id hs
  have hTs : s.TypeIs (.ref sl) "slice" := ⟨os, hos, hcs⟩
  unfold getItem
  try with_reducible refine wpAny_holding ?_
  first | refine wpAny_bind (wpAny_pure ?_) | skip
  refine wpAny_bind (wpAny_sequenceKey ht.typeIs (by decide) ?_)
  refine wpAny_bind (wpAny_callSpecial?_slot (name := Str.ofString "__getitem__") ht.typeIs PyProof.Rows.slot_tuple_getitem
    (wpAny_call_entry PyProof.Rows.slot_tuple_getitem ht.typeIs entry_tuple_getitem ?_ (args_tuple_getitem _ _)))
  show wpAny _ _ (Builtin.Tuple.tupleItemsOf (.ref t) >>= _) _ _ s
  refine wpAny_bind (tupleItemsOf_ ht ?_)
  refine wpAny_bind (wpAny_typeOf hTs ?_)
  rw [if_pos (by decide)]
  refine wpAny_bind (sliceApplied_step hs pl pu pk h0 ?_)
  have hno : ¬ (((Builtin.Slice.sliceAdjust lo hi k (items.size : Int)).1 == 0 && k == 1 && (Builtin.Slice.slicePlaces (Builtin.Slice.sliceAdjust lo hi k (items.size : Int)).1 (Builtin.Slice.sliceAdjust lo hi k (items.size : Int)).2 k) == items.size) = true) := by
    intro q
    rw [Bool.and_eq_true, Bool.and_eq_true] at q
    exact h1 (eq_of_beq q.1.2)
  show wpAny _ _ (if ((Builtin.Slice.sliceAdjust lo hi k (items.size : Int)).1 == 0 && k == 1 && (Builtin.Slice.slicePlaces (Builtin.Slice.sliceAdjust lo hi k (items.size : Int)).1 (Builtin.Slice.sliceAdjust lo hi k (items.size : Int)).2 k) == items.size) = true then _ else _) _ _ s
  rw [if_neg hno]
  first
    | exact wpAny_bind (m := Builtin.Tuple.tupleExact _) (wpAny_newObj_type (wpAny_pure ⟨_, rfl, wpAny_pure h⟩) htake)
    | exact wpAny_bind (m := Builtin.Tuple.tupleExact _) (wpAny_newObj_type (wpAny_bind (wpAny_pure (wpAny_pure ⟨_, rfl, wpAny_pure h⟩))) htake)
    | exact wpAny_bind (wpAny_bind (m := Builtin.Tuple.tupleExact _) (wpAny_newObj_type (wpAny_pure (wpAny_pure ⟨_, rfl, wpAny_pure h⟩)) htake))
    | exact wpAny_bind (wpAny_bind (m := Builtin.Tuple.tupleExact _) (wpAny_newObj_type (wpAny_pure ⟨_, rfl, wpAny_pure h⟩) htake))
end
end HT
namespace Wd
open PySem L2 PySem.Spec PyProof.Rows
section
variable {Z : Wo} {W : WX} {X : Cx} {Hf H F : Hp} {s : Sto} {σ : L2.St} {v : V} {d : D} {T : Tab} {C : Str → List Sl → CRes} {Q : VK}
/-! ### plain slices -/
def tPt (Z : Wo) (W : WX) (f : Sto → Res Rv) : TO := fun σ H Q => tE Z W f σ H fun v H' => (v = .non ∧ Q none H') ∨ ∃ i, v = .int i ∧ Q (some i) H'
theorem po_non : PO X none (tPt Z W (evE T C (.con .non))) := by
  refine ⟨fun pins s σ H Q I h => po_none.run pins s σ H Q I ?_⟩
  have := tE_con (v := .non) (fun _ => isd_non) (fun _ => by rw [evE]) h
  rcases this with ⟨_, q⟩ | ⟨i, e, q⟩
  · exact q
  · cases e
theorem po_e {e : Expr} {ie : Ie} (h : PE X e (tE Z W (evE T C ie))) : PO X (some e) (tPt Z W (evE T C ie)) := by
  refine ⟨fun pins s σ H Q I hw => ?_⟩
  rw [evalPart_some]
  refine thn (h.run pins s σ H _ I hw) fun u s1 ⟨x, H1, I1, r1, q1⟩ => ?_
  rcases q1 with ⟨rfl, q⟩ | ⟨i, rfl, q⟩
  · cases (show u = Value.none from r1)
    exact ⟨none, H1, I1, .none, q⟩
  · obtain ⟨t, rfl⟩ := r1
    exact ⟨some i, H1, I1, .int i t, q⟩
def rSlD (K : PySem.W.Frag) : V → Option Int → Option Int → Hp → VK → Prop := fun x lo hi H Q => (rSlL K x lo hi H Q ∨ rSlA K x lo hi H Q) ∨ rSlS x lo hi H Q
theorem sl_all : SlR X (rSlD X.K) := (sl_list.or sl_tupA).or sl_str
theorem cutV_eq (vs : List V) (lo hi : Option Int) : L2.cutV vs lo hi = cut vs (HT.sIx vs.length 0 lo) (HT.sIx vs.length vs.length hi) := rfl
theorem Isl.cut {l : List D} {vs : List V} (a b : Nat) (h : Isl Z Hf l vs) : Isl Z Hf (Wd.cut l a b) (Wd.cut vs a b) := (h.drop a).take _
theorem slD_ok {a : D} {lo hi : Option Int} {r : Rv} (hK : X.K = Z.K) (R : Rel Z Hf H F s σ) (p1 : Rep Z Hf H a v) (hb : slD a lo hi = some r)
    (h : Po Z W Hf F σ (.ok r s) fun r s' H' Hf' => ∀ v, RR Z Hf' H' F s' σ r v → Q v H') : rSlD X.K v lo hi H Q := by
  unfold slD at hb
  split at hb
  · cases hb
    obtain ⟨a1, vs1, e1, g1, i1⟩ := p1.lst R.sub
    refine .inl (.inl ⟨a1, vs1, e1, SqL.of g1, fun p hp => ?_⟩)
    rw [cutV_eq, ← i1.length]
    exact ret_n h R hp ⟨_, rfl, i1.cut _ _⟩
  · cases hb
    obtain ⟨a1, vs1, e1, g1, i1⟩ := p1.scr R.sub
    refine .inl (.inl ⟨a1, vs1, e1, by rw [hK]; exact g1, fun p hp => ?_⟩)
    rw [cutV_eq, ← i1.length]
    exact ret_n h R hp ⟨_, rfl, i1.cut _ _⟩
  · cases hb
    rename_i l
    obtain ⟨a1, vs1, e1, g1, i1⟩ := p1.tup R.sub
    refine .inl (.inr ⟨a1, vs1, e1, by rw [hK]; exact g1, fun hw => ?_, fun _ p hp => ?_⟩)
    · rw [← i1.length] at hw
      have : Wd.cut l (HT.sIx l.length 0 lo) (HT.sIx l.length l.length hi) = l := by
        unfold Wd.cut
        rw [hw.1, hw.2]; simp
      rw [this] at h
      rw [← e1]
      exact ret_v h R p1.isT
    · rw [cutV_eq, ← i1.length]
      exact ret_t h R hp (i1.cut _ _)
  · split at hb
    · cases hb
      rename_i z hz
      exact .inr ⟨z, p1.str, Nat.le_trans hz lim_le, ret_v h R isd_str⟩
    · cases hb
  · cases hb
theorem s_sl {a : Expr} {lo hi : Option Expr} {ia il ih : Ie} {p2 pos : Pos} (hK : X.K = Z.K) (ha : PE X a (tE Z W (evE T C ia))) (hl : PO X lo (tPt Z W (evE T C il))) (hh : PO X hi (tPt Z W (evE T C ih))) :
    PE X (.Subscript a (.Slice lo hi none p2) pos) (tE Z W (evE T C (.sl ia il ih))) := by
  refine ⟨fun pins s σ H Q I h => (pe_slice sl_all ha hl hh).run pins s σ H Q I ?_⟩
  obtain ⟨Hf, F, st, R, h⟩ := h
  rw [evE] at h
  refine t_one R h fun x s1 H1 Hf1 v1 e1 R1 r1 h => ?_
  refine t_rdF (addT_sub r1) (R1.add r1) h fun d1 s2 H2 Hf2 v2 e2 R2 p2 h => ?_
  obtain ⟨lo', hlo, h⟩ := h.bind.opt (R2.weak (addT_sub r1))
  have key : ∀ (G : Option Int → Hp → Prop), G lo' H2 → (v2 = .non ∧ G none H2) ∨ ∃ i, v2 = .int i ∧ G (some i) H2 := fun G g => by
    unfold part at hlo
    split at hlo
    · cases hlo; exact .inl ⟨p2.non, g⟩
    · cases hlo; exact .inr ⟨_, p2.int, g⟩
    · cases hlo
  refine key (fun l H2 => tPt Z W (evE T C ih) σ H2 fun u H3 => rSlD X.K v1 l u H3 Q) ?_
  refine t_rdF (addT_sub r1) R2 h fun d2 s3 H3 Hf3 v3 e3 R3 p3 h => ?_
  have R3' := R3.weak (addT_sub r1)
  obtain ⟨hi', hhi, h⟩ := h.bind.opt R3'
  have key : ∀ (G : Option Int → Hp → Prop), G hi' H3 → (v3 = .non ∧ G none H3) ∨ ∃ i, v3 = .int i ∧ G (some i) H3 := fun G g => by
    unfold part at hhi
    split at hhi
    · cases hhi; exact .inl ⟨p3.non, g⟩
    · cases hhi; exact .inr ⟨_, p3.int, g⟩
    · cases hhi
  refine key (fun u H3 => rSlD X.K v1 lo' u H3 Q) ?_
  obtain ⟨d, hd, h⟩ := h.bind.opt R3'
  obtain ⟨rr, hr, h⟩ := Po.optP h
  have r1' := r1.later (e2.trans e3) R3
  exact slD_ok hK R3' (rep_of R3' r1' hd) hr h
end
end Wd
-- WdSd9
set_option linter.all false
set_option maxRecDepth 100000
set_option maxHeartbeats 2000000
set_option Elab.async false
/-! Slices with a step. -/
namespace Wd
open PySem L2 PySem.Spec PyProof.Rows
section
variable {Z : Wo} {W : WX} {X : Cx} {Hf H F : Hp} {s : Sto} {σ : L2.St} {v : V} {d : D} {T : Tab} {C : Str → List Sl → CRes} {Q : VK}
theorem vals_pick {xs : List V} {us : List Value} (r : Vals xs us) (a k : Int) : ∀ ms : List Nat, Vals (ms.filterMap fun (m : Nat) => xs[(a + (m : Int) * k).toNat]?) (ms.filterMap fun (m : Nat) => us[(a + (m : Int) * k).toNat]?)
  | [] => .nil
  | m :: ms => by
    rw [List.filterMap_cons, List.filterMap_cons]
    cases e : xs[(a + (m : Int) * k).toNat]? with
    | none =>
      have : us[(a + (m : Int) * k).toNat]? = none := by
        rw [List.getElem?_eq_none_iff] at e ⊢
        rw [← r.length]; exact e
      rw [this]
      exact vals_pick r a k ms
    | some x =>
      obtain ⟨u, hu, q⟩ := r.get e
      rw [hu]
      exact .cons q (vals_pick r a k ms)
theorem isl_pick {l : List D} {vs : List V} (h : Isl Z Hf l vs) (a k : Int) : ∀ ms : List Nat, Isl Z Hf (ms.filterMap fun (m : Nat) => l[(a + (m : Int) * k).toNat]?) (ms.filterMap fun (m : Nat) => vs[(a + (m : Int) * k).toNat]?)
  | [] => isl_nil.mpr rfl
  | m :: ms => by
    rw [List.filterMap_cons, List.filterMap_cons]
    cases e : l[(a + (m : Int) * k).toNat]? with
    | none =>
      have : vs[(a + (m : Int) * k).toNat]? = none := by
        rw [List.getElem?_eq_none_iff] at e ⊢
        rw [← h.length]; exact e
      rw [this]
      exact isl_pick h a k ms
    | some x =>
      obtain ⟨u, hu, q⟩ := h.get e
      rw [hu]
      exact isl_cons.mpr ⟨u, _, rfl, q, isl_pick h a k ms⟩
theorem adj_rev (n : Nat) : Builtin.Slice.sliceAdjust none none (-1) (n : Int) = ((n : Int) - 1, -1) := by
  unfold Builtin.Slice.sliceAdjust
  simp
theorem places_rev (n : Nat) : Builtin.Slice.slicePlaces ((n : Int) - 1) (-1) (-1) = n := by
  unfold Builtin.Slice.slicePlaces
  rw [if_neg (by decide)]
  split
  · have : -(-1 : Int) = 1 := rfl
    rw [this, Int.ediv_one]
    omega
  · omega
theorem adj_step (lo n k : Nat) (hk : 0 < k) : Builtin.Slice.sliceAdjust (some (lo : Int)) none (k : Int) (n : Int) = (((min lo n : Nat) : Int), (n : Int)) := by
  unfold Builtin.Slice.sliceAdjust
  have : ¬ ((k : Int) < 0) := by omega
  simp only [this, if_false]
  rw [if_neg (by omega)]
  refine Prod.ext ?_ rfl
  show min (lo : Int) (n : Int) = _
  omega
theorem pick_rev (items : Array Value) : slicePick items none none (some (-1)) = (pickL items.toList ((items.size : Int) - 1) (-1) items.size).toArray := by
  unfold slicePick
  have e : sliceBounds none none (some (-1)) items.size = ((items.size : Int) - 1, -1, -1) := by
    unfold sliceBounds
    simp
  rw [e]
  unfold pickL sliceRange
  rw [List.filterMap_map]
  have e1 : (if (-1 : Int) > 0 then (if (items.size : Int) - 1 < -1 then ((-1 : Int) - ((items.size : Int) - 1) + -1 - 1) / -1 else 0) else if (items.size : Int) - 1 > -1 then ((items.size : Int) - 1 - -1 - -1 - 1) / (- -1) else 0) = (items.size : Int) := by
    rw [if_neg (by decide)]
    have : -(-1 : Int) = 1 := rfl
    rw [this, Int.ediv_one]
    split <;> omega
  simp only [e1, Int.toNat_natCast]
  congr 2
  funext m
  show items[((items.size : Int) - 1 + -1 * (m : Int)).toNat]? = _
  rw [Int.mul_comm]
  simp
theorem pick_step (items : Array Value) (lo k : Nat) (hk : 0 < k) : slicePick items (some (lo : Int)) none (some (k : Int)) = (pickL items.toList ((min lo items.size : Nat) : Int) (k : Int) (stepN items.size lo k)).toArray := by
  unfold slicePick
  have hp : (k : Int) > 0 := by omega
  have e : sliceBounds (some (lo : Int)) none (some (k : Int)) items.size = (((min lo items.size : Nat) : Int), (items.size : Int), (k : Int)) := by
    unfold sliceBounds
    simp only [Option.getD_some, hp, if_true]
    rw [if_neg (by omega)]
    refine Prod.ext ?_ rfl
    show max 0 (min (lo : Int) (items.size : Int)) = _
    omega
  rw [e]
  unfold pickL sliceRange stepN Builtin.Slice.slicePlaces
  rw [List.filterMap_map]
  simp only [hp, if_true]
  have e1 : (if ((min lo items.size : Nat) : Int) < (items.size : Int) then ((items.size : Int) - ((min lo items.size : Nat) : Int) + (k : Int) - 1) / (k : Int) else 0) =
      (if ((min lo items.size : Nat) : Int) < (items.size : Int) then ((items.size : Int) - ((min lo items.size : Nat) : Int) - 1) / (k : Int) + 1 else 0) := by
    split
    · have h : (items.size : Int) - ((min lo items.size : Nat) : Int) + (k : Int) - 1 = ((items.size : Int) - ((min lo items.size : Nat) : Int) - 1) + (k : Int) * 1 := by omega
      rw [h, Int.add_mul_ediv_left _ _ (by omega)]
    · rfl
  rw [e1]
  congr 2
  funext m
  show items[(((min lo items.size : Nat) : Int) + (k : Int) * (m : Int)).toNat]? = _
  rw [Int.mul_comm]
  simp
theorem pickL_len {α : Type} (l : List α) (a k : Int) (c : Nat) : (pickL l a k c).length ≤ c := by
  unfold pickL
  exact Nat.le_trans (List.length_filterMap_le _ _) (by simp)
theorem stepN_le (n lo k : Nat) (hk : 0 < k) : stepN n lo k ≤ n := by
  unfold stepN Builtin.Slice.slicePlaces
  rw [if_pos (by omega)]
  split
  · have : ((n : Int) - ((min lo n : Nat) : Int) - 1) / (k : Int) ≤ (n : Int) - ((min lo n : Nat) : Int) - 1 := Int.ediv_le_self _ (by omega)
    omega
  · simp
/-- x[::-1] -/
def rRev (K : PySem.W.Frag) : V → Hp → VK → Prop := fun x H Q =>
  (∃ a xs, x = .ref a ∧ SqL K H a xs ∧ ∀ p, H p = none → Q (.ref p) (upd H p (.lst (pickL xs ((xs.length : Int) - 1) (-1) xs.length)))) ∨
  (∃ a xs, x = .ref a ∧ SqT K H a xs ∧ ∀ p, H p = none → Q (.ref p) (upd H p (.tup (pickL xs ((xs.length : Int) - 1) (-1) xs.length))))
/-- x[lo::k] -/
def rStep (K : PySem.W.Frag) (k : Nat) : R2 := fun x y H Q => ∃ lo : Nat, y = .int lo ∧ (
  (∃ a xs, x = .ref a ∧ SqL K H a xs ∧ ∀ p, H p = none → Q (.ref p) (upd H p (.lst (pickL xs ((min lo xs.length : Nat) : Int) k (stepN xs.length lo k))))) ∨
  (∃ a xs, x = .ref a ∧ SqT K H a xs ∧ ∀ p, H p = none → Q (.ref p) (upd H p (.tup (pickL xs ((min lo xs.length : Nat) : Int) k (stepN xs.length lo k))))))
theorem arr_pick (us : List Value) (a k : Int) (c : Nat) : (List.range c).filterMap (fun (m : Nat) => us.toArray[(a + (m : Int) * k).toNat]?) = pickL us a k c := by
  unfold pickL; simp
theorem pe_rev {a : Expr} {ta : TE} {p1 p2 p3 p4 : Pos} {kk : Nat} (ha : PE X a ta) : PE X (.Subscript a (.Slice none none (some (.UnaryOp .USub (.Constant (.int 1) kk p1) p2)) p3) p4) (fun σ H Q => ta σ H fun x H1 => rRev X.K x H1 Q) := by
  refine ⟨fun pins s σ H Q I h => ?_⟩
  refine Subscript_ (thn (ha.run pins s σ H _ I h) fun v s1 ⟨x, H1, I1, r1, q1⟩ => ?_)
  refine wpAny_Slice ?_
  rw [evalPart_none]
  refine wpAny_pure (wpAny_pure ?_)
  rw [evalPart_some]
  refine thn ((pe_un un_neg pe_int).run pins s1 σ H1 (fun y H2 => y = .int (-1) ∧ H2 = H1) I1 ⟨1, rfl, rfl, rfl⟩) fun vk s3 ⟨y, H3, I3, ry, ey, eH⟩ => ?_
  subst ey
  subst eH
  obtain ⟨t, rfl⟩ := ry
  have I4 : Inv X pins σ H3 { s3 with heap := s3.heap.push { cls := .type "slice", data := .fields #[.none, .none, .int (-1) t] } } := I3.kept (t' := s3.toks) fun b ob q => Heap.get?_push_of_some _ q
  have hs : (s3.heap.push { cls := .type "slice", data := .fields #[.none, .none, .int (-1) t] }).IsSliceOf s3.heap.objs.size .none .none (.int (-1) t) := Heap.IsSliceOf.new ..
  show wpAny (model X.prog X.w) X.A (subscriptTail a _ v (.ref s3.heap.objs.size)) (EP X pins σ Q) X.xe { s3 with heap := s3.heap.push { cls := .type "slice", data := .fields #[.none, .none, .int (-1) t] } }
  rcases q1 with ⟨a1, xs, rfl, hx, q⟩ | ⟨a1, xs, rfl, hx, q⟩
  · cases r1
    obtain ⟨its, r, ht, hz⟩ := I4.list hx
    have hlen := r.length
    have hsz : its.toArray.size = xs.length := by rw [List.size_toArray]; exact hlen.symm
    refine tail_any (ops := [.ref a1, .ref s3.heap.objs.size]) ht.isList.typeIs slot_list_getitem.lookup ?_ (by with_unfolding_all rfl)
    refine wpAny_getItem_list_slice ht.isList hs .none .none (.int (-1) t) (by simp) ?_ (by rw [hsz]; exact hz)
    rw [pick_rev, hsz]
    refine ⟨.ref _, _, I4.laid (t' := s3.toks) (o := .lst (pickL xs ((xs.length : Int) - 1) (-1) xs.length)) (fun b ob q => Heap.get?_push_of_some _ q) (Nat.le_refl _) ?_, rfl, q _ (I4.hok.fresh (Nat.le_refl _))⟩
    exact ⟨Nat.le_trans (pickL_len ..) hz, _, 0, vals_pick r _ _ _, Heap.get?_push_size _ rfl⟩
  · cases r1
    obtain ⟨its, r, ht, hz⟩ := I4.tuple hx
    have hlen := r.length
    have hsz : its.toArray.size = xs.length := by rw [List.size_toArray]; exact hlen.symm
    refine tail_any (ops := [.ref a1, .ref s3.heap.objs.size]) ht.typeIs slot_tuple_getitem.lookup ?_ (by with_unfolding_all rfl)
    refine HT.getItem_tuple_step ht hs .none .none (.int (-1) t) (by decide) (by decide) ?_ ?_
    · rw [adj_rev, places_rev, hsz]; exact hz
    · rw [adj_rev, places_rev, hsz, arr_pick]
      refine ⟨.ref _, _, I4.laid (t' := s3.toks) (o := .tup (pickL xs ((xs.length : Int) - 1) (-1) xs.length)) (fun b ob q => Heap.get?_push_of_some _ q) (Nat.le_refl _) ?_, rfl, q _ (I4.hok.fresh (Nat.le_refl _))⟩
      exact ⟨Nat.le_trans (pickL_len ..) hz, _, vals_pick r _ _ _, IsTup.new _ _⟩
theorem pe_step {a l : Expr} {ta tl : TE} {p1 p3 p4 : Pos} {kk k : Nat} (hk : 2 ≤ k) (ha : PE X a ta) (hl : PE X l tl) : PE X (.Subscript a (.Slice (some l) none (some (.Constant (.int (k : Int)) kk p1)) p3) p4) (tOp (rStep X.K k) ta tl) := by
  refine ⟨fun pins s σ H Q I h => ?_⟩
  refine Subscript_ (thn (ha.run pins s σ H _ I h) fun v s1 ⟨x, H1, I1, r1, q1⟩ => ?_)
  refine wpAny_Slice ?_
  rw [evalPart_some]
  refine thn (hl.run pins s1 σ H1 _ I1 q1) fun vl s2 ⟨y, H2, I2, ry, lo, ey, q2⟩ => ?_
  subst ey
  obtain ⟨tl', rfl⟩ := ry
  rw [evalPart_none]
  refine wpAny_pure ?_
  rw [evalPart_some]
  refine thn (pe_int.run pins s2 σ H2 (fun y H3 => y = .int k ∧ H3 = H2) I2 ⟨rfl, rfl⟩) fun vk s3 ⟨y, H3, I3, ry, ey, eH⟩ => ?_
  subst ey
  subst eH
  obtain ⟨t, rfl⟩ := ry
  have I4 : Inv X pins σ H3 { s3 with heap := s3.heap.push { cls := .type "slice", data := .fields #[.int lo tl', .none, .int k t] } } := I3.kept (t' := s3.toks) fun b ob q => Heap.get?_push_of_some _ q
  have hs : (s3.heap.push { cls := .type "slice", data := .fields #[.int lo tl', .none, .int k t] }).IsSliceOf s3.heap.objs.size (.int lo tl') .none (.int k t) := Heap.IsSliceOf.new ..
  show wpAny (model X.prog X.w) X.A (subscriptTail a _ v (.ref s3.heap.objs.size)) (EP X pins σ Q) X.xe { s3 with heap := s3.heap.push { cls := .type "slice", data := .fields #[.int lo tl', .none, .int k t] } }
  rcases q2 with ⟨a1, xs, rfl, hx, q⟩ | ⟨a1, xs, rfl, hx, q⟩
  · cases r1
    obtain ⟨its, r, ht, hz⟩ := I4.list hx
    have hlen := r.length
    have hsz : its.toArray.size = xs.length := by rw [List.size_toArray]; exact hlen.symm
    refine tail_any (ops := [.ref a1, .ref s3.heap.objs.size]) ht.isList.typeIs slot_list_getitem.lookup ?_ (by with_unfolding_all rfl)
    refine wpAny_getItem_list_slice ht.isList hs (.int _ _) .none (.int _ t) (by simp; omega) ?_ (by rw [hsz]; exact hz)
    rw [pick_step _ _ _ (by omega), hsz]
    refine ⟨.ref _, _, I4.laid (t' := s3.toks) (o := .lst (pickL xs ((min lo xs.length : Nat) : Int) k (stepN xs.length lo k))) (fun b ob q => Heap.get?_push_of_some _ q) (Nat.le_refl _) ?_, rfl, q _ (I4.hok.fresh (Nat.le_refl _))⟩
    exact ⟨Nat.le_trans (pickL_len ..) (Nat.le_trans (stepN_le _ _ _ (by omega)) hz), _, 0, vals_pick r _ _ _, Heap.get?_push_size _ rfl⟩
  · cases r1
    obtain ⟨its, r, ht, hz⟩ := I4.tuple hx
    have hlen := r.length
    have hsz : its.toArray.size = xs.length := by rw [List.size_toArray]; exact hlen.symm
    have e2 : Builtin.Slice.slicePlaces ((min lo xs.length : Nat) : Int) (xs.length : Int) (k : Int) = stepN xs.length lo k := rfl
    refine tail_any (ops := [.ref a1, .ref s3.heap.objs.size]) ht.typeIs slot_tuple_getitem.lookup ?_ (by with_unfolding_all rfl)
    refine HT.getItem_tuple_step ht hs (.int _ _) .none (.int _ t) (by omega) (by omega) ?_ ?_
    · rw [adj_step _ _ _ (by omega), hsz, e2]; exact Nat.le_trans (stepN_le _ _ _ (by omega)) hz
    · rw [adj_step _ _ _ (by omega), hsz, e2, arr_pick]
      refine ⟨.ref _, _, I4.laid (t' := s3.toks) (o := .tup (pickL xs ((min lo xs.length : Nat) : Int) k (stepN xs.length lo k))) (fun b ob q => Heap.get?_push_of_some _ q) (Nat.le_refl _) ?_, rfl, q _ (I4.hok.fresh (Nat.le_refl _))⟩
      exact ⟨Nat.le_trans (pickL_len ..) (Nat.le_trans (stepN_le _ _ _ (by omega)) hz), _, vals_pick r _ _ _, IsTup.new _ _⟩
theorem Isl.pickL {l : List D} {vs : List V} (h : Isl Z Hf l vs) (a k : Int) (c : Nat) : Isl Z Hf (Wd.pickL l a k c) (Wd.pickL vs a k c) := isl_pick h a k _
theorem s_slr {a : Expr} {ia : Ie} {p1 p2 p3 p4 : Pos} {kk : Nat} (hK : X.K = Z.K) (ha : PE X a (tE Z W (evE T C ia))) :
    PE X (.Subscript a (.Slice none none (some (.UnaryOp .USub (.Constant (.int 1) kk p1) p2)) p3) p4) (tE Z W (evE T C (.slr ia))) := by
  refine ⟨fun pins s σ H Q I h => (pe_rev ha).run pins s σ H Q I ?_⟩
  obtain ⟨Hf, F, st, R, h⟩ := h
  rw [evE] at h
  refine t_rd R h fun d s1 H1 Hf1 v1 e1 R1 p1 h => ?_
  obtain ⟨rr, hr, h⟩ := Po.optP h
  unfold slrD at hr
  split at hr
  · cases hr
    obtain ⟨a1, vs1, e1, g1, i1⟩ := p1.lst R1.sub
    refine .inl ⟨a1, vs1, e1, SqL.of g1, fun p hp => ?_⟩
    rw [← i1.length]
    exact ret_n h R1 hp ⟨_, rfl, i1.pickL _ _ _⟩
  · cases hr
    obtain ⟨a1, vs1, e1, g1, i1⟩ := p1.tup R1.sub
    refine .inr ⟨a1, vs1, e1, by rw [hK]; exact g1, fun p hp => ?_⟩
    rw [← i1.length]
    exact ret_t h R1 hp (i1.pickL _ _ _)
  · cases hr
theorem s_slk {a l : Expr} {ia il : Ie} {p1 p3 p4 : Pos} {kk k : Nat} (hK : X.K = Z.K) (hk : 2 ≤ k) (ha : PE X a (tE Z W (evE T C ia))) (hl : PE X l (tE Z W (evE T C il))) :
    PE X (.Subscript a (.Slice (some l) none (some (.Constant (.int (k : Int)) kk p1)) p3) p4) (tE Z W (evE T C (.slk ia il k))) := by
  refine ⟨fun pins s σ H Q I h => (pe_step hk ha hl).run pins s σ H Q I ?_⟩
  obtain ⟨Hf, F, st, R, h⟩ := h
  rw [evE] at h
  refine t_rd2 R h fun d d2 s1 H1 Hf1 v1 v2 e1 R1 p1 p2 h => ?_
  split at h
  · rename_i lo
    refine ⟨lo, p2.int, ?_⟩
    obtain ⟨rr, hr, h⟩ := Po.optP h
    unfold slkD at hr
    split at hr
    · cases hr
      obtain ⟨a1, vs1, e1, g1, i1⟩ := p1.lst R1.sub
      refine .inl ⟨a1, vs1, e1, SqL.of g1, fun p hp => ?_⟩
      rw [← i1.length]
      exact ret_n h R1 hp ⟨_, rfl, i1.pickL _ _ _⟩
    · cases hr
      obtain ⟨a1, vs1, e1, g1, i1⟩ := p1.tup R1.sub
      refine .inr ⟨a1, vs1, e1, by rw [hK]; exact g1, fun p hp => ?_⟩
      rw [← i1.length]
      exact ret_t h R1 hp (i1.pickL _ _ _)
    · cases hr
  · exact h.elim
end
end Wd
-- WdSd10
set_option linter.all false
set_option maxRecDepth 100000
set_option maxHeartbeats 2000000
set_option Elab.async false
/-! Lists of arguments, displays. -/
namespace Wd
open PySem L2
def Reps (Z : Wo) (Hf H : Hp) : List D → List V → Prop
  | [], vs => vs = []
  | d :: l, vs => ∃ v w, vs = v :: w ∧ Rep Z Hf H d v ∧ Reps Z Hf H l w
section
variable {Z : Wo} {W : WX} {X : Cx} {Hf Hf' H H' F F' : Hp} {s s' : Sto} {σ : L2.St} {v : V} {d : D} {r : Rv} {T : Tab} {C : Str → List Sl → CRes} {Q : VK}
theorem RRs.weak : ∀ {rs : List Rv} {vs : List V} {F F' : Hp}, RRs Z Hf H s σ F' rs vs → (∀ p o, F p = some o → F' p = some o) → RRs Z Hf H s σ F rs vs
  | [], vs, _, _, h, f => h
  | r :: rs, vs, F, F', h, f => by
    obtain ⟨v, w, e, h1, h2⟩ := h
    refine ⟨v, w, e, h1.weak f, RRs.weak h2 fun p o q => ?_⟩
    cases r with
    | v _ => exact f p o q
    | b _ => exact f p o q
    | n d =>
      cases v with
      | ref a =>
        have q' : (if p = a then H a else F p) = some o := q
        show (if p = a then H a else F' p) = some o
        split at q'
        · rw [if_pos (by assumption)]; exact q'
        · rw [if_neg (by assumption)]; exact f p o q'
      | _ => exact f p o q
theorem reps_of (R : Rel Z Hf H F s σ) : ∀ {rs : List Rv} {vs : List V} {ds : List D}, RRs Z Hf H s σ F rs vs → rds rs s = some ds → Reps Z Hf H ds vs
  | [], vs, ds, h, e => by
    have : ds = [] := by simpa [rds] using e.symm
    subst this; exact h
  | r :: rs, vs, ds, h, e => by
    obtain ⟨v, w, e1, h1, h2⟩ := h
    unfold rds at e
    rw [List.mapM_cons] at e
    obtain ⟨d, hd, e⟩ := Option.bind_eq_some_iff.mp e
    obtain ⟨l, hl, e⟩ := Option.bind_eq_some_iff.mp e
    cases e
    exact ⟨v, w, e1, rep_of R h1 hd, reps_of R (h2.weak (addT_sub h1)) hl⟩
theorem addT_eq (hr : RR Z Hf H F s σ r v) (R : Rel Z Hf' H' (addT F H r v) s' σ) : addT F H' r v = addT F H r v := by
  cases r with
  | v _ => rfl
  | b _ => rfl
  | n d =>
    obtain ⟨q, u, rfl, h2, h3, h4, h5, h6⟩ := hr
    have hq : addT F H (.n d) (.ref q) q = some u := by
      show (if q = q then H q else F q) = some u
      rw [if_pos rfl]; exact h4
    obtain ⟨k1, k2⟩ := R.fr q u hq
    funext p
    show (if p = q then H' q else F p) = (if p = q then H q else F p)
    rw [k1, h4]
theorem pa_weak {es : List Expr} {t t' : TA} (h : PA X es t) (w : ∀ σ H Q, t' σ H Q → t σ H Q) : PA X es t' := ⟨fun pos pins s σ H Q I q => h.run pos pins s σ H Q I (w σ H Q q)⟩
theorem a_nil : PA X [] (tA Z W (evA T C .nil)) := pa_weak pa_nil fun σ H Q h => by
  obtain ⟨Hf, F, s, R, h⟩ := h
  rw [evA] at h
  exact h.at R [] rfl
theorem a_cons {e : Expr} {es : List Expr} {ie : Ie} {ia : Ia} (he : PE X e (tE Z W (evE T C ie))) (hr : PA X es (tA Z W (evA T C ia))) (hs : starEach (e :: es) X.env = (false, eval e X.env) :: starEach es X.env) :
    PA X (e :: es) (tA Z W (evA T C (.cons ie ia))) := pa_weak (pa_cons he hr hs) fun σ H Q h => by
  obtain ⟨Hf, F, s, R, h⟩ := h
  rw [evA] at h
  refine t_one R h fun x s1 H1 Hf1 v e1 R1 r1 h => ?_
  refine ⟨Hf1, addT F H1 x v, s1, R1.add r1, (h.bind.frame (addT_sub r1)).imp fun xs s2 H2 Hf2 e2 R2 h vs r2 => ?_⟩
  refine h.at (R2.weak (addT_sub r1)) (v :: vs) ⟨v, vs, rfl, r1.later e2 R2, ?_⟩
  rw [addT_eq r1 R2]
  exact r2
theorem rrs_items {l : List D} {rs : List Rv} : ∀ {us vs : List V}, Isl Z Hf l us → RRs Z Hf H s σ F rs vs → RRs Z Hf H s σ F (l.map .v ++ rs) (us ++ vs) := by
  induction l with
  | nil => intro us vs h k; rw [isl_nil.mp h]; exact k
  | cons d l ih =>
    intro us vs h k
    obtain ⟨u, w, rfl, h1, h2⟩ := isl_cons.mp h
    exact ⟨u, w ++ vs, rfl, h1, ih h2 k⟩
theorem items_seq {l : List D} (hK : X.K = Z.K) (sub : Same Hf H) (p : Rep Z Hf H d v) (h : items? d = some l) : ∃ a xs, v = .ref a ∧ (SqT X.K H a xs ∨ SqL X.K H a xs) ∧ Isl Z Hf l xs := by
  unfold items? at h
  split at h
  · cases h
    obtain ⟨a, vs, h1, h2, h3⟩ := p.tup sub
    exact ⟨a, vs, h1, .inl (by rw [hK]; exact h2), h3⟩
  · cases h
    obtain ⟨a, vs, h1, h2, h3⟩ := p.lst sub
    exact ⟨a, vs, h1, .inr (SqL.of h2), h3⟩
  · cases h
theorem a_star {e : Expr} {es : List Expr} {ie : Ie} {ia : Ia} {p : Pos} (hK : X.K = Z.K) (he : PE X e (tE Z W (evE T C ie))) (hr : PA X es (tA Z W (evA T C ia))) (hs : starEach (.Starred e p :: es) X.env = (true, eval e X.env) :: starEach es X.env) :
    PA X (.Starred e p :: es) (tA Z W (evA T C (.star ie ia))) := pa_weak (StX.pa_star he hr hs) fun σ H Q h => by
  obtain ⟨Hf, F, s, R, h⟩ := h
  rw [evA] at h
  refine t_rd R h fun d s1 H1 Hf1 v e1 R1 p1 h => ?_
  obtain ⟨l, hl, h⟩ := h.bind.opt R1
  obtain ⟨a, xs, ev, hx, i⟩ := items_seq hK R1.sub p1 hl
  refine ⟨a, xs, ev, hx, Hf1, F, s1, R1, h.bind.imp fun ys s2 H2 Hf2 e2 R2 h vs r2 => ?_⟩
  exact h.at R2 (xs ++ vs) (rrs_items (i.mono e2) r2)
/-! ### shared from here on -/
theorem own_frz (h : frz r s = some (d, s')) : ∀ (i : Nat) e, own? s'[i]? = some e → own? s[i]? = some e := fun i e he => by
  cases r with
  | v x => have : x = d ∧ s = s' := by simpa [frz] using h
           rw [this.2]; exact he
  | n x => have : x = d ∧ s = s' := by simpa [frz] using h
           rw [this.2]; exact he
  | b j =>
    have h' : (match s[j]? with
      | some (.ow d) => some (d, s.set j (.fr d))
      | some (.fr d) => some (d, s)
      | _ => none) = some (d, s') := h
    split at h'
    · cases h'
      rename_i hj
      by_cases q : i = j
      · subst q
        rw [List.getElem?_set_self (List.getElem?_eq_some_iff.mp hj).1] at he
        cases he
      · rw [List.getElem?_set_ne (Ne.symm q)] at he; exact he
    · cases h'; exact he
    · cases h'
theorem RRs.after (e : Same Hf Hf') (ho : ∀ (i : Nat) e, own? s'[i]? = some e → own? s[i]? = some e) : ∀ {rs : List Rv} {vs : List V} {F F' : Hp},
    (∀ q, Hf' q ≠ Hf q → F' q ≠ none ∨ ∃ (i : Nat) (e : D), own? s[i]? = some e ∧ σ[i]? = some (some (.ref q))) → RRs Z Hf H s σ F' rs vs → (∀ p o, F p = some o → F' p = some o) → RRs Z Hf' H s' σ F rs vs
  | [], vs, _, _, _, h, f => h
  | r :: rs, vs, F, F', hq, h, f => by
    obtain ⟨v, w, e1, h1, h2⟩ := h
    have h1' : RR Z Hf' H F s' σ r v := by
      cases r with
      | v _ => exact Isd.mono e h1
      | b _ => exact h1
      | n d =>
        obtain ⟨q, u, rfl, g2, g3, g4, g5, g6⟩ := h1
        refine ⟨q, u, rfl, ?_, ?_, g4, g5.mono e, fun i e he => g6 i e (ho i e he)⟩
        · rw [← g2]
          refine Classical.byContradiction fun hn => ?_
          rcases hq q hn with k | ⟨i, e, k1, k2⟩
          · exact k g3
          · exact g6 i e k1 k2
        · cases k : F q with
          | none => rfl
          | some o => rw [f q o k] at g3; cases g3
    refine ⟨v, w, e1, h1', ?_⟩
    refine RRs.after e ho (F' := addT F' H r v) (fun q hn => ?_) h2 fun p o q => ?_
    · rcases hq q hn with k | k
      · left
        cases k' : F' q with
        | none => exact absurd k' k
        | some o =>
          intro z
          rw [addT_sub h1 q o k'] at z; cases z
      · exact .inr k
    cases r with
    | v _ => exact f p o q
    | b _ => exact f p o q
    | n d =>
      cases v with
      | ref a =>
        have q' : (if p = a then H a else F p) = some o := q
        show (if p = a then H a else F' p) = some o
        split at q'
        · rw [if_pos (by assumption)]; exact q'
        · rw [if_neg (by assumption)]; exact f p o q'
      | _ => exact f p o q
theorem Rel.frzW (R : Rel Z Hf H F s σ) (hr : RR Z Hf H F s σ r v) (h : Wd.frz r s = some (d, s')) :
    ∃ Hf', Same Hf Hf' ∧ Rel Z Hf' H F s' σ ∧ Isd Z Hf' d v ∧ ∀ q, Hf' q ≠ Hf q → addT F H r v q ≠ none ∨ ∃ (i : Nat) (e : D), own? s[i]? = some e ∧ σ[i]? = some (some (.ref q)) := by
  cases r with
  | v e =>
    have : e = d ∧ s = s' := by simpa [Wd.frz] using h
    obtain ⟨rfl, rfl⟩ := this
    exact ⟨Hf, Same.refl _, R, hr, fun q hq => absurd rfl hq⟩
  | n e =>
    have : e = d ∧ s = s' := by simpa [Wd.frz] using h
    obtain ⟨rfl, rfl⟩ := this
    obtain ⟨Hf', h1, h2, h3, h4⟩ := R.freezeN hr
    refine ⟨Hf', h1, h2, h3, fun q hq => .inl ?_⟩
    have := h4 q hq
    subst this
    obtain ⟨q', u, e', _, _, g4, _⟩ := hr
    cases e'
    show (if q = q then H q else F q) ≠ none
    rw [if_pos rfl, g4]; exact fun z => by cases z
  | b i =>
    have h' : (match s[i]? with
      | some (.ow d) => some (d, s.set i (.fr d))
      | some (.fr d) => some (d, s)
      | _ => none) = some (d, s') := h
    split at h'
    · cases h'
      rename_i e
      obtain ⟨Hf', h1, h2, h3, h4⟩ := R.freeze e hr
      refine ⟨Hf', h1, h2, h3, fun q hq => .inr ⟨i, d, by rw [e]; rfl, ?_⟩⟩
      rw [← h4 q hq]; exact hr
    · cases h'
      rename_i e
      obtain ⟨w, k1, k2⟩ := R.fz i d e
      have hr' : σ[i]? = some (some v) := hr
      rw [hr'] at k1
      have : v = w := by simpa using k1
      subst this
      exact ⟨Hf, Same.refl _, R, k2, fun q hq => absurd rfl hq⟩
    · cases h'
theorem fzs_ok : ∀ {rs : List Rv} {vs : List V} {l : List D} {Hf : Hp} {s s' : Sto}, Rel Z Hf H F s σ → RRs Z Hf H s σ F rs vs → fzs rs s = some (l, s') → ∃ Hf', Same Hf Hf' ∧ Rel Z Hf' H F s' σ ∧ Isl Z Hf' l vs
  | [], vs, l, Hf, s, s', R, h, e => by
    have : [] = l ∧ s = s' := by simpa [fzs] using e
    obtain ⟨rfl, rfl⟩ := this
    exact ⟨Hf, Same.refl _, R, by rw [show vs = [] from h]; exact isl_nil.mpr rfl⟩
  | r :: rs, vs, l, Hf, s, s', R, h, e => by
    obtain ⟨v, w, rfl, h1, h2⟩ := h
    unfold fzs at e
    cases e1 : frz r s with
    | none => rw [e1] at e; cases e
    | some p =>
      obtain ⟨d, s1⟩ := p
      rw [e1] at e
      obtain ⟨⟨l', s2⟩, e2, e3⟩ := Option.map_eq_some_iff.mp e
      cases e3
      obtain ⟨Hf1, sm, R1, i1, q1⟩ := R.frzW h1 e1
      have h2' : RRs Z Hf1 H s1 σ F rs w := RRs.after sm (own_frz e1) q1 h2 (addT_sub h1)
      obtain ⟨Hf2, sm2, R2, i2⟩ := fzs_ok R1 h2' e2
      exact ⟨Hf2, sm.trans sm2, R2, isl_cons.mpr ⟨v, w, rfl, i1.mono sm2, i2⟩⟩
/-! ### displays -/
theorem s_lst {es : List Expr} {ia : Ia} {pos : Pos} (ha : PA X es (tA Z W (evA T C ia))) : PE X (.List es pos) (tE Z W (evE T C (.lst ia))) := by
  refine ⟨fun pins s σ H Q I h => (pe_lst ha).run pins s σ H Q I ?_⟩
  obtain ⟨Hf, F, st, R, h⟩ := h
  rw [evE] at h
  refine ⟨Hf, F, st, R, h.bind.imp fun rs s1 H1 Hf1 e1 R1 h vs r1 => ?_⟩
  cases e : fzs rs s1 with
  | none => rw [e] at h; exact h.elim
  | some p =>
    obtain ⟨l, s2⟩ := p
    rw [e] at h
    obtain ⟨Hf2, e2, R2, i2⟩ := fzs_ok R1 r1 e
    have h : Po Z W Hf1 F σ (if l.length ≤ LIM then Res.ok (Rv.n (.lst l)) s2 else .bad "long") _ := h
    split at h
    · rename_i hl
      refine ⟨by rw [← i2.length]; exact Nat.le_trans hl lim_le, fun p hp => ret_n (h.mono e2) R2 hp ⟨_, rfl, i2⟩⟩
    · exact h.elim
theorem s_tup {es : List Expr} {ia : Ia} {k : Nat} {pos : Pos} (ha : PA X es (tA Z W (evA T C ia))) : PE X (.Tuple es k pos) (tE Z W (evE T C (.tup ia))) := by
  refine ⟨fun pins s σ H Q I h => (pe_tup ha).run pins s σ H Q I ?_⟩
  obtain ⟨Hf, F, st, R, h⟩ := h
  rw [evE] at h
  refine ⟨Hf, F, st, R, h.bind.imp fun rs s1 H1 Hf1 e1 R1 h vs r1 => ?_⟩
  cases e : fzs rs s1 with
  | none => rw [e] at h; exact h.elim
  | some p =>
    obtain ⟨l, s2⟩ := p
    rw [e] at h
    obtain ⟨Hf2, e2, R2, i2⟩ := fzs_ok R1 r1 e
    have h : Po Z W Hf1 F σ (if l.length ≤ LIM then Res.ok (Rv.v (.tup l)) s2 else .bad "long") _ := h
    split at h
    · rename_i hl
      refine ⟨by rw [← i2.length]; exact Nat.le_trans hl lim_le, fun p hp => ret_t (h.mono e2) R2 hp i2⟩
    · exact h.elim
end
end Wd
-- WdSd11
set_option linter.all false
set_option maxRecDepth 100000
set_option maxHeartbeats 2000000
set_option Elab.async false
/-! Built-in functions. -/
namespace Wd
open PySem L2 PySem.Spec PyProof.Rows
structure KnC (K : PySem.W.Frag) (c : Addr) : Prop where
  cl : Cls K c
  cc : PySem.W.findIn K (.ref c) "__class__" = some (some (.builtin "object.__class__"))
  sg : PySem.W.specialIn K (.builtin "object.__class__") "__get__" = some (some (.builtin "getset_descriptor.__get__"))
  tk : PySem.W.takesIn K (.builtin "object.__class__") = some true
  mo : PySem.W.mroIn K c (.type "object") = some true
def alln : List String := ["NoneType", "bool", "int", "str", "tuple", "list", "dict"]
structure CxOk (X : Cx) (Z : Wo) : Prop where
  hK : X.K = Z.K
  hu : X.A.units + 64 < cLine
  calm : X.calm = true
  cls : ∀ c, Z.kn c → KnC X.K (Z.cA c)
  kit1 : ∀ c T, Z.kn c → T ∈ tynames → PySem.W.kitOne X.K (.ref (Z.cA c)) (.type T) = some false
  kit2 : ∀ c T, Z.kn c → T ∈ alln → PySem.W.kitOne X.K (.type T) (.ref (Z.cA c)) = some false
  kit3 : ∀ c d, Z.kn c → Z.kn d → PySem.W.kitOne X.K (.ref (Z.cA c)) (.ref (Z.cA d)) = some (c == d)
section
variable {Z : Wo} {W : WX} {X : Cx} {Hf Hf' H H' F F' : Hp} {s s' : Sto} {σ : L2.St} {v : V} {d : D} {r : Rv} {T : Tab} {C : Str → List Sl → CRes} {Q : VK}
theorem kit_tab : ∀ a ∈ alln, ∀ b ∈ tynames, kitB a b = some (a == b || (a == "bool" && b == "int")) := by decide +kernel
theorem rd_ty {a : Addr} {xs : List V} (h : SqL X.K H a xs) : TyX X.K H (.ref a) (.type "list") := by
  rcases h with (h | ⟨o, h⟩) | ⟨o, its, n, hk, hc, _⟩
  · exact .base (.lst h)
  · exact .base (.frz h)
  · exact .kList hk hc
theorem tp_ty {a : Addr} {xs : List V} (h : SqT X.K H a xs) : TyX X.K H (.ref a) (.type "tuple") := by
  rcases h with (h | ⟨o, h⟩) | ⟨o, its, n, hk, hc, _⟩
  · exact .base (.tup h)
  · exact .fTuple h
  · exact .kTuple hk hc
theorem isinst_okD (G : CxOk X Z) {t : D} {b : Bool} {v2 : V} (sub : Same Hf H) (p1 : Rep Z Hf H d v) (p2 : Rep Z Hf H t v2) (h : isinst d t = some b) (q : Q (.bl b) H) : rIsi X.K [v, v2] H Q := by
  have hK := G.hK
  have base : ∀ n, n ∈ alln → TyX X.K H v (.type n) → tyn d = n → (∀ c ns l, d ≠ .ins c ns l) → (∀ n, d ≠ .ty n) → (∀ n, d ≠ .cls n) → rIsi X.K [v, v2] H Q := fun n hn ty en e1 e2 e3 => by
    unfold isinst at h
    split at h
    · split at h
      · rename_i T hT
        split at h
        · exact absurd rfl (e1 _ _ _)
        · exact absurd rfl (e2 _)
        · exact absurd rfl (e3 _)
        · cases h
          refine ⟨v, v2, .type n, .type T, _, rfl, ?_, ty, kit_ty (kit_tab n hn T hT), by rw [← en]; exact q⟩
          rw [p2.ty]; exact .ty T
      · cases h
    · rename_i c
      split at h
      · exact absurd rfl (e1 _ _ _)
      · exact absurd rfl (e2 _)
      · exact absurd rfl (e3 _)
      · cases h
        obtain ⟨e, kn⟩ := p2.cls
        refine ⟨v, v2, .type n, .ref (Z.cA c), _, rfl, ?_, ty, G.kit2 c n kn hn, q⟩
        rw [e]; exact .own _
    · cases h
  cases d with
  | non => exact base "NoneType" (by decide) (by rw [p1.non]; exact .base .non) rfl (fun _ _ _ z => by cases z) (fun _ z => by cases z) (fun _ z => by cases z)
  | bl x => exact base "bool" (by decide) (by rw [p1.bl]; exact .base (.bl _)) rfl (fun _ _ _ z => by cases z) (fun _ z => by cases z) (fun _ z => by cases z)
  | int x => exact base "int" (by decide) (by rw [p1.int]; exact .base (.int _)) rfl (fun _ _ _ z => by cases z) (fun _ z => by cases z) (fun _ z => by cases z)
  | str x => exact base "str" (by decide) (by rw [p1.str]; exact .base (.str _)) rfl (fun _ _ _ z => by cases z) (fun _ z => by cases z) (fun _ z => by cases z)
  | tup l =>
    obtain ⟨a, vs, rfl, h2, h3⟩ := p1.tup sub
    exact base "tuple" (by decide) (tp_ty (by rw [hK]; exact h2)) rfl (fun _ _ _ z => by cases z) (fun _ z => by cases z) (fun _ z => by cases z)
  | lst l =>
    obtain ⟨a, vs, rfl, h2, h3⟩ := p1.lst sub
    exact base "list" (by decide) (rd_ty (SqL.of h2)) rfl (fun _ _ _ z => by cases z) (fun _ z => by cases z) (fun _ z => by cases z)
  | scr l =>
    obtain ⟨a, vs, rfl, h2, h3⟩ := p1.scr sub
    exact base "list" (by decide) (rd_ty (by rw [hK]; exact h2)) rfl (fun _ _ _ z => by cases z) (fun _ z => by cases z) (fun _ z => by cases z)
  | dct ks l =>
    obtain ⟨a, vs, rfl, h1, h2, h3⟩ := p1.dct sub
    exact base "dict" (by decide) (.base (.dK h2)) rfl (fun _ _ _ z => by cases z) (fun _ z => by cases z) (fun _ z => by cases z)
  | ins c ns l =>
    obtain ⟨a, dx, vs, rfl, h1, h2, h3, kn⟩ := p1.ins sub
    have K := G.cls c kn
    have ty : TyX X.K H (.ref a) (.ref (Z.cA c)) := .base (.ins h2 K.cl K.cc K.sg K.tk K.mo)
    unfold isinst at h
    split at h
    · split at h
      · rename_i T hT
        cases h
        refine ⟨_, v2, _, .type T, _, rfl, ?_, ty, G.kit1 c T kn hT, q⟩
        rw [p2.ty]; exact .ty T
      · cases h
    · rename_i c'
      cases h
      obtain ⟨e, kn'⟩ := p2.cls
      refine ⟨_, v2, _, .ref (Z.cA c'), _, rfl, ?_, ty, G.kit3 c c' kn kn', q⟩
      rw [e]; exact .own _
    · cases h
  | ty n =>
    unfold isinst at h
    split at h
    · split at h <;> cases h
    · cases h
    · cases h
  | cls n =>
    unfold isinst at h
    split at h
    · split at h <;> cases h
    · cases h
    · cases h
/-! ### sum of a tuple -/
def rSumT (K : PySem.W.Frag) : List V → Hp → VK → Prop := fun vs H Q => ∃ (a : Addr) (ns : List Int), vs = [V.ref a] ∧ SqT K H a (ns.map V.int) ∧ Q (.int ns.sum) H
theorem cr_sumT (hc : X.calm = true) : CallR X (.builtin "sum") (rSumT X.K) := by
  intro pins s σ H vs us Q I r h
  obtain ⟨a, ns, rfl, hs, q⟩ := h
  obtain ⟨its, rv, hl, _⟩ := I.tuple hs
  rw [Vals.ref1 r]
  have hi := rv.ints
  obtain ⟨xs, e⟩ := hi.allInts.items
  have hn : numsOf (intItems xs).toList = ns := by rw [← e]; exact hi.numsOf
  rw [nums_intItems] at hn
  rw [e] at hl
  have hlt : a < s.heap.objs.size := by obtain ⟨_, e, _⟩ := hl; exact Heap.lt_size e
  have hh := I.ok.hd hc
  refine PySem.call_sum_walkG (wpAny_pyIter_tuple hl ?_)
  refine ⟨_, _, _, _, _, _, numAt xs, rfl, Walks.tuple (A := X.A.in1) hh _ a (Nat.ne_of_lt hlt) (intItems xs), ⟨⟨_, Heap.get?_push_size _ rfl, rfl, rfl⟩, hl.push _⟩, ?_, (fun _ _ => intItems_at), fun h' tk t' hk => ?_⟩
  · intro b hb
    rcases List.mem_cons.mp hb with e | hb
    · rw [e, Heap.size_push]; exact Nat.lt_succ_self _
    · rcases List.mem_cons.mp hb with e | hb
      · rw [e, Heap.size_push]; exact Nat.lt_succ_of_lt hlt
      · cases hb
  · refine ⟨.int ns.sum, H, I.kept fun b o eo => hk b o (fun hmem => ?_) (Heap.get?_push_of_some _ eo), ?_, q⟩
    · simp at hmem
      rw [hmem] at eo
      exact absurd (Heap.lt_size eo) (Nat.lt_irrefl _)
    · refine ⟨t', ?_⟩
      have hsz : (intItems xs).size = xs.size := by simp [intItems]
      rw [hsz, preSum_eq, List.take_of_length_le (by simp), hn]
end
end Wd
-- WdSd12
set_option linter.all false
set_option maxRecDepth 100000
set_option maxHeartbeats 2000000
set_option Elab.async false
/-! Calls of built-in functions. -/
namespace Wd
open PySem L2 PySem.Spec PyProof.Rows
theorem CallR.or {X : Cx} {f : Value} {r r' : List V → Hp → VK → Prop} (h : CallR X f r) (h' : CallR X f r') : CallR X f (fun xs H Q => r xs H Q ∨ r' xs H Q) := by
  intro pins s σ H xs us Q I rx q
  rcases q with q | q
  · exact h pins s σ H xs us Q I rx q
  · exact h' pins s σ H xs us Q I rx q
section
variable {Z : Wo} {W : WX} {X : Cx} {Hf Hf' H H' F F' : Hp} {s s' : Sto} {σ : L2.St} {v : V} {d : D} {r : Rv} {T : Tab} {C : Str → List Sl → CRes} {Q : VK}
/-- what a call's result stands for -/
abbrev Ret (Z : Wo) (W : WX) (Hf F : Hp) (σ : L2.St) (r : Rv) (s : Sto) (Q : VK) : Prop := Po Z W Hf F σ (.ok r s) fun r s' H' Hf' => ∀ v, RR Z Hf' H' F s' σ r v → Q v H'
/-- a built-in: its value, its rule -/
structure BiR (X : Cx) (Z : Wo) (f : List D → Option Rv) (u : Value) : Prop where
  run : ∃ rule, CallR X u rule ∧ ∀ (W : WX) (Hf H F : Hp) (s : Sto) (σ : L2.St) (ds : List D) (vs : List V) (r : Rv) (Q : VK), Rel Z Hf H F s σ → Reps Z Hf H ds vs → f ds = some r → Ret Z W Hf F σ r s Q → rule vs H Q
theorem reps1 {vs : List V} (h : Reps Z Hf H [d] vs) : ∃ v, vs = [v] ∧ Rep Z Hf H d v := by
  obtain ⟨v, w, rfl, h1, h2⟩ := h
  have : w = [] := h2
  exact ⟨v, by rw [this], h1⟩
theorem reps2 {vs : List V} {d e : D} (h : Reps Z Hf H [d, e] vs) : ∃ v w, vs = [v, w] ∧ Rep Z Hf H d v ∧ Rep Z Hf H e w := by
  obtain ⟨v, w, rfl, h1, h2⟩ := h
  obtain ⟨u, rfl, h3⟩ := reps1 h2
  exact ⟨v, u, rfl, h1, h3⟩
theorem bi_abs : BiR X Z absB (.builtin "abs") := ⟨_, call_abs, fun W Hf H F s σ ds vs r Q R p h q => by
  unfold absB at h
  split at h
  · cases h
    obtain ⟨v, rfl, p1⟩ := reps1 p
    exact ⟨_, by rw [p1.int], ret_v q R isd_int⟩
  · cases h⟩
theorem bi_bool : BiR X Z boolB (.type "bool") := ⟨_, call_bool1, fun W Hf H F s σ ds vs r Q R p h q => by
  unfold boolB at h
  split at h
  · cases h
    obtain ⟨v, rfl, p1⟩ := reps1 p
    exact .inl ⟨_, by rw [p1.int], ret_v q R isd_bl⟩
  · cases h
    obtain ⟨v, rfl, p1⟩ := reps1 p
    exact .inr ⟨_, by rw [p1.bl], ret_v q R isd_bl⟩
  · cases h⟩
theorem digN_int {z : Str} {n : Nat} (h : digN z.cps.toList = some n) : PySem.intText? z = some (n : Int) ∧ z.length ≤ 640 := by
  unfold digN at h
  split at h
  · rename_i hc
    obtain ⟨h1, h2, h3⟩ := hc
    have hl : z.cps.toList.length = z.length := Array.length_toList
    have ad : PySem.NumText.AllDigits z.cps.toList := fun c hc => by
      have := List.all_eq_true.mp h3 c hc
      simpa using this
    refine ⟨?_, by omega⟩
    rw [PySem.intText_digits ad h1 (by omega), ← Option.some.inj h]
    congr 2
    unfold PySem.NumText.digitsVal
    congr 1
    funext a c
    omega
  · cases h
theorem bi_int : BiR X Z intB (.type "int") := ⟨_, Wd.CallR.or call_int1 call_int_str, fun W Hf H F s σ ds vs r Q R p h q => by
  unfold intB at h
  split at h
  · cases h
    obtain ⟨v, rfl, p1⟩ := reps1 p
    exact .inl (.inl ⟨_, by rw [p1.int], ret_v q R isd_int⟩)
  · cases h
    obtain ⟨v, rfl, p1⟩ := reps1 p
    exact .inl (.inr ⟨_, by rw [p1.bl], ret_v q R isd_int⟩)
  · obtain ⟨n, hn, rfl⟩ := Option.map_eq_some_iff.mp h
    obtain ⟨v, rfl, p1⟩ := reps1 p
    obtain ⟨d1, d2⟩ := digN_int hn
    exact .inr ⟨_, _, by rw [p1.str], d1, d2, ret_v q R isd_int⟩
  · cases h⟩
theorem bi_divmod : BiR X Z divmodB (.builtin "divmod") := ⟨_, call_divmodW, fun W Hf H F s σ ds vs r Q R p h q => by
  unfold divmodB at h
  split at h
  · split at h
    · cases h
      rename_i hc
      obtain ⟨v, w, rfl, p1, p2⟩ := reps2 p
      refine ⟨_, _, by rw [p1.int, p2.int], ⟨hc.1, ?_⟩, fun p hp => ret_t q R hp (isl_cons.mpr ⟨_, _, rfl, isd_int, .one isd_int⟩)⟩
      exact PyProof.noPylong_of_log2 hc.2
    · cases h
  · cases h⟩
theorem bi_isinst (G : CxOk X Z) : BiR X Z isinstB (.builtin "isinstance") := ⟨_, call_isi, fun W Hf H F s σ ds vs r Q R p h q => by
  unfold isinstB at h
  split at h
  · obtain ⟨b, hb, rfl⟩ := Option.map_eq_some_iff.mp h
    obtain ⟨v, w, rfl, p1, p2⟩ := reps2 p
    exact isinst_okD G R.sub p1 p2 hb (ret_v q R isd_bl)
  · cases h⟩
theorem bi_len (G : CxOk X Z) : BiR X Z lenB (.builtin "len") := ⟨_, (CallR.or call_len_str call_len_seq).or call_lenD, fun W Hf H F s σ ds vs r Q R p h q => by
  unfold lenB at h
  split at h
  · split at h
    · cases h
      rename_i hz
      obtain ⟨v, rfl, p1⟩ := reps1 p
      exact .inl (.inl ⟨_, by rw [p1.str], Nat.le_trans hz lim_le, ret_v q R isd_int⟩)
    · cases h
  · cases h
    obtain ⟨v, rfl, p1⟩ := reps1 p
    obtain ⟨a, vs, rfl, h2, h3⟩ := p1.lst R.sub
    exact .inl (.inr ⟨a, vs, rfl, .inl (SqL.of h2), by rw [← h3.length]; exact ret_v q R isd_int⟩)
  · cases h
    obtain ⟨v, rfl, p1⟩ := reps1 p
    obtain ⟨a, vs, rfl, h2, h3⟩ := p1.tup R.sub
    exact .inl (.inr ⟨a, vs, rfl, .inr (by rw [G.hK]; exact h2), by rw [← h3.length]; exact ret_v q R isd_int⟩)
  · cases h
    obtain ⟨v, rfl, p1⟩ := reps1 p
    obtain ⟨a, vs, rfl, h2, h3⟩ := p1.scr R.sub
    exact .inl (.inr ⟨a, vs, rfl, .inl (by rw [G.hK]; exact h2), by rw [← h3.length]; exact ret_v q R isd_int⟩)
  · cases h
    obtain ⟨v, rfl, p1⟩ := reps1 p
    obtain ⟨a, vs, rfl, h1, h2, h3⟩ := p1.dct R.sub
    refine .inr ⟨a, _, rfl, h2, ?_⟩
    rw [List.length_zip, h1, Nat.min_self, ← h1]
    exact ret_v q R isd_int
  · cases h⟩
theorem bi_list (G : CxOk X Z) : BiR X Z listB (.type "list") := ⟨_, call_list_of, fun W Hf H F s σ ds vs r Q R p h q => by
  unfold listB at h
  split at h
  · cases h
    obtain ⟨v, rfl, p1⟩ := reps1 p
    obtain ⟨a, vs, rfl, h2, h3⟩ := p1.lst R.sub
    exact ⟨a, vs, rfl, .inl (SqL.of h2), fun l hl => ret_n q R hl ⟨_, rfl, h3⟩⟩
  · cases h
    obtain ⟨v, rfl, p1⟩ := reps1 p
    obtain ⟨a, vs, rfl, h2, h3⟩ := p1.tup R.sub
    exact ⟨a, vs, rfl, .inr (by rw [G.hK]; exact h2), fun l hl => ret_n q R hl ⟨_, rfl, h3⟩⟩
  · cases h
    obtain ⟨v, rfl, p1⟩ := reps1 p
    obtain ⟨a, vs, rfl, h2, h3⟩ := p1.scr R.sub
    exact ⟨a, vs, rfl, .inl (by rw [G.hK]; exact h2), fun l hl => ret_n q R hl ⟨_, rfl, h3⟩⟩
  · cases h⟩
theorem bi_tuple (G : CxOk X Z) : BiR X Z tupleB (.type "tuple") := ⟨_, call_tuple_of, fun W Hf H F s σ ds vs r Q R p h q => by
  unfold tupleB at h
  split at h
  · cases h
    obtain ⟨v, rfl, p1⟩ := reps1 p
    obtain ⟨a, vs, rfl, h2, h3⟩ := p1.lst R.sub
    exact ⟨a, vs, rfl, .inl ⟨SqL.of h2, fun l hl => ret_t q R hl h3⟩⟩
  · cases h
    obtain ⟨v, rfl, p1⟩ := reps1 p
    obtain ⟨a, vs, e, h2, h3⟩ := p1.tup R.sub
    refine ⟨a, vs, by rw [e], .inr ⟨by rw [G.hK]; exact h2, ?_⟩⟩
    rw [← e]
    exact ret_v q R p1.isT
  · cases h⟩
theorem bls_isl : ∀ {l : List D} {ns : List Bool} {vs : List V}, bls? l = some ns → Isl Z Hf l vs → vs = ns.map V.bl
  | [], ns, vs, e, h => by
    have : ns = [] := by simpa [bls?] using e.symm
    rw [this, isl_nil.mp h]; rfl
  | d :: l, ns, vs, e, h => by
    obtain ⟨v, w, rfl, h1, h2⟩ := isl_cons.mp h
    cases d with
    | bl b =>
      obtain ⟨ms, e1, rfl⟩ := Option.map_eq_some_iff.mp (show (bls? l).map (b :: ·) = some ns from e)
      have : v = .bl b := by unfold Isd at h1; exact h1
      rw [this, bls_isl e1 h2]; rfl
    | _ => cases e
theorem bi_all (G : CxOk X Z) : BiR X Z allB (.builtin "all") := ⟨_, cr_all G.calm, fun W Hf H F s σ ds vs r Q R p h q => by
  unfold allB at h
  split at h
  · obtain ⟨bs, hb, rfl⟩ := Option.map_eq_some_iff.mp h
    obtain ⟨v, rfl, p1⟩ := reps1 p
    obtain ⟨a, vs, rfl, h2, h3⟩ := p1.lst R.sub
    rw [bls_isl hb h3] at h2
    exact ⟨a, bs, rfl, SqL.of h2, ret_v q R isd_bl⟩
  · cases h⟩
theorem bi_any (G : CxOk X Z) : BiR X Z anyB (.builtin "any") := ⟨_, cr_any G.calm, fun W Hf H F s σ ds vs r Q R p h q => by
  unfold anyB at h
  split at h
  · obtain ⟨bs, hb, rfl⟩ := Option.map_eq_some_iff.mp h
    obtain ⟨v, rfl, p1⟩ := reps1 p
    obtain ⟨a, vs, rfl, h2, h3⟩ := p1.lst R.sub
    rw [bls_isl hb h3] at h2
    exact ⟨a, bs, rfl, SqL.of h2, ret_v q R isd_bl⟩
  · cases h⟩
theorem fold_max : ∀ (l : List Int) (a : Int), (l.foldl (fun m b => if b > m then b else m) a) ∈ a :: l ∧ ∀ y ∈ a :: l, y ≤ l.foldl (fun m b => if b > m then b else m) a
  | [], a => ⟨by simp, by simp⟩
  | b :: l, a => by
    obtain ⟨h1, h2⟩ := fold_max l (if b > a then b else a)
    rw [List.foldl_cons]
    constructor
    · rcases List.mem_cons.mp h1 with h | h
      · rw [h]; split <;> simp
      · simp [h]
    · intro y hy
      have h3 := h2 (if b > a then b else a) (by simp)
      have h4 : a ≤ (if b > a then b else a) := by split <;> omega
      have h5 : b ≤ (if b > a then b else a) := by split <;> omega
      rcases List.mem_cons.mp hy with rfl | hy
      · exact Int.le_trans h4 h3
      · rcases List.mem_cons.mp hy with rfl | hy
        · exact Int.le_trans h5 h3
        · exact h2 y (by simp [hy])
theorem fold_min : ∀ (l : List Int) (a : Int), (l.foldl (fun m b => if b < m then b else m) a) ∈ a :: l ∧ ∀ y ∈ a :: l, l.foldl (fun m b => if b < m then b else m) a ≤ y
  | [], a => ⟨by simp, by simp⟩
  | b :: l, a => by
    obtain ⟨h1, h2⟩ := fold_min l (if b < a then b else a)
    rw [List.foldl_cons]
    constructor
    · rcases List.mem_cons.mp h1 with h | h
      · rw [h]; split <;> simp
      · simp [h]
    · intro y hy
      have h3 := h2 (if b < a then b else a) (by simp)
      have h4 : (if b < a then b else a) ≤ a := by split <;> omega
      have h5 : (if b < a then b else a) ≤ b := by split <;> omega
      rcases List.mem_cons.mp hy with rfl | hy
      · exact Int.le_trans h3 h4
      · rcases List.mem_cons.mp hy with rfl | hy
        · exact Int.le_trans h3 h5
        · exact h2 y (by simp [hy])
theorem bi_max (G : CxOk X Z) : BiR X Z maxB (.builtin "max") := ⟨_, CallR.or (call_max2 G.calm) (cr_max G.calm), fun W Hf H F s σ ds vs r Q R p h q => by
  unfold maxB at h
  split at h
  · cases h
    obtain ⟨v, w, rfl, p1, p2⟩ := reps2 p
    exact .inl ⟨_, _, by rw [p1.int, p2.int], ret_v q R isd_int⟩
  · obtain ⟨ns, hn, h⟩ := Option.bind_eq_some_iff.mp h
    obtain ⟨v, rfl, p1⟩ := reps1 p
    obtain ⟨a, vs, rfl, h2, h3⟩ := p1.lst R.sub
    rw [ints_isl hn h3] at h2
    unfold foldI at h
    split at h
    · cases h
    · cases h
      rename_i a0 l0
      obtain ⟨k1, k2⟩ := fold_max l0 a0
      refine .inr ⟨a, _, rfl, SqL.of h2, by simp, fun m hm1 hm2 => ?_⟩
      have : m = l0.foldl (fun m b => if b > m then b else m) a0 := Int.le_antisymm (k2 m hm1) (hm2 _ k1)
      rw [this]
      exact ret_v q R isd_int
  · cases h⟩
theorem bi_min (G : CxOk X Z) : BiR X Z minB (.builtin "min") := ⟨_, CallR.or (call_min2 G.calm) (cr_min G.calm), fun W Hf H F s σ ds vs r Q R p h q => by
  unfold minB at h
  split at h
  · cases h
    obtain ⟨v, w, rfl, p1, p2⟩ := reps2 p
    exact .inl ⟨_, _, by rw [p1.int, p2.int], ret_v q R isd_int⟩
  · obtain ⟨ns, hn, h⟩ := Option.bind_eq_some_iff.mp h
    obtain ⟨v, rfl, p1⟩ := reps1 p
    obtain ⟨a, vs, rfl, h2, h3⟩ := p1.lst R.sub
    rw [ints_isl hn h3] at h2
    unfold foldI at h
    split at h
    · cases h
    · cases h
      rename_i a0 l0
      obtain ⟨k1, k2⟩ := fold_min l0 a0
      refine .inr ⟨a, _, rfl, SqL.of h2, by simp, fun m hm1 hm2 => ?_⟩
      have : m = l0.foldl (fun m b => if b < m then b else m) a0 := Int.le_antisymm (hm2 _ k1) (k2 m hm1)
      rw [this]
      exact ret_v q R isd_int
  · cases h⟩
theorem bi_sum (G : CxOk X Z) : BiR X Z sumB (.builtin "sum") := ⟨_, CallR.or (cr_sum G.calm) (cr_sumT G.calm), fun W Hf H F s σ ds vs r Q R p h q => by
  unfold sumB at h
  split at h
  · obtain ⟨ns, hn, rfl⟩ := Option.map_eq_some_iff.mp h
    obtain ⟨v, rfl, p1⟩ := reps1 p
    obtain ⟨a, vs, rfl, h2, h3⟩ := p1.lst R.sub
    rw [ints_isl hn h3] at h2
    exact .inl ⟨a, ns, rfl, SqL.of h2, ret_v q R isd_int⟩
  · obtain ⟨ns, hn, rfl⟩ := Option.map_eq_some_iff.mp h
    obtain ⟨v, rfl, p1⟩ := reps1 p
    obtain ⟨a, vs, rfl, h2, h3⟩ := p1.tup R.sub
    rw [ints_isl hn h3] at h2
    exact .inr ⟨a, ns, rfl, by rw [G.hK]; exact h2, ret_v q R isd_int⟩
  · cases h⟩
theorem insI_perm (a : Int) : ∀ l, (insI a l).Perm (a :: l)
  | [] => .refl _
  | b :: l => by
    unfold insI
    split
    · exact .refl _
    · exact ((insI_perm a l).cons b).trans (.swap a b l)
theorem sortI_perm : ∀ l, (sortI l).Perm l
  | [] => .refl _
  | a :: l => (insI_perm a (sortI l)).trans ((sortI_perm l).cons a)
theorem insI_sorted (a : Int) : ∀ l : List Int, l.Pairwise (· ≤ ·) → (insI a l).Pairwise (· ≤ ·)
  | [], _ => by simp [insI]
  | b :: l, h => by
    unfold insI
    obtain ⟨h1, h2⟩ := List.pairwise_cons.mp h
    split
    · rename_i hab
      refine List.pairwise_cons.mpr ⟨fun c hc => ?_, h⟩
      rcases List.mem_cons.mp hc with rfl | hc
      · exact hab
      · exact Int.le_trans hab (h1 c hc)
    · rename_i hab
      refine List.pairwise_cons.mpr ⟨fun c hc => ?_, insI_sorted a l h2⟩
      rcases List.mem_cons.mp ((insI_perm a l).mem_iff.mp hc) with rfl | hc
      · omega
      · exact h1 c hc
theorem sortI_sorted : ∀ l, (sortI l).Pairwise (· ≤ ·)
  | [] => .nil
  | a :: l => insI_sorted a _ (sortI_sorted l)
theorem perm_sorted_eq : ∀ {l m : List Int}, l.Perm m → l.Pairwise (· ≤ ·) → m.Pairwise (· ≤ ·) → l = m := fun {l m} hp hl hm =>
  List.Perm.eq_of_pairwise (fun a b _ _ h1 h2 => Int.le_antisymm h1 h2) hl hm hp
theorem ikeys_ok : ∀ {ks : List (Sum Int Str)} {l : List Int}, ikeys? ks = some l → ks = l.map Sum.inl
  | [], l, h => by cases h; rfl
  | .inl i :: r, l, h => by
    obtain ⟨m, hm, rfl⟩ := Option.map_eq_some_iff.mp (show (ikeys? r).map _ = some l from h)
    rw [ikeys_ok hm]
    rfl
  | .inr _ :: _, l, h => by cases h
theorem CallR.or' {f : Value} {r1 r2 : List V → Hp → VK → Prop} (h1 : CallR X f r1) (h2 : CallR X f r2) : CallR X f (fun xs H Q => r1 xs H Q ∨ r2 xs H Q) := by
  intro pins s σ H xs us Q I rv h
  rcases h with h | h
  · exact h1 pins s σ H xs us Q I rv h
  · exact h2 pins s σ H xs us Q I rv h
theorem bi_sorted (G : CxOk X Z) : BiR X Z sortedB (.builtin "sorted") := ⟨_, CallR.or' cr_sortedI (call_sortedDI G.calm), fun W Hf H F s σ ds vs r Q R p h q => by
  unfold sortedB at h
  split at h
  · obtain ⟨ns, hn, rfl⟩ := Option.map_eq_some_iff.mp h
    obtain ⟨v, rfl, p1⟩ := reps1 p
    obtain ⟨a, vs, rfl, h2, h3⟩ := p1.lst R.sub
    rw [ints_isl hn h3] at h2
    refine .inl ⟨a, ns, rfl, SqL.of h2, fun ns' p hp hs hpn => ?_⟩
    have : ns' = sortI ns := perm_sorted_eq (hp.trans (sortI_perm ns).symm) hs (sortI_sorted ns)
    rw [this]
    exact ret_n q R hpn ⟨_, rfl, isl_ints _⟩
  · obtain ⟨ns, hn, h⟩ := Option.bind_eq_some_iff.mp h
    split at h
    · rename_i h64
      cases h
      obtain ⟨v, rfl, p1⟩ := reps1 p
      obtain ⟨a, vs, e1, e2, g1, i1⟩ := p1.dct R.sub
      subst e1
      refine .inr ⟨a, _, ns, rfl, .inl g1, ?_, h64, fun ys p hp hs hpn => ?_⟩
      · rw [← ikeys_ok hn, List.map_fst_zip (by omega)]
      · have : ys = sortI ns := perm_sorted_eq (hp.trans (sortI_perm ns).symm) hs (sortI_sorted ns)
        rw [this]
        exact ret_n q R hpn ⟨_, rfl, isl_ints _⟩
    · cases h
  · cases h⟩
end
end Wd
-- WdSd13
set_option linter.all false
set_option maxRecDepth 100000
set_option maxHeartbeats 2000000
set_option Elab.async false
/-! Calls of built-in functions, methods of built-in types. -/
namespace Wd
open PySem L2 PySem.Spec PyProof.Rows
/-! ### the shape of arguments -/
def plain (e : Expr) : Bool := match e with | .Starred _ _ => false | _ => true
theorem star_plain {e : Expr} {es : List Expr} {env : Env} (h : plain e = true) : starEach (e :: es) env = (false, eval e env) :: starEach es env := by
  cases e <;> first | rfl | cases h
theorem back_plain {env : Env} {pos : Pos} : ∀ {es : List Expr}, es.all plain = true → (backTo pos (starEach es env)).any (·.1) = false
  | [], _ => rfl
  | e :: es, h => by
    rw [List.all_cons, Bool.and_eq_true] at h
    rw [star_plain h.1]
    show (false || (backTo pos (starEach es env)).any (·.1)) = false
    rw [back_plain h.2]; rfl
theorem back_len {env : Env} {pos : Pos} : ∀ {es : List Expr}, es.all plain = true → (backTo pos (starEach es env)).all (fun x => !x.1) = true
  | [], _ => rfl
  | e :: es, h => by
    rw [List.all_cons, Bool.and_eq_true] at h
    rw [star_plain h.1]
    show (true && (backTo pos (starEach es env)).all (fun x => !x.1)) = true
    rw [back_len h.2]; rfl
def okBase (o : Expr) : Bool := match o with | .Call (.Name id _) [] [] _ => id != "super" | _ => true
theorem base_ok {o : Expr} {name : Str} {env : Env} {whole : Sem Value} (h : okBase o = true) : attributeBase o name env whole = whole := by
  unfold okBase at h
  split at h
  · rename_i id p q
    unfold attributeBase
    have : (id != "super" || name == "__class__" || env.kindOf "super" != some .globalImplicit || env.kindOf "__class__" != some .free) = true := by
      rw [show (id != ("super" : Str)) = true from h]; rfl
    simp only [this, if_true]
  · rename_i hn
    cases o with
    | Call f as ks p =>
      cases f with
      | Name id q =>
        cases as with
        | nil =>
          cases ks with
          | nil => exact absurd rfl (hn id q p)
          | cons _ _ => rfl
        | cons _ _ => rfl
      | _ => rfl
    | _ => rfl
section
variable {Z : Wo} {W : WX} {X : Cx} {Hf Hf' H H' F F' : Hp} {s s' : Sto} {σ : L2.St} {v : V} {d : D} {r : Rv} {T : Tab} {C : Str → List Sl → CRes} {Q : VK}
/-- a name that is a built-in -/
structure BiN (X : Cx) (x : Str) (u : Value) : Prop where
  gl : Gl X x
  mg : X.mg x = none
  bt : bootBuiltins x = some u
  nn : x ≠ "__name__"
  nd : (x == ("__debug__" : Str)) = false
/-- arguments whose data are read -/
theorem t_args {fa : Sto → Res (List Rv)} {k : List D → Sto → Res Rv} {r : List V → Hp → Prop} {kk : Rv → Sto → Hp → Hp → Prop} (R : Rel Z Hf H F s σ) (h : Po Z W Hf F σ (bnd (fa s) fun rs s => bnd (opt "peek" (rds rs s) s) k) kk)
    (fin : ∀ ds s2 H2 Hf2 vs, Same Hf Hf2 → Rel Z Hf2 H2 F s2 σ → Reps Z Hf2 H2 ds vs → Po Z W Hf2 F σ (k ds s2) kk → r vs H2) : tA Z W fa σ H r :=
  ⟨Hf, F, s, R, h.bind.imp fun rs s2 H2 Hf2 e2 R2 h vs r2 => by
    obtain ⟨ds, hd, h⟩ := h.bind.opt R2
    exact fin ds s2 H2 Hf2 vs e2 R2 (reps_of R2 r2 hd) h⟩
theorem s_bi {b : Bi} {id : String} {x : Str} {e : Expr} {es : List Expr} {ia : Ia} {p pos : Pos} (B : BiR X Z (bi b) (.builtin id)) (N : BiN X x (.builtin id)) (ha : PA X (e :: es) (tA Z W (evA T C ia))) (hp : (e :: es).all plain = true) :
    PE X (.Call (.Name x p) (e :: es) [] pos) (tE Z W (evE T C (.bi b ia))) := by
  obtain ⟨rule, hc, ok⟩ := B.run
  have hp' := hp
  rw [List.all_cons, Bool.and_eq_true] at hp'
  refine ⟨fun pins s σ H Q I h => (pe_callB hc N.gl N.mg N.bt ha N.nn N.nd (star_plain hp'.1) (back_plain hp'.2)).run pins s σ H Q I ?_⟩
  obtain ⟨Hf, F, st, R, h⟩ := h
  rw [evE] at h
  refine t_args R h fun ds s2 H2 Hf2 vs e2 R2 p h => ?_
  obtain ⟨rr, hr, h⟩ := Po.optP h
  exact ok W Hf2 H2 F s2 σ ds vs rr Q R2 p hr h
theorem s_biT {b : Bi} {id : String} {x : Str} {e : Expr} {es : List Expr} {ia : Ia} {p pos : Pos} (B : BiR X Z (bi b) (.type id)) (N : BiN X x (.type id)) (ha : PA X (e :: es) (tA Z W (evA T C ia))) (hp : (e :: es).all plain = true) :
    PE X (.Call (.Name x p) (e :: es) [] pos) (tE Z W (evE T C (.bi b ia))) := by
  obtain ⟨rule, hc, ok⟩ := B.run
  have hp' := hp
  rw [List.all_cons, Bool.and_eq_true] at hp'
  refine ⟨fun pins s σ H Q I h => (pe_callTy hc N.gl N.mg N.bt ha N.nn N.nd (star_plain hp'.1) (back_plain hp'.2)).run pins s σ H Q I ?_⟩
  obtain ⟨Hf, F, st, R, h⟩ := h
  rw [evE] at h
  refine t_args R h fun ds s2 H2 Hf2 vs e2 R2 p h => ?_
  obtain ⟨rr, hr, h⟩ := Po.optP h
  exact ok W Hf2 H2 F s2 σ ds vs rr Q R2 p hr h
end
end Wd
-- WdSd14
set_option linter.all false
set_option maxRecDepth 100000
set_option maxHeartbeats 2000000
set_option Elab.async false
/-! What changes an object of one's own. -/
namespace Wd
open PySem L2 PySem.Spec PyProof.Rows
section
variable {Z : Wo} {W : WX} {X : Cx} {Hf Hf' H H' F F' : Hp} {s s' : Sto} {σ : L2.St} {v : V} {d d' : D} {r : Rv} {T : Tab} {C : Str → List Sl → CRes} {Q : VK} {i : Nat} {p : Addr} {o : HO}
theorem own_of_upS (h : upS s i d' = some s') : (∃ d, own? s[i]? = some d) ∧ i < s.length := by
  unfold upS at h
  split at h
  · rename_i e; exact ⟨⟨_, by rw [e]; rfl⟩, (List.getElem?_eq_some_iff.mp e).1⟩
  · rename_i e; exact ⟨⟨_, by rw [e]; rfl⟩, (List.getElem?_eq_some_iff.mp e).1⟩
  · cases h
theorem Rel.upS (R : Rel Z Hf H F s σ) (h : Wd.upS s i d' = some s') (hp : σ[i]? = some (some (.ref p))) (q : Iso Z Hf o d') : Rel Z Hf (upd H p o) F s' σ := by
  obtain ⟨⟨d, hd⟩, hi⟩ := own_of_upS h
  obtain ⟨p', o', h1, h2, h3, h4, h5⟩ := R.ow i d hd
  rw [hp] at h1
  have : p = p' := by simpa using h1
  subst this
  have key : ∃ z : Sl, s' = s.set i z ∧ (z = .ow d' ∨ (z = .bo d' ∧ ∃ e, s[i]? = some (.bo e))) := by
    unfold Wd.upS at h
    split at h
    · cases h; exact ⟨_, rfl, .inl rfl⟩
    · cases h; rename_i e; exact ⟨_, rfl, .inr ⟨rfl, _, e⟩⟩
    · cases h
  obtain ⟨z, rfl, hz⟩ := key
  have oz : own? (some z) = some d' := by rcases hz with rfl | ⟨rfl, _⟩ <;> rfl
  refine ⟨fun a u e => ?_, fun a u e => ?_, by simpa using R.len, fun j e he => ?_, fun j e he => ?_, fun j k e g hjk he hg => ?_, fun j e he => ?_⟩
  · have : a ≠ p := by rintro rfl; rw [h2] at e; cases e
    rw [upd_ne this]; exact R.sub a u e
  · obtain ⟨k1, k2⟩ := R.fr a u e
    have : a ≠ p := by rintro rfl; rw [h3] at e; cases e
    rw [upd_ne this]; exact ⟨k1, k2⟩
  · by_cases hj : j = i
    · subst hj
      rw [List.getElem?_set_self hi] at he
      rcases hz with rfl | ⟨rfl, _⟩ <;> cases he
    · rw [List.getElem?_set_ne (Ne.symm hj)] at he
      exact R.fz j e he
  · by_cases hj : j = i
    · subst hj
      rw [List.getElem?_set_self hi, oz] at he
      cases he
      exact ⟨p, o, hp, h2, h3, upd_same, q⟩
    · rw [List.getElem?_set_ne (Ne.symm hj)] at he
      obtain ⟨a, u, k1, k2, k3, k4, k5⟩ := R.ow j e he
      have : a ≠ p := by
        rintro rfl
        exact R.ap j i e d hj he hd (by rw [k1, hp])
      exact ⟨a, u, k1, k2, k3, by rw [upd_ne this]; exact k4, k5⟩
  · have t : ∀ (j : Nat) e, own? (s.set i z)[j]? = some e → ∃ e', own? s[j]? = some e' := fun j e he => by
      by_cases hj : j = i
      · subst hj; exact ⟨d, hd⟩
      · rw [List.getElem?_set_ne (Ne.symm hj)] at he; exact ⟨e, he⟩
    obtain ⟨e', he'⟩ := t j e he
    obtain ⟨g', hg'⟩ := t k g hg
    exact R.ap j k e' g' hjk he' hg'
  · by_cases hj : j = i
    · subst hj
      rw [List.getElem?_set_self hi] at he
      rcases hz with rfl | ⟨rfl, e', hb⟩
      · cases he
      · exact R.bo j e' hb
    · rw [List.getElem?_set_ne (Ne.symm hj)] at he
      exact R.bo j e he
/-! ### x.append(y), x.pop() -/
theorem mt_own {K : PySem.W.Frag} {m : Mt} {x : Rv} (R : Rel Z Hf H F s σ) (rx : RR Z Hf H F s σ x v) (hp : peek x s = some d) (ok : mtOk m d = true) (hm : m = .append ∨ m = .pop) : tyV K "list" v H := by
  have hd : ∃ l, d = .lst l := by
    rcases hm with rfl | rfl <;> (cases d <;> first | exact ⟨_, rfl⟩ | cases ok)
  obtain ⟨l, rfl⟩ := hd
  obtain ⟨a, vs, rfl, h2, h3⟩ := (rep_of R rx hp).lst R.sub
  exact .inl ⟨rfl, vs, SqL.of h2⟩
theorem mut_ok {m : Mt} {x : Rv} {rs : List Rv} {vs : List V} {k : Rv → Sto → Hp → Hp → Prop} (R : Rel Z Hf H F s σ) (rx : RR Z Hf H F s σ x v) (rs' : RRs Z Hf H s σ F rs vs) (h : Po Z W Hf F σ (mutM m x rs s) k) :
    ∃ i p Hf2 s2 s3 d ds w d' vs2, v = .ref p ∧ σ[i]? = some (some (.ref p)) ∧ Same Hf Hf2 ∧ Rel Z Hf2 H F s2 σ ∧ own? s2[i]? = some d ∧ (∃ o, H p = some o ∧ Iso Z Hf2 o d) ∧ Isl Z Hf2 ds vs ∧ mtM m d ds = some (w, d') ∧ Wd.upS s2 i d' = some s3 ∧ Po Z W Hf2 F σ (.ok (.v w) s3) k ∧ vs2 = vs := by
  unfold mutM at h
  cases x with
  | v _ => exact h.elim
  | n _ => exact h.elim
  | b i =>
    cases e3 : fzs rs s with
    | none => simp only [e3] at h; exact h.elim
    | some q =>
      obtain ⟨ds, s3⟩ := q
      simp only [e3] at h
      obtain ⟨Hf3, sm, R3, i3⟩ := fzs_ok R rs' e3
      cases hd : peek (.b i) s3 with
      | none => simp only [hd] at h; exact h.elim
      | some d =>
        simp only [hd] at h
        cases e4 : mtM m d ds with
        | none => simp only [e4] at h; exact h.elim
        | some w =>
          obtain ⟨w, d'⟩ := w
          simp only [e4] at h
          cases e5 : Wd.upS s3 i d' with
          | none => simp only [e5] at h; exact h.elim
          | some s4 =>
            simp only [e5] at h
            have rb : σ[i]? = some (some v) := rx
            obtain ⟨⟨dd, hdd⟩, _⟩ := own_of_upS e5
            obtain ⟨p, ob, k1, k2, k3, k4, k5⟩ := R3.ow i dd hdd
            rw [rb] at k1
            have ev : v = .ref p := by simpa using k1
            subst ev
            have hd' : (s3[i]?).bind Sl.con = some d := hd
            have hdl : dd = d := by
              rcases own_fr hdd with q | q <;> (rw [q] at hd'; exact Option.some.inj hd')
            subst hdl
            exact ⟨i, p, Hf3, s3, s4, dd, ds, w, d', vs, rfl, rb, sm, R3, hdd, ⟨ob, k4, k5⟩, i3, e4, e5, h.mono sm, rfl⟩
theorem s_append {o e : Expr} {io : Ie} {ia : Ia} {apos cpos : Pos} (ho : PE X o (tE Z W (evE T C io))) (ha : PA X [e] (tA Z W (evA T C ia))) (hb : okBase o = true) (hl : (apos.endLine == cpos.line) = true) (hp : plain e = true) :
    PE X (.Call (.Attribute o "append" apos) [e] [] cpos) (tE Z W (evE T C (.mt .append io ia))) := by
  refine ⟨fun pins s σ H Q I h => (pe_bm (r := rAppend) PySem.F.plainAttrs_list PySem.F.slot_list_append PySem.F.type_list_append mt_append ho ha (base_ok hb) (by rw [star_plain hp]; rfl) hl (star_plain hp) rfl).run pins s σ H Q I ?_⟩
  obtain ⟨Hf, F, st, R, h⟩ := h
  rw [evE] at h
  refine t_one R h fun x s1 H1 Hf1 v1 e1 R1 r1 h => ?_
  obtain ⟨d0, hd0, h⟩ := h.bind.opt R1
  split at h
  · rename_i ok
    refine ⟨mt_own R1 r1 hd0 ok (.inl rfl), ?_⟩
    refine ⟨Hf1, addT F H1 x v1, s1, R1.add r1, (h.bind.frame (addT_sub r1)).imp fun rs s2 H2 Hf2 e2 R2 h vs r2 => ?_⟩
    obtain ⟨i, p, Hf3, s3, s4, d, ds, w, d', _, rfl, rb, sm, R3, hdd, ⟨ob, k4, k5⟩, i3, e4, e5, h, rfl⟩ := mut_ok (R2.weak (addT_sub r1)) (r1.later e2 R2) (r2.weak (addT_sub r1)) h
    unfold mtM at e4
    split at e4
    · split at e4
      · cases e4
        rename_i l y hl
        obtain ⟨vs', rfl, i5⟩ := k5
        obtain ⟨y', w', rfl, iy, iw⟩ := isl_cons.mp i3
        have : w' = [] := isl_nil.mp iw
        subst this
        refine ⟨p, vs', y', rfl, rfl, k4, by rw [← i5.length]; exact Nat.lt_of_lt_of_le hl lim_le, ?_⟩
        have R4 := R3.upS e5 rb (o := .lst (vs' ++ [y'])) ⟨_, rfl, i5.append (.one iy)⟩
        exact h _ Hf3 (Same.refl _) R4 _ (isd_non (Z := Z) (Hf := Hf3))
      · cases e4
    · rename_i hne; cases hne
    · cases e4
  · exact h.elim
theorem s_pop {o : Expr} {io : Ie} {apos cpos : Pos} (ho : PE X o (tE Z W (evE T C io))) (hb : okBase o = true) (hl : (apos.endLine == cpos.line) = true) :
    PE X (.Call (.Attribute o "pop" apos) [] [] cpos) (tE Z W (evE T C (.mt .pop io .nil))) := by
  refine ⟨fun pins s σ H Q I h => (pe_bm0 (r := rPop) PySem.F.plainAttrs_list PySem.F.slot_list_pop PySem.F.type_list_pop mt_pop ho (base_ok hb) hl).run pins s σ H Q I ?_⟩
  obtain ⟨Hf, F, st, R, h⟩ := h
  rw [evE] at h
  refine t_one R h fun x s1 H1 Hf1 v1 e1 R1 r1 h => ?_
  obtain ⟨d0, hd0, h⟩ := h.bind.opt R1
  split at h
  · rename_i ok
    refine ⟨mt_own R1 r1 hd0 ok (.inr rfl), ?_⟩
    rw [evA] at h
    obtain ⟨i, p, Hf3, s3, s4, d, ds, w, d', _, rfl, rb, sm, R3, hdd, ⟨ob, k4, k5⟩, i3, e4, e5, h, rfl⟩ := mut_ok (vs := []) (rs := []) R1 r1 rfl h
    unfold mtM at e4
    split at e4
    · rename_i hne; cases hne
    · split at e4
      · cases e4
        rename_i l y hl
        obtain ⟨vs', rfl, i5⟩ := k5
        rw [List.getLast?_eq_getElem?] at hl
        obtain ⟨y', hy', iy⟩ := i5.get hl
        rw [i5.length] at hy'
        refine ⟨p, vs', y', rfl, rfl, k4, hy', ?_⟩
        have R4 := R3.upS e5 rb (o := .lst vs'.dropLast) ⟨_, rfl, i5.dropLast⟩
        exact h _ _ (Same.refl _) R4 _ iy
      · cases e4
    · cases e4
  · exact h.elim
end
end Wd
-- WdSd15
set_option linter.all false
set_option maxRecDepth 100000
set_option maxHeartbeats 2000000
set_option Elab.async false
/-! Statements. -/
namespace Wd
open PySem L2 PySem.Spec PyProof.Rows
/-- what follows of a statement's end -/
def PoS (Z : Wo) (W : WX) (Hf F : Hp) (x : Res Fl) (D : Ends) : Prop := match x with
  | .ok .nx s => ∀ σ' H' Hf', Same Hf Hf' → Rel Z Hf' H' F s σ' → D.nx σ' H'
  | .ok .bk s => ∀ σ' H' Hf', Same Hf Hf' → Rel Z Hf' H' F s σ' → D.bk σ' H'
  | .ok (.rt r) s => ∀ σ' H' Hf', Same Hf Hf' → Rel Z Hf' H' F s σ' → ∀ v, RR Z Hf' H' F s σ' r v → D.rt v H'
  | .ex e s => ∀ σ' cls d H' Hf', Same Hf Hf' → Rel Z Hf' H' F s σ' → Exd Z Hf' e cls d → W cls d σ' H'
  | .bad _ => False
def tS (Z : Wo) (W : WX) (f : Sto → Res Fl) : TS := fun D σ H => ∃ Hf F s, Rel Z Hf H F s σ ∧ PoS Z W Hf F (f s) D
section
variable {α β : Type} {Z : Wo} {W : WX} {X : Cx} {Hf Hf' H H' F F' : Hp} {s s' : Sto} {σ : L2.St} {v : V} {d d' : Wd.D} {r : Rv} {T : Tab} {C : Str → List Sl → CRes} {Q : VK} {D : Ends} {i Wh : Nat}
theorem PoS.mono {x : Res Fl} (h : PoS Z W Hf F x D) (e : Same Hf Hf') : PoS Z W Hf' F x D := by
  cases x with
  | ok a s =>
    cases a with
    | nx => exact fun σ' H' Hf2 e2 R => h σ' H' Hf2 (e.trans e2) R
    | bk => exact fun σ' H' Hf2 e2 R => h σ' H' Hf2 (e.trans e2) R
    | rt r => exact fun σ' H' Hf2 e2 R => h σ' H' Hf2 (e.trans e2) R
  | ex a s => exact fun σ' c d H' Hf2 e2 R => h σ' c d H' Hf2 (e.trans e2) R
  | bad w => exact h
/-- an expression ahead of a statement's rest -/
theorem PoS.bind {x : Res α} {f : α → Sto → Res Fl} (h : PoS Z W Hf F (bnd x f) D) : Po Z W Hf F σ x fun a s _ Hf' => PoS Z W Hf' F (f a s) D := by
  cases x with
  | ok a s => exact fun H' Hf2 e2 R => PoS.mono (x := f a s) h e2
  | ex a s => exact fun c d H' Hf2 e2 R => h σ c d H' Hf2 e2 R
  | bad w => exact h
theorem PoS.opt {o : Option α} {w : String} {s : Sto} {f : α → Sto → Res Fl} (h : PoS Z W Hf F (bnd (Wd.opt w o s) f) D) : ∃ a, o = some a ∧ PoS Z W Hf F (f a s) D := by
  cases o with
  | none => exact h.elim
  | some a => exact ⟨a, rfl, h⟩
theorem PoS.nx (h : PoS Z W Hf F (.ok .nx s) D) (R : Rel Z Hf H F s σ) : D.nx σ H := h σ H Hf (Same.refl _) R
/-! ### a name gets a value -/
theorem set_len {x : Option V} {z : Sl} (R : Rel Z Hf H F s σ) : (s.set i z).length = (σ.set i x).length := by simp [R.len]
theorem Rel.putV (R : Rel Z Hf H F s σ) (hi : i < s.length) (q : Isd Z Hf d v) : Rel Z Hf H F (s.set i (.fr d)) (σ.set i (some v)) := by
  have hσ : i < σ.length := by rw [← R.len]; exact hi
  refine ⟨R.sub, R.fr, set_len R, fun j e he => ?_, fun j e he => ?_, fun j k e g hjk he hg => ?_, fun j e he => ?_⟩
  · by_cases hj : j = i
    · subst hj
      rw [List.getElem?_set_self hi] at he
      cases he
      exact ⟨v, by rw [List.getElem?_set_self hσ], q⟩
    · rw [List.getElem?_set_ne (Ne.symm hj)] at he ⊢
      exact R.fz j e he
  · by_cases hj : j = i
    · subst hj
      rw [List.getElem?_set_self hi] at he; cases he
    · rw [List.getElem?_set_ne (Ne.symm hj)] at he ⊢
      exact R.ow j e he
  · by_cases hj : j = i
    · subst hj
      rw [List.getElem?_set_self hi] at he; cases he
    · by_cases hk : k = i
      · subst hk
        rw [List.getElem?_set_self hi] at hg; cases hg
      · rw [List.getElem?_set_ne (Ne.symm hj)] at he ⊢
        rw [List.getElem?_set_ne (Ne.symm hk)] at hg ⊢
        exact R.ap j k e g hjk he hg
  · by_cases hj : j = i
    · subst hj
      rw [List.getElem?_set_self hi] at he; cases he
    · rw [List.getElem?_set_ne (Ne.symm hj)] at he ⊢
      exact R.bo j e he
theorem Rel.putN (R : Rel Z Hf H F s σ) (hi : i < s.length) (rr : RR Z Hf H F s σ (.n d) v) : Rel Z Hf H F (s.set i (.ow d)) (σ.set i (some v)) := by
  have hσ : i < σ.length := by rw [← R.len]; exact hi
  obtain ⟨p, o, rfl, h2, h3, h4, h5, h6⟩ := rr
  refine ⟨R.sub, R.fr, set_len R, fun j e he => ?_, fun j e he => ?_, fun j k e g hjk he hg => ?_, fun j e he => ?_⟩
  · by_cases hj : j = i
    · subst hj
      rw [List.getElem?_set_self hi] at he; cases he
    · rw [List.getElem?_set_ne (Ne.symm hj)] at he ⊢
      exact R.fz j e he
  · by_cases hj : j = i
    · subst hj
      rw [List.getElem?_set_self hi] at he
      cases he
      exact ⟨p, o, by rw [List.getElem?_set_self hσ], h2, h3, h4, h5⟩
    · rw [List.getElem?_set_ne (Ne.symm hj)] at he ⊢
      exact R.ow j e he
  · by_cases hj : j = i
    · subst hj
      rw [List.getElem?_set_ne (i := j) (j := k) hjk] at hg ⊢
      rw [List.getElem?_set_self hσ]
      exact fun z => h6 k g hg z.symm
    · by_cases hk : k = i
      · subst hk
        rw [List.getElem?_set_ne (Ne.symm hj)] at he ⊢
        rw [List.getElem?_set_self hσ]
        exact h6 j e he
      · rw [List.getElem?_set_ne (Ne.symm hj)] at he ⊢
        rw [List.getElem?_set_ne (Ne.symm hk)] at hg ⊢
        exact R.ap j k e g hjk he hg
  · by_cases hj : j = i
    · subst hj
      rw [List.getElem?_set_self hi] at he; cases he
    · rw [List.getElem?_set_ne (Ne.symm hj)] at he ⊢
      exact R.bo j e he
theorem frz_len (h : frz r s = some (d, s')) : s'.length = s.length := by
  cases r with
  | v x => have : x = d ∧ s = s' := by simpa [frz] using h
           rw [this.2]
  | n x => have : x = d ∧ s = s' := by simpa [frz] using h
           rw [this.2]
  | b j =>
    have h' : (match s[j]? with
      | some (.ow d) => some (d, s.set j (.fr d))
      | some (.fr d) => some (d, s)
      | _ => none) = some (d, s') := h
    split at h'
    · cases h'; simp
    · cases h'; rfl
    · cases h'
theorem Rel.putR (R : Rel Z Hf H F s σ) (rr : RR Z Hf H F s σ r v) {u : Unit} (h : Wd.putR s i r = .ok u s') : ∃ Hf', Same Hf Hf' ∧ Rel Z Hf' H F s' (σ.set i (some v)) := by
  unfold Wd.putR at h
  split at h
  · cases h
  · cases h
  · rename_i h1 h2
    have hi : i < s.length := by
      refine Classical.byContradiction fun hn => h2 ?_
      rw [List.getElem?_eq_none_iff]; omega
    cases r with
    | v d =>
      cases h
      exact ⟨Hf, Same.refl _, R.putV hi rr⟩
    | n d =>
      obtain ⟨p, o, e1, e2, e3, e4, e5, e6⟩ := id rr
      cases d with
      | lst l => cases h; exact ⟨Hf, Same.refl _, R.putN hi rr⟩
      | dct ks l => cases h; exact ⟨Hf, Same.refl _, R.putN hi rr⟩
      | ins c ns l => cases h; exact ⟨Hf, Same.refl _, R.putN hi rr⟩
      | _ => exact e5.elim
    | b j =>
      cases e : Wd.frz (.b j) s with
      | none => simp only [e] at h; cases h
      | some p =>
        obtain ⟨d, s1⟩ := p
        simp only [e] at h
        cases h
        obtain ⟨Hf', sm, R', q, _⟩ := R.frzW rr e
        exact ⟨Hf', sm, R'.putV (by rw [frz_len e]; exact hi) q⟩
theorem putR_no {e : Wd.D} {s2 : Sto} : Wd.putR s i r ≠ .ex e s2 := by
  unfold Wd.putR
  split
  · exact fun z => by cases z
  · exact fun z => by cases z
  · cases r with
    | v d => exact fun z => by cases z
    | n d => exact fun z => by cases z
    | b j =>
      cases e : Wd.frz (.b j) s with
      | none => simp only [e]; exact fun z => by cases z
      | some p => obtain ⟨d, s1⟩ := p; simp only [e]; exact fun z => by cases z
/-! ### small statements -/
def okSwap (e : Expr) : Bool := match e with | .ListComp _ _ _ _ | .SetComp _ _ _ _ | .DictComp _ _ _ _ _ => false | _ => true
theorem swap_ok {e : Expr} {t : Option Expr} {l : Nat} {env : Env} (h : okSwap e = true) : swapsWith e t l env = pure false := by
  cases e <;> first | rfl | cases h
theorem s_pass {pos : Pos} : PS X (.Pass pos) (tS Z W (evS T C Wh .pass)) := ⟨fun pins s σ H D I h => ps_pass.run pins s σ H D I (by
  obtain ⟨Hf, F, st, R, h⟩ := h
  rw [evS] at h
  exact h.nx R)⟩
theorem s_brk {pos : Pos} : PS X (.Break pos) (tS Z W (evS T C Wh .brk)) := ⟨fun pins s σ H D I h => ps_break.run pins s σ H D I (by
  obtain ⟨Hf, F, st, R, h⟩ := h
  rw [evS] at h
  exact h σ H Hf (Same.refl _) R)⟩
theorem s_never {st : Stmt} {is : Is} (hf : ∀ s, ∃ w, evS T C Wh is s = .bad w) : PS X st (tS Z W (evS T C Wh is)) := ⟨fun pins s σ H D I h => by
  obtain ⟨Hf, F, st, R, h⟩ := h
  obtain ⟨w, e⟩ := hf st
  rw [e] at h
  exact h.elim⟩
theorem s_ret {e : Expr} {ie : Ie} {pos : Pos} (he : PE X e (tE Z W (evE T C ie))) : PS X (.Return (some e) pos) (tS Z W (evS T C Wh (.ret ie))) := ⟨fun pins s σ H D I h => (ps_ret he).run pins s σ H D I (by
  obtain ⟨Hf, F, st, R, h⟩ := h
  rw [evS] at h
  exact ⟨Hf, F, st, R, h.bind.imp fun r s1 H1 Hf1 e1 R1 h v rv => h σ H1 Hf1 (Same.refl _) R1 v rv⟩)⟩
theorem s_retN {pos : Pos} : PS X (.Return none pos) (tS Z W (evS T C Wh (.ret (.con .non)))) := ⟨fun pins s σ H D I h => ps_retN.run pins s σ H D I (by
  obtain ⟨Hf, F, st, R, h⟩ := h
  rw [evS, evE] at h
  exact h σ H Hf (Same.refl _) R _ (isd_non (Z := Z) (Hf := Hf)))⟩
theorem s_ex {e : Expr} {ie : Ie} {pos : Pos} (he : PE X e (tE Z W (evE T C ie))) (hs : okSwap e = true) : PS X (.Expr e pos) (tS Z W (evS T C Wh (.ex ie))) := ⟨fun pins s σ H D I h => (ps_expr he (swap_ok hs)).run pins s σ H D I (by
  obtain ⟨Hf, F, st, R, h⟩ := h
  rw [evS] at h
  exact ⟨Hf, F, st, R, h.bind.imp fun r s1 H1 Hf1 e1 R1 h v rv => h.nx R1⟩)⟩
theorem s_set {x : Str} {e : Expr} {ie : Ie} {pos pos' : Pos} (hN : X.N.Nodup) (hi : X.N[i]? = some x) (hx : Loc X.env.scope x) (hfx : X.fn x = true ∨ X.env.scope.names.lookup x = some .local) (he : PE X e (tE Z W (evE T C ie))) (hs : swapsWith e (some (.Name x pos')) pos.line X.env = pure false) :
    PS X (.Assign [.Name x pos'] e pos) (tS Z W (evS T C Wh (.set (.nm i) ie))) := ⟨fun pins s σ H D I h => (ps_set hN hi hx he hs hfx).run pins s σ H D I (by
  obtain ⟨Hf, F, st, R, h⟩ := h
  rw [evS] at h
  refine ⟨Hf, F, st, R, h.bind.imp fun r s1 H1 Hf1 e1 R1 h v rv => ?_⟩
  have h : PoS Z W Hf1 F (bnd (Wd.putR s1 i r) fun _ s => .ok .nx s) D := h
  cases q : Wd.putR s1 i r with
  | ok u s2 =>
    rw [q] at h
    obtain ⟨Hf2, sm, R2⟩ := R1.putR rv q
    exact (PoS.mono (x := .ok .nx s2) h sm).nx R2
  | ex e s2 => exact absurd q putR_no
  | bad w => rw [q] at h; exact h.elim)⟩
/-! ### blocks -/
theorem s_nil : PSs X [] (tS Z W (evB T C Wh .nil)) := ⟨fun pins s σ H D I h => pss_nil.run pins s σ H D I (by
  obtain ⟨Hf, F, st, R, h⟩ := h
  rw [evB] at h
  exact h.nx R)⟩
theorem s_cons {st : Stmt} {rest : List Stmt} {is : Is} {ib : Ib} (h1 : PS X st (tS Z W (evS T C Wh is))) (h2 : PSs X rest (tS Z W (evB T C Wh ib))) : PSs X (st :: rest) (tS Z W (evB T C Wh (.cons is ib))) := ⟨fun pins s σ H D I h => (pss_cons h1 h2).run pins s σ H D I (by
  obtain ⟨Hf, F, st, R, h⟩ := h
  rw [evB] at h
  refine ⟨Hf, F, st, R, ?_⟩
  cases q : evS T C Wh is st with
  | bad w => rw [q] at h; exact h.elim
  | ex e s2 => rw [q] at h; exact h
  | ok f s2 =>
    rw [q] at h
    cases f with
    | nx => exact fun σ' H' Hf' sm R' => ⟨Hf', F, s2, R', PoS.mono h sm⟩
    | bk => exact h
    | rt r => exact h)⟩
theorem ps_weak {st : Stmt} {t t' : TS} (h : PS X st t) (w : ∀ D σ H, t' D σ H → t D σ H) : PS X st t' := ⟨fun pins s σ H D I q => h.run pins s σ H D I (w D σ H q)⟩
theorem s_if {c : Expr} {a b : List Stmt} {ic : Ie} {ia ib : Ib} {pos : Pos} (hc : PT X c (tT Z W (evT T C ic))) (ha : PSs X a (tS Z W (evB T C Wh ia))) (hb : PSs X b (tS Z W (evB T C Wh ib))) : PS X (.If c a b pos) (tS Z W (evS T C Wh (.iff ic ia ib))) :=
  ps_weak (ps_if hc ha hb) fun D σ H h => by
    obtain ⟨Hf, F, st, R, h⟩ := h
    have e : evS T C Wh (.iff ic ia ib) st = bnd (evT T C ic st) fun b s => if b = true then evB T C Wh ia s else evB T C Wh ib s := by
      rw [evS]
      unfold evT rd
      cases h1 : evE T C ic st with
      | bad _ => rfl
      | ex _ _ => rfl
      | ok x s1 =>
        cases hp : peek x s1 with
        | none => simp [bnd, Wd.opt, hp]
        | some d =>
          cases ht : truth d with
          | none => simp [bnd, Wd.opt, hp, ht]
          | some k => cases k <;> simp [bnd, Wd.opt, hp, ht]
    rw [e] at h
    refine ⟨Hf, F, st, R, h.bind.imp fun k s2 H2 Hf2 e2 R2 h2 => ?_⟩
    cases k with
    | true => exact iteT ⟨Hf2, F, s2, R2, h2⟩
    | false => exact iteF ⟨Hf2, F, s2, R2, h2⟩
/-! ### while -/
theorem s_while {c : Expr} {body : List Stmt} {ic : Ie} {ib : Ib} {pos : Pos} (hp : PassesOwn (model X.prog X.w) X.A X.env X.xe) (hc : PT X c (tT Z W (evT T C ic))) (hb : PSs X body (tS Z W (evB T C Wh ib))) :
    PS X (.While c body [] pos) (tS Z W (evS T C Wh (.whl ic ib))) :=
  ps_weak (ps_while hp hc hb) fun D σ H h => by
    obtain ⟨Hf, F, st, R, h⟩ := h
    rw [evS] at h
    refine ⟨fun m σ H => ∃ Hf s, Rel Z Hf H F s σ ∧ PoS Z W Hf F (whileN (fun s => rd (evE T C ic s)) (fun s => evB T C Wh ib s) m s) D, ⟨Wh, Hf, st, R, h⟩, ?_⟩
    rintro m σ H ⟨Hf, s, R, h⟩
    cases m with
    | zero => exact h.elim
    | succ m =>
      have e : whileN (fun s => rd (evE T C ic s)) (fun s => evB T C Wh ib s) (m + 1) s = bnd (evT T C ic s) fun b s => if b = true then (bnd (evB T C Wh ib s) fun f s => next f s (whileN (fun s => rd (evE T C ic s)) (fun s => evB T C Wh ib s) m s)) else .ok .nx s := by
        rw [whileN]
        unfold evT rd
        cases h1 : evE T C ic s with
        | bad _ => rfl
        | ex _ _ => rfl
        | ok x s1 =>
          cases hp : peek x s1 with
          | none => simp [bnd, Wd.opt, hp]
          | some d =>
            cases ht : truth d with
            | none => simp [bnd, Wd.opt, hp, ht]
            | some k => cases k <;> simp [bnd, Wd.opt, hp, ht]
      rw [e] at h
      refine ⟨Hf, F, s, R, h.bind.imp fun k s2 H2 Hf2 e2 R2 h2 => ?_⟩
      cases k with
      | false => exact iteF (PoS.nx h2 R2)
      | true =>
        refine iteT ⟨fun σ' H' => ∃ Hf s, Rel Z Hf H' F s σ' ∧ PoS Z W Hf F (whileN (fun s => rd (evE T C ic s)) (fun s => evB T C Wh ib s) m s) D, fun σ' H' q => ⟨m, Nat.lt_succ_self _, q⟩, Hf2, F, s2, R2, ?_⟩
        have h2 : PoS Z W Hf2 F (bnd (evB T C Wh ib s2) fun f s => next f s (whileN (fun s => rd (evE T C ic s)) (fun s => evB T C Wh ib s) m s)) D := h2
        cases q : evB T C Wh ib s2 with
        | bad w => rw [q] at h2; exact h2.elim
        | ex e s3 => rw [q] at h2; exact h2
        | ok f s3 =>
          rw [q] at h2
          cases f with
          | nx => exact fun σ' H' Hf' sm R' => ⟨Hf', s3, R', PoS.mono h2 sm⟩
          | bk => exact h2
          | rt r => exact h2
end
end Wd
-- WdSd16
set_option linter.all false
set_option maxRecDepth 100000
set_option maxHeartbeats 2000000
set_option Elab.async false
/-! Assignments: items, several targets; augmented ones; fields. -/
namespace Wd
open PySem L2 PySem.Spec PyProof.Rows
/-- behind a store -/
def PoU (Z : Wo) (W : WX) (Hf F : Hp) (x : Res Unit) (Q : L2.St → Hp → Prop) : Prop := match x with
  | .ok _ s => ∀ σ' H' Hf', Same Hf Hf' → Rel Z Hf' H' F s σ' → Q σ' H'
  | .ex e s => ∀ σ' cls d H' Hf', Same Hf Hf' → Rel Z Hf' H' F s σ' → Exd Z Hf' e cls d → W cls d σ' H'
  | .bad _ => False
def tG (Z : Wo) (W : WX) (f : Rv → Sto → Res Unit) : TG := fun v σ H Q => ∃ Hf F s r, Rel Z Hf H F s σ ∧ RR Z Hf H F s σ r v ∧ PoU Z W Hf F (f r s) Q
section
variable {α β : Type} {Z : Wo} {W : WX} {X : Cx} {Hf Hf' H H' F F' : Hp} {s s' : Sto} {σ : L2.St} {v : V} {d d' : Wd.D} {r : Rv} {T : Tab} {C : Str → List Sl → CRes} {Q : L2.St → Hp → Prop} {D : Ends} {i Wh : Nat}
theorem PoU.mono {x : Res Unit} (h : PoU Z W Hf F x Q) (e : Same Hf Hf') : PoU Z W Hf' F x Q := by
  cases x with
  | ok a s => exact fun σ' H' Hf2 e2 R => h σ' H' Hf2 (e.trans e2) R
  | ex a s => exact fun σ' c d H' Hf2 e2 R => h σ' c d H' Hf2 (e.trans e2) R
  | bad w => exact h
theorem PoU.bind {x : Res α} {f : α → Sto → Res Unit} (h : PoU Z W Hf F (bnd x f) Q) : Po Z W Hf F σ x fun a s _ Hf' => PoU Z W Hf' F (f a s) Q := by
  cases x with
  | ok a s => exact fun H' Hf2 e2 R => PoU.mono (x := f a s) h e2
  | ex a s => exact fun c d H' Hf2 e2 R => h σ c d H' Hf2 e2 R
  | bad w => exact h
theorem PoU.opt {o : Option α} {w : String} {s : Sto} {f : α → Sto → Res Unit} (h : PoU Z W Hf F (bnd (Wd.opt w o s) f) Q) : ∃ a, o = some a ∧ PoU Z W Hf F (f a s) Q := by
  cases o with
  | none => exact h.elim
  | some a => exact ⟨a, rfl, h⟩
/-- a store ahead of a statement's rest -/
theorem PoS.store {x : Res Unit} (h : PoS Z W Hf F (bnd x fun _ s => .ok .nx s) D) : PoU Z W Hf F x D.nx := by
  cases x with
  | ok a s => exact h
  | ex a s => exact h
  | bad w => exact h
theorem g_nm {x : Str} {pos : Pos} (hN : X.N.Nodup) (hi : X.N[i]? = some x) (hx : Loc X.env.scope x) (hfx : X.fn x = true ∨ X.env.scope.names.lookup x = some .local) : PG X (.Name x pos) (tG Z W (putT T C (.nm i))) := by
  refine ⟨fun pins s σ H v u Q I rv h => (pg_name hN hi hx hfx).run pins s σ H v u Q I rv ?_⟩
  obtain ⟨Hf, F, st, r, R, rr, h⟩ := h
  have h : PoU Z W Hf F (putR st i r) Q := h
  cases q : Wd.putR st i r with
  | ok u s2 =>
    rw [q] at h
    obtain ⟨Hf2, sm, R2⟩ := R.putR rr q
    exact h _ _ _ sm R2
  | ex e s2 => exact absurd q putR_no
  | bad w => rw [q] at h; exact h.elim
/-- o[i] = v of a list, a dict -/
def rSetA : TSet := fun o i v H Q => rSetL o i v H Q ∨ rSetD o i v H Q
theorem set_all (hu : X.A.units + 64 < cLine) : PSet X rSetA := by
  intro pins s σ H o i v ov iv u Q I ro ri rv h
  rcases h with h | h
  · exact set_list pins s σ H o i v ov iv u Q I ro ri rv h
  · exact set_dict (by omega) pins s σ H o i v ov iv u Q I ro ri rv h
theorem krep_map : ∀ {ks : List (Sum Int Str)} {l : List Wd.D} {vs : List V} {k : Sum Int Str} {d : Wd.D} {v : V}, ks.length = vs.length → Isl Z Hf l vs → Isd Z Hf d v →
    ∃ vs', ks.length = vs'.length ∧ Isl Z Hf (krep ks l k d) vs' ∧ (ks.zip vs).map (fun kv => if kv.1 = k then (kv.1, v) else kv) = ks.zip vs'
  | [], l, vs, k, d, v, hl, h, hd => ⟨[], rfl, by unfold krep; exact isl_nil.mpr rfl, by simp⟩
  | q :: ks, [], vs, k, d, v, hl, h, hd => by
    rw [isl_nil.mp h] at hl; simp at hl
  | q :: ks, e :: l, vs, k, d, v, hl, h, hd => by
    obtain ⟨x, w, rfl, h1, h2⟩ := isl_cons.mp h
    obtain ⟨w', g1, g2, g3⟩ := krep_map (k := k) (by simpa using hl) h2 hd
    refine ⟨(if q = k then v else x) :: w', by simp [g1], ?_, ?_⟩
    · unfold krep
      refine isl_cons.mpr ⟨_, _, rfl, ?_, g2⟩
      split
      · exact hd
      · exact h1
    · rw [List.zip_cons_cons, List.map_cons, List.zip_cons_cons, g3]
      congr 1
      show (if q = k then (q, v) else (q, x)) = (q, if q = k then v else x)
      split <;> rfl
theorem kput_put {ks : List (Sum Int Str)} {l : List Wd.D} {vs : List V} {k : Sum Int Str} {d : Wd.D} {v : V} (hl : ks.length = vs.length) (h : Isl Z Hf l vs) (hd : Isd Z Hf d v) :
    ∃ vs', (kput ks l k d).1.length = vs'.length ∧ Isl Z Hf (kput ks l k d).2 vs' ∧ putK (ks.zip vs) k v = (kput ks l k d).1.zip vs' := by
  have ea : ((ks.zip vs).any fun kv => decide (kv.1 = k)) = ks.any fun q => decide (q = k) := by
    have : ks = (ks.zip vs).map Prod.fst := by rw [List.map_fst_zip (by omega)]
    conv => rhs; rw [this]
    rw [List.any_map]
    rfl
  unfold kput putK
  rw [ea]
  split
  · obtain ⟨vs', g1, g2, g3⟩ := krep_map (k := k) hl h hd
    exact ⟨vs', g1, g2, g3⟩
  · refine ⟨vs ++ [v], by simp [hl], h.append (.one hd), ?_⟩
    rw [List.zip_append hl]; rfl
theorem ixN_eq {n : Nat} {i : Int} {j : Nat} (h : Wd.ixN n i = some j) : L2.ixN n i = some j := by
  unfold Wd.ixN at h
  unfold L2.ixN
  split at h
  · rename_i h0
    rw [if_pos h0.1, if_pos h0.2]; exact h
  · split at h
    · rename_i h0 h1
      rw [if_neg (by omega), if_pos (by omega)]; exact h
    · cases h
/-- what a store leaves -/
theorem putIx_ok {k w : Wd.D} {vk vw vo : V} {Q : Hp → Prop} (R : Rel Z Hf H F s σ) (ho : σ[i]? = some (some vo)) (pk : Rep Z Hf H k vk) (qw : Isd Z Hf w vw) (h : putIx i k w s = some s') (q : ∀ H', Rel Z Hf H' F s' σ → Q H') : rSetA vo vk vw H Q := by
  unfold putIx at h
  obtain ⟨o, h1, h⟩ := Option.bind_eq_some_iff.mp h
  obtain ⟨o', h2, h⟩ := Option.bind_eq_some_iff.mp h
  obtain ⟨⟨dd, hdd⟩, _⟩ := own_of_upS h
  obtain ⟨p, ob, k1, k2, k3, k4, k5⟩ := R.ow i dd hdd
  rw [ho] at k1
  have ev : vo = .ref p := by simpa using k1
  subst ev
  have hdl : dd = o := by
    rcases own_fr hdd with q | q <;> (rw [q] at h1; exact Option.some.inj h1)
  subst hdl
  unfold setixD at h2
  split at h2
  · obtain ⟨j, hj, rfl⟩ := Option.map_eq_some_iff.mp h2
    obtain ⟨vs, rfl, i5⟩ := k5
    refine .inl ⟨p, vs, _, j, rfl, pk.int, k4, by rw [← i5.length]; exact ixN_eq hj, ?_⟩
    exact q _ (R.upS h ho ⟨_, rfl, i5.set j qw⟩)
  · obtain ⟨kk, hk, h2⟩ := Option.bind_eq_some_iff.mp h2
    split at h2
    · cases h2
      rename_i hz
      obtain ⟨dx, e1, e2, e3⟩ := k5
      obtain ⟨vs', g1, g2, g3⟩ := kput_put (k := kk) e1 e3 qw
      subst e2
      rename_i ks0 l0 _
      have hzl : (ks0.zip dx).length < sizeLine := by
        rw [List.length_zip, e1, Nat.min_self, ← e1]
        exact Nat.lt_of_lt_of_le hz lim_le
      have D0 : DPut H p (kV kk) vw (upd H p (.dK (putK (ks0.zip dx) kk vw))) := DPut.k k4 hzl
      refine .inr ⟨p, _, rfl, by rw [keyOf_kV hk pk]; exact D0, ?_⟩
      refine q _ ?_
      rw [g3]
      exact R.upS h ho ⟨vs', g1, rfl, g2⟩
    · cases h2
  · cases h2
theorem g_ix {x : Str} {ei : Expr} {ie : Ie} {p1 pos : Pos} (hu : X.A.units + 64 < cLine) (hN : X.N[i]? = some x) (hv : Vis X.env.scope x) (hd : (x == ("__debug__" : Str)) = false) (hcd : (x == ("__classdict__" : Str)) = false) (he : PE X ei (tE Z W (evE T C ie)))
    (ha : ∀ v, assign (.Subscript (.Name x p1) ei pos) X.env v = (do
      let ov ← holding [v] (eval (.Name x p1) X.env)
      let iv ← holding [v, ov] (eval ei X.env)
      standAt pos
      holding [v, ov, iv] (setItem ov iv v)
      release [v, ov, iv] [])) :
    PG X (.Subscript (.Name x p1) ei pos) (tG Z W (putT T C (.ix i ie))) := by
  refine ⟨fun pins s σ H v u Q I rv h => (pg_sub (pe_var hN hv hd hcd) he (set_all hu) ha).run pins s σ H v u Q I rv ?_⟩
  obtain ⟨Hf, F, st, r, R, rr, h⟩ := h
  have h : PoU Z W Hf F (if isSet st[i]? = true then bnd (evE T C ie st) fun k s => bnd (Wd.opt "peek" (peek k s) s) fun k s => putB i k r s else .bad "unbound") Q := h
  split at h
  · rename_i hb
    have hv : ∃ vo, σ[i]? = some (some vo) := by
      cases e : st[i]? with
      | none => rw [e] at hb; exact absurd hb Bool.false_ne_true
      | some x =>
        cases x with
        | un => rw [e] at hb; exact absurd hb Bool.false_ne_true
        | fr d => obtain ⟨w, k1, _⟩ := R.fz i d e; exact ⟨w, k1⟩
        | ow d => obtain ⟨p, o, k1, _⟩ := R.ow i d (by rw [e]; rfl); exact ⟨_, k1⟩
        | bo d => obtain ⟨p, o, k1, _⟩ := R.ow i d (by rw [e]; rfl); exact ⟨_, k1⟩
    obtain ⟨vo, hvo⟩ := hv
    refine ⟨vo, hvo, Hf, addT F H r v, st, R.add rr, (h.bind.frame (addT_sub rr)).imp fun k s2 H2 Hf2 e2 R2 h vk rk => ?_⟩
    obtain ⟨kd, hkd, h⟩ := h.opt
    have pk := rep_of R2 rk hkd
    have rr2 := rr.later e2 R2
    unfold putB at h
    cases e3 : Wd.frz r s2 with
    | none => rw [e3] at h; exact h.elim
    | some q =>
      obtain ⟨w, s3⟩ := q
      simp only [e3] at h
      obtain ⟨Hf3, sm, R3, qw, _⟩ := (R2.weak (addT_sub rr)).frzW rr2 e3
      cases e4 : putIx i kd w s3 with
      | none => simp only [e4] at h; exact h.elim
      | some s4 =>
        simp only [e4] at h
        have pk3 : Rep Z Hf3 H2 kd vk := by
          rcases pk with pk | ⟨p, o, g1, g2, g3⟩
          · exact .inl (pk.mono sm)
          · exact .inr ⟨p, o, g1, g2, g3.mono sm⟩
        exact putIx_ok R3 hvo pk3 qw e4 fun H' R' => h σ H' Hf3 sm R'
  · exact h.elim
end
end Wd
-- WdSd17
set_option linter.all false
set_option maxRecDepth 100000
set_option maxHeartbeats 2000000
set_option Elab.async false
/-! Several targets; fields. -/
namespace Wd
open PySem L2 PySem.Spec PyProof.Rows
def tGs (Z : Wo) (W : WX) (f : List D → Sto → Res Unit) : TGs := fun vs σ H Q => ∃ Hf F s ds, Rel Z Hf H F s σ ∧ Isl Z Hf ds vs ∧ PoU Z W Hf F (f ds s) Q
def tNs (Z : Wo) (W : WX) (f : List Rv → Sto → Res Unit) : TGs := fun vs σ H Q => ∃ Hf F s rs, Rel Z Hf H F s σ ∧ RRs Z Hf H s σ F rs vs ∧ (∀ j, Rv.b j ∉ rs) ∧ PoU Z W Hf F (f rs s) Q
def plainT (e : Expr) : Bool := match e with | .Starred _ _ => false | _ => true
theorem each_plain {e : Expr} {es : List Expr} {env : Env} (h : plainT e = true) : assignEach (e :: es) env = (false, assign e env) :: assignEach es env := by
  cases e <;> first | rfl | cases h
theorem each_len {env : Env} : ∀ {es : List Expr}, es.all plainT = true → (assignEach es env).length = es.length
  | [], _ => rfl
  | e :: es, h => by
    rw [List.all_cons, Bool.and_eq_true] at h
    rw [each_plain h.1]
    simp [each_len h.2]
theorem each_find {env : Env} : ∀ {es : List Expr}, es.all plainT = true → (assignEach es env).findIdx? (·.1) = none
  | [], _ => rfl
  | e :: es, h => by
    rw [List.all_cons, Bool.and_eq_true] at h
    rw [each_plain h.1]
    simp [List.findIdx?_cons, each_find h.2]
section
variable {α β : Type} {Z : Wo} {W : WX} {X : Cx} {Hf Hf' H H' F F' : Hp} {s s' : Sto} {σ : L2.St} {v : V} {d d' : Wd.D} {r : Rv} {T : Tab} {C : Str → List Sl → CRes} {Q : L2.St → Hp → Prop} {D : Ends} {i Wh : Nat}
theorem pgs_weak {es : List Expr} {t t' : TGs} (h : PGs X es t) (w : ∀ vs σ H Q, t' vs σ H Q → t vs σ H Q) : PGs X es t' := ⟨fun pins s σ H vs us Q I r q => h.run pins s σ H vs us Q I r (w vs σ H Q q)⟩
theorem gs_nil : PGs X [] (tGs Z W (putTs T C [])) := pgs_weak pgs_nil fun vs σ H Q h => by
  obtain ⟨Hf, F, s, ds, R, i, h⟩ := h
  cases ds with
  | nil => exact ⟨isl_nil.mp i, h σ H Hf (Same.refl _) R⟩
  | cons d ds => exact h.elim
theorem gs_cons {e : Expr} {es : List Expr} {t : T1} {ts : List T1} (h1 : PG X e (tG Z W (putT T C t))) (h2 : PGs X es (tGs Z W (putTs T C ts))) (hp : plainT e = true) : PGs X (e :: es) (tGs Z W (putTs T C (t :: ts))) :=
  pgs_weak (pgs_cons h1 h2 (by rw [each_plain hp]; rfl)) fun vs σ H Q h => by
    obtain ⟨Hf, F, s, ds, R, i, h⟩ := h
    cases ds with
    | nil => exact h.elim
    | cons d ds =>
      obtain ⟨v, w, rfl, i1, i2⟩ := isl_cons.mp i
      refine ⟨v, w, rfl, Hf, F, s, .v d, R, i1, ?_⟩
      have h : PoU Z W Hf F (bnd (putT T C t (.v d) s) fun _ s => putTs T C ts ds s) Q := h
      cases q : putT T C t (.v d) s with
      | bad w => rw [q] at h; exact h.elim
      | ex e s2 => rw [q] at h; exact h
      | ok u s2 =>
        rw [q] at h
        exact fun σ' H' Hf' sm R' => ⟨Hf', F, s2, ds, R', i2.mono sm, PoU.mono h sm⟩
/-- new objects wait while a name gets its value -/
theorem RRs.put {i : Nat} {z : Sl} {x : Option V} : ∀ {rs : List Rv} {vs : List V} {F F' : Hp}, (∀ d, own? (some z) = some d → ∃ p, x = some (.ref p) ∧ F' p ≠ none) → i < s.length → s.length = σ.length → (∀ j, Rv.b j ∉ rs) →
    RRs Z Hf H s σ F' rs vs → (∀ p o, F p = some o → F' p = some o) → RRs Z Hf H (s.set i z) (σ.set i x) F rs vs
  | [], vs, _, _, _, _, _, _, h, f => h
  | r :: rs, vs, F, F', hz, hi, hl, nb, h, f => by
    obtain ⟨v, w, e1, h1, h2⟩ := h
    have h1' : RR Z Hf H F (s.set i z) (σ.set i x) r v := by
      cases r with
      | v _ => exact h1
      | b j => exact absurd (List.mem_cons_self ..) (nb j)
      | n d =>
        obtain ⟨q, u, rfl, g2, g3, g4, g5, g6⟩ := h1
        refine ⟨q, u, rfl, g2, ?_, g4, g5, fun j e he => ?_⟩
        · cases k : F q with
          | none => rfl
          | some o => rw [f q o k] at g3; cases g3
        · by_cases hj : j = i
          · subst hj
            rw [List.getElem?_set_self hi] at he
            obtain ⟨p, ex, hp⟩ := hz e he
            rw [List.getElem?_set_self (by omega), ex]
            intro k
            have : p = q := by simpa using k
            rw [this] at hp
            exact hp g3
          · rw [List.getElem?_set_ne (Ne.symm hj)] at he ⊢
            exact g6 j e he
    refine ⟨v, w, e1, h1', ?_⟩
    refine RRs.put (F' := addT F' H r v) (fun d hd => ?_) hi hl (fun j hj => nb j (List.mem_cons_of_mem _ hj)) h2 fun p o q => ?_
    · obtain ⟨p, ex, hp⟩ := hz d hd
      refine ⟨p, ex, ?_⟩
      cases k : F' p with
      | none => exact absurd k hp
      | some o => rw [addT_sub h1 p o k]; exact fun z => by cases z
    · cases r with
      | v _ => exact f p o q
      | b _ => exact f p o q
      | n d =>
        cases v with
        | ref a =>
          have q' : (if p = a then H a else F p) = some o := q
          show (if p = a then H a else F' p) = some o
          split at q'
          · rw [if_pos (by assumption)]; exact q'
          · rw [if_neg (by assumption)]; exact f p o q'
        | _ => exact f p o q
theorem nb_tail {rs : List Rv} (nb : ∀ j, Rv.b j ∉ r :: rs) : ∀ j, Rv.b j ∉ rs := fun j hj => nb j (List.mem_cons_of_mem _ hj)
theorem putR_nb {u : Unit} (R : Rel Z Hf H F s σ) (nb : ∀ j, r ≠ .b j) (rr : RR Z Hf H F s σ r v) (h : Wd.putR s i r = .ok u s') : Rel Z Hf H F s' (σ.set i (some v)) ∧ i < s.length ∧ ∃ z, s' = s.set i z ∧ ∀ d, own? (some z) = some d → ∃ p, some v = some (.ref p) ∧ addT F H r v p ≠ none := by
  unfold Wd.putR at h
  split at h
  · cases h
  · cases h
  · rename_i h1 h2
    have hi : i < s.length := by
      refine Classical.byContradiction fun hn => h2 ?_
      rw [List.getElem?_eq_none_iff]; omega
    cases r with
    | v d =>
      cases h
      exact ⟨R.putV hi rr, hi, _, rfl, fun d q => by cases q⟩
    | n d =>
      obtain ⟨p, o, e1, e2, e3, e4, e5, e6⟩ := id rr
      subst e1
      have key : ∀ e, own? (some (Sl.ow d)) = some e → ∃ q, some (V.ref p) = some (V.ref q) ∧ addT F H (.n d) (.ref p) q ≠ none := fun e _ => ⟨p, rfl, by
        show (if p = p then H p else F p) ≠ none
        rw [if_pos rfl, e4]; exact fun z => by cases z⟩
      cases d with
      | lst l => cases h; exact ⟨R.putN hi rr, hi, _, rfl, key⟩
      | dct ks l => cases h; exact ⟨R.putN hi rr, hi, _, rfl, key⟩
      | ins c ns l => cases h; exact ⟨R.putN hi rr, hi, _, rfl, key⟩
      | _ => exact e5.elim
    | b j => exact absurd rfl (nb j)
theorem ns_nil : PGs X [] (tNs Z W (putNs [])) := pgs_weak pgs_nil fun vs σ H Q h => by
  obtain ⟨Hf, F, s, rs, R, i, nb, h⟩ := h
  cases rs with
  | nil => exact ⟨i, h σ H Hf (Same.refl _) R⟩
  | cons d ds => exact h.elim
theorem ns_cons {x : Str} {pos : Pos} {es : List Expr} {is : List Nat} (hN : X.N.Nodup) (hi : X.N[i]? = some x) (hx : Loc X.env.scope x) (hfx : X.fn x = true ∨ X.env.scope.names.lookup x = some .local) (h2 : PGs X es (tNs Z W (putNs is))) : PGs X (.Name x pos :: es) (tNs Z W (putNs (i :: is))) :=
  pgs_weak (pgs_cons (pg_name hN hi hx hfx) h2 rfl) fun vs σ H Q h => by
    obtain ⟨Hf, F, s, rs, R, q, nb, h⟩ := h
    cases rs with
    | nil => exact h.elim
    | cons r rs =>
      obtain ⟨v, w, rfl, i1, i2⟩ := q
      refine ⟨v, w, rfl, ?_⟩
      have h : PoU Z W Hf F (bnd (Wd.putR s i r) fun _ s => putNs is rs s) Q := h
      cases q : Wd.putR s i r with
      | bad w => rw [q] at h; exact h.elim
      | ex e s2 => exact absurd q putR_no
      | ok u s2 =>
        rw [q] at h
        obtain ⟨R2, hl, z, rfl, hz⟩ := putR_nb R (fun j e => nb j (e ▸ List.mem_cons_self ..)) i1 q
        exact ⟨Hf, F, _, rs, R2, RRs.put hz hl R.len (nb_tail nb) i2 (addT_sub i1), nb_tail nb, h⟩
theorem bnd_bnd {γ : Type} {x : Res α} {f : α → Sto → Res β} {g : β → Sto → Res γ} : bnd (bnd x f) g = bnd x fun a s => bnd (f a s) g := by cases x <;> rfl
theorem fz_bnd {x : Res Rv} {g : Wd.D → Sto → Res β} : bnd (fz x) g = bnd x fun r s => bnd (frzR r s) g := bnd_bnd
/-! ### values that wait, settled -/
theorem settle_ok : ∀ {rs rs' : List Rv} {vs : List V} {Hf F : Hp} {s s' : Sto}, Rel Z Hf H F s σ → RRs Z Hf H s σ F rs vs → settle rs s = some (rs', s') → ∃ Hf', Same Hf Hf' ∧ Rel Z Hf' H F s' σ ∧ RRs Z Hf' H s' σ F rs' vs ∧ ∀ j, Rv.b j ∉ rs'
  | [], rs', vs, Hf, F, s, s', R, h, e => by
    have : [] = rs' ∧ s = s' := by simpa [settle] using e
    obtain ⟨rfl, rfl⟩ := this
    exact ⟨Hf, Same.refl _, R, h, by simp⟩
  | r :: rs, rs', vs, Hf, F, s, s', R, h, e => by
    obtain ⟨v, w, rfl, h1, h2⟩ := h
    have keep : (∀ j, r ≠ .b j) → (settle rs s).map (fun p => (r :: p.1, p.2)) = some (rs', s') → ∃ Hf', Same Hf Hf' ∧ Rel Z Hf' H F s' σ ∧ RRs Z Hf' H s' σ F rs' (v :: w) ∧ ∀ j, Rv.b j ∉ rs' := fun nb e => by
      obtain ⟨⟨l, s2⟩, e2, e3⟩ := Option.map_eq_some_iff.mp e
      cases e3
      obtain ⟨Hf2, sm, R2, r2, nb2⟩ := settle_ok (R.add h1) h2 e2
      refine ⟨Hf2, sm, R2.weak (addT_sub h1), ⟨v, w, rfl, h1.later sm R2, r2⟩, fun j hj => ?_⟩
      rcases List.mem_cons.mp hj with q | q
      · exact nb j q.symm
      · exact nb2 j q
    cases r with
    | v d => exact keep (fun j z => by cases z) e
    | n d => exact keep (fun j z => by cases z) e
    | b j =>
      have e : (match Wd.frz (.b j) s with
        | some (d, s) => (settle rs s).map fun p => (Rv.v d :: p.1, p.2)
        | none => none) = some (rs', s') := e
      cases e1 : Wd.frz (.b j) s with
      | none => rw [e1] at e; cases e
      | some p =>
        obtain ⟨d, s1⟩ := p
        rw [e1] at e
        obtain ⟨⟨l, s2⟩, e2, e3⟩ := Option.map_eq_some_iff.mp e
        cases e3
        obtain ⟨Hf1, sm, R1, i1, q1⟩ := R.frzW h1 e1
        obtain ⟨Hf2, sm2, R2, r2, nb2⟩ := settle_ok R1 (RRs.after sm (own_frz e1) q1 h2 (addT_sub h1)) e2
        refine ⟨Hf2, sm.trans sm2, R2, ⟨v, w, rfl, i1.mono sm2, r2⟩, fun j hj => ?_⟩
        rcases List.mem_cons.mp hj with q | q
        · cases q
        · exact nb2 j q
theorem rrs_len : ∀ {rs : List Rv} {vs : List V} {F : Hp}, RRs Z Hf H s σ F rs vs → rs.length = vs.length
  | [], vs, _, h => by rw [show vs = [] from h]; rfl
  | r :: rs, vs, F, h => by
    obtain ⟨v, w, rfl, _, h2⟩ := h
    simp [rrs_len h2]
theorem addT_alloc {p : Addr} {o : HO} (hp : H p = none) (hr : RR Z Hf H F s σ r v) : addT F (upd H p o) r v = addT F H r v := by
  cases r with
  | v _ => rfl
  | b _ => rfl
  | n d =>
    obtain ⟨q, u, rfl, h2, h3, h4, h5, h6⟩ := hr
    have : q ≠ p := by rintro rfl; rw [h4] at hp; cases hp
    funext a
    show (if a = q then upd H p o q else F a) = (if a = q then H q else F a)
    rw [upd_ne this]
theorem rrs_alloc {p : Addr} {o : HO} (R : Rel Z Hf H F s σ) (hp : H p = none) : ∀ {rs : List Rv} {vs : List V} {F : Hp}, RRs Z Hf H s σ F rs vs → RRs Z Hf (upd H p o) s σ F rs vs
  | [], vs, _, h => h
  | r :: rs, vs, F, h => by
    obtain ⟨v, w, rfl, h1, h2⟩ := h
    refine ⟨v, w, rfl, ?_, by rw [addT_alloc hp h1]; exact rrs_alloc R hp h2⟩
    cases r with
    | v _ => exact h1
    | b _ => exact h1
    | n d =>
      obtain ⟨q, u, rfl, g2, g3, g4, g5, g6⟩ := h1
      have : q ≠ p := by rintro rfl; rw [g4] at hp; cases hp
      exact ⟨q, u, rfl, g2, g3, by rw [upd_ne this]; exact g4, g5, g6⟩
/-! ### statements -/
theorem no_swap1 {ts : List Expr} {k : Nat} {p : Pos} {e : Expr} {env : Env} (h : ∀ es k p, e ≠ .Tuple es k p) : swappedStores [.Tuple ts k p] e env = pure none := by
  cases e <;> first | rfl | exact absurd rfl (h _ _ _)
theorem swapS_ok {t e : Expr} {l : Nat} {env : Env} (h : okSwap e = true) : swapsWithSole [t] e l env = pure false := by
  show swapsWith e (some t) l env = pure false
  exact swap_ok h
theorem pg_or {t : Expr} {g1 g2 : TG} (h1 : PG X t g1) (h2 : PG X t g2) : PG X t (fun v σ H Q => g1 v σ H Q ∨ g2 v σ H Q) := ⟨fun pins s σ H v u Q I r h => h.elim (h1.run pins s σ H v u Q I r) (h2.run pins s σ H v u Q I r)⟩
theorem s_unp {ts : List Expr} {k : Nat} {p pos : Pos} {its : List T1} {e : Expr} {ie : Ie} (hc : X.calm = true) (hK : X.K = Z.K) (he : PE X e (tE Z W (evE T C ie))) (hg : PGs X ts (tGs Z W (putTs T C its))) (hl : ts.length = its.length) (hp : ts.all plainT = true) (hs : okSwap e = true)
    (hn : ∀ es k p, e ≠ .Tuple es k p) : PS X (.Assign [.Tuple ts k p] e pos) (tS Z W (evS T C Wh (.unp its ie))) :=
  ps_weak (ps_asg he (pg_or (pg_tup (n := ts.length) hc hg (each_len hp) (each_find hp)) (pg_lst (n := ts.length) hc hg (each_len hp) (each_find hp))) (swapS_ok hs) (no_swap1 hn) rfl) fun D σ H h => by
    obtain ⟨Hf, F, st, R, h⟩ := h
    rw [evS] at h
    rw [fz_bnd] at h
    refine ⟨Hf, F, st, R, h.bind.imp fun r s1 H1 Hf1 e1 R1 h v rv => ?_⟩
    unfold frzR at h
    cases q : Wd.frz r s1 with
    | none => rw [q] at h; exact h.elim
    | some w =>
      obtain ⟨d, s2⟩ := w
      rw [q] at h
      obtain ⟨Hf2, sm, R2, i2, _⟩ := R1.frzW rv q
      cases d with
      | tup l =>
        have h : PoS Z W Hf1 F (if l.length = its.length then bnd (putTs T C its l s2) fun _ s => .ok .nx s else .bad "unpack") D := h
        split at h
        · rename_i hle
          have i3 := i2
          unfold Isd at i3
          obtain ⟨a, vs, rfl, h2, h3⟩ := i3
          refine .inl ⟨a, vs, rfl, by rw [hK]; exact sqt_mono R2.sub h2, by rw [← h3.length, hle, hl], ?_⟩
          exact ⟨Hf2, F, s2, l, R2, h3, (h.mono sm).store⟩
        · exact h.elim
      | lst l =>
        have h : PoS Z W Hf1 F (if l.length = its.length then bnd (putTs T C its l s2) fun _ s => .ok .nx s else .bad "unpack") D := h
        split at h
        · rename_i hle
          have i3 := i2
          unfold Isd at i3
          obtain ⟨a, vs, rfl, h2, h3⟩ := i3
          refine .inr ⟨a, vs, rfl, SqL.of (R2.sub _ _ h2), by rw [← h3.length, hle, hl], ?_⟩
          exact ⟨Hf2, F, s2, l, R2, h3, (h.mono sm).store⟩
        · exact h.elim
      | _ => exact h.elim
theorem s_par {ts es : List Expr} {k k2 : Nat} {p p2 pos : Pos} {its : List T1} {ia : Ia} (hc : X.calm = true) (hK : X.K = Z.K) (ha : PA X es (tA Z W (evA T C ia))) (hg : PGs X ts (tGs Z W (putTs T C its))) (hl : ts.length = its.length) (hp : ts.all plainT = true)
    (hw : swappedStores [.Tuple ts k p] (.Tuple es k2 p2) X.env = pure none) : PS X (.Assign [.Tuple ts k p] (.Tuple es k2 p2) pos) (tS Z W (evS T C Wh (.par its ia))) :=
  ps_weak (ps_asg (pe_tup ha) (pg_tup (n := ts.length) hc hg (each_len hp) (each_find hp)) rfl hw rfl) fun D σ H h => by
    obtain ⟨Hf, F, st, R, h⟩ := h
    rw [evS] at h
    refine ⟨Hf, F, st, R, h.bind.imp fun rs s1 H1 Hf1 e1 R1 h vs rv => ?_⟩
    cases q : fzs rs s1 with
    | none => rw [q] at h; exact h.elim
    | some w =>
      obtain ⟨l, s2⟩ := w
      rw [q] at h
      obtain ⟨Hf2, sm, R2, i2⟩ := fzs_ok R1 rv q
      have h : PoS Z W Hf1 F (if l.length = its.length ∧ l.length ≤ LIM then bnd (putTs T C its l s2) fun _ s => .ok .nx s else .bad "unpack") D := h
      split at h
      · rename_i hle
        refine ⟨by rw [← i2.length]; exact Nat.le_trans hle.2 lim_le, fun a hp => ⟨a, vs, rfl, .inl (.inl upd_same), by rw [← i2.length, hle.1, hl], ?_⟩⟩
        exact ⟨Hf2, F, s2, l, R2.alloc hp, i2, (h.mono sm).store⟩
      · exact h.elim
theorem s_parN {ts es : List Expr} {k k2 : Nat} {p p2 pos : Pos} {is : List Nat} {ia : Ia} (hc : X.calm = true) (hK : X.K = Z.K) (ha : PA X es (tA Z W (evA T C ia))) (hg : PGs X ts (tNs Z W (putNs is))) (hl : ts.length = is.length) (hp : ts.all plainT = true)
    (hw : swappedStores [.Tuple ts k p] (.Tuple es k2 p2) X.env = pure none) : PS X (.Assign [.Tuple ts k p] (.Tuple es k2 p2) pos) (tS Z W (evS T C Wh (.parN is ia))) :=
  ps_weak (ps_asg (pe_tup ha) (pg_tup (n := ts.length) hc hg (each_len hp) (each_find hp)) rfl hw rfl) fun D σ H h => by
    obtain ⟨Hf, F, st, R, h⟩ := h
    rw [evS] at h
    refine ⟨Hf, F, st, R, h.bind.imp fun rs s1 H1 Hf1 e1 R1 h vs rv => ?_⟩
    cases q : settle rs s1 with
    | none => rw [q] at h; exact h.elim
    | some w =>
      obtain ⟨l, s2⟩ := w
      rw [q] at h
      obtain ⟨Hf2, sm, R2, i2, nb⟩ := settle_ok R1 rv q
      have h : PoS Z W Hf1 F (if l.length = is.length ∧ l.length ≤ LIM then bnd (putNs is l s2) fun _ s => .ok .nx s else .bad "unpack") D := h
      split at h
      · rename_i hle
        have ll := rrs_len i2
        refine ⟨by rw [← ll]; exact Nat.le_trans hle.2 lim_le, fun a hp => ⟨a, vs, rfl, .inl (.inl upd_same), by rw [← ll, hle.1, hl], ?_⟩⟩
        exact ⟨Hf2, F, s2, l, R2.alloc hp, rrs_alloc R2 hp i2, nb, (h.mono sm).store⟩
      · exact h.elim
end
end Wd
-- WdSd18
set_option linter.all false
set_option maxRecDepth 100000
set_option maxHeartbeats 2000000
set_option Elab.async false
/-! Swapped stores; augmented assignments; fields. -/
namespace Wd
open PySem L2 PySem.Spec PyProof.Rows
def setAll : L2.St → List Nat → List V → L2.St
  | σ, i :: is, v :: vs => setAll (σ.set i (some v)) is vs
  | σ, _, _ => σ
section
variable {α β : Type} {Z : Wo} {W : WX} {X : Cx} {Hf Hf' H H' F F' : Hp} {s s' : Sto} {σ : L2.St} {v : V} {d d' : Wd.D} {r : Rv} {T : Tab} {C : Str → List Sl → CRes} {Q : L2.St → Hp → Prop} {D : Ends} {i j Wh : Nat}
theorem putNs_ok : ∀ {is : List Nat} {rs : List Rv} {vs : List V} {Hf F : Hp} {s : Sto} {σ : L2.St}, Rel Z Hf H F s σ → RRs Z Hf H s σ F rs vs → (∀ j, Rv.b j ∉ rs) → PoU Z W Hf F (putNs is rs s) Q → is.length = vs.length ∧ Q (setAll σ is vs) H
  | [], [], vs, Hf, F, s, σ, R, q, nb, h => by
    have : vs = [] := q
    subst this
    exact ⟨rfl, h σ H Hf (Same.refl _) R⟩
  | [], r :: rs, vs, Hf, F, s, σ, R, q, nb, h => h.elim
  | i :: is, [], vs, Hf, F, s, σ, R, q, nb, h => h.elim
  | i :: is, r :: rs, vs, Hf, F, s, σ, R, q, nb, h => by
    obtain ⟨v, w, rfl, i1, i2⟩ := q
    have h : PoU Z W Hf F (bnd (Wd.putR s i r) fun _ s => putNs is rs s) Q := h
    cases q : Wd.putR s i r with
    | bad w => rw [q] at h; exact h.elim
    | ex e s2 => exact absurd q putR_no
    | ok u s2 =>
      rw [q] at h
      obtain ⟨R2, hl, z, rfl, hz⟩ := putR_nb R (fun j e => nb j (e ▸ List.mem_cons_self ..)) i1 q
      obtain ⟨e1, e2⟩ := putNs_ok R2 (RRs.put hz hl R.len (nb_tail nb) i2 (addT_sub i1)) (nb_tail nb) h
      exact ⟨by simp [e1], e2⟩
theorem parN_run {is : List Nat} {ia : Ia} {st : Sto} (R : Rel Z Hf H F st σ) (h : PoS Z W Hf F (evS T C Wh (.parN is ia) st) D) : tA Z W (evA T C ia) σ H fun vs H1 => is.length = vs.length ∧ D.nx (setAll σ is vs) H1 := by
  rw [evS] at h
  refine ⟨Hf, F, st, R, h.bind.imp fun rs s1 H1 Hf1 e1 R1 h vs rv => ?_⟩
  cases q : settle rs s1 with
  | none => rw [q] at h; exact h.elim
  | some w =>
    obtain ⟨l, s2⟩ := w
    rw [q] at h
    obtain ⟨Hf2, sm, R2, i2, nb⟩ := settle_ok R1 rv q
    have h : PoS Z W Hf1 F (if l.length = is.length ∧ l.length ≤ LIM then bnd (putNs is l s2) fun _ s => .ok .nx s else .bad "unpack") D := h
    split at h
    · exact putNs_ok R2 i2 nb (h.mono sm).store
    · exact h.elim
theorem s_swap2 {x y : Str} {a b : Expr} {ia : Ia} {px py pt : Pos} {kt k2 pt2 pos} (hc : X.calm = true) (hN : X.N.Nodup) (hi : X.N[i]? = some x) (hj : X.N[j]? = some y) (hij : i ≠ j)
    (hx : X.env.scope.names.lookup x = some .local) (hy : X.env.scope.names.lookup y = some .local) (ha : PA X [a, b] (tA Z W (evA T C ia)))
    (hw : swappedStores [.Tuple [.Name x px, .Name y py] kt pt] (.Tuple [a, b] k2 pt2) X.env = pure (some [x, y])) :
    PS X (.Assign [.Tuple [.Name x px, .Name y py] kt pt] (.Tuple [a, b] k2 pt2) pos) (tS Z W (evS T C Wh (.parN [i, j] ia))) :=
  ps_weak (ps_par hc hN hi hj hij hx hy ha hw rfl) fun D σ H h => by
    obtain ⟨Hf, F, st, R, h⟩ := h
    obtain ⟨Hf, F, st, R, h⟩ := parN_run R h
    refine ⟨Hf, F, st, R, h.imp fun rs s1 H1 Hf1 e1 R1 h vs rv => ?_⟩
    obtain ⟨l, h⟩ := h vs rv
    match vs, l with
    | [v, w], _ => exact ⟨v, w, rfl, h⟩
theorem s_swap3 {l : Nat} {x y z : Str} {a b c : Expr} {ia : Ia} {px py pz pt pos : Pos} {kt k2 pt2} (hc : X.calm = true) (hN : X.N.Nodup) (hi : X.N[i]? = some x) (hj : X.N[j]? = some y) (hl : X.N[l]? = some z) (hij : i ≠ j) (hil : i ≠ l) (hjl : j ≠ l)
    (hx : X.env.scope.names.lookup x = some .local) (hy : X.env.scope.names.lookup y = some .local) (hz : X.env.scope.names.lookup z = some .local) (ha : PA X [a, b, c] (tA Z W (evA T C ia)))
    (hw : swappedStores [.Tuple [.Name x px, .Name y py, .Name z pz] kt pt] (.Tuple [a, b, c] k2 pt2) X.env = pure (some [x, y, z])) :
    PS X (.Assign [.Tuple [.Name x px, .Name y py, .Name z pz] kt pt] (.Tuple [a, b, c] k2 pt2) pos) (tS Z W (evS T C Wh (.parN [i, j, l] ia))) :=
  ps_weak (ps_par3 hc hN hi hj hl hij hil hjl hx hy hz ha hw rfl) fun D σ H h => by
    obtain ⟨Hf, F, st, R, h⟩ := h
    obtain ⟨Hf, F, st, R, h⟩ := parN_run R h
    refine ⟨Hf, F, st, R, h.imp fun rs s1 H1 Hf1 e1 R1 h vs rv => ?_⟩
    obtain ⟨l, h⟩ := h vs rv
    match vs, l with
    | [u, v, w], _ => exact ⟨u, v, w, rfl, h⟩
/-! ### += -/
theorem slot_int {k : Int} (R : Rel Z Hf H F s σ) (h : intS ((s[i]?).bind Sl.con) = some k) : σ[i]? = some (some (.int k)) := by
  cases e : s[i]? with
  | none => rw [e] at h; cases h
  | some x =>
    rw [e] at h
    cases x with
    | un => cases h
    | fr d =>
      obtain ⟨w, k1, k2⟩ := R.fz i d e
      cases d with
      | int m =>
        have : m = k := Option.some.inj h
        subst this
        unfold Isd at k2
        rw [k1, k2]
      | _ => cases h
    | ow d =>
      obtain ⟨p, o, k1, k2, k3, k4, k5⟩ := R.ow i d (by rw [e]; rfl)
      cases d with
      | int m => exact k5.elim
      | _ => cases h
    | bo d =>
      obtain ⟨p, o, k1, k2, k3, k4, k5⟩ := R.ow i d (by rw [e]; rfl)
      cases d with
      | int m => exact k5.elim
      | _ => cases h
theorem intS_some {o : Option Wd.D} {k : Int} (h : intS o = some k) : o = some (.int k) := by
  unfold intS at h
  split at h
  · cases h; rfl
  · cases h
theorem PoS.rd {x : Res Rv} {k : Wd.D → Sto → Res Fl} (h : PoS Z W Hf F (bnd (Wd.rd x) k) D) : PoS Z W Hf F (bnd x fun r s => bnd (Wd.opt "peek" (peek r s) s) k) D := by
  unfold Wd.rd at h
  rwa [bnd_bnd] at h
theorem s_aug {x : Str} {e : Expr} {ie : Ie} {pos pos' : Pos} (hN : X.N.Nodup) (hi : X.N[i]? = some x) (hx : Loc X.env.scope x) (hfx : X.fn x = true ∨ X.env.scope.names.lookup x = some .local) (he : PE X e (tE Z W (evE T C ie))) :
    PS X (.AugAssign (.Name x pos') .Add e pos) (tS Z W (evS T C Wh (.aug (.nm i) ie))) :=
  ps_weak (ps_aug hN hi hx he ip_add hfx) fun D σ H h => by
    obtain ⟨Hf, F, st, R, h⟩ := h
    rw [evS] at h
    obtain ⟨k, hk, h⟩ := h.opt
    refine ⟨_, slot_int R hk, Hf, F, st, R, h.rd.bind.imp fun r s1 H1 Hf1 e1 R1 h v rv => ?_⟩
    obtain ⟨d, hd, h⟩ := h.opt
    obtain ⟨m, hm, g⟩ := h.opt
    obtain rfl : d = .int m := Option.some.inj (intS_some hm)
    have p := rep_of R1 rv hd
    refine ⟨k, m, rfl, p.int, ?_⟩
    cases q : Wd.putR s1 i (.v (.int (k + m))) with
    | bad w => rw [q] at g; exact g.elim
    | ex e s2 => exact absurd q putR_no
    | ok u s2 =>
      rw [q] at g
      obtain ⟨Hf2, sm, R2⟩ := R1.putR (i := i) (r := .v (.int (k + m))) (v := .int (k + m)) (isd_int (Z := Z) (Hf := Hf1)) q
      exact (PoS.mono (x := .ok .nx s2) g sm).nx R2
def rGetL (K : PySem.W.Frag) : V → V → Hp → VK → Prop := fun x y H Q => ∃ p xs i v, x = .ref p ∧ y = .int i ∧ SqL K H p xs ∧ atI xs i = some v ∧ Q v H
theorem get_listA : PGet X (rGetL X.K) := by
  intro pins s σ H o i ov iv Q I ro ri h
  obtain ⟨p, xs, k, z, rfl, rfl, hq, he, q⟩ := h
  cases ro
  obtain ⟨t, rfl⟩ := ri
  obtain ⟨its, r, pl, hz⟩ := I.list hq
  obtain ⟨j, h1, h2, h3, h4, h5⟩ := atI_get he
  obtain ⟨w, ew, rw'⟩ := r.get h2
  have hl := r.length
  have hn := line63
  have fin : EP X pins σ Q w s := ⟨z, H, I, rw', q⟩
  by_cases h0 : 0 ≤ k
  · have hj : k.toNat = j := by
      rw [seqIndex_of h0 h5] at h1
      exact Option.some.inj h1
    exact wpAny_getItem_list pl.isList h0 (by omega) (by rw [hj]; simpa using ew) fin
  · have hj : (k + (its.toArray.size : Int)).toNat = j := by
      rw [seqIndex_neg (by omega) h4] at h1
      rw [List.size_toArray, ← hl]
      exact Option.some.inj h1
    exact wpAny_getItem_list_neg pl.isList (by omega) (by rw [List.size_toArray] <;> omega) (by omega) (by rw [hj]; simpa using ew) fin
theorem slot_any {x : Wd.D} {vo : V} (R : Rel Z Hf H F s σ) (h : (s[i]?).bind Sl.con = some x) (hv : σ[i]? = some (some vo)) : Rep Z Hf H x vo :=
  rep_of (r := .b i) R hv h
theorem set_val (R : Rel Z Hf H F s σ) (hb : isSet s[i]? = true) : ∃ vo, σ[i]? = some (some vo) := by
  cases e : s[i]? with
  | none => rw [e] at hb; exact absurd hb Bool.false_ne_true
  | some x =>
    cases x with
    | un => rw [e] at hb; exact absurd hb Bool.false_ne_true
    | fr d => obtain ⟨w, k1, _⟩ := R.fz i d e; exact ⟨w, k1⟩
    | ow d => obtain ⟨p, o, k1, _⟩ := R.ow i d (by rw [e]; rfl); exact ⟨_, k1⟩
    | bo d => obtain ⟨p, o, k1, _⟩ := R.ow i d (by rw [e]; rfl); exact ⟨_, k1⟩
theorem s_augS {x : Str} {ei e : Expr} {ik ie : Ie} {p1 tpos pos : Pos} (hu : X.A.units + 64 < cLine) (hN : X.N[i]? = some x) (hv : Vis X.env.scope x) (hd : (x == ("__debug__" : Str)) = false) (hcd : (x == ("__classdict__" : Str)) = false)
    (hk : PE X ei (tE Z W (evE T C ik))) (he : PE X e (tE Z W (evE T C ie)))
    (ha : ∀ ov iv new, augStore ei ov iv new = (do holding [new, ov, iv] (setItem ov iv new); release [new, ov, iv] []; pure .next)) :
    PS X (.AugAssign (.Subscript (.Name x p1) ei tpos) .Add e pos) (tS Z W (evS T C Wh (.aug (.ix i ik) ie))) :=
  ps_weak (ps_augS (pe_var hN hv hd hcd) hk get_listA he ip_add (set_all hu) ha) fun D σ H h => by
    obtain ⟨Hf, F, st, R, h⟩ := h
    rw [evS] at h
    split at h
    · rename_i hb
      obtain ⟨vo, hvo⟩ := set_val R hb
      refine ⟨vo, hvo, Hf, F, st, R, h.bind.imp fun k s1 H1 Hf1 e1 R1 h vk rk => ?_⟩
      obtain ⟨kk, hkk, h⟩ := h.opt
      have pk := rep_of R1 rk (intS_some hkk)
      obtain ⟨x0, hx0, h⟩ := h.opt
      have hx1 := intS_some hx0
      have hl : ∃ l, (s1[i]?).bind Sl.con = some (.lst l) ∧ atIx l kk = some (.int x0) := by
        unfold itemS at hx1
        split at hx1
        · rename_i l e; exact ⟨l, e, hx1⟩
        · cases hx1
      obtain ⟨l, hl, hat⟩ := hl
      have po := slot_any R1 hl hvo
      obtain ⟨a, xs, rfl, g1, g2⟩ := po.lst R1.sub
      obtain ⟨v, hv, q⟩ := atIx_V g2 hat
      have ev : v = .int x0 := by unfold Isd at q; exact q
      subst ev
      refine ⟨a, xs, kk, .int x0, rfl, pk.int, SqL.of g1, hv, Hf1, F, s1, R1, h.rd.bind.imp fun r s2 H2 Hf2 e2 R2 h v rv => ?_⟩
      obtain ⟨d, hd, h⟩ := h.opt
      obtain ⟨m, hm, g⟩ := h.opt
      obtain rfl : d = .int m := Option.some.inj (intS_some hm)
      refine ⟨x0, m, rfl, (rep_of R2 rv hd).int, ?_⟩
      obtain ⟨s3, h3, h⟩ := g.opt
      have pk2 : Rep Z Hf2 H2 (.int kk) vk := .inl (by rw [pk.int]; exact isd_int)
      exact putIx_ok R2 hvo pk2 isd_int h3 fun H' R' => h σ H' Hf2 (Same.refl _) R'
    · exact h.elim
/-! ### fields -/
theorem putF_put : ∀ {ns : List Str} {l : List Wd.D} {vs : List V} {f : Str} {d : Wd.D} {v : V}, ns.length = vs.length → Isl Z Hf l vs → Isd Z Hf d v →
    ∃ vs', (putN ns f).length = vs'.length ∧ Isl Z Hf (putD ns l f d) vs' ∧ putF f v (ns.zip vs) = (putN ns f).zip vs'
  | [], l, vs, f, d, v, hl, h, hd => by
    have : vs = [] := List.length_eq_zero_iff.mp hl.symm
    subst this
    have : l = [] := List.length_eq_zero_iff.mp h.length
    subst this
    exact ⟨[v], rfl, .one hd, rfl⟩
  | q :: ns, [], vs, f, d, v, hl, h, hd => by rw [isl_nil.mp h] at hl; simp at hl
  | q :: ns, e :: l, vs, f, d, v, hl, h, hd => by
    obtain ⟨x, w, rfl, h1, h2⟩ := isl_cons.mp h
    unfold putN putD
    rw [List.zip_cons_cons]
    unfold putF
    split
    · exact ⟨v :: w, by simpa using hl, isl_cons.mpr ⟨_, _, rfl, hd, h2⟩, rfl⟩
    · obtain ⟨vs', g1, g2, g3⟩ := putF_put (f := f) (by simpa using hl) h2 hd
      exact ⟨x :: vs', by simp [g1], isl_cons.mpr ⟨_, _, rfl, h1, g2⟩, by rw [g3]; rfl⟩
structure FdOk (X : Cx) (Z : Wo) (T : Tab) : Prop where
  na : ∀ c f, Z.kn c → T.fds.contains (c, f) = true → NoAttr X.K (Z.cA c) f
theorem s_fld {x f : Str} {e : Expr} {ie : Ie} {p1 pos pos' : Pos} (G : CxOk X Z) (FD : FdOk X Z T) (hN : X.N[i]? = some x) (hv : Vis X.env.scope x) (hd : (x == ("__debug__" : Str)) = false) (hcd : (x == ("__classdict__" : Str)) = false)
    (he : PE X e (tE Z W (evE T C ie))) (hs : okSwap e = true) : PS X (.Assign [.Attribute (.Name x p1) f pos'] e pos) (tS Z W (evS T C Wh (.fld i f ie))) :=
  ps_weak (ps_fld (pe_var hN hv hd hcd) he (swap_ok hs)) fun D σ H h => by
    obtain ⟨Hf, F, st, R, h⟩ := h
    rw [evS, fz_bnd] at h
    refine ⟨Hf, F, st, R, h.bind.imp fun r s1 H1 Hf1 e1 R1 h v rv => ?_⟩
    unfold frzR at h
    cases q : Wd.frz r s1 with
    | none => rw [q] at h; exact h.elim
    | some w =>
      obtain ⟨d, s2⟩ := w
      rw [q] at h
      obtain ⟨Hf2, sm, R2, i2, _⟩ := R1.frzW rv q
      have h : PoS Z W Hf1 F (match putFl T i f d s2 with | some s => .ok .nx s | none => .bad "field of what is not one's own") D := h
      cases q2 : putFl T i f d s2 with
      | none => rw [q2] at h; exact h.elim
      | some s3 =>
        rw [q2] at h
        unfold putFl at q2
        split at q2
        · rename_i c ns l hc
          split at q2
          · rename_i hf
            rw [Bool.and_eq_true, decide_eq_true_eq] at hf
            obtain ⟨⟨dd, hdd⟩, _⟩ := own_of_upS q2
            obtain ⟨p, ob, k1, k2, k3, k4, k5⟩ := R2.ow i dd hdd
            have hdl : dd = .ins c ns l := by
              rcases own_fr hdd with q | q <;> (rw [q] at hc; exact Option.some.inj hc)
            subst hdl
            obtain ⟨dx, vs, g1, rfl, g3, g4⟩ := k5
            obtain ⟨vs', f1, f2, f3⟩ := putF_put (f := f) g1 g3 i2
            refine ⟨_, k1, p, Z.cA c, dx, ns.zip vs, rfl, k4, (G.cls c g4).cl, FD.na c f g4 hf.1, ?_, ?_⟩
            · rw [List.length_zip, g1, Nat.min_self, ← g1]; omega
            · have R3 := R2.upS q2 k1 (o := .ins (Z.cA c) dx (putF f v (ns.zip vs))) ⟨dx, vs', f1, by rw [f3], f2, g4⟩
              exact (PoS.mono (x := .ok .nx s3) h sm).nx R3
          · cases q2
        · cases q2
/-- o.f of an instance's field -/
theorem fld_read {f : Str} {c : Str} {ns : List Str} {l : List Wd.D} : ∀ {ns : List Str} {l : List Wd.D} {vs : List V}, ns.length = vs.length → Isl Z Hf l vs → (ns.zip l).lookup f = some d → ∃ v, (ns.zip vs).lookup f = some v ∧ Isd Z Hf d v
  | [], l, vs, hl, h, e => by simp at e
  | q :: ns, [], vs, hl, h, e => by simp at e
  | q :: ns, x :: l, vs, hl, h, e => by
    obtain ⟨y, w, rfl, h1, h2⟩ := isl_cons.mp h
    rw [List.zip_cons_cons, List.lookup_cons] at e ⊢
    split
    · rename_i hq
      rw [hq] at e
      cases e
      exact ⟨y, rfl, h1⟩
    · rename_i hq
      rw [hq] at e
      exact fld_read (c := c) (ns := []) (l := []) (by simpa using hl) h2 e
end
end Wd
-- WdEn
set_option linter.all false
set_option maxRecDepth 100000
set_option maxHeartbeats 2000000
set_option Elab.async false
/-! enumerate over a tuple. -/
namespace Wd
open PySem PySem.Spec PyProof.Rows L2
section
variable {prog : Program} {w : World} {A : Around} {E : Value → Shared → Prop} {s : Shared}
theorem nextOf_tup_item {it t : Addr} {i : Nat} {items : Array Value} {x : Value} {Q : Value → Shared → Prop} (hit : s.heap.IsTupleIter it t i) (ht : s.heap.IsTuple t items) (hx : items[i]? = some x)
    (hQ : ∀ h', h'.IsTupleIter it t (i + 1) → Heap.SameBut it s.heap h' → Q x { s with heap := h' }) : wpAny (model prog w) A (Builtin.SmallTypes.nextOf (.ref it)) Q E s := by
  obtain ⟨o, ho, hc, hd⟩ := id hit
  obtain ⟨ol, hol, _, nl, hdl⟩ := ht
  unfold Builtin.SmallTypes.nextOf
  refine wpAny_bind (wpAny_callSpecial?_slot (name := Str.ofString "__next__") hit.typeIs F.slot_tuple_iterator_next
    (wpAny_call_entry F.slot_tuple_iterator_next hit.typeIs F.entry_tuple_iterator_next ?_ (F.args_tuple_iterator_next_1 _)))
  show wpAny _ _ (field (.ref it) 0 >>= _) _ _ s
  refine wpAny_bind (wpAny_field ho hd (x := .ref t) rfl ?_)
  show wpAny _ _ (if (Value.ref t == Value.none) = true then _ else _) _ _ s
  rw [if_neg (show ¬ ((Value.ref t == Value.none) = true) from Bool.false_ne_true)]
  show wpAny _ _ (field (.ref it) 1 >>= _) _ _ s
  refine wpAny_bind (wpAny_field ho hd (x := .int i 0) rfl ?_)
  show wpAny _ _ (seqItems? (.ref t) >>= _) _ _ s
  refine wpAny_bind (wpAny_seqItems hol hdl ?_)
  simp only [Int.toNat_natCast, hx]
  refine wpAny_bind (wpAny_setField ho hd (by simp) (wpAny_pure ⟨x, rfl, wpAny_pure (hQ _ ?_ (Heap.SameBut.update ..))⟩))
  exact ⟨_, Heap.get?_update_self _ ho (Obj.isFreed_of_fields (Obj.data_mapFields hd _)), (Obj.cls_mapFields ..).trans hc, by
    rw [Obj.data_mapFields hd]; simp [rawInt]⟩
theorem meets_enumerate_newT (l : Addr) (items : Array Value) (n : Nat) (dct : Option Addr) (sl : Array (Option Value)) :
    Meets (Builtin.«enumerate.__new__» ⟨[.type "enumerate", .ref l], []⟩) (fun _ R s => s.heap.get? l = some { cls := .type "tuple", dict := dct, data := .seq items n, slots := sl } ∧
      R (.ok (.ret (.ref (s.heap.push { cls := .type "tuple_iterator", data := .fields #[.ref l, .int 0 0] }).objs.size)))
        { s with heap := (s.heap.push { cls := .type "tuple_iterator", data := .fields #[.ref l, .int 0 0] }).push { cls := .type "enumerate", data := .fields #[.none, .bool false, .ref s.heap.objs.size, rawInt 0, .none, .none] } }) :=
  .of_wp fun prog w A R s h => by
    obtain ⟨hp, g, d, tk, os⟩ := s; obtain ⟨hl, h⟩ := h
    have hsub := sub_enumerate
    have hL : Heap.IsTuple (Shared.heap ⟨hp, g, d, tk, os⟩) l items := ⟨_, hl, rfl, n, rfl⟩
    wp_walk using AutoSeq1.wpAny_loadPart' hl
    refine wpAny_stack_any fun st => wpAny_pure ?_
    split
    · rename_i c _ _ _ _ _
      cases (c == Value.type "enumerate")
      · wp_walk using AutoSeq1.wpAny_loadPart' hl, wpAny_pyIter_tuple hL
        exact ⟨_, rfl, h⟩
      · wp_walk using AutoSeq1.wpAny_loadPart' hl, wpAny_pyIter_tuple hL
        exact ⟨_, rfl, h⟩
    · wp_walk using AutoSeq1.wpAny_loadPart' hl, wpAny_pyIter_tuple hL
      exact ⟨_, rfl, h⟩
theorem nextOf_tup_end {it t : Addr} {i : Nat} {items : Array Value} {Q : Value → Shared → Prop} (hh : A.handled = none) (hit : s.heap.IsTupleIter it t i) (ht : s.heap.IsTuple t items) (hx : items[i]? = none)
    (hE : ∀ h' e, Heap.ExtBut it s.heap h' → (∃ o, h'.get? e = some o ∧ o.cls = .type "StopIteration") → E (.ref e) { s with heap := h' }) : wpAny (model prog w) A (Builtin.SmallTypes.nextOf (.ref it)) Q E s := by
  obtain ⟨o, ho, hc, hd⟩ := id hit
  obtain ⟨ol, hol, _, nl, hdl⟩ := ht
  unfold Builtin.SmallTypes.nextOf
  refine wpAny_bind (wpAny_callSpecial?_slot (name := Str.ofString "__next__") hit.typeIs F.slot_tuple_iterator_next
    (wpAny_call_entry F.slot_tuple_iterator_next hit.typeIs F.entry_tuple_iterator_next ?_ (F.args_tuple_iterator_next_1 _)))
  show wpAny _ _ (field (.ref it) 0 >>= _) _ _ s
  refine wpAny_bind (wpAny_field ho hd (x := .ref t) rfl ?_)
  show wpAny _ _ (if (Value.ref t == Value.none) = true then _ else _) _ _ s
  rw [if_neg (show ¬ ((Value.ref t == Value.none) = true) from Bool.false_ne_true)]
  show wpAny _ _ (field (.ref it) 1 >>= _) _ _ s
  refine wpAny_bind (wpAny_field ho hd (x := .int i 0) rfl ?_)
  show wpAny _ _ (seqItems? (.ref t) >>= _) _ _ s
  refine wpAny_bind (wpAny_seqItems hol hdl ?_)
  simp only [Int.toNat_natCast, hx]
  refine wpAny_bind (wpAny_rule (wpAny_bind (wpAny_setField ho hd (by simp) ?_)))
  show wpAny _ _ (newExc (.type "StopIteration") [] >>= _) _ _ _
  refine wpAny_bind ?_
  simp only [newExc, newTuple]
  refine wpAny_bind (wpAny_newObj_type ?_ (by size_fits))
  refine wpAny_bind (m := firstArgMember _ _) (wpAny_of_eq (a := Value.none) (by first | rfl | (simp only [firstArgMember]; rfl)) ?_)
  refine wpAny_newObj_type ?_ (by size_fits)
  simp only [raiseNew]
  refine wpAny_bind (wpAny_handled ?_)
  first | rw [show A.in1.handled = none from hh] | rw [hh]
  refine wpAny_bind (wpAny_pure (wpAny_throw ?_))
  exact hE _ _ (((Heap.SameBut.update ..).extBut.push _).push _) ⟨_, Heap.get?_push_size _ rfl, rfl⟩
theorem tupIter_at {h h' : Heap} {a t : Addr} {i : Nat} (x : h.IsTupleIter a t i) (k : ∀ o, h.get? a = some o → h'.get? a = some o) : h'.IsTupleIter a t i := by
  obtain ⟨o, h1, h2⟩ := x
  exact ⟨o, k o h1, h2⟩
theorem tup_at {h h' : Heap} {a : Addr} {its : Array Value} (x : h.IsTuple a its) (k : ∀ o, h.get? a = some o → h'.get? a = some o) : h'.IsTuple a its := by
  obtain ⟨o, h1, h2⟩ := x
  exact ⟨o, k o h1, h2⟩
theorem draws_tup (hh : A.handled = none) (it l : Addr) (hne : l ≠ it) (items : Array Value) :
    Draws prog w A it [it, l] items.size (fun i v => items[i]? = some v) (fun i h => h.IsTupleIter it l i ∧ h.IsTuple l items) where
  live := fun _ _ st => let ⟨o, ho, _⟩ := st.1; ⟨o, ho⟩
  frame := fun _ _ _ st hk => ⟨tupIter_at st.1 fun o e => hk it (by simp) o e, tup_at st.2 fun o e => hk l (by simp) o e⟩
  item := fun i s Q E hi st hQ => by
    refine nextOf_tup_item st.1 st.2 (x := items[i]) (by simp [hi]) fun h' hit' hs' => ?_
    exact hQ _ h' s.toks (by simp [hi]) ⟨hit', st.2.extBut hs'.extBut hne⟩ hs'
  done := fun s Q E st hE => nextOf_tup_end hh st.1 st.2 (by simp) hE
theorem draws_end (hh : A.handled = none) (it l : Addr) (items : Array Value) (n : Nat) (hx : items[n]? = none) :
    Draws prog w A it [it, l] n (fun i v => items[i]? = some v) (fun i h => i = n ∧ h.IsTupleIter it l n ∧ h.IsTuple l items) where
  live := fun _ _ st => let ⟨o, ho, _⟩ := st.2.1; ⟨o, ho⟩
  frame := fun _ _ _ st hk => ⟨st.1, tupIter_at st.2.1 fun o e => hk it (by simp) o e, tup_at st.2.2 fun o e => hk l (by simp) o e⟩
  item := fun i s Q E hi st hQ => absurd st.1 (Nat.ne_of_lt hi)
  done := fun s Q E st hE => nextOf_tup_end hh st.2.1 st.2.2 hx hE
theorem call_enumerate_tup {l : Addr} {items : Array Value} {Q : Value → Shared → Prop} (hL : s.heap.IsTuple l items)
    (h : ∀ h', IsEnum h' (s.heap.objs.size + 1) s.heap.objs.size 0 .none → h'.IsTupleIter s.heap.objs.size l 0 → h'.objs.size = s.heap.objs.size + 2 →
      (∀ b o, s.heap.get? b = some o → h'.get? b = some o) → Q (.ref (s.heap.objs.size + 1)) { s with heap := h' }) :
    wpAny (model prog w) A (call (.type "enumerate") [.ref l]) Q E s := by
  obtain ⟨⟨c, dct, dt, sl⟩, hl, hc, n, hd⟩ := hL
  replace hc : c = .type "tuple" := hc
  replace hd : dt = .seq items n := hd
  subst hc hd
  refine callType_new F.called_enumerate (by decide) (F.typeCall_enumerate_1 _) (F.newCall_enumerate_1 _) (fun obj => F.args_object_init_2 obj _) F.entry_enumerate_new
    (meets_enumerate_newT l items n dct sl) ⟨hl, ?_⟩
  have hz : (s.heap.push { cls := .type "tuple_iterator", data := .fields #[.ref l, .int 0 0] }).objs.size = s.heap.objs.size + 1 := Heap.size_push ..
  show _ ∧ _
  rw [hz]
  have he : IsEnum ((s.heap.push { cls := .type "tuple_iterator", data := .fields #[.ref l, .int 0 0] }).push
      { cls := .type "enumerate", data := .fields #[.none, .bool false, .ref s.heap.objs.size, rawInt 0, .none, .none] }) (s.heap.objs.size + 1) s.heap.objs.size 0 .none := by
    have := Heap.get?_push_size (s.heap.push { cls := .type "tuple_iterator", data := .fields #[.ref l, .int 0 0] })
      (o := { cls := .type "enumerate", data := .fields #[.none, .bool false, .ref s.heap.objs.size, rawInt 0, .none, .none] }) rfl
    rw [hz] at this; exact this
  refine ⟨⟨_, he, rfl⟩, h _ he ⟨_, Heap.get?_push_of_some _ (Heap.get?_push_size _ rfl), rfl, rfl⟩ (by rw [Heap.size_push, hz]) fun b o x => Heap.get?_push_of_some _ (Heap.get?_push_of_some _ x)⟩
end
/-- the tuple at a, each item with its number in a new pair -/
def IteT (K : PySem.W.Frag) (a : Addr) : It :=
  ⟨fun i H => ∃ (xs : List V) (x : V), SqT K H a xs ∧ xs[i]? = some x, fun i H v H' => ∃ T x, v = .ref T ∧ H T = none ∧ H' = upd H T (.tup [.int (i : Nat), x]) ∧ ∀ xs, SqT K H a xs → xs[i]? = some x, fun i H => ∃ xs : List V, SqT K H a xs ∧ xs.length ≤ i⟩
theorem sqt_inj {X : Cx} {pins : List (Addr × Obj)} {σ : L2.St} {H : Hp} {s : Shared} {a : Addr} {xs ys : List V} (I : Inv X pins σ H s) (h1 : SqT X.K H a xs) (h2 : SqT X.K H a ys) : xs = ys := I.tuple_inj h1 h2
theorem tup_ne_it {h : Heap} {a it t : Addr} {its : Array Value} {i : Nat} (p : h.IsTuple a its) (q : h.IsTupleIter it t i) : a ≠ it := by
  rintro rfl
  obtain ⟨o, h1, h2, _⟩ := p
  obtain ⟨o', h3, h4, _⟩ := q
  rw [h1] at h3
  cases h3
  rw [h2] at h4
  exact absurd h4 (by decide)
theorem tup_ne_en {h : Heap} {a e it : Addr} {its : Array Value} {i : Int} {old : Value} (p : h.IsTuple a its) (q : IsEnum h e it i old) : e ≠ a := by
  rintro rfl
  obtain ⟨o, h1, h2, _⟩ := p
  have q' : h.get? e = _ := q
  rw [h1] at q'
  cases q'
  exact absurd (show Value.type "enumerate" = Value.type "tuple" from h2) (by decide)
theorem turn_enumT {P : Program} {w : World} {K : PySem.W.Frag} {elts : List Expr} {kk : Nat} {tpos : Pos} (a e it : Addr) :
    Turn P w K (.Tuple elts kk tpos) (IteT K a) [e, it] e (fun i h => (∃ old, IsEnum h e it ((i : Nat) : Int) old) ∧ h.IsTupleIter it a i ∧ e ≠ it) where
  mem := by simp
  obj := fun i h st b hb => by
    obtain ⟨⟨old, he⟩, ⟨o, ho, hc, hd⟩, _⟩ := st
    have e' : b = e ∨ b = it := by simpa using hb
    rcases e' with z | z
    · rw [z]; exact ⟨_, he, fun v q => nomatch q⟩
    · rw [z]; exact ⟨o, ho, fun v q => by rw [hd] at q; cases q⟩
  keep := fun i h h' st k => let ⟨⟨old, he⟩, hi, hne⟩ := st; ⟨⟨old, k e (by simp) _ he⟩, tupIter_at hi fun o q => k it (by simp) o q, hne⟩
  item := by
    intro X hP hw hK hc i pins s σ H E I hf st hg
    subst hP hw hK
    obtain ⟨⟨old, he⟩, hit, hne⟩ := st
    obtain ⟨xs, x, hq, hx⟩ := hg
    obtain ⟨its, rv, p, hz⟩ := I.tuple hq
    obtain ⟨u, hu, ru⟩ := rv.get hx
    have hel : e < s.heap.objs.size := Heap.lt_size he
    have hil : it < s.heap.objs.size := by obtain ⟨_, q, _⟩ := hit; exact Heap.lt_size q
    have hT : s.heap.IsTuple a its.toArray := p
    have hai : a ≠ it := tup_ne_it hT hit
    have hea : e ≠ a := tup_ne_en hT he
    have hlt : i < its.toArray.size := by
      rw [List.size_toArray]
      exact (List.getElem?_eq_some_iff.mp hu).1
    refine wpAny_pyNext_enum_itemD (draws_tup (A := X.A.in1) (I.ok.hd hc) it a hai its.toArray) he ⟨hit, hT⟩ hlt hne (by simp [hne, hea]) fun y h' tk hy ho hst hT hsz hk => ?_
    have hyu : y = u := by
      have : its.toArray[i]? = some u := by simpa using hu
      rw [this] at hy
      exact (Option.some.inj hy).symm
    subst hyu
    refine ⟨_, rfl, wpAny_letOwnedTupleGo_enum (s := { s with heap := h', toks := tk + 1 }) ho fun h'' he' sb => ?_⟩
    have hT2 : h''.get? s.heap.objs.size = some { cls := .type "tuple", data := .seq #[.int i tk, y] } := (sb.2 _ (Nat.ne_of_gt hel)).trans hT
    have new : ObjOk X.prog X.w (upd H s.heap.objs.size (.tup [.int (i : Nat), x])) h'' s.heap.objs.size (.tup [.int (i : Nat), x]) :=
      ⟨by show 2 ≤ sizeLine; decide, [.int i tk, y], .cons ⟨_, rfl⟩ (.cons ru .nil), ⟨_, hT2, rfl, _, rfl⟩⟩
    have I1 : Inv X pins σ (upd H s.heap.objs.size (.tup [.int (i : Nat), x])) { s with heap := h'', toks := tk + 1 } :=
      I.turnedNew (ch := [e, it]) (fun b ob hb q => (sb.2 b (fun z => hb (by simp [z]))).trans (hk b ob (fun z => hb (by simp [z])) (fun z => hb (by simp [z])) q)) hf (Nat.le_refl _) new
    refine ⟨.ref s.heap.objs.size, _, I1, rfl, ⟨_, x, rfl, I.hok.fresh (Nat.le_refl _), rfl, fun ys hy => by rw [I.tuple_inj hy hq]; exact hx⟩, ⟨⟨y, ?_⟩, tupIter_at hst.1 fun o q => (sb.2 it (Ne.symm hne)).trans q, hne⟩, fun b hb => ?_⟩
    · have e1 : ((i + 1 : Nat) : Int) = (i : Int) + 1 := by omega
      rw [e1]; exact he'
    · have hb' : b < s.heap.objs.size := by
        have e' : b = e ∨ b = it := by simpa using hb
        rcases e' with z | z
        · rw [z]; exact hel
        · rw [z]; exact hil
      rw [upd_ne (Nat.ne_of_lt hb')]
      exact (hf b hb).1
  done := by
    intro X hP hw hK hc i pins s σ H E I hf st hg
    subst hP hw hK
    obtain ⟨⟨old, he⟩, hit, hne⟩ := st
    obtain ⟨xs, hq, hx⟩ := hg
    obtain ⟨its, rv, p, hz⟩ := I.tuple hq
    obtain ⟨f0, f1, f2, f3, f4, f5⟩ := hf it (by simp)
    have hl := rv.length
    have hT : s.heap.IsTuple a its.toArray := p
    have hai : a ≠ it := tup_ne_it hT hit
    exact wpAny_pyNext_enum_endD (draws_end (A := X.A.in1) (I.ok.hd hc) it a its.toArray i (by simp; omega)) he ⟨rfl, hit, hT⟩ fun h' eb => ⟨rfl, I.turned (t' := s.toks) (fun b o hb q => eb b o hb q) f0 f1 f3 f4 f5⟩
  self := fun A i s Q E st h => let ⟨⟨_, he⟩, _⟩ := st; wpAny_pyIter_enum he h
def iEnumT (K : PySem.W.Frag) (ta : TA) : TI := fun σ H R => ta σ H fun vs H1 => ∃ a xs, vs = [.ref a] ∧ ((SqL K H1 a xs ∧ R (Ite K a) H1) ∨ (SqT K H1 a xs ∧ R (IteT K a) H1))
/-- enumerate of a list or a tuple -/
theorem pi_enumA {X : Cx} {e : Expr} {ta : TA} {p pos tpos : Pos} {elts : List Expr} {kk : Nat} (hg : Gl X "enumerate") (hm : X.mg "enumerate" = none) (ha : PA X [e] ta) (hs : starEach [e] X.env = [(false, eval e X.env)]) :
    PI X (.Tuple elts kk tpos) (.Call (.Name "enumerate" p) [e] [] pos) (iEnumT X.K ta) := by
  refine ⟨fun pins s σ H R I h => ?_⟩
  refine Call_ (ld_blt I hg hm boot_enumerate (PyProof.Rows.callWith_type1 (thn (ha.run pos pins s σ H _ I h) fun us s1 ⟨vs, H1, I1, r1, q1⟩ => ?_) hs rfl))
  obtain ⟨a, xs, ex, q⟩ := q1
  subst ex
  cases r1 with
  | cons r rr =>
    cases rr
    cases r
    have fin : ∀ {b : Addr}, b = s1.heap.objs.size + 1 ∨ b = s1.heap.objs.size → FpOk X pins H1 b := fun {b} e' => by
      have hle : s1.heap.objs.size ≤ b := by
        rcases e' with z | z
        · rw [z]; exact Nat.le_add_right _ _
        · rw [z]; exact Nat.le_refl _
      exact I1.fpOk hle (I1.hok.fresh hle)
    rcases q with ⟨hq, q⟩ | ⟨hq, q⟩
    · obtain ⟨its, rv, p', hz⟩ := I1.list hq
      refine call_enumerate_list p'.isList fun h' he hit hsz hk => wpAny_pyIter_enum he ?_
      have I2 : Inv X pins σ H1 { s1 with heap := h' } := I1.kept (t' := s1.toks) hk
      exact ⟨s1.heap.objs.size + 1, [s1.heap.objs.size + 1, s1.heap.objs.size], _, _, H1, rfl, I2, turn_enum a (s1.heap.objs.size + 1) s1.heap.objs.size, ⟨⟨.none, he⟩, hit, Nat.succ_ne_self _⟩, fun b hb => fin (by simpa using hb), q⟩
    · obtain ⟨its, rv, p', hz⟩ := I1.tuple hq
      refine call_enumerate_tup (show s1.heap.IsTuple a its.toArray from p') fun h' he hit hsz hk => wpAny_pyIter_enum he ?_
      have I2 : Inv X pins σ H1 { s1 with heap := h' } := I1.kept (t' := s1.toks) hk
      exact ⟨s1.heap.objs.size + 1, [s1.heap.objs.size + 1, s1.heap.objs.size], _, _, H1, rfl, I2, turn_enumT a (s1.heap.objs.size + 1) s1.heap.objs.size, ⟨⟨.none, he⟩, hit, Nat.succ_ne_self _⟩, fun b hb => fin (by simpa using hb), q⟩
end Wd
-- WdSd19
set_option linter.all false
set_option maxRecDepth 100000
set_option maxHeartbeats 2000000
set_option Elab.async false
/-! What a loop walks; for. -/
namespace Wd
open PySem L2 PySem.Spec PyProof.Rows
/-- J walks the data l, wherever the frozen part stands -/
structure WkD (Z : Wo) (J : It) (Hf : Hp) (l : List D) : Prop where
  go : ∀ i H, i < l.length → Same Hf H → J.go i H
  stop : ∀ H, Same Hf H → J.stop l.length H
  yld : ∀ i d Hf2 H F s σ x H', l[i]? = some d → Same Hf Hf2 → Rel Z Hf2 H F s σ → J.yld i H x H' → ∃ Hf3, Same Hf2 Hf3 ∧ Rel Z Hf3 H' F s σ ∧ Isd Z Hf3 d x
def tI (Z : Wo) (W : WX) (f : Sto → Res (List D)) : TI := fun σ H R => ∃ Hf F s, Rel Z Hf H F s σ ∧ Po Z W Hf F σ (f s) fun l s' H' Hf' => ∀ J, WkD Z J Hf' l → R J H'
section
variable {α β : Type} {Z : Wo} {W : WX} {X : Cx} {Hf Hf' H H' F F' : Hp} {s s' : Sto} {σ : L2.St} {v : V} {d d' : Wd.D} {r : Rv} {T : Tab} {C : Str → List Sl → CRes} {i j Wh : Nat} {a b : Addr} {l m : List Wd.D} {xs ys : List V} {tg : Expr}
theorem wk_list {K : PySem.W.Frag} (h : SqL K Hf a xs) (q : Isl Z Hf l xs) : WkD Z (Itl K a) Hf l where
  go := fun i H hi sm => ⟨xs, xs[i]'(by rw [← q.length]; exact hi), sm.seq h, by simp⟩
  stop := fun H sm => ⟨xs, sm.seq h, by rw [q.length]; exact Nat.le_refl _⟩
  yld := fun i d Hf2 H F s σ x H' hd sm R y => by
    obtain ⟨e, y⟩ := y
    subst e
    obtain ⟨w, hw, iw⟩ := q.get hd
    have := y xs ((sm.trans R.sub).seq h)
    rw [hw] at this
    cases this
    exact ⟨Hf2, Same.refl _, R, iw.mono sm⟩
theorem wk_tup {K : PySem.W.Frag} (h : SqT K Hf a xs) (q : Isl Z Hf l xs) : WkD Z (Itt K a) Hf l where
  go := fun i H hi sm => ⟨xs, xs[i]'(by rw [← q.length]; exact hi), sqt_mono sm h, by simp⟩
  stop := fun H sm => ⟨xs, sqt_mono sm h, by rw [q.length]; exact Nat.le_refl _⟩
  yld := fun i d Hf2 H F s σ x H' hd sm R y => by
    obtain ⟨e, y⟩ := y
    subst e
    obtain ⟨w, hw, iw⟩ := q.get hd
    have := y xs (sqt_mono (sm.trans R.sub) h)
    rw [hw] at this
    cases this
    exact ⟨Hf2, Same.refl _, R, iw.mono sm⟩
theorem wk_str {z : Str} : WkD Z (Its z) Hf (z.cps.toList.map fun c => .str ⟨#[c]⟩) where
  go := fun i H hi sm => by show i < z.cps.size; simpa using hi
  stop := fun H sm => by show z.cps.size ≤ _; simp
  yld := fun i d Hf2 H F s σ x H' hd sm R y => by
    obtain ⟨e, c, hc, ex⟩ := y
    subst e ex
    rw [List.getElem?_map] at hd
    obtain ⟨c', hc', e⟩ := Option.map_eq_some_iff.mp hd
    have : c' = c := by
      rw [Array.getElem?_toList] at hc'
      rw [hc] at hc'
      exact (Option.some.inj hc').symm
    subst this
    subst e
    exact ⟨Hf2, Same.refl _, R, isd_str⟩
theorem rangeL_len {a c : Int} {n : Nat} : (rangeL a c n).length = n := by simp [rangeL]
theorem rangeL_get {a c : Int} {n i : Nat} {d : Wd.D} (h : (rangeL a c n)[i]? = some d) : i < n ∧ d = .int (a + i * c) := by
  unfold rangeL at h
  rw [List.getElem?_map] at h
  obtain ⟨k, hk, e⟩ := Option.map_eq_some_iff.mp h
  obtain ⟨h1, h2⟩ := List.getElem?_eq_some_iff.mp hk
  simp at h1 h2
  subst h2
  exact ⟨h1, e.symm⟩
theorem wk_range {lo : Int} {n : Nat} : WkD Z (Itr lo n) Hf (rangeL lo 1 n) where
  go := fun i H hi sm => by rw [rangeL_len] at hi; exact hi
  stop := fun H sm => by rw [rangeL_len]; exact Nat.le_refl _
  yld := fun i d Hf2 H F s σ x H' hd sm R y => by
    obtain ⟨e, ex⟩ := y
    subst e ex
    obtain ⟨h1, h2⟩ := rangeL_get hd
    subst h2
    rw [Int.mul_one]
    exact ⟨Hf2, Same.refl _, R, isd_int⟩
theorem wk_rangeC {lo c : Int} {n : Nat} : WkD Z (Itc lo c n) Hf (rangeL lo c n) where
  go := fun i H hi sm => by rw [rangeL_len] at hi; exact hi
  stop := fun H sm => by rw [rangeL_len]; exact Nat.le_refl _
  yld := fun i d Hf2 H F s σ x H' hd sm R y => by
    obtain ⟨e, ex⟩ := y
    subst e ex
    obtain ⟨h1, h2⟩ := rangeL_get hd
    subst h2
    exact ⟨Hf2, Same.refl _, R, isd_int⟩
theorem yld_pair {T : Addr} {x y : V} {d e : Wd.D} (R : Rel Z Hf H F s σ) (hT : H T = none) (h1 : Isd Z Hf d x) (h2 : Isd Z Hf e y) : ∃ Hf3, Same Hf Hf3 ∧ Rel Z Hf3 (upd H T (.tup [x, y])) F s σ ∧ Isd Z Hf3 (.tup [d, e]) (.ref T) := by
  have sm : Same Hf (upd Hf T (.tup [x, y])) := same_upd (R.hf_none hT)
  exact ⟨_, sm, R.allocF hT, isd_tup upd_same (isl_cons.mpr ⟨_, _, rfl, h1.mono sm, .one (h2.mono sm)⟩)⟩
theorem enumL_get {l : List Wd.D} {i : Nat} {d : Wd.D} (h : (enumL l)[i]? = some d) : ∃ e, l[i]? = some e ∧ d = .tup [.int (i : Nat), e] := by
  unfold enumL at h
  rw [List.getElem?_map] at h
  obtain ⟨p, hp, e⟩ := Option.map_eq_some_iff.mp h
  obtain ⟨k, x⟩ := p
  rw [List.getElem?_zip_eq_some] at hp
  obtain ⟨h1, h2⟩ := hp
  obtain ⟨h3, h4⟩ := List.getElem?_eq_some_iff.mp h1
  simp at h4
  subst h4
  exact ⟨x, h2, e.symm⟩
theorem enumL_len {l : List Wd.D} : (enumL l).length = l.length := by simp [enumL]
theorem wk_enum {K : PySem.W.Frag} (h : SqL K Hf a xs) (q : Isl Z Hf l xs) : WkD Z (Ite K a) Hf (enumL l) where
  go := fun i H hi sm => by rw [enumL_len, q.length] at hi; exact ⟨xs, xs[i], sm.seq h, by simp [hi]⟩
  stop := fun H sm => ⟨xs, sm.seq h, by rw [enumL_len, q.length]; exact Nat.le_refl _⟩
  yld := fun i d Hf2 H F s σ x H' hd sm R y => by
    obtain ⟨T, w, ex, hT, eH, y⟩ := y
    subst ex eH
    obtain ⟨e, he, rfl⟩ := enumL_get hd
    obtain ⟨u, hu, iu⟩ := q.get he
    have := y xs ((sm.trans R.sub).seq h)
    rw [hu] at this
    cases this
    exact yld_pair R hT isd_int (iu.mono sm)
theorem wk_enumT {K : PySem.W.Frag} (h : SqT K Hf a xs) (q : Isl Z Hf l xs) : WkD Z (IteT K a) Hf (enumL l) where
  go := fun i H hi sm => by rw [enumL_len, q.length] at hi; exact ⟨xs, xs[i], sqt_mono sm h, by simp [hi]⟩
  stop := fun H sm => ⟨xs, sqt_mono sm h, by rw [enumL_len, q.length]; exact Nat.le_refl _⟩
  yld := fun i d Hf2 H F s σ x H' hd sm R y => by
    obtain ⟨T, w, ex, hT, eH, y⟩ := y
    subst ex eH
    obtain ⟨e, he, rfl⟩ := enumL_get hd
    obtain ⟨u, hu, iu⟩ := q.get he
    have := y xs (sqt_mono (sm.trans R.sub) h)
    rw [hu] at this
    cases this
    exact yld_pair R hT isd_int (iu.mono sm)
theorem zip_get {l m : List Wd.D} {i : Nat} {d : Wd.D} (h : ((l.zip m).map fun p => Wd.D.tup [p.1, p.2])[i]? = some d) : ∃ e g, l[i]? = some e ∧ m[i]? = some g ∧ d = .tup [e, g] := by
  rw [List.getElem?_map] at h
  obtain ⟨p, hp, e⟩ := Option.map_eq_some_iff.mp h
  obtain ⟨x, y⟩ := p
  rw [List.getElem?_zip_eq_some] at hp
  exact ⟨x, y, hp.1, hp.2, e.symm⟩
theorem wk_zip {K : PySem.W.Frag} (h : SqL K Hf a xs) (q : Isl Z Hf l xs) (h' : SqL K Hf b ys) (q' : Isl Z Hf m ys) : WkD Z (Itz K a b) Hf ((l.zip m).map fun p => .tup [p.1, p.2]) where
  go := fun i H hi sm => by
    simp only [List.length_map, List.length_zip, q.length, q'.length] at hi
    exact ⟨xs, ys, xs[i]'(by omega), ys[i]'(by omega), sm.seq h, sm.seq h', by simp, by simp⟩
  stop := fun H sm => ⟨xs, ys, sm.seq h, sm.seq h', by simp only [List.length_map, List.length_zip, q.length, q'.length]; omega⟩
  yld := fun i d Hf2 H F s σ x H' hd sm R y => by
    obtain ⟨T, w, z, ex, hT, eH, y1, y2⟩ := y
    subst ex eH
    obtain ⟨e, g, he, hg, rfl⟩ := zip_get hd
    obtain ⟨u, hu, iu⟩ := q.get he
    obtain ⟨u', hu', iu'⟩ := q'.get hg
    have t1 := y1 xs ((sm.trans R.sub).seq h)
    have t2 := y2 ys ((sm.trans R.sub).seq h')
    rw [hu] at t1
    rw [hu'] at t2
    cases t1
    cases t2
    exact yld_pair R hT (iu.mono sm) (iu'.mono sm)
theorem wk_zipT {K : PySem.W.Frag} (h : SqT K Hf a xs) (q : Isl Z Hf l xs) (h' : SqT K Hf b ys) (q' : Isl Z Hf m ys) : WkD Z (RZ.ItzT K a b) Hf ((l.zip m).map fun p => .tup [p.1, p.2]) where
  go := fun i H hi sm => by
    simp only [List.length_map, List.length_zip, q.length, q'.length] at hi
    exact ⟨xs, ys, xs[i]'(by omega), ys[i]'(by omega), sqt_mono sm h, sqt_mono sm h', by simp, by simp⟩
  stop := fun H sm => ⟨xs, ys, sqt_mono sm h, sqt_mono sm h', by simp only [List.length_map, List.length_zip, q.length, q'.length]; omega⟩
  yld := fun i d Hf2 H F s σ x H' hd sm R y => by
    obtain ⟨T, w, z, ex, hT, eH, y1, y2⟩ := y
    subst ex eH
    obtain ⟨e, g, he, hg, rfl⟩ := zip_get hd
    obtain ⟨u, hu, iu⟩ := q.get he
    obtain ⟨u', hu', iu'⟩ := q'.get hg
    have t1 := y1 xs (sqt_mono (sm.trans R.sub) h)
    have t2 := y2 ys (sqt_mono (sm.trans R.sub) h')
    rw [hu] at t1
    rw [hu'] at t2
    cases t1
    cases t2
    exact yld_pair R hT (iu.mono sm) (iu'.mono sm)
/-! ### what is walked -/
def iAny (K : PySem.W.Frag) (te : TE) : TI := fun σ H R => te σ H fun x H1 => (∃ a xs, x = .ref a ∧ SqL K H1 a xs ∧ R (Itl K a) H1) ∨ (∃ a xs, x = .ref a ∧ SqT K H1 a xs ∧ R (Itt K a) H1) ∨ ∃ z, x = .str z ∧ R (Its z) H1
theorem pi_any {e : Expr} {te : TE} (he : PE X e te) : PI X tg e (iAny X.K te) := by
  refine ⟨fun pins s σ H R I h => ?_⟩
  refine thn (he.run pins s σ H _ I h) fun v s1 ⟨x, H1, I1, r1, q1⟩ => ?_
  rcases q1 with ⟨a, xs, rfl, hq, q⟩ | ⟨a, xs, rfl, hq, q⟩ | ⟨z, rfl, q⟩
  · cases r1
    obtain ⟨its, rv, p, hz⟩ := I1.list hq
    exact wpAny_pyIter_list p.isList (pi_one (tk := s1.toks) I1 _ (turn_list a _) ⟨_, Heap.get?_push_size _ rfl, rfl, rfl⟩ q)
  · cases r1
    obtain ⟨its, rv, p, hz⟩ := I1.tuple hq
    exact wpAny_pyIter_tuple (show s1.heap.IsTuple a its.toArray from p) (pi_one (tk := s1.toks) I1 _ (turn_tuple a _) ⟨_, Heap.get?_push_size _ rfl, rfl, rfl⟩ q)
  · obtain ⟨t, rfl⟩ := r1
    cases ha : z.cps.all (· < 128)
    · exact wpAny_pyIter_wide ha (pi_one (tk := s1.toks) I1 _ (turn_str _ z t "str_iterator" (.inr rfl)) ⟨_, Heap.get?_push_size _ rfl, rfl, rfl⟩ q)
    · exact wpAny_pyIter_ascii ha (pi_one (tk := s1.toks) I1 _ (turn_str _ z t "str_ascii_iterator" (.inl rfl)) ⟨_, Heap.get?_push_size _ rfl, rfl, rfl⟩ q)
theorem pi_weak {e : Expr} {t t' : TI} (h : PI X tg e t) (w : ∀ σ H R, t' σ H R → t σ H R) : PI X tg e t' := ⟨fun pins s σ H R I q => h.run pins s σ H R I (w σ H R q)⟩
theorem i_e {e : Expr} {ie : Ie} (hK : X.K = Z.K) (he : PE X e (tE Z W (evE T C ie))) : PI X tg e (tI Z W (evI T C (.e ie))) := pi_weak (pi_any he) fun σ H R h => by
  obtain ⟨Hf, F, st, R0, h⟩ := h
  rw [evI, fz_bnd] at h
  refine ⟨Hf, F, st, R0, h.bind.imp fun r s1 H1 Hf1 e1 R1 h v rv => ?_⟩
  unfold frzR at h
  cases q : Wd.frz r s1 with
  | none => rw [q] at h; exact h.elim
  | some w =>
    obtain ⟨d, s2⟩ := w
    rw [q] at h
    obtain ⟨Hf2, sm, R2, i2, _⟩ := R1.frzW rv q
    have h := h.mono sm
    cases d with
    | tup l =>
      have h := h.at R2
      unfold Isd at i2
      obtain ⟨a, vs, rfl, h2, h3⟩ := i2
      refine .inr (.inl ⟨a, vs, rfl, by rw [hK]; exact sqt_mono R2.sub h2, h _ (wk_tup (by rw [hK]; exact h2) h3)⟩)
    | lst l =>
      have h := h.at R2
      unfold Isd at i2
      obtain ⟨a, vs, rfl, h2, h3⟩ := i2
      exact .inl ⟨a, vs, rfl, SqL.of (R2.sub _ _ h2), h _ (wk_list (SqL.of h2) h3)⟩
    | scr l =>
      have h := h.at R2
      unfold Isd at i2
      obtain ⟨a, vs, rfl, h2, h3⟩ := i2
      exact .inl ⟨a, vs, rfl, by rw [hK]; exact R2.sub.seq h2, h _ (wk_list (by rw [hK]; exact h2) h3)⟩
    | str z =>
      have h := h.at R2
      unfold Isd at i2
      exact .inr (.inr ⟨z, i2, h _ wk_str⟩)
    | _ => exact h.elim
structure RgN (X : Cx) (x : Str) : Prop where
  gl : Gl X x
  mg : X.mg x = none
theorem range_run {k : Nat} {as : Ia} {R : It → Hp → Prop} (h : tI Z W (evI T C (.rg k as)) σ H R) : tA Z W (evA T C as) σ H fun vs H1 => ∃ ds Hf2, Reps Z Hf2 H1 ds vs ∧ ∃ l, rangeD k ds = some l ∧ ∀ J, WkD Z J Hf2 l → R J H1 := by
  obtain ⟨Hf, F, st, R0, h⟩ := h
  rw [evI] at h
  refine ⟨Hf, F, st, R0, h.bind.imp fun rs s1 H1 Hf1 e1 R1 h vs rv => ?_⟩
  obtain ⟨ds, hd, h⟩ := h.bind.opt R1
  obtain ⟨l, hl, h⟩ := h.opt R1
  exact ⟨ds, Hf1, reps_of R1 rv hd, l, hl, h⟩
theorem tA_imp {f : Sto → Res (List Rv)} {Q Q' : List V → Hp → Prop} (h : tA Z W f σ H Q) (w : ∀ vs H, Q vs H → Q' vs H) : tA Z W f σ H Q' := by
  obtain ⟨Hf, F, st, R0, h⟩ := h
  exact ⟨Hf, F, st, R0, h.imp fun rs s1 H1 Hf1 e1 R1 h vs rv => w _ _ (h vs rv)⟩
theorem i_rg1 {a : Expr} {ia : Ia} {p pos : Pos} (N : RgN X "range") (ha : PA X [a] (tA Z W (evA T C ia))) (hp : plain a = true) : PI X tg (.Call (.Name "range" p) [a] [] pos) (tI Z W (evI T C (.rg 1 ia))) :=
  pi_weak (pi_range1 N.gl N.mg ha (star_plain hp)) fun σ H R h => by
    refine tA_imp (range_run h) fun vs H1 h => ?_
    obtain ⟨ds, Hf2, p, l, hl, h⟩ := h
    unfold rangeD at hl
    split at hl
    · split at hl
      · cases hl
        rename_i hb
        obtain ⟨v, rfl, p1⟩ := reps1 p
        exact ⟨_, by rw [p1.int], hb.1, hb.2, h _ wk_range⟩
      · cases hl
    · exact absurd ‹(1 : Nat) = 2› (by decide)
    · exact absurd ‹(1 : Nat) = 3› (by decide)
    · cases hl
theorem i_rg2 {a b : Expr} {ia : Ia} {p pos : Pos} (N : RgN X "range") (ha : PA X [a, b] (tA Z W (evA T C ia))) (hp : plain a = true) (hp2 : plain b = true) : PI X tg (.Call (.Name "range" p) [a, b] [] pos) (tI Z W (evI T C (.rg 2 ia))) :=
  pi_weak (pi_range2 N.gl N.mg ha (by rw [star_plain hp, star_plain hp2]; rfl) (star_plain hp2)) fun σ H R h => by
    refine tA_imp (range_run h) fun vs H1 h => ?_
    obtain ⟨ds, Hf2, p, l, hl, h⟩ := h
    unfold rangeD at hl
    split at hl
    · exact absurd ‹(2 : Nat) = 1› (by decide)
    · split at hl
      · cases hl
        rename_i hb
        obtain ⟨v, w, rfl, p1, p2⟩ := reps2 p
        exact ⟨_, _, by rw [p1.int, p2.int], hb, h _ wk_range⟩
      · cases hl
    · exact absurd ‹(2 : Nat) = 3› (by decide)
    · cases hl
theorem i_rg3 {a b c : Expr} {ia : Ia} {p pos : Pos} (N : RgN X "range") (ha : PA X [a, b, c] (tA Z W (evA T C ia))) (hp : plain a = true) (hp2 : [b, c].all plain = true) : PI X tg (.Call (.Name "range" p) [a, b, c] [] pos) (tI Z W (evI T C (.rg 3 ia))) :=
  pi_weak (pi_range3 N.gl N.mg ha (star_plain hp) (back_plain hp2)) fun σ H R h => by
    refine tA_imp (range_run h) fun vs H1 h => ?_
    obtain ⟨ds, Hf2, p, l, hl, h⟩ := h
    unfold rangeD at hl
    split at hl
    · exact absurd ‹(3 : Nat) = 1› (by decide)
    · exact absurd ‹(3 : Nat) = 2› (by decide)
    · split at hl
      · cases hl
        rename_i hb
        obtain ⟨v, w, rfl, p1, p2⟩ := p
        obtain ⟨w1, w2, rfl, p2, p3⟩ := reps2 p2
        refine ⟨_, _, _, _, by rw [p1.int, p2.int, p3.int], ⟨hb.1, hb.2.1, hb.2.2.1, ?_⟩, h _ wk_rangeC⟩
        rw [Int.toNat_of_nonneg hb.2.2.2]
      · cases hl
    · cases hl
theorem i_en {e : Expr} {ia : Ia} {p pos tpos : Pos} {elts : List Expr} {kk : Nat} (hK : X.K = Z.K) (N : RgN X "enumerate") (ha : PA X [e] (tA Z W (evA T C ia))) (hp : plain e = true) :
    PI X (.Tuple elts kk tpos) (.Call (.Name "enumerate" p) [e] [] pos) (tI Z W (evI T C (.en ia))) :=
  pi_weak (pi_enumA N.gl N.mg ha (star_plain hp)) fun σ H R h => by
    obtain ⟨Hf, F, st, R0, h⟩ := h
    rw [evI] at h
    refine ⟨Hf, F, st, R0, h.bind.imp fun rs s1 H1 Hf1 e1 R1 h vs rv => ?_⟩
    split at h
    · rename_i d s2 q
      obtain ⟨Hf2, sm, R2, i2⟩ := fzs_ok R1 rv q
      obtain ⟨l, hl, g⟩ := (h.mono sm).opt R2
      obtain ⟨l0, hl0, rfl⟩ := Option.map_eq_some_iff.mp hl
      obtain ⟨v, w, rfl, i3, i4⟩ := isl_cons.mp i2
      have : w = [] := isl_nil.mp i4
      subst this
      unfold items? at hl0
      split at hl0
      · cases hl0
        unfold Isd at i3
        obtain ⟨a, ys, rfl, h2, h3⟩ := i3
        exact ⟨a, ys, rfl, .inr ⟨by rw [hK]; exact sqt_mono R2.sub h2, g _ (wk_enumT (by rw [hK]; exact h2) h3)⟩⟩
      · cases hl0
        unfold Isd at i3
        obtain ⟨a, ys, rfl, h2, h3⟩ := i3
        exact ⟨a, ys, rfl, .inl ⟨SqL.of (R2.sub _ _ h2), g _ (wk_enum (SqL.of h2) h3)⟩⟩
      · cases hl0
    · exact h.elim
theorem i_zp {e e2 : Expr} {ia : Ia} {p pos tpos : Pos} {elts : List Expr} {kk : Nat} (hK : X.K = Z.K) (N : RgN X "zip") (ha : PA X [e, e2] (tA Z W (evA T C ia))) (hp : plain e = true) (hp2 : plain e2 = true) :
    PI X (.Tuple elts kk tpos) (.Call (.Name "zip" p) [e, e2] [] pos) (tI Z W (evI T C (.zp ia))) :=
  pi_weak (RZ.pi_zipA N.gl N.mg ha (star_plain hp) (back_plain (by simp [hp2]))) fun σ H R h => by
    obtain ⟨Hf, F, st, R0, h⟩ := h
    rw [evI] at h
    refine ⟨Hf, F, st, R0, h.bind.imp fun rs s1 H1 Hf1 e1 R1 h vs rv => ?_⟩
    split at h
    · rename_i ds s2 q
      obtain ⟨Hf2, sm, R2, i2⟩ := fzs_ok R1 rv q
      obtain ⟨l, hl, g⟩ := (h.mono sm).opt R2
      unfold zipD at hl
      split at hl
      · cases hl
        obtain ⟨v, w, rfl, i3, i4⟩ := isl_cons.mp i2
        obtain ⟨v2, w2, rfl, i5, i6⟩ := isl_cons.mp i4
        have : w2 = [] := isl_nil.mp i6
        subst this
        unfold Isd at i3 i5
        obtain ⟨a, xs, rfl, h2, h3⟩ := i3
        obtain ⟨b, ys, rfl, h4, h5⟩ := i5
        exact ⟨a, b, xs, ys, rfl, .inl ⟨SqL.of (R2.sub _ _ h2), SqL.of (R2.sub _ _ h4), g _ (wk_zip (SqL.of h2) h3 (SqL.of h4) h5)⟩⟩
      · cases hl
        obtain ⟨v, w, rfl, i3, i4⟩ := isl_cons.mp i2
        obtain ⟨v2, w2, rfl, i5, i6⟩ := isl_cons.mp i4
        have : w2 = [] := isl_nil.mp i6
        subst this
        unfold Isd at i3 i5
        obtain ⟨a, xs, rfl, h2, h3⟩ := i3
        obtain ⟨b, ys, rfl, h4, h5⟩ := i5
        exact ⟨a, b, xs, ys, rfl, .inr ⟨by rw [hK]; exact sqt_mono R2.sub h2, by rw [hK]; exact sqt_mono R2.sub h4, g _ (wk_zipT (by rw [hK]; exact h2) h3 (by rw [hK]; exact h4) h5)⟩⟩
      · cases hl
    · exact h.elim
/-! ### for -/
def tD (Z : Wo) (W : WX) (f : Wd.D → Sto → Res Unit) : TG := fun v σ H Q => ∃ Hf F s d, Rel Z Hf H F s σ ∧ Isd Z Hf d v ∧ PoU Z W Hf F (f d s) Q
theorem pg_weak {e : Expr} {t t' : TG} (h : PG X e t) (w : ∀ v σ H Q, t' v σ H Q → t v σ H Q) : PG X e t' := ⟨fun pins s σ H v u Q I r q => h.run pins s σ H v u Q I r (w v σ H Q q)⟩
theorem d_nm {x : Str} {pos : Pos} (hN : X.N.Nodup) (hi : X.N[i]? = some x) (hx : Loc X.env.scope x) (hfx : X.fn x = true ∨ X.env.scope.names.lookup x = some .local) : PG X (.Name x pos) (tD Z W (fun d s => putTg s [i] d)) :=
  pg_weak (g_nm (Z := Z) (W := W) (T := ⟨[], [], [], [], []⟩) (C := fun _ _ => .bad "") hN hi hx hfx) fun v σ H Q h => by
    obtain ⟨Hf, F, s, d, R, q, h⟩ := h
    exact ⟨Hf, F, s, .v d, R, q, h⟩
theorem rrs_v {rs : List Wd.D} : ∀ {l : List Wd.D} {vs : List V}, Isl Z Hf l vs → RRs Z Hf H s σ F (l.map .v) vs
  | [], vs, h => isl_nil.mp h
  | d :: l, vs, h => by
    obtain ⟨v, w, rfl, h1, h2⟩ := isl_cons.mp h
    exact ⟨v, w, rfl, h1, rrs_v (rs := rs) h2⟩
theorem d_tup {ts : List Expr} {k : Nat} {pos : Pos} {is : List Nat} (hc : X.calm = true) (hK : X.K = Z.K) (hg : PGs X ts (tNs Z W (putNs is))) (hl : ts.length = is.length) (hp : ts.all plainT = true) (hn : is.length ≠ 1) :
    PG X (.Tuple ts k pos) (tD Z W (fun d s => putTg s is d)) :=
  pg_weak (pg_or (pg_tup (n := ts.length) hc hg (each_len hp) (each_find hp)) (pg_lst (n := ts.length) hc hg (each_len hp) (each_find hp))) fun v σ H Q h => by
    obtain ⟨Hf, F, s, d, R, q, h⟩ := h
    have e : putTg s is d = putTup is d s := by
      unfold putTg
      split
      · exact absurd rfl hn
      · rfl
    have h : PoU Z W Hf F (putTg s is d) Q := h
    rw [e] at h
    unfold putTup at h
    cases d with
    | tup l =>
      unfold Isd at q
      obtain ⟨a, xs, rfl, h2, h3⟩ := q
      have nb : ∀ j, Rv.b j ∉ l.map Rv.v := fun j hj => by simp at hj
      have rr : RRs Z Hf H s σ F (l.map .v) xs := rrs_v (rs := []) h3
      have ln := (putNs_ok R rr nb h).1
      exact .inl ⟨a, xs, rfl, by rw [hK]; exact sqt_mono R.sub h2, by rw [hl, ln], Hf, F, s, _, R, rr, nb, h⟩
    | lst l =>
      unfold Isd at q
      obtain ⟨a, xs, rfl, h2, h3⟩ := q
      have nb : ∀ j, Rv.b j ∉ l.map Rv.v := fun j hj => by simp at hj
      have rr : RRs Z Hf H s σ F (l.map .v) xs := rrs_v (rs := []) h3
      have ln := (putNs_ok R rr nb h).1
      exact .inr ⟨a, xs, rfl, SqL.of (R.sub _ _ h2), by rw [hl, ln], Hf, F, s, _, R, rr, nb, h⟩
    | _ => exact h.elim
theorem s_for {iter : Expr} {body : List Stmt} {t : List Nat} {it : Ii} {ib : Ib} {pos : Pos} {D : Ends} (hp : PassesOwn (model X.prog X.w) X.A X.env X.xe) (hc : X.calm = true) (hi : PI X tg iter (tI Z W (evI T C it))) (hg : PG X tg (tD Z W (fun d s => putTg s t d)))
    (hb : PSs X body (tS Z W (evB T C Wh ib))) (hs : ∀ x, foldedSetIterable iter X.env x = pure x) : PS X (.For tg iter body [] pos) (tS Z W (evS T C Wh (.for_ t it ib))) :=
  ps_weak (ps_for hp hc hi hg hb hs) fun D σ H h => by
    obtain ⟨Hf, F, st, R, h⟩ := h
    rw [evS] at h
    refine ⟨Hf, F, st, R, h.bind.imp fun l s1 H1 Hf1 e1 R1 h J wk => ?_⟩
    refine ⟨fun i m σ H => ∃ Hf2 s, Same Hf1 Hf2 ∧ Rel Z Hf2 H F s σ ∧ m = l.length - i ∧ i ≤ l.length ∧ PoS Z W Hf2 F (forL t (fun s => evB T C Wh ib s) (l.drop i) s) D, ⟨l.length, Hf1, s1, Same.refl _, R1, by simp, Nat.zero_le _, h⟩, ?_⟩
    rintro i m σ2 H2 ⟨Hf2, s2, sm2, R2, rfl, hi, h2⟩
    by_cases hlt : i < l.length
    · refine .inr ⟨wk.go i H2 hlt (sm2.trans R2.sub), fun σ' H' => ∃ Hf3 s, Same Hf1 Hf3 ∧ Rel Z Hf3 H' F s σ' ∧ PoS Z W Hf3 F (forL t (fun s => evB T C Wh ib s) (l.drop (i + 1)) s) D, fun σ' H' ⟨Hf3, s3, a1, a2, a3⟩ => ⟨_, (by omega : l.length - (i + 1) < l.length - i), Hf3, s3, a1, a2, rfl, hlt, a3⟩, fun x H' y => ?_⟩
      obtain ⟨Hf3, sm3, R3, i3⟩ := wk.yld i l[i] Hf2 H2 F s2 σ2 x H' (by simp [hlt]) sm2 R2 y
      rw [List.drop_eq_getElem_cons hlt] at h2
      have h2 : PoS Z W Hf2 F (bnd (putTg s2 t l[i]) fun _ s => bnd (evB T C Wh ib s) fun f s => next f s (forL t (fun s => evB T C Wh ib s) (l.drop (i + 1)) s)) D := h2
      refine ⟨Hf3, F, s2, l[i], R3, i3, ?_⟩
      have h3 := h2.mono sm3
      show PoU Z W Hf3 F (putTg s2 t l[i]) _
      cases q : putTg s2 t l[i] with
      | bad w => rw [q] at h3; exact h3.elim
      | ex e s4 => rw [q] at h3; exact h3
      | ok u s4 =>
        rw [q] at h3
        intro σ5 H5 Hf5 sm5 R5
        refine ⟨Hf5, F, s4, R5, ?_⟩
        have h4 : PoS Z W Hf5 F (bnd (evB T C Wh ib s4) fun f s => next f s (forL t (fun s => evB T C Wh ib s) (l.drop (i + 1)) s)) D := PoS.mono h3 sm5
        cases q2 : evB T C Wh ib s4 with
        | bad w => rw [q2] at h4; exact h4.elim
        | ex e s6 => rw [q2] at h4; exact h4
        | ok f s6 =>
          rw [q2] at h4
          cases f with
          | nx => exact fun σ' H' Hf' sm R' => ⟨Hf', s6, sm2.trans (sm3.trans (sm5.trans sm)), R', PoS.mono h4 sm⟩
          | bk => exact h4
          | rt r => exact h4
    · have e : i = l.length := by omega
      subst e
      rw [List.drop_length] at h2
      exact .inl ⟨wk.stop H2 (sm2.trans R2.sub), PoS.nx h2 R2⟩
end
end Wd
-- WdSd20
set_option linter.all false
set_option maxRecDepth 100000
set_option maxHeartbeats 2000000
set_option Elab.async false
/-! Calls: what is lent, what comes back. -/
namespace Wd
open PySem L2 PySem.Spec PyProof.Rows
/-- what is handed over, the values -/
def LOk (Z : Wo) (Hf H : Hp) (s : Sto) (σ : L2.St) : Hp → List Lk → List V → Prop
  | _, [], vs => vs = []
  | F, k :: ks, vs => ∃ v w, vs = v :: w ∧ match k with
    | .fr d => Isd Z Hf d v ∧ LOk Z Hf H s σ F ks w
    | .sl i => σ[i]? = some (some v) ∧ LOk Z Hf H s σ F ks w
    | .tm d => RR Z Hf H F s σ (.n d) v ∧ LOk Z Hf H s σ (addT F H (.n d) v) ks w
section
variable {Z : Wo} {W : WX} {X : Cx} {Hf Hf' H H' F F' : Hp} {s s' : Sto} {σ : L2.St} {v : V} {d d' : Wd.D} {r : Rv}
theorem lend1_ok {m : Bool} {k : Lk} (R : Rel Z Hf H F s σ) (rr : RR Z Hf H F s σ r v) (h : lend1 m r s = some (k, s')) :
    ((∃ d, k = .fr d ∧ frz r s = some (d, s')) ∨ (∃ i, k = .sl i ∧ r = .b i ∧ s' = s) ∨ (∃ d, k = .tm d ∧ r = .n d ∧ s' = s)) := by
  unfold lend1 at h
  split at h
  · rename_i i
    split at h
    · cases h; exact .inr (.inl ⟨_, rfl, rfl, rfl⟩)
    · cases h; exact .inr (.inl ⟨_, rfl, rfl, rfl⟩)
    · cases h
      rename_i e
      refine .inl ⟨_, rfl, ?_⟩
      show (match s[i]? with
        | some (.ow d) => some (d, s.set i (.fr d))
        | some (.fr d) => some (d, s)
        | _ => none) = _
      rw [e]
    · cases h
  · cases h; exact .inr (.inr ⟨_, rfl, rfl, rfl⟩)
  · obtain ⟨p, hp, e⟩ := Option.map_eq_some_iff.mp h
    cases e
    exact .inl ⟨_, rfl, hp⟩
theorem lend_ok : ∀ {io : List Bool} {rs : List Rv} {ks : List Lk} {vs : List V} {Hf F : Hp} {s s' : Sto}, Rel Z Hf H F s σ → RRs Z Hf H s σ F rs vs → lend io rs s = some (ks, s') → ∃ Hf', Same Hf Hf' ∧ Rel Z Hf' H F s' σ ∧ LOk Z Hf' H s' σ F ks vs
  | io, [], ks, vs, Hf, F, s, s', R, h, e => by
    have : [] = ks ∧ s = s' := by simpa [lend] using e
    obtain ⟨rfl, rfl⟩ := this
    exact ⟨Hf, Same.refl _, R, h⟩
  | io, r :: rs, ks, vs, Hf, F, s, s', R, h, e => by
    obtain ⟨v, w, rfl, h1, h2⟩ := h
    unfold lend at e
    obtain ⟨⟨k, s1⟩, e1, e⟩ := Option.bind_eq_some_iff.mp e
    obtain ⟨⟨ks', s2⟩, e2, e3⟩ := Option.map_eq_some_iff.mp e
    cases e3
    rcases lend1_ok R h1 e1 with ⟨d, rfl, f1⟩ | ⟨i, rfl, rfl, rfl⟩ | ⟨d, rfl, rfl, rfl⟩
    · obtain ⟨Hf1, sm, R1, i1, q1⟩ := R.frzW h1 f1
      obtain ⟨Hf2, sm2, R2, l2⟩ := lend_ok R1 (RRs.after sm (own_frz f1) q1 h2 (addT_sub h1)) e2
      exact ⟨Hf2, sm.trans sm2, R2, v, w, rfl, i1.mono sm2, l2⟩
    · obtain ⟨Hf2, sm2, R2, l2⟩ := lend_ok R h2 e2
      exact ⟨Hf2, sm2, R2, v, w, rfl, h1, l2⟩
    · obtain ⟨Hf2, sm2, R2, l2⟩ := lend_ok (R.add h1) h2 e2
      exact ⟨Hf2, sm2, R2.weak (addT_sub h1), v, w, rfl, h1.later sm2 R2, l2⟩
end
end Wd
-- WdSd21
set_option linter.all false
set_option maxRecDepth 100000
set_option maxHeartbeats 2000000
set_option Elab.async false
/-! The callee's slots. -/
namespace Wd
open PySem L2 PySem.Spec PyProof.Rows
def Wo.wB (Z : Wo) (B : Nat → Option Addr) : Wo := ⟨Z.K, Z.cA, Z.kn, B⟩
def bOf (sl : List Sl) (vs : List V) : Nat → Option Addr := fun i => match sl[i]?, vs[i]? with | some (.bo _), some (.ref p) => some p | _, _ => none
open Classical in
/-- what the callee leaves as it is -/
noncomputable def calF (F H : Hp) (s : Sto) (σ : L2.St) (lx : List Nat) : Hp := fun p => if (∃ (i : Nat) (d : D), own? s[i]? = some d ∧ σ[i]? = some (some (.ref p)) ∧ i ∉ lx) then H p else F p
section
variable {Z : Wo} {B : Nat → Option Addr} {W : WX} {X : Cx} {Hf Hf' H H' F F' : Hp} {s s' : Sto} {σ : L2.St} {v : V} {d d' : Wd.D} {r : Rv} {o : HO}
mutual
theorem isd_B : ∀ {d : Wd.D} {v : V}, Isd (Z.wB B) Hf d v ↔ Isd Z Hf d v
  | .non, v => by unfold Isd; exact Iff.rfl
  | .bl b, v => by unfold Isd; exact Iff.rfl
  | .int i, v => by unfold Isd; exact Iff.rfl
  | .str z, v => by unfold Isd; exact Iff.rfl
  | .tup l, v => by unfold Isd; exact ⟨fun ⟨a, vs, h1, h2, h3⟩ => ⟨a, vs, h1, h2, isl_B.mp h3⟩, fun ⟨a, vs, h1, h2, h3⟩ => ⟨a, vs, h1, h2, isl_B.mpr h3⟩⟩
  | .lst l, v => by unfold Isd; exact ⟨fun ⟨a, vs, h1, h2, h3⟩ => ⟨a, vs, h1, h2, isl_B.mp h3⟩, fun ⟨a, vs, h1, h2, h3⟩ => ⟨a, vs, h1, h2, isl_B.mpr h3⟩⟩
  | .scr l, v => by unfold Isd; exact ⟨fun ⟨a, vs, h1, h2, h3⟩ => ⟨a, vs, h1, h2, isl_B.mp h3⟩, fun ⟨a, vs, h1, h2, h3⟩ => ⟨a, vs, h1, h2, isl_B.mpr h3⟩⟩
  | .dct ks l, v => by unfold Isd; exact ⟨fun ⟨a, vs, h1, h2, h3, h4⟩ => ⟨a, vs, h1, h2, h3, isl_B.mp h4⟩, fun ⟨a, vs, h1, h2, h3, h4⟩ => ⟨a, vs, h1, h2, h3, isl_B.mpr h4⟩⟩
  | .ins c ns l, v => by unfold Isd; exact ⟨fun ⟨a, dx, vs, h1, h2, h3, h4, h5⟩ => ⟨a, dx, vs, h1, h2, h3, isl_B.mp h4, h5⟩, fun ⟨a, dx, vs, h1, h2, h3, h4, h5⟩ => ⟨a, dx, vs, h1, h2, h3, isl_B.mpr h4, h5⟩⟩
  | .ty n, v => by unfold Isd; exact Iff.rfl
  | .cls c, v => by unfold Isd; exact Iff.rfl
theorem isl_B : ∀ {l : List Wd.D} {vs : List V}, Isl (Z.wB B) Hf l vs ↔ Isl Z Hf l vs
  | [], vs => by unfold Isl; exact Iff.rfl
  | d :: l, vs => by unfold Isl; exact ⟨fun ⟨v, r, h1, h2, h3⟩ => ⟨v, r, h1, isd_B.mp h2, isl_B.mp h3⟩, fun ⟨v, r, h1, h2, h3⟩ => ⟨v, r, h1, isd_B.mpr h2, isl_B.mpr h3⟩⟩
end
theorem iso_B : Iso (Z.wB B) Hf o d ↔ Iso Z Hf o d := by
  cases d with
  | lst l => exact ⟨fun ⟨vs, h1, h2⟩ => ⟨vs, h1, isl_B.mp h2⟩, fun ⟨vs, h1, h2⟩ => ⟨vs, h1, isl_B.mpr h2⟩⟩
  | dct ks l => exact ⟨fun ⟨vs, h0, h1, h2⟩ => ⟨vs, h0, h1, isl_B.mp h2⟩, fun ⟨vs, h0, h1, h2⟩ => ⟨vs, h0, h1, isl_B.mpr h2⟩⟩
  | ins c ns l => exact ⟨fun ⟨dx, vs, h0, h1, h2, h3⟩ => ⟨dx, vs, h0, h1, isl_B.mp h2, h3⟩, fun ⟨dx, vs, h0, h1, h2, h3⟩ => ⟨dx, vs, h0, h1, isl_B.mpr h2, h3⟩⟩
  | _ => exact Iff.rfl
/-- a place of what is handed over -/
def LAt (Z : Wo) (Hf H F : Hp) (s : Sto) (σ : L2.St) (k : Lk) (z : Sl) (v : V) : Prop :=
  (∃ d, z = .fr d ∧ Isd Z Hf d v) ∨ ∃ d p o, z = .bo d ∧ v = .ref p ∧ Hf p = none ∧ F p = none ∧ H p = some o ∧ Iso Z Hf o d ∧
    ((∃ i, k = .sl i ∧ own? s[i]? = some d ∧ σ[i]? = some (some v)) ∨ (k = .tm d ∧ ∀ (i : Nat) e, own? s[i]? = some e → σ[i]? ≠ some (some v)))
theorem lok_len : ∀ {ks : List Lk} {sl : List Sl} {vs : List V} {F : Hp}, LOk Z Hf H s σ F ks vs → finAll s ks = some sl → sl.length = ks.length ∧ vs.length = ks.length
  | [], sl, vs, F, h, e => by
    have : vs = [] := h
    subst this
    have : sl = [] := (Option.some.inj e).symm
    subst this
    exact ⟨rfl, rfl⟩
  | k :: ks, sl, vs, F, h, e => by
    obtain ⟨v, w, rfl, h2⟩ := h
    unfold finAll at e
    obtain ⟨z, e1, e⟩ := Option.bind_eq_some_iff.mp e
    obtain ⟨l, e2, rfl⟩ := Option.map_eq_some_iff.mp e
    have : ∃ F', LOk Z Hf H s σ F' ks w := by
      cases k with
      | fr d => exact ⟨_, h2.2⟩
      | sl i => exact ⟨_, h2.2⟩
      | tm d => exact ⟨_, h2.2⟩
    obtain ⟨F', h3⟩ := this
    obtain ⟨a, b⟩ := lok_len h3 e2
    exact ⟨by simp [a], by simp [b]⟩
theorem lok_get : ∀ {ks : List Lk} {sl : List Sl} {vs : List V} {F : Hp} {j : Nat} {z : Sl}, Rel Z Hf H F s σ → LOk Z Hf H s σ F ks vs → finAll s ks = some sl → sl[j]? = some z →
    ∃ k v, ks[j]? = some k ∧ vs[j]? = some v ∧ LAt Z Hf H F s σ k z v
  | [], sl, vs, F, j, z, R, h, e, hz => by
    have : sl = [] := (Option.some.inj e).symm
    rw [this] at hz; simp at hz
  | k :: ks, sl, vs, F, j, z, R, h, e, hz => by
    obtain ⟨v, w, rfl, h2⟩ := h
    unfold finAll at e
    obtain ⟨z0, e1, e⟩ := Option.bind_eq_some_iff.mp e
    obtain ⟨l, e2, rfl⟩ := Option.map_eq_some_iff.mp e
    cases j with
    | zero =>
      have hz0 : z0 = z := by simpa using hz
      subst hz0
      refine ⟨k, v, rfl, rfl, ?_⟩
      cases k with
      | fr d =>
        have : z0 = .fr d := (Option.some.inj e1).symm
        exact .inl ⟨d, this, h2.1⟩
      | tm d =>
        have : z0 = .bo d := (Option.some.inj e1).symm
        obtain ⟨p, o, rfl, g2, g3, g4, g5, g6⟩ := h2.1
        exact .inr ⟨d, p, o, this, rfl, g2, g3, g4, g5, .inr ⟨rfl, g6⟩⟩
      | sl i =>
        have key : ∃ d, z0 = .bo d ∧ own? s[i]? = some d := by
          have e1 : (match s[i]? with | some (.ow d) => some (Sl.bo d) | some (.bo d) => some (Sl.bo d) | _ => none) = some z0 := e1
          split at e1
          · rename_i d q; cases e1; exact ⟨d, rfl, by rw [q]; rfl⟩
          · rename_i d q; cases e1; exact ⟨d, rfl, by rw [q]; rfl⟩
          · cases e1
        obtain ⟨d, rfl, hd⟩ := key
        obtain ⟨p, o, k1, k2, k3, k4, k5⟩ := R.ow i d hd
        have := h2.1
        rw [k1] at this
        have ev : v = .ref p := (by simpa using this : V.ref p = v).symm
        subst ev
        exact .inr ⟨d, p, o, rfl, rfl, k2, k3, k4, k5, .inl ⟨i, rfl, hd, k1⟩⟩
    | succ j =>
      have hz' : l[j]? = some z := by simpa using hz
      cases k with
      | fr d => obtain ⟨k', v', a1, a2, a3⟩ := lok_get R h2.2 e2 hz'; exact ⟨k', v', by simpa using a1, by simpa using a2, a3⟩
      | sl i => obtain ⟨k', v', a1, a2, a3⟩ := lok_get R h2.2 e2 hz'; exact ⟨k', v', by simpa using a1, by simpa using a2, a3⟩
      | tm d =>
        obtain ⟨k', v', a1, a2, a3⟩ := lok_get (R.add h2.1) h2.2 e2 hz'
        refine ⟨k', v', by simpa using a1, by simpa using a2, ?_⟩
        rcases a3 with a3 | ⟨d', p, o, b1, b2, b3, b4, b5⟩
        · exact .inl a3
        · refine .inr ⟨d', p, o, b1, b2, b3, ?_, b5⟩
          cases q : F p with
          | none => rfl
          | some u => rw [addT_sub h2.1 p u q] at b4; cases b4
theorem lentIx_mem : ∀ {ks : List Lk} {j i : Nat}, ks[j]? = some (.sl i) → i ∈ lentIx ks
  | [], j, i, h => by simp at h
  | k :: ks, 0, i, h => by
    have : k = .sl i := by simpa using h
    subst this
    unfold lentIx; simp
  | k :: ks, j + 1, i, h => by
    have := lentIx_mem (ks := ks) (j := j) (by simpa using h)
    cases k <;> (unfold lentIx; first | exact this | exact List.mem_cons_of_mem _ this)
theorem lent_two : ∀ {ks : List Lk} {j k i : Nat}, nodup (lentIx ks) = true → j ≠ k → ks[j]? = some (.sl i) → ks[k]? = some (.sl i) → False
  | [], j, k, i, _, _, h, _ => by simp at h
  | a :: ks, 0, 0, i, _, n, _, _ => n rfl
  | a :: ks, 0, k + 1, i, nd, _, h, h' => by
    have : a = .sl i := by simpa using h
    subst this
    unfold lentIx nodup at nd
    rw [Bool.and_eq_true] at nd
    have m := lentIx_mem (ks := ks) (j := k) (by simpa using h')
    simp [m] at nd
  | a :: ks, j + 1, 0, i, nd, _, h, h' => by
    have : a = .sl i := by simpa using h'
    subst this
    unfold lentIx nodup at nd
    rw [Bool.and_eq_true] at nd
    have m := lentIx_mem (ks := ks) (j := j) (by simpa using h)
    simp [m] at nd
  | a :: ks, j + 1, k + 1, i, nd, n, h, h' => by
    have nd' : nodup (lentIx ks) = true := by
      cases a with
      | sl i0 => unfold lentIx nodup at nd; rw [Bool.and_eq_true] at nd; exact nd.2
      | fr _ => unfold lentIx at nd; exact nd
      | tm _ => unfold lentIx at nd; exact nd
    exact lent_two nd' (fun q => n (congrArg Nat.succ q)) (by simpa using h) (by simpa using h')
/-- new objects are apart -/
theorem tm_apart : ∀ {ks : List Lk} {vs : List V} {F : Hp} {j : Nat} {d : Wd.D} {p : Addr}, LOk Z Hf H s σ F ks vs → ks[j]? = some (.tm d) → vs[j]? = some (.ref p) → F p = none
  | [], vs, F, j, d, p, h, h1, _ => by simp at h1
  | k :: ks, vs, F, 0, d, p, h, h1, h2 => by
    obtain ⟨v, w, rfl, h3⟩ := h
    have : k = .tm d := by simpa using h1
    subst this
    have : v = .ref p := by simpa using h2
    subst this
    obtain ⟨q, o, e, g2, g3, _⟩ := h3.1
    have : p = q := by simpa using e
    subst this
    exact g3
  | k :: ks, vs, F, j + 1, d, p, h, h1, h2 => by
    obtain ⟨v, w, rfl, h3⟩ := h
    cases k with
    | fr d' => exact tm_apart h3.2 (by simpa using h1) (by simpa using h2)
    | sl i => exact tm_apart h3.2 (by simpa using h1) (by simpa using h2)
    | tm d' =>
      have := tm_apart h3.2 (j := j) (d := d) (p := p) (by simpa using h1) (by simpa using h2)
      cases q : F p with
      | none => rfl
      | some u => rw [addT_sub h3.1 p u q] at this; cases this
theorem tm_two : ∀ {ks : List Lk} {vs : List V} {F : Hp} {j k : Nat} {d e : Wd.D} {p : Addr}, LOk Z Hf H s σ F ks vs → j < k → ks[j]? = some (.tm d) → ks[k]? = some (.tm e) → vs[j]? = some (.ref p) → vs[k]? = some (.ref p) → False
  | [], vs, F, j, k, d, e, p, h, _, h1, _, _, _ => by simp at h1
  | a :: ks, vs, F, 0, 0, d, e, p, h, hjk, _, _, _, _ => absurd hjk (by omega)
  | a :: ks, vs, F, 0, k + 1, d, e, p, h, hjk, h1, h2, h3, h4 => by
    obtain ⟨v, w, rfl, h5⟩ := h
    have : a = .tm d := by simpa using h1
    subst this
    have : v = .ref p := by simpa using h3
    subst this
    have := tm_apart h5.2 (j := k) (d := e) (p := p) (by simpa using h2) (by simpa using h4)
    obtain ⟨q, o, e', g2, g3, g4, _⟩ := h5.1
    have hq : p = q := by simpa using e'
    subst hq
    have t : addT F H (.n d) (.ref p) p = some o := by
      show (if p = p then H p else F p) = some o
      rw [if_pos rfl]; exact g4
    rw [t] at this; cases this
  | a :: ks, vs, F, j + 1, 0, d, e, p, h, hjk, _, _, _, _ => absurd hjk (by omega)
  | a :: ks, vs, F, j + 1, k + 1, d, e, p, h, hjk, h1, h2, h3, h4 => by
    obtain ⟨v, w, rfl, h5⟩ := h
    have go : ∀ {F'}, LOk Z Hf H s σ F' ks w → False := fun h6 => tm_two h6 (j := j) (k := k) (by omega) (by simpa using h1) (by simpa using h2) (by simpa using h3) (by simpa using h4)
    cases a with
    | fr d' => exact go h5.2
    | sl i => exact go h5.2
    | tm d' => exact go h5.2
theorem callee_rel {ks : List Lk} {sl : List Sl} {vs : List V} (R : Rel Z Hf H F s σ) (L : LOk Z Hf H s σ F ks vs) (nd : nodup (lentIx ks) = true) (e : finAll s ks = some sl) :
    Rel (Z.wB (bOf sl vs)) Hf H (calF F H s σ (lentIx ks)) sl (vs.map some) := by
  obtain ⟨l1, l2⟩ := lok_len L e
  have at_bo : ∀ (j : Nat) d, own? sl[j]? = some d → ∃ k p o, sl[j]? = some (.bo d) ∧ ks[j]? = some k ∧ vs[j]? = some (.ref p) ∧ Hf p = none ∧ F p = none ∧ H p = some o ∧ Iso Z Hf o d ∧ ((∃ i, k = .sl i ∧ own? s[i]? = some d ∧ σ[i]? = some (some (.ref p))) ∨ (k = .tm d ∧ ∀ (i : Nat) e, own? s[i]? = some e → σ[i]? ≠ some (some (.ref p)))) := fun j d hd => by
    rcases own_fr hd with q | q
    · obtain ⟨k, v, a1, a2, a3⟩ := lok_get R L e q
      rcases a3 with ⟨d', a4, _⟩ | ⟨d', p, o, a4, _⟩ <;> cases a4
    · obtain ⟨k, v, a1, a2, a3⟩ := lok_get R L e q
      rcases a3 with ⟨d', a4, _⟩ | ⟨d', p, o, a4, rfl, a5, a6, a7, a8, a9⟩
      · cases a4
      · cases a4
        exact ⟨k, p, o, q, a1, a2, a5, a6, a7, a8, a9⟩
  refine ⟨R.sub, fun p o h => ?_, by simp [l1, l2], fun j d h => ?_, fun j d h => ?_, fun j k d e' hjk h1 h2 => ?_, fun j d h => ?_⟩
  · unfold calF at h
    split at h
    · rename_i hx
      obtain ⟨i, d, h1, h2, h3⟩ := hx
      obtain ⟨p', o', k1, k2, k3, k4, k5⟩ := R.ow i d h1
      rw [h2] at k1
      have : p = p' := by simpa using k1
      subst this
      exact ⟨h, k2⟩
    · exact R.fr p o h
  · obtain ⟨k, v, a1, a2, a3⟩ := lok_get R L e h
    rcases a3 with ⟨d', a4, a5⟩ | ⟨d', p, o, a4, _⟩
    · cases a4
      exact ⟨v, by simp [a2], isd_B.mpr a5⟩
    · cases a4
  · obtain ⟨k, p, o, a1, a2, a3, a4, a5, a6, a7, a8⟩ := at_bo j d h
    refine ⟨p, o, by simp [a3], a4, ?_, a6, iso_B.mpr a7⟩
    unfold calF
    rw [if_neg]
    · exact a5
    · rintro ⟨i, d', b1, b2, b3⟩
      rcases a8 with ⟨i', rfl, c1, c2⟩ | ⟨_, c1⟩
      · have : i ≠ i' := by rintro rfl; exact b3 (lentIx_mem a2)
        exact R.ap i i' d' d this b1 c1 (by rw [b2, c2])
      · exact c1 i d' b1 b2
  · obtain ⟨k1, p, o, a1, a2, a3, a4, a5, a6, a7, a8⟩ := at_bo j d h1
    obtain ⟨k2, q, o', c1, c2, c3, c4, c5, c6, c7, c8⟩ := at_bo k e' h2
    intro z
    have hpq : p = q := by simpa [a3, c3] using z
    subst hpq
    rcases a8 with ⟨i, rfl, g1, g2⟩ | ⟨rfl, g1⟩
    · rcases c8 with ⟨i', rfl, g3, g4⟩ | ⟨rfl, g3⟩
      · by_cases hi : i = i'
        · subst hi; exact lent_two nd hjk a2 c2
        · exact R.ap i i' d e' hi g1 g3 (by rw [g2, g4])
      · exact g3 i d g1 g2
    · rcases c8 with ⟨i', rfl, g3, g4⟩ | ⟨rfl, g3⟩
      · exact g1 i' e' g3 g4
      · rcases Nat.lt_or_gt_of_ne hjk with hlt | hlt
        · exact tm_two L hlt a2 c2 a3 c3
        · exact tm_two L hlt c2 a2 c3 a3
  · obtain ⟨k, p, o, a1, a2, a3, _⟩ := at_bo j d (by rw [h]; rfl)
    refine ⟨p, ?_, by simp [a3]⟩
    show bOf sl vs j = some p
    unfold bOf
    rw [h, a3]
end
end Wd
-- WdSd22
set_option linter.all false
set_option maxRecDepth 100000
set_option maxHeartbeats 2000000
set_option Elab.async false
/-! What a def promises; behind a call. -/
namespace Wd
open PySem L2 PySem.Spec PyProof.Rows
structure After (Z : Wo) (Hf H F : Hp) (outs : List Sl) (vs : List V) : Prop where
  sub : Same Hf H
  fr : ∀ p o, F p = some o → H p = some o ∧ Hf p = none
  out : ∀ (j : Nat) d, outs[j]? = some (.bo d) → ∃ p o, vs[j]? = some (.ref p) ∧ Hf p = none ∧ F p = none ∧ H p = some o ∧ Iso Z Hf o d
def RC (Z : Wo) (Hf H F : Hp) (outs : List Sl) (vs : List V) (r : Rv) (v : V) : Prop := match r with
  | .v d => Isd Z Hf d v
  | .n d => ∃ p o, v = .ref p ∧ Hf p = none ∧ F p = none ∧ H p = some o ∧ Iso Z Hf o d ∧ ∀ (j : Nat) e, outs[j]? = some (.bo e) → vs[j]? ≠ some (.ref p)
  | .b _ => False
def PoC (Z : Wo) (Hf F : Hp) (vs : List V) (x : CRes) (Q : VK) (E : XK) : Prop := match x with
  | .ok r outs => ∀ H' Hf' v, Same Hf Hf' → After Z Hf' H' F outs vs → RC Z Hf' H' F outs vs r v → Q v H'
  | .ex e outs => ∀ H' Hf' cls d, Same Hf Hf' → After Z Hf' H' F outs vs → Exd Z Hf' e cls d → E cls d H'
  | .bad _ => False
/-- what a def promises: it does what the evaluator does -/
def spF (Z : Wo) (C : List Sl → CRes) (np : Nat) : Sp := fun vs H Q E => vs.length = np ∧ ∃ Hf F sl, Rel (Z.wB (bOf sl vs)) Hf H F sl (vs.map some) ∧ PoC Z Hf F vs (C sl) Q E
section
variable {Z : Wo} {B : Nat → Option Addr} {W : WX} {X : Cx} {Hf Hf' H H' F F' : Hp} {s s' : Sto} {σ : L2.St} {v : V} {d d' : Wd.D} {r : Rv} {o : HO} {ks : List Lk} {sl outs : List Sl} {vs : List V}
theorem takeBack_at : ∀ {ks : List Lk} {outs : List Sl} {s s' : Sto}, nodup (lentIx ks) = true → takeBack ks outs s = some s' → s'.length = s.length ∧ ∀ i : Nat, (s'[i]? = s[i]? ∧ i ∉ lentIx ks) ∨
    (i ∈ lentIx ks ∧ ∃ (d0 d : Wd.D) (j : Nat), ks[j]? = some (Lk.sl i) ∧ outs[j]? = some (Sl.bo d) ∧ ((s[i]? = some (Sl.ow d0) ∧ s'[i]? = some (.ow d)) ∨ (s[i]? = some (.bo d0) ∧ s'[i]? = some (.bo d))))
  | [], outs, s, s', nd, h => by
    have : s = s' := by unfold takeBack at h; exact Option.some.inj h
    subst this
    exact ⟨rfl, fun i => .inl ⟨rfl, by unfold lentIx; simp⟩⟩
  | .fr d :: ks, [], s, s', nd, h => by unfold takeBack at h; cases h
  | .tm d :: ks, [], s, s', nd, h => by unfold takeBack at h; cases h
  | .sl i :: ks, [], s, s', nd, h => by unfold takeBack at h; cases h
  | .fr d :: ks, z :: os, s, s', nd, h => by
    have h : takeBack ks os s = some s' := by unfold takeBack at h; exact h
    obtain ⟨a, b⟩ := takeBack_at (ks := ks) nd h
    refine ⟨a, fun i => ?_⟩
    rcases b i with b | ⟨b1, d0, d, j, b2, b3, b4⟩
    · exact .inl b
    · exact .inr ⟨b1, d0, d, j + 1, by simpa using b2, by simpa using b3, b4⟩
  | .tm d :: ks, z :: os, s, s', nd, h => by
    have h : takeBack ks os s = some s' := by unfold takeBack at h; exact h
    obtain ⟨a, b⟩ := takeBack_at (ks := ks) nd h
    refine ⟨a, fun i => ?_⟩
    rcases b i with b | ⟨b1, d0, d, j, b2, b3, b4⟩
    · exact .inl b
    · exact .inr ⟨b1, d0, d, j + 1, by simpa using b2, by simpa using b3, b4⟩
  | .sl i0 :: ks, z :: os, s, s', nd, h => by
    cases z with
    | bo d1 =>
      have h : (Wd.upS s i0 d1).bind (fun s => takeBack ks os s) = some s' := by unfold takeBack at h; exact h
      obtain ⟨s1, h1, h⟩ := Option.bind_eq_some_iff.mp h
      have nd0 := nd
      unfold lentIx nodup at nd0
      rw [Bool.and_eq_true] at nd0
      have ni : i0 ∉ lentIx ks := by have := nd0.1; simpa using this
      obtain ⟨a, b⟩ := takeBack_at (ks := ks) nd0.2 h
      obtain ⟨⟨dd, hdd⟩, hi⟩ := own_of_upS h1
      have key : ∃ y, s1 = s.set i0 y ∧ ((∃ d0, s[i0]? = some (.ow d0) ∧ y = .ow d1) ∨ (∃ d0, s[i0]? = some (.bo d0) ∧ y = .bo d1)) := by
        unfold Wd.upS at h1
        split at h1
        · rename_i q; cases h1; exact ⟨_, rfl, .inl ⟨_, q, rfl⟩⟩
        · rename_i q; cases h1; exact ⟨_, rfl, .inr ⟨_, q, rfl⟩⟩
        · cases h1
      obtain ⟨y, rfl, hy⟩ := key
      refine ⟨by simpa using a, fun i => ?_⟩
      by_cases hii : i = i0
      · subst hii
        right
        refine ⟨by unfold lentIx; simp, ?_⟩
        rcases b i with ⟨b, _⟩ | ⟨b1, _⟩
        · rw [List.getElem?_set_self hi] at b
          rcases hy with ⟨d0, q1, rfl⟩ | ⟨d0, q1, rfl⟩
          · exact ⟨d0, d1, 0, rfl, rfl, .inl ⟨q1, b⟩⟩
          · exact ⟨d0, d1, 0, rfl, rfl, .inr ⟨q1, b⟩⟩
        · exact absurd b1 ni
      · rcases b i with ⟨b, b'⟩ | ⟨b1, d0, d, j, b2, b3, b4⟩
        · rw [List.getElem?_set_ne (Ne.symm hii)] at b
          refine .inl ⟨b, ?_⟩
          unfold lentIx
          simp [hii, b']
        · rw [List.getElem?_set_ne (Ne.symm hii)] at b4
          exact .inr ⟨by unfold lentIx; exact List.mem_cons_of_mem _ b1, d0, d, j + 1, by simpa using b2, by simpa using b3, b4⟩
    | _ => unfold takeBack at h; cases h
theorem lok_sl : ∀ {ks : List Lk} {vs : List V} {F : Hp} {j i : Nat}, LOk Z Hf H s σ F ks vs → ks[j]? = some (.sl i) → ∃ v, vs[j]? = some v ∧ σ[i]? = some (some v)
  | [], vs, F, j, i, h, h1 => by simp at h1
  | k :: ks, vs, F, 0, i, h, h1 => by
    obtain ⟨v, w, rfl, h3⟩ := h
    have : k = .sl i := by simpa using h1
    subst this
    exact ⟨v, rfl, h3.1⟩
  | k :: ks, vs, F, j + 1, i, h, h1 => by
    obtain ⟨v, w, rfl, h3⟩ := h
    have h1' : ks[j]? = some (.sl i) := by simpa using h1
    cases k with
    | fr d' => obtain ⟨x, a, b⟩ := lok_sl h3.2 h1'; exact ⟨x, by simpa using a, b⟩
    | sl i => obtain ⟨x, a, b⟩ := lok_sl h3.2 h1'; exact ⟨x, by simpa using a, b⟩
    | tm d' => obtain ⟨x, a, b⟩ := lok_sl h3.2 h1'; exact ⟨x, by simpa using a, b⟩
theorem calF_none {p : Addr} {lx : List Nat} (R : Rel Z Hf H F s σ) (h : calF F H s σ lx p = none) : F p = none ∧ ∀ (i : Nat) d, own? s[i]? = some d → i ∉ lx → σ[i]? ≠ some (some (.ref p)) := by
  unfold calF at h
  split at h
  · rename_i hx
    obtain ⟨i, d, h1, h2, h3⟩ := hx
    obtain ⟨p', o', k1, k2, k3, k4, k5⟩ := R.ow i d h1
    rw [h2] at k1
    have : p = p' := by simpa using k1
    subst this
    rw [k4] at h; cases h
  · rename_i hx
    exact ⟨h, fun i d h1 h2 h3 => hx ⟨i, d, h1, h3, h2⟩⟩
theorem calF_own {p : Addr} {lx : List Nat} {i : Nat} (h1 : own? s[i]? = some d) (h2 : σ[i]? = some (some (.ref p))) (h3 : i ∉ lx) : calF F H s σ lx p = H p := by
  unfold calF
  rw [if_pos ⟨i, d, h1, h2, h3⟩]
theorem calF_F {p : Addr} {lx : List Nat} {u : HO} (R : Rel Z Hf H F s σ) (h : F p = some u) : calF F H s σ lx p = some u := by
  unfold calF
  split
  · rename_i hx
    obtain ⟨i, d, h1, h2, h3⟩ := hx
    obtain ⟨p', o', k1, k2, k3, k4, k5⟩ := R.ow i d h1
    rw [h2] at k1
    have : p = p' := by simpa using k1
    subst this
    rw [h] at k3; cases k3
  · exact h
theorem back_own {s2 : Sto} (nd : nodup (lentIx ks) = true) (tb : takeBack ks outs s = some s2) {i : Nat} (h : own? s2[i]? = some d) : ∃ d0, own? s[i]? = some d0 := by
  rcases (takeBack_at nd tb).2 i with ⟨b, _⟩ | ⟨_, d0, d, j, _, _, (⟨b, _⟩ | ⟨b, _⟩)⟩
  · rw [b] at h; exact ⟨d, h⟩
  · exact ⟨d0, by rw [b]; rfl⟩
  · exact ⟨d0, by rw [b]; rfl⟩
theorem after_rel {s2 : Sto} (R : Rel Z Hf H F s σ) (L : LOk Z Hf H s σ F ks vs) (nd : nodup (lentIx ks) = true) (tb : takeBack ks outs s = some s2) (sm : Same Hf Hf') (A : After Z Hf' H' (calF F H s σ (lentIx ks)) outs vs) : Rel Z Hf' H' F s2 σ := by
  obtain ⟨tl, ta⟩ := takeBack_at nd tb
  refine ⟨A.sub, fun p o h => A.fr p o (calF_F R h), by rw [tl]; exact R.len, fun i d h => ?_, fun i d h => ?_, fun i k d e hik h1 h2 => ?_, fun i d h => ?_⟩
  · rcases ta i with ⟨b, _⟩ | ⟨_, d0, d', j, _, _, (⟨_, b⟩ | ⟨_, b⟩)⟩
    · rw [b] at h
      obtain ⟨v, h1, h2⟩ := R.fz i d h
      exact ⟨v, h1, h2.mono sm⟩
    · rw [b] at h; cases h
    · rw [b] at h; cases h
  · have lent : ∀ {j : Nat}, ks[j]? = some (.sl i) → outs[j]? = some (.bo d) → ∃ p o, σ[i]? = some (some (.ref p)) ∧ Hf' p = none ∧ F p = none ∧ H' p = some o ∧ Iso Z Hf' o d := fun {j} h1 h2 => by
      obtain ⟨p, o, k1, k2, k3, k4, k5⟩ := A.out j d h2
      obtain ⟨v, e1, e2⟩ := lok_sl L h1
      rw [k1] at e1
      cases e1
      exact ⟨p, o, e2, k2, (calF_none R k3).1, k4, k5⟩
    rcases ta i with ⟨b, b'⟩ | ⟨_, d0, d', j, b1, b2, (⟨_, b⟩ | ⟨_, b⟩)⟩
    · rw [b] at h
      obtain ⟨p, o, k1, k2, k3, k4, k5⟩ := R.ow i d h
      obtain ⟨g1, g2⟩ := A.fr p o (by rw [calF_own h k1 b']; exact k4)
      exact ⟨p, o, k1, g2, k3, g1, k5.mono sm⟩
    · rw [b] at h; cases h; exact lent b1 b2
    · rw [b] at h; cases h; exact lent b1 b2
  · obtain ⟨d0, h1⟩ := back_own nd tb h1
    obtain ⟨e0, h2⟩ := back_own nd tb h2
    exact R.ap i k d0 e0 hik h1 h2
  · rcases ta i with ⟨b, b'⟩ | ⟨_, d0, d', j, b1, b2, (⟨_, b⟩ | ⟨b0, b⟩)⟩
    · rw [b] at h; exact R.bo i d h
    · rw [b] at h; cases h
    · exact R.bo i d0 b0
theorem after_rr {s2 : Sto} (R : Rel Z Hf H F s σ) (L : LOk Z Hf H s σ F ks vs) (nd : nodup (lentIx ks) = true) (tb : takeBack ks outs s = some s2) (c : RC Z Hf' H' (calF F H s σ (lentIx ks)) outs vs r v) : RR Z Hf' H' F s2 σ r v := by
  cases r with
  | v d => exact c
  | b i => exact c.elim
  | n d =>
    obtain ⟨p, o, rfl, k1, k2, k3, k4, k5⟩ := c
    obtain ⟨g1, g2⟩ := calF_none R k2
    refine ⟨p, o, rfl, k1, g1, k3, k4, fun i e h z => ?_⟩
    rcases (takeBack_at nd tb).2 i with ⟨b, b'⟩ | ⟨_, d0, d', j, b1, b2, _⟩
    · rw [b] at h; exact g2 i e h b' z
    · obtain ⟨w, e1, e2⟩ := lok_sl L b1
      rw [z] at e2
      cases e2
      exact k5 j d' b2 e1
/-- a call: the callee's promise, from what the evaluator says of it -/
theorem callF_ok {T : Tab} {C : Str → List Sl → CRes} {f : Str} {fd : FD} {rs : List Rv} {Q : VK} {E : XK} (hf : fdOf T f = some fd) (hl : vs.length = fd.ps.length) (R : Rel Z Hf H F s σ) (rr : RRs Z Hf H s σ F rs vs)
    (hE : ∀ cls d H', E cls d H' = W cls d σ H')
    (h : Po Z W Hf F σ (callF T C f rs s) fun r s' H' Hf' => ∀ v, RR Z Hf' H' F s' σ r v → Q v H') : spF Z (C f) fd.ps.length vs H Q E := by
  unfold callF at h
  rw [hf] at h
  simp only at h
  cases e1 : lendAll fd.io rs s with
  | none => rw [e1] at h; exact h.elim
  | some q =>
    obtain ⟨ks, sl, s1⟩ := q
    rw [e1] at h
    simp only at h
    unfold lendAll at e1
    cases e2 : lend fd.io rs s with
    | none => rw [e2] at e1; cases e1
    | some q =>
      obtain ⟨ks', s1'⟩ := q
      rw [e2] at e1
      simp only at e1
      split at e1
      · rename_i nd
        obtain ⟨sl', e3, e4⟩ := Option.map_eq_some_iff.mp e1
        cases e4
        obtain ⟨Hf1, sm, R1, L⟩ := lend_ok R rr e2
        refine ⟨hl, Hf1, calF F H s1 σ (lentIx ks), sl, callee_rel R1 L nd e3, ?_⟩
        cases e5 : C f sl with
        | bad w => rw [e5] at h; exact h.elim
        | ex e outs =>
          rw [e5] at h
          simp only at h
          cases e6 : takeBack ks outs s1 with
          | none => rw [e6] at h; exact h.elim
          | some s2 =>
            rw [e6] at h
            intro H' Hf' cls d sm' A x
            rw [hE]
            exact h cls d H' Hf' (sm.trans sm') (after_rel R1 L nd e6 sm' A) x
        | ok r outs =>
          rw [e5] at h
          simp only at h
          cases e6 : takeBack ks outs s1 with
          | none => rw [e6] at h; exact h.elim
          | some s2 =>
            rw [e6] at h
            intro H' Hf' v sm' A c
            exact h H' Hf' (sm.trans sm') (after_rel R1 L nd e6 sm' A) v (after_rr R1 L nd e6 c)
      · cases e1
end
end Wd
-- WdGd
set_option linter.all false
set_option maxRecDepth 100000
set_option maxHeartbeats 2000000
set_option Elab.async false
/-! A def's promise where no repr is under way. -/
namespace Wd
open PySem L2 PySem.Spec PyProof.Rows
theorem g_deeper {A : Around} {env : Env} (h : A.guards = some []) : (A.deeper env).guards = some [] := by
  first | exact h | (simp [Around.deeper, h]; done)
theorem g_make {A : Around} {C : Addr} {us : List Value} {kw : List (Str × Value)} (h : A.guards = some []) : (A.under (.builtin "type.__call__" ⟨.ref C :: us, kw⟩)).guards = some [] := by
  first | exact h | (simp [Around.under, Code.guards, Code.isGuard, Code.isFrame, pushGuards, guardIds, h]; done)
theorem g_in1 {A : Around} (h : A.guards = some []) : A.in1.guards = some [] := by
  first | exact h | (simp [Around.in1, h]; done)
structure FnG (P : Program) (w : World) (K : PySem.W.Frag) (mg : Str → Option Value) (base : Heap) (CX : CXT) (k : Nat) (f : Addr) (fd : FuncData) (ps : List Str) (sp : Sp) : Prop where
  len : ∀ vs H Q E, sp vs H Q E → vs.length = ps.length
  run : ∀ (A : Around) (outer : List Env) (s : Shared) (H : Hp) (args : Args) (us : List Value) (vs : List V) (Q : VK) (E : XK), A.guards = some [] → Room k A → Env0 P w K mg base A outer s H → BindsTo s fd args (ps.zip us) → Vals vs us → sp vs H Q E →
    codeAny (model P w) A (.call (.ref f) args) (CR CX outer P w H s Q E) s
/-- a def's body where no repr is under way -/
theorem fnG_of {CX : CXT} {P : Program} {w : World} {K : PySem.W.Frag} {mg : Str → Option Value} {base : Heap} {k : Nat} {x qual : Str} {params : Arguments} {body : List Stmt} {scope : Scope} {dvs : List V} {kws : List (Str × V)} {f : Addr} {fd : FuncData} {N ps : List Str} {sp : Sp}
    (Fn : FunD K x qual params body scope dvs kws f fd) (S : FnScope N ps scope) (len : ∀ vs H Q E, sp vs H Q E → vs.length = ps.length)
    (hbody : ∀ (cdv : Value) (A : Around) (outer : List Env) (s : Shared) (H : Hp) (vs : List V) (Q : VK) (E : XK), (A.deeper (envOfC qual scope s.heap.objs.size f cdv)).guards = some [] → Room k (A.deeper (envOfC qual scope s.heap.objs.size f cdv)) → sp vs H Q E →
      ∃ t, PSs (cxOf CX P w K mg base N qual scope f cdv A outer s H E) body t ∧ t { nx := fun _ H' => Q .non H', rt := Q } (L2.start N vs) H) :
    FnG P w K mg base CX (k + 1) f fd ps sp := by
  obtain ⟨oc, od, dV, kV, doc, pm, an, cdv, ct, osl, rfl, lk, hcd, _, _⟩ := Fn.ex
  refine ⟨len, fun A outer s H args us vs Q E hg hr e0 hb r hsp => ?_⟩
  have hl := len _ _ _ _ hsp
  have KX : K.In s.heap := e0.mod.kin.keeps fun b o e => (e0.bs b o e).1
  have lim : s.heap.NoLimit := e0.mod.nolimit.keeps fun b o e => (e0.bs b o e).1
  have hkind : ∀ y ∈ ps.zip us, scope.names.lookup y.1 = some .local ∨ (scope.names.lookup y.1 = some .cell ∧ ((cellsFrom (s.heap.objs.size + 1) scope.names []).lookup y.1).isSome = true) := fun y hy => by
    rcases S.par y.1 (List.of_mem_zip (show (y.1, y.2) ∈ ps.zip us from hy)).1 with q | q
    · exact .inl q
    · exact .inr ⟨q, PySem.W.cellsFrom_some _ _ _ (.inl q)⟩
  refine codeAny_call_function hr.depth (KX _ _ lk) rfl S.co S.gen rfl (PySem.W.codeRec_of KX hcd) (hb _ _ _ _ ?_)
  refine wpAny_newFunctionEnv_cells S.kind hkind fun env he s1 y => ?_
  subst he
  refine ⟨lim.keeps y.toInCall.keep, codeAny_func ?_⟩
  obtain ⟨t, ht, hq⟩ := hbody cdv A outer s H vs Q E (g_deeper hg) (hr.deeper _) hsp
  have I : L2.Inv (cxOf CX P w K mg base N qual scope f cdv A outer s H E) [] (L2.start N vs) H s1 := inv_start S hr.hd e0 hl r y
  refine wpAny_mono (ht.run [] s1 (L2.start N vs) H _ I hq) (fun fl s' hs => ?_) fun e s' hs => hs
  cases fl with
  | ret u =>
    obtain ⟨v, σ', H', J, rv, q⟩ := hs
    exact ⟨v, H', J.os, J.bare, J.base, J.hok, rv, q⟩
  | next =>
    obtain ⟨σ', H', J, q⟩ := hs
    exact ⟨.non, H', J.os, J.bare, J.base, J.hok, rfl, q⟩
  | brk =>
    obtain ⟨_, _, _, q⟩ := hs
    exact False.elim q
  | cont =>
    obtain ⟨_, _, _, q⟩ := hs
    exact False.elim q
section
variable {X : Cx} {CX : CXT} {k n : Nat} {f C : Addr} {fd : FuncData} {ps ks : List Str} {sp : Sp} {E : XK} {g : List Value → List Value → List Value} {gV : List V → List V → List V}
theorem run_fnNG {pins : List (Addr × Obj)} {σ : L2.St} {H : Hp} {s : Shared} {Q : VK} {us ws : List Value} {vs zs : List V} (F : FnG X.prog X.w X.K X.mg X.base CX k f fd ps sp) (hg : X.A.guards = some []) (hr : Room k X.A) (hb : KBn X.K fd ps n ks g gV) (hx : Passes CX X E)
    (I : L2.Inv X pins σ H s) (r : Vals vs us) (rz : Vals zs ws) (l1 : vs.length = n) (l2 : zs.length = ks.length) (h : sp (gV vs zs) H Q E) : wpAny (model X.prog X.w) X.A (call (.ref f) us (ks.zip ws)) (EP X pins σ Q) X.xe s := by
  have r2 := hb.rel r rz
  refine wpAny_call (codeAny_mono (F.run X.A X.stack s H ⟨us, ks.zip ws⟩ (g us ws) (gV vs zs) Q E hg hr I.env0 (hb.to s us ws I.kIn (r.length.symm.trans l1) (rz.length.symm.trans l2)) r2 h) fun r s' hq => ?_)
  cases r with
  | error e => exact hx pins σ H s e s' I hq
  | ok fl =>
    cases fl with
    | ret u => exact I.after hq
    | next => exact False.elim hq
    | brk => exact False.elim hq
    | cont => exact False.elim hq
theorem run_makeNG {pins : List (Addr × Obj)} {σ : L2.St} {H : Hp} {s : Shared} {Q : VK} {us ws : List Value} {vs zs : List V} (M : Mk X.K C f) (F : FnG X.prog X.w X.K X.mg X.base CX k f fd ps sp) (hg : X.A.guards = some []) (hr : Room (k + 1) X.A) (hb : KBn X.K fd ps (n + 1) ks g gV)
    (hx : Passes CX X E) (I : L2.Inv X pins σ H s) (r : Vals vs us) (rz : Vals zs ws) (l1 : vs.length = n) (l2 : zs.length = ks.length)
    (h : ∀ x dx, H x = none → H dx = none → dx ≠ x → sp (gV (.ref x :: vs) zs) (upd (upd H dx (.own x)) x (.ins C dx [])) (fun v H2 => v = .non ∧ Q (.ref x) H2) E) :
    wpAny (model X.prog X.w) X.A (call (.ref C) us (ks.zip ws)) (EP X pins σ Q) X.xe s := by
  have hq := h (s.heap.objs.size + 1) s.heap.objs.size (I.hok.fresh (Nat.le_succ _)) (I.hok.fresh (Nat.le_refl _)) (Nat.ne_of_lt (Nat.lt_succ_self _))
  have I2 := L2.Inv.made (C := C) I
  have r1 : Vals (V.ref (s.heap.objs.size + 1) :: vs) (Value.ref (s.heap.objs.size + 1) :: us) := .cons rfl r
  have r2 := hb.rel r1 rz
  have e1 : (Value.ref (s.heap.objs.size + 1) :: us).length = n + 1 := r1.length.symm.trans (congrArg Nat.succ l1)
  have e2 : ws.length = ks.length := rz.length.symm.trans l2
  refine wpAny_call (make_map (f := f) I.kIn M.makes M.init (beq_iff_eq.mp M.fn) (codeAny_mono (F.run _ X.stack _ _ ⟨Value.ref (s.heap.objs.size + 1) :: us, ks.zip ws⟩ (g (Value.ref (s.heap.objs.size + 1) :: us) ws) _ _ E (g_make hg) (hr.make C us (ks.zip ws))
    (I2.env0.make C us (ks.zip ws)) (hb.to _ (Value.ref (s.heap.objs.size + 1) :: us) ws I2.kIn e1 e2) r2 hq) fun r s' hq' => ?_))
  cases r with
  | error e => exact hx pins σ _ _ e s' I2 hq'
  | ok fl =>
    cases fl with
    | ret u =>
      obtain ⟨v, H', I3, rv, ev, q3⟩ := I2.after hq'
      subst ev
      exact ⟨rv, ⟨V.ref (s.heap.objs.size + 1), H', I3, rfl, q3⟩⟩
    | next => exact False.elim hq'
    | brk => exact False.elim hq'
    | cont => exact False.elim hq'
end
end Wd
-- WdSd23
set_option linter.all false
set_option maxRecDepth 100000
set_option maxHeartbeats 2000000
set_option Elab.async false
/-! A def's rule. -/
namespace Wd
open PySem L2 PySem.Spec PyProof.Rows
section
variable {Z : Wo} {B : Nat → Option Addr} {W : WX} {X : Cx} {Hf Hf' H H' F F' : Hp} {s s' : Sto} {σ : L2.St} {v : V} {d d' : Wd.D} {r : Rv} {o : HO} {ks : List Lk} {sl outs : List Sl} {vs : List V}
theorem own_app {k i : Nat} (h : own? (s ++ List.replicate k Sl.un)[i]? = some d) : i < s.length ∧ own? s[i]? = some d := by
  by_cases hi : i < s.length
  · rw [List.getElem?_append_left hi] at h; exact ⟨hi, h⟩
  · rw [List.getElem?_append_right (by omega), List.getElem?_replicate] at h
    split at h <;> cases h
theorem Rel.ext (R : Rel Z Hf H F s σ) (k : Nat) : Rel Z Hf H F (s ++ List.replicate k .un) (σ ++ List.replicate k none) := by
  have up : ∀ {i : Nat}, i < s.length → (σ ++ List.replicate k none)[i]? = σ[i]? := fun {i} hi => by
    rw [List.getElem?_append_left (by rw [← R.len]; exact hi)]
  refine ⟨R.sub, R.fr, by simp [R.len], fun i d h => ?_, fun i d h => ?_, fun i j d e hij h1 h2 => ?_, fun i d h => ?_⟩
  · by_cases hi : i < s.length
    · rw [List.getElem?_append_left hi] at h
      rw [up hi]
      exact R.fz i d h
    · rw [List.getElem?_append_right (by omega), List.getElem?_replicate] at h
      split at h <;> cases h
  · obtain ⟨hi, h⟩ := own_app h
    rw [up hi]
    exact R.ow i d h
  · obtain ⟨hi, h1⟩ := own_app h1
    obtain ⟨hj, h2⟩ := own_app h2
    rw [up hi, up hj]
    exact R.ap i j d e hij h1 h2
  · by_cases hi : i < s.length
    · rw [List.getElem?_append_left hi] at h
      rw [up hi]
      exact R.bo i d h
    · rw [List.getElem?_append_right (by omega), List.getElem?_replicate] at h
      split at h <;> cases h
theorem exd_B {cls : Value} {a : Option Addr} : Exd (Z.wB B) Hf d cls a ↔ Exd Z Hf d cls a := by
  cases d with
  | ins c ns l =>
    exact ⟨fun ⟨h1, h2⟩ => ⟨h1, h2.imp id fun ⟨dd, vs, a1, a2, a3, a4⟩ => ⟨dd, vs, a1, a2, a3, isl_B.mp a4⟩⟩, fun ⟨h1, h2⟩ => ⟨h1, h2.imp id fun ⟨dd, vs, a1, a2, a3, a4⟩ => ⟨dd, vs, a1, a2, a3, isl_B.mpr a4⟩⟩⟩
  | _ => exact Iff.rfl
theorem bOf_vs {j : Nat} {p : Addr} (h : bOf sl vs j = some p) : vs[j]? = some (.ref p) := by
  unfold bOf at h
  split at h
  · rename_i h1 h2; cases h; exact h2
  · cases h
theorem after_of {np : Nat} (R : Rel (Z.wB (bOf sl vs)) Hf H F s σ) : After Z Hf H F (s.take np) vs := by
  refine ⟨R.sub, R.fr, fun j d h => ?_⟩
  have h' : s[j]? = some (.bo d) := by
    rw [List.getElem?_take] at h
    split at h
    · exact h
    · cases h
  obtain ⟨p, h1, h2⟩ := R.bo j d h'
  obtain ⟨q, o, k1, k2, k3, k4, k5⟩ := R.ow j d (by rw [h']; rfl)
  rw [h2] at k1
  have : p = q := by simpa using k1
  subst this
  exact ⟨p, o, bOf_vs h1, k2, k3, k4, iso_B.mp k5⟩
theorem out_bo {np j : Nat} (R : Rel (Z.wB (bOf sl vs)) Hf H F s σ) (h : (s.take np)[j]? = some (.bo d)) : s[j]? = some (.bo d) ∧ σ[j]? = vs[j]?.map some := by
  have h' : s[j]? = some (.bo d) := by
    rw [List.getElem?_take] at h
    split at h
    · exact h
    · cases h
  obtain ⟨p, h1, h2⟩ := R.bo j d h'
  exact ⟨h', by rw [h2, bOf_vs h1]; rfl⟩
/-- a body's end gives what the def promises -/
theorem fin_ok {np : Nat} {x : Res Fl} {Q : VK} {E : XK} (h : PoC Z Hf F vs (fin np x) Q E) : PoS (Z.wB (bOf sl vs)) (fun cls d _ H => E cls d H) Hf F x { nx := fun _ H' => Q .non H', rt := Q } := by
  cases x with
  | bad w => exact h
  | ex e s2 => exact fun σ' cls d H' Hf' sm R x => h H' Hf' cls d sm (after_of R) (exd_B.mp x)
  | ok f s2 =>
    cases f with
    | bk => exact h.elim
    | nx => exact fun σ' H' Hf' sm R => h H' Hf' .non sm (after_of R) (isd_non (Z := Z) (Hf := Hf'))
    | rt r =>
      intro σ' H' Hf' sm R v rv
      cases r with
      | v d => exact h H' Hf' v sm (after_of R) (isd_B.mp rv)
      | n d =>
        obtain ⟨p, o, rfl, k1, k2, k3, k4, k5⟩ := rv
        refine h H' Hf' _ sm (after_of R) ⟨p, o, rfl, k1, k2, k3, iso_B.mp k4, fun j e he z => ?_⟩
        obtain ⟨h1, h2⟩ := out_bo R he
        exact k5 j e (by rw [h1]; rfl) (by rw [h2, z]; rfl)
      | b i =>
        have rv : σ'[i]? = some (some v) := rv
        have h : PoC Z Hf F vs (match s2[i]? with
          | some (.ow d) => .ok (.n d) (s2.take np)
          | some (.fr d) => .ok (.v d) (s2.take np)
          | _ => .bad "return of what was lent") Q E := h
        cases e : s2[i]? with
        | none => rw [e] at h; exact h.elim
        | some z =>
          rw [e] at h
          cases z with
          | un => exact h.elim
          | bo d => exact h.elim
          | fr d =>
            obtain ⟨w, k1, k2⟩ := R.fz i d e
            rw [rv] at k1
            have : v = w := by simpa using k1
            subst this
            exact h H' Hf' _ sm (after_of R) (isd_B.mp k2)
          | ow d =>
            obtain ⟨p, o, k1, k2, k3, k4, k5⟩ := R.ow i d (by rw [e]; rfl)
            rw [rv] at k1
            have ev : v = .ref p := by simpa using k1
            subst ev
            refine h H' Hf' _ sm (after_of R) ⟨p, o, rfl, k2, k3, k4, iso_B.mp k5, fun j e' he z => ?_⟩
            obtain ⟨h1, h2⟩ := out_bo R he
            have hij : i ≠ j := by rintro rfl; rw [e] at h1; cases h1
            exact R.ap i j d e' hij (by rw [e]; rfl) (by rw [h1]; rfl) (by rw [rv, h2, z]; rfl)
/-- THE RULE for a def -/
theorem fn_ok {P : Program} {w : World} {K : PySem.W.Frag} {mg : Str → Option Value} {base : Heap} {x qual f : Str} {params : Arguments} {body : List Stmt} {scope : Scope} {dvs : List V} {kws : List (Str × V)} {fa : Addr} {fdt : FuncData} {CX : CXT} {N ps : List Str} {k n Wh : Nat} {T : Tab} {fd : FD}
    (Fn : FunD K x qual params body scope dvs kws fa fdt) (S : FnScope N ps scope) (hf : fdOf T f = some fd) (hps : fd.ps.length = ps.length) (hN : N.length = fd.n)
    (hb : ∀ (B : Nat → Option Addr) (cdv : Value) (A : Around) (outer : List Env) (s : Shared) (H : Hp) (E : XK), (A.deeper (envOfC qual scope s.heap.objs.size fa cdv)).guards = some [] → Room k (A.deeper (envOfC qual scope s.heap.objs.size fa cdv)) →
      PSs (cxOf CX P w K mg base N qual scope fa cdv A outer s H E) body (tS (Z.wB B) (fun cls d _ H => E cls d H) (evB T (evF T Wh n) Wh fd.body))) :
    FnG P w K mg base CX (k + 1) fa fdt ps (spF Z (evF T Wh (n + 1) f) ps.length) := by
  refine fnG_of Fn S (fun vs H Q E h => h.1) fun cdv A outer s H vs Q E hg hr h => ?_
  obtain ⟨hl, Hf, F, sl, R, h⟩ := h
  refine ⟨_, hb (bOf sl vs) cdv A outer s H E hg hr, ?_⟩
  unfold evF at h
  rw [hf] at h
  simp only at h
  split at h
  · rename_i hsl
    refine ⟨Hf, F, sl ++ List.replicate (fd.n - fd.ps.length) .un, ?_, fin_ok h⟩
    have e : L2.start N vs = vs.map some ++ List.replicate (fd.n - fd.ps.length) none := by
      unfold L2.start
      rw [hN, hl, hps]
    rw [e]
    exact R.ext _
  · exact h.elim
end
end Wd
-- WdSd24
set_option linter.all false
set_option maxRecDepth 100000
set_option maxHeartbeats 2000000
set_option Elab.async false
/-! Arguments put into the parameters' order. -/
namespace Wd
open PySem L2 PySem.Spec PyProof.Rows
section
variable {Z : Wo} {W : WX} {X : Cx} {Hf Hf' H H' F F' : Hp} {s s' : Sto} {σ : L2.St} {v : V} {d d' : Wd.D} {r : Rv}
/-- element by element; new objects are apart -/
theorem rrs_get : ∀ {rs : List Rv} {vs : List V} {F : Hp} {j : Nat} {r : Rv}, RRs Z Hf H s σ F rs vs → rs[j]? = some r → ∃ v, vs[j]? = some v ∧ RR Z Hf H F s σ r v
  | [], vs, F, j, r, h, e => by simp at e
  | a :: rs, vs, F, 0, r, h, e => by
    obtain ⟨v, w, rfl, h1, h2⟩ := h
    have : a = r := by simpa using e
    subst this
    exact ⟨v, rfl, h1⟩
  | a :: rs, vs, F, j + 1, r, h, e => by
    obtain ⟨v, w, rfl, h1, h2⟩ := h
    obtain ⟨x, q1, q2⟩ := rrs_get h2 (show rs[j]? = some r by simpa using e)
    exact ⟨x, by simpa using q1, q2.weak (addT_sub h1)⟩
theorem rrs_apart : ∀ {rs : List Rv} {vs : List V} {F : Hp} {j k : Nat} {d e : Wd.D} {v : V}, RRs Z Hf H s σ F rs vs → j < k → rs[j]? = some (.n d) → rs[k]? = some (.n e) → vs[j]? = some v → vs[k]? = some v → False
  | [], vs, F, j, k, d, e, v, h, _, h1, _, _, _ => by simp at h1
  | a :: rs, vs, F, 0, 0, d, e, v, h, hjk, _, _, _, _ => absurd hjk (by omega)
  | a :: rs, vs, F, j + 1, 0, d, e, v, h, hjk, _, _, _, _ => absurd hjk (by omega)
  | a :: rs, vs, F, 0, k + 1, d, e, v, h, hjk, h1, h2, h3, h4 => by
    obtain ⟨x, w, rfl, g1, g2⟩ := h
    have : a = .n d := by simpa using h1
    subst this
    have : x = v := by simpa using h3
    subst this
    obtain ⟨y, q1, q2⟩ := rrs_get g2 (show rs[k]? = some (.n e) by simpa using h2)
    have : y = x := by
      have h4' : w[k]? = some x := by simpa using h4
      rw [q1] at h4'; exact Option.some.inj h4'
    subst this
    obtain ⟨p, o, rfl, a1, a2, a3, _⟩ := g1
    obtain ⟨p', o', e', b1, b2, _⟩ := q2
    have : p = p' := by simpa using e'
    subst this
    have t : addT F H (.n d) (.ref p) p = some o := by
      show (if p = p then H p else F p) = some o
      rw [if_pos rfl]; exact a3
    rw [t] at b2; cases b2
  | a :: rs, vs, F, j + 1, k + 1, d, e, v, h, hjk, h1, h2, h3, h4 => by
    obtain ⟨x, w, rfl, g1, g2⟩ := h
    exact rrs_apart g2 (j := j) (k := k) (by omega) (by simpa using h1) (by simpa using h2) (by simpa using h3) (by simpa using h4)
theorem rr_grow {F' : Hp} (hr : RR Z Hf H F s σ r v) (h : ∀ d p, r = .n d → v = .ref p → F' p = none) : RR Z Hf H F' s σ r v := by
  cases r with
  | v _ => exact hr
  | b _ => exact hr
  | n d =>
    obtain ⟨p, o, e, a1, a2, a3⟩ := hr
    exact ⟨p, o, e, a1, h d p rfl e, a3⟩
/-- a list of results, put together anew -/
theorem rrs_of : ∀ {rs : List Rv} {vs : List V} {F : Hp}, rs.length = vs.length → (∀ (j : Nat) r v, rs[j]? = some r → vs[j]? = some v → RR Z Hf H F s σ r v) →
    (∀ (j k : Nat) d e v, j < k → rs[j]? = some (.n d) → rs[k]? = some (.n e) → vs[j]? = some v → vs[k]? = some v → False) → RRs Z Hf H s σ F rs vs
  | [], [], F, _, _, _ => rfl
  | [], v :: vs, F, h, _, _ => by simp at h
  | r :: rs, [], F, h, _, _ => by simp at h
  | r :: rs, v :: vs, F, hl, h1, h2 => by
    refine ⟨v, vs, rfl, h1 0 r v rfl rfl, ?_⟩
    refine rrs_of (by simpa using hl) (fun j r' v' e1 e2 => ?_) fun j k d e v' hjk e1 e2 e3 e4 => h2 (j + 1) (k + 1) d e v' (by omega) (by simpa using e1) (by simpa using e2) (by simpa using e3) (by simpa using e4)
    refine rr_grow (h1 (j + 1) r' v' (by simpa using e1) (by simpa using e2)) fun d p er ev => ?_
    subst er ev
    have q := h1 (j + 1) (.n d) (.ref p) (by simpa using e1) (by simpa using e2)
    obtain ⟨p', o, e', a1, a2, a3⟩ := q
    have : p = p' := by simpa using e'
    subst this
    cases r with
    | v _ => exact a2
    | b _ => exact a2
    | n d0 =>
      cases v with
      | ref p0 =>
        show (if p = p0 then H p0 else F p) = none
        by_cases hp : p = p0
        · subst hp
          exact (h2 0 (j + 1) d0 d (.ref p) (by omega) rfl (by simpa using e1) rfl (by simpa using e2)).elim
        · rw [if_neg hp]; exact a2
      | _ => exact a2
/-- the frame behind a list of results -/
def addTs (H : Hp) : Hp → List Rv → List V → Hp
  | F, r :: rs, v :: vs => addTs H (addT F H r v) rs vs
  | F, _, _ => F
theorem rrs_app : ∀ {rs zs : List Rv} {vs ws : List V} {F : Hp}, RRs Z Hf H s σ F rs vs → RRs Z Hf H s σ (addTs H F rs vs) zs ws → RRs Z Hf H s σ F (rs ++ zs) (vs ++ ws)
  | [], zs, vs, ws, F, h, k => by
    have : vs = [] := h
    subst this
    exact k
  | r :: rs, zs, vs, ws, F, h, k => by
    obtain ⟨v, w, rfl, h1, h2⟩ := h
    exact ⟨v, w ++ ws, rfl, h1, rrs_app h2 k⟩
theorem Rel.adds : ∀ {rs : List Rv} {vs : List V} {F : Hp}, Rel Z Hf H F s σ → RRs Z Hf H s σ F rs vs → Rel Z Hf H (addTs H F rs vs) s σ
  | [], vs, F, R, h => by
    have : vs = [] := h
    subst this
    exact R
  | r :: rs, vs, F, R, h => by
    obtain ⟨v, w, rfl, h1, h2⟩ := h
    exact Rel.adds (F := addT F H r v) (R.add h1) h2
theorem addTs_sub : ∀ {rs : List Rv} {vs : List V} {F : Hp}, RRs Z Hf H s σ F rs vs → ∀ p o, F p = some o → addTs H F rs vs p = some o
  | [], vs, F, h, p, o, e => by
    have : vs = [] := h
    subst this
    exact e
  | r :: rs, vs, F, h, p, o, e => by
    obtain ⟨v, w, rfl, h1, h2⟩ := h
    exact addTs_sub h2 p o (addT_sub h1 p o e)
/-- results that waited behind more work -/
theorem RRs.later : ∀ {rs : List Rv} {vs : List V} {F : Hp}, RRs Z Hf H s σ F rs vs → Same Hf Hf' → Rel Z Hf' H' (addTs H F rs vs) s' σ → RRs Z Hf' H' s' σ F rs vs ∧ addTs H' F rs vs = addTs H F rs vs
  | [], vs, F, h, e, R => by
    have : vs = [] := h
    subst this
    exact ⟨rfl, rfl⟩
  | r :: rs, vs, F, h, e, R => by
    obtain ⟨v, w, rfl, h1, h2⟩ := h
    obtain ⟨a, b⟩ := RRs.later h2 e R
    have R1 : Rel Z Hf' H' (addT F H r v) s' σ := R.weak (addTs_sub h2)
    have ea := addT_eq h1 R1
    refine ⟨⟨v, w, rfl, h1.later e R1, by rw [ea]; exact a⟩, ?_⟩
    show addTs H' (addT F H' r v) rs w = addTs H (addT F H r v) rs w
    rw [ea, b]
/-- the values of the parameters -/
def pmV : List Pm → List V → List V
  | [], _ => []
  | .a k :: pm, all => all.getD k .non :: pmV pm all
  | .d v :: pm, all => toV v :: pmV pm all
def pmScal : List Pm → Bool
  | [] => true
  | .a _ :: pm => pmScal pm
  | .d v :: pm => Scalar v && pmScal pm
theorem pick_at : ∀ {pm : List Pm} {all rs : List Rv}, pickR pm all = some rs → rs.length = pm.length ∧ ∀ (j : Nat) r, rs[j]? = some r → (∃ k, pm[j]? = some (.a k) ∧ all[k]? = some r) ∨ ∃ d, pm[j]? = some (.d d) ∧ r = .v d
  | [], all, rs, h => by
    have : rs = [] := (Option.some.inj h).symm
    subst this
    exact ⟨rfl, fun j r e => by simp at e⟩
  | .a k :: pm, all, rs, h => by
    obtain ⟨r0, h1, h⟩ := Option.bind_eq_some_iff.mp h
    obtain ⟨l, h2, rfl⟩ := Option.map_eq_some_iff.mp h
    obtain ⟨a, b⟩ := pick_at h2
    refine ⟨by simp [a], fun j r e => ?_⟩
    cases j with
    | zero =>
      have : r0 = r := by simpa using e
      subst this
      exact .inl ⟨k, rfl, h1⟩
    | succ j => simpa using b j r (by simpa using e)
  | .d v :: pm, all, rs, h => by
    obtain ⟨l, h2, rfl⟩ := Option.map_eq_some_iff.mp h
    obtain ⟨a, b⟩ := pick_at h2
    refine ⟨by simp [a], fun j r e => ?_⟩
    cases j with
    | zero =>
      have : Rv.v v = r := by simpa using e
      exact .inr ⟨v, rfl, this.symm⟩
    | succ j => simpa using b j r (by simpa using e)
theorem pmV_len : ∀ {pm : List Pm} {all : List V}, (pmV pm all).length = pm.length
  | [], _ => rfl
  | .a _ :: pm, all => by simp [pmV, pmV_len (pm := pm)]
  | .d _ :: pm, all => by simp [pmV, pmV_len (pm := pm)]
theorem pmV_a : ∀ {pm : List Pm} {all : List V} {j k : Nat}, pm[j]? = some (.a k) → (pmV pm all)[j]? = some (all.getD k .non)
  | [], all, j, k, h => by simp at h
  | x :: pm, all, 0, k, h => by
    have : x = .a k := by simpa using h
    subst this
    rfl
  | x :: pm, all, j + 1, k, h => by
    have := pmV_a (pm := pm) (all := all) (j := j) (k := k) (by simpa using h)
    cases x <;> simpa [pmV] using this
theorem pmV_d : ∀ {pm : List Pm} {all : List V} {j : Nat} {d : Wd.D}, pm[j]? = some (.d d) → (pmV pm all)[j]? = some (toV d)
  | [], all, j, k, h => by simp at h
  | x :: pm, all, 0, k, h => by
    have : x = .d k := by simpa using h
    subst this
    rfl
  | x :: pm, all, j + 1, k, h => by
    have := pmV_d (pm := pm) (all := all) (j := j) (d := k) (by simpa using h)
    cases x <;> simpa [pmV] using this
theorem pmScal_d : ∀ {pm : List Pm} {j : Nat} {d : Wd.D}, pmScal pm = true → pm[j]? = some (.d d) → Scalar d = true
  | [], j, d, _, h => by simp at h
  | x :: pm, 0, d, hs, h => by
    have : x = .d d := by simpa using h
    subst this
    unfold pmScal at hs
    rw [Bool.and_eq_true] at hs
    exact hs.1
  | x :: pm, j + 1, d, hs, h => by
    have : pmScal pm = true := by
      cases x with
      | a k => exact hs
      | d v => unfold pmScal at hs; rw [Bool.and_eq_true] at hs; exact hs.2
    exact pmScal_d this (by simpa using h)
theorem pmIx_two : ∀ {pm : List Pm} {j k i : Nat}, nodup (pmIx pm) = true → j ≠ k → pm[j]? = some (.a i) → pm[k]? = some (.a i) → False
  | [], j, k, i, _, _, h, _ => by simp at h
  | x :: pm, 0, 0, i, _, n, _, _ => n rfl
  | x :: pm, 0, k + 1, i, nd, _, h, h' => by
    have : x = .a i := by simpa using h
    subst this
    unfold pmIx nodup at nd
    rw [Bool.and_eq_true] at nd
    have m : i ∈ pmIx pm := mem (by simpa using h')
    simp [m] at nd
  | x :: pm, j + 1, 0, i, nd, _, h, h' => by
    have : x = .a i := by simpa using h'
    subst this
    unfold pmIx nodup at nd
    rw [Bool.and_eq_true] at nd
    have m : i ∈ pmIx pm := mem (by simpa using h)
    simp [m] at nd
  | x :: pm, j + 1, k + 1, i, nd, n, h, h' => by
    have nd' : nodup (pmIx pm) = true := by
      cases x with
      | a i0 => unfold pmIx nodup at nd; rw [Bool.and_eq_true] at nd; exact nd.2
      | d _ => unfold pmIx at nd; exact nd
    exact pmIx_two nd' (fun q => n (congrArg Nat.succ q)) (by simpa using h) (by simpa using h')
where
  mem : ∀ {pm : List Pm} {j i : Nat}, pm[j]? = some (.a i) → i ∈ pmIx pm
    | [], j, i, h => by simp at h
    | x :: pm, 0, i, h => by
      have : x = .a i := by simpa using h
      subst this
      unfold pmIx; simp
    | x :: pm, j + 1, i, h => by
      have := mem (pm := pm) (j := j) (i := i) (by simpa using h)
      cases x with
      | a _ => unfold pmIx; exact List.mem_cons_of_mem _ this
      | d _ => unfold pmIx; exact this
theorem pick_ok {pm : List Pm} {n m : Nat} {rs zs ts : List Rv} {vs ws : List V} (hs : pmScal pm = true) (h : RRs Z Hf H s σ F (rs ++ zs) (vs ++ ws)) (e : pick pm n m rs zs = some ts) : RRs Z Hf H s σ F ts (pmV pm (vs ++ ws)) ∧ rs.length = n ∧ zs.length = m := by
  unfold pick at e
  split at e
  · rename_i hc
    obtain ⟨a, b⟩ := pick_at e
    refine ⟨rrs_of (by rw [a, pmV_len]) (fun j r v e1 e2 => ?_) (fun j k d e v hjk e1 e2 e3 e4 => ?_), hc.1, hc.2.1⟩
    · rcases b j r e1 with ⟨k, h1, h2⟩ | ⟨d, h1, rfl⟩
      · rw [pmV_a h1] at e2
        obtain ⟨v', q1, q2⟩ := rrs_get h h2
        have : (vs ++ ws).getD k .non = v' := by rw [List.getD_eq_getElem?_getD, q1]; rfl
        rw [this] at e2
        cases e2
        exact q2
      · rw [pmV_d h1] at e2
        cases e2
        exact isd_toV (pmScal_d hs h1)
    · rcases b j _ e1 with ⟨i, h1, h2⟩ | ⟨_, _, z⟩
      · rcases b k _ e2 with ⟨i', h3, h4⟩ | ⟨_, _, z⟩
        · obtain ⟨x, q1, _⟩ := rrs_get h h2
          obtain ⟨y, q2, _⟩ := rrs_get h h4
          rw [pmV_a h1, List.getD_eq_getElem?_getD, q1] at e3
          rw [pmV_a h3, List.getD_eq_getElem?_getD, q2] at e4
          have ex : x = v := by simpa using e3
          have ey : y = v := by simpa using e4
          subst ex
          subst ey
          by_cases hii : i = i'
          · subst hii; exact pmIx_two hc.2.2 (by omega) h1 h3
          · rcases Nat.lt_or_gt_of_ne hii with hlt | hlt
            · exact rrs_apart h hlt h2 h4 q1 q2
            · exact rrs_apart h hlt h4 h2 q2 q1
        · cases z
      · cases z
  · cases e
end
end Wd
-- WdSd25
set_option linter.all false
set_option maxRecDepth 100000
set_option maxHeartbeats 2000000
set_option Elab.async false
/-! A call of a def of the module. -/
namespace Wd
open PySem L2 PySem.Spec PyProof.Rows
section
variable {Z : Wo} {B : Nat → Option Addr} {W : WX} {X : Cx} {Hf Hf' H H' F F' : Hp} {s s' : Sto} {σ : L2.St} {v : V} {d d' : Wd.D} {r : Rv} {T : Tab} {C : Str → List Sl → CRes}
theorem after_B {outs : List Sl} {vs : List V} : After (Z.wB B) Hf H F outs vs ↔ After Z Hf H F outs vs :=
  ⟨fun A => ⟨A.sub, A.fr, fun j d h => let ⟨p, o, a1, a2, a3, a4, a5⟩ := A.out j d h; ⟨p, o, a1, a2, a3, a4, iso_B.mp a5⟩⟩,
   fun A => ⟨A.sub, A.fr, fun j d h => let ⟨p, o, a1, a2, a3, a4, a5⟩ := A.out j d h; ⟨p, o, a1, a2, a3, a4, iso_B.mpr a5⟩⟩⟩
theorem rc_B {outs : List Sl} {vs : List V} : RC (Z.wB B) Hf H F outs vs r v ↔ RC Z Hf H F outs vs r v := by
  cases r with
  | v d => exact isd_B
  | b i => exact Iff.rfl
  | n d => exact ⟨fun ⟨p, o, a1, a2, a3, a4, a5, a6⟩ => ⟨p, o, a1, a2, a3, a4, iso_B.mp a5, a6⟩, fun ⟨p, o, a1, a2, a3, a4, a5, a6⟩ => ⟨p, o, a1, a2, a3, a4, iso_B.mpr a5, a6⟩⟩
theorem spF_B {c : List Sl → CRes} {np : Nat} {vs : List V} {Q : VK} {E : XK} (h : spF (Z.wB B) c np vs H Q E) : spF Z c np vs H Q E := by
  obtain ⟨hl, Hf, F, sl, R, h⟩ := h
  refine ⟨hl, Hf, F, sl, R, ?_⟩
  cases e : c sl with
  | bad w => rw [e] at h; exact h.elim
  | ex x outs => rw [e] at h; exact fun H' Hf' cls d sm A q => h H' Hf' cls d sm (after_B.mpr A) (exd_B.mpr q)
  | ok r outs => rw [e] at h; exact fun H' Hf' v sm A q => h H' Hf' v sm (after_B.mpr A) (rc_B.mpr q)
theorem pk_weak {ks : List Keyword} {t t' : TA} (h : PK X ks t) (w : ∀ σ H Q, t' σ H Q → t σ H Q) : PK X ks t' := ⟨fun pos pins s σ H Q I q => h.run pos pins s σ H Q I (w σ H Q q)⟩
theorem k_nil : PK X [] (tA Z W (evA T C .nil)) := pk_weak pk_nil fun σ H Q h => by
  obtain ⟨Hf, F, s, R, h⟩ := h
  rw [evA] at h
  exact h.at R [] rfl
theorem k_cons {nm : Option Str} {e : Expr} {kp : Pos} {ks : List Keyword} {ie : Ie} {ia : Ia} (he : PE X e (tE Z W (evE T C ie))) (hr : PK X ks (tA Z W (evA T C ia))) : PK X (⟨nm, e, kp⟩ :: ks) (tA Z W (evA T C (.cons ie ia))) :=
  pk_weak (pk_cons he hr) fun σ H Q h => by
    obtain ⟨Hf, F, s, R, h⟩ := h
    rw [evA] at h
    refine t_one R h fun x s1 H1 Hf1 v e1 R1 r1 h => ?_
    refine ⟨Hf1, addT F H1 x v, s1, R1.add r1, (h.bind.frame (addT_sub r1)).imp fun xs s2 H2 Hf2 e2 R2 h vs r2 => ?_⟩
    refine h.at (R2.weak (addT_sub r1)) (v :: vs) ⟨v, vs, rfl, r1.later e2 R2, ?_⟩
    rw [addT_eq r1 R2]
    exact r2
def kwOk (ks : List Keyword) (ns : List Str) : Bool := ks.map (·.arg) == ns.map some
theorem kw_all {env : Env} {pos : Pos} : ∀ {ks : List Keyword} {ns : List Str}, ks.map (·.arg) = ns.map some → (backToKw pos (keywordEach ks env)).all (·.1.isSome) = true ∧ (backToKw pos (keywordEach ks env)).filterMap (·.1) = ns ∧ (backToKw pos (keywordEach ks env)).any (·.1.isNone) = false
  | [], [], _ => ⟨rfl, rfl, rfl⟩
  | [], n :: ns, h => by simp at h
  | k :: ks, [], h => by simp at h
  | ⟨a, e, p⟩ :: ks, n :: ns, h => by
    simp only [List.map_cons, List.cons.injEq] at h
    obtain ⟨h1, h2⟩ := h
    obtain ⟨a1, a2, a3⟩ := kw_all (ks := ks) h2
    subst h1
    refine ⟨?_, ?_, ?_⟩
    · show (true && (backToKw pos (keywordEach ks env)).all (·.1.isSome)) = true
      rw [a1]; rfl
    · show n :: (backToKw pos (keywordEach ks env)).filterMap (·.1) = n :: ns
      rw [a2]
    · show (false || (backToKw pos (keywordEach ks env)).any (·.1.isNone)) = false
      rw [a3]; rfl
/-- the arguments of a call, in the parameters' order -/
theorem args_run {as ks : Ia} {pm : List Pm} {n m : Nat} {k : List Rv → Sto → Res Rv} {kk : Rv → Sto → Hp → Hp → Prop} {G : List V → Hp → Prop} {st : Sto} (hs : pmScal pm = true) (hF : ∀ p o, F p = some o → F' p = some o) (R : Rel Z Hf H F' st σ)
    (h : Po Z W Hf F σ (bnd (evA T C as st) fun rs s => if rs.length = n then bnd (evA T C ks s) fun zs s => bnd (Wd.opt "args" (pick pm n m rs zs) s) fun rs s => k rs s else .bad "args") kk)
    (fin : ∀ ts s2 H2 Hf2 vs, Same Hf Hf2 → Rel Z Hf2 H2 F' s2 σ → RRs Z Hf2 H2 s2 σ F' ts vs → vs.length = pm.length → Po Z W Hf2 F σ (k ts s2) kk → G vs H2) :
    tA Z W (evA T C as) σ H fun vs H1 => vs.length = n ∧ tA Z W (evA T C ks) σ H1 fun zs H2 => zs.length = m ∧ G (pmV pm (vs ++ zs)) H2 := by
  refine ⟨Hf, F', st, R, (h.bind.frame hF).imp fun rs s1 H1 Hf1 e1 R1 h vs r1 => ?_⟩
  split at h
  · rename_i hn
    refine ⟨by rw [← rrs_len r1]; exact hn, Hf1, addTs H1 F' rs vs, s1, R1.adds r1, (h.bind.frame fun p o q => addTs_sub r1 p o (hF p o q)).imp fun zs s2 H2 Hf2 e2 R2 h ws r2 => ?_⟩
    obtain ⟨q1, q2⟩ := RRs.later r1 e2 R2
    have R2' := R2.weak (addTs_sub r1)
    obtain ⟨ts, ht, h⟩ := h.bind.opt (R2'.weak hF)
    obtain ⟨p1, p2, p3⟩ := pick_ok hs (rrs_app q1 (by rw [q2]; exact r2)) ht
    exact ⟨by rw [← rrs_len r2]; exact p3, fin ts s2 H2 Hf2 _ (e1.trans e2) R2' p1 pmV_len h⟩
  · exact h.elim
/-- how a def's parameters are bound -/
def BindOk (K : PySem.W.Frag) (fdt : FuncData) (ps : List Str) (pm : List Pm) (n : Nat) (ks : List Str) : Prop := ∃ g, KBn K fdt ps n ks g (fun vs zs => pmV pm (vs ++ zs))
/-- f(e, .., k = v, ..), f a def of the module -/
theorem s_call {CX : CXT} {k : Nat} {fa : Addr} {fdt : FuncData} {ps ks : List Str} {f x : Str} {fd : FD} {pm : List Pm} {es : List Expr} {kws : List Keyword} {p pos : Pos} {ia ik : Ia} {E0 : XK}
    (gd : X.A.guards = some []) (Fn : FnG X.prog X.w X.K X.mg X.base CX k fa fdt ps (spF Z (C f) ps.length)) (hr : Room k X.A) (hg : Gl X x) (hm : X.mg x = some (.ref fa)) (hk : PySem.W.keepIn X.K (.ref fa) = true) (hb : BindOk X.K fdt ps pm es.length ks) (hx : Passes CX X E0) (hW : ∀ cls d σ H, W cls d σ H = E0 cls d H)
    (hf : fdOf T f = some fd) (hps : fd.ps.length = ps.length) (hpm : pm.length = ps.length) (hsc : pmScal pm = true) (ha : PA X es (tA (Z.wB B) W (evA T C ia))) (h0 : es = [] → ia = .nil) (hkw : PK X kws (tA (Z.wB B) W (evA T C ik))) (hp : es.all plain = true) (hks : kws.map (·.arg) = ks.map some)
    (hdb : (x == ("__debug__" : Str)) = false) : PE X (.Call (.Name x p) es kws pos) (tE (Z.wB B) W (evE T C (.call f pm es.length ks.length ia ik))) := by
  obtain ⟨g, hb⟩ := hb
  refine ⟨fun pins s σ H Q I h => ?_⟩
  obtain ⟨Hf, F, st, R, h⟩ := h
  rw [evE] at h
  have run := args_run (G := fun vs H2 => spF Z (C f) ps.length vs H2 Q E0) hsc (fun _ _ q => q) R h fun ts s2 H2 Hf2 vs e2 R2 r2 hl h => by
    have := callF_ok (E := E0) hf (by rw [hl, hpm, hps]) R2 r2 (fun cls d H' => (hW cls d σ H').symm) h
    rw [hps] at this
    exact spF_B this
  obtain ⟨k1, k2, k3⟩ := kw_all (env := X.env) (pos := pos) hks
  refine wpAny_Call_Name_kw (ld_glob I hg hm ?_ hdb)
  cases es with
  | nil =>
    have := h0 rfl
    subst this
    obtain ⟨Hf1, F1, s1, R1, run⟩ := run
    rw [evA] at run
    have run := run.at R1 [] rfl
    refine PySem.W.callWith_KW0 (h₀ := X.base) I.ok.mod.kin hk k1 (thn (hkw.run pos pins s σ H _ I run.2) fun ws s2 ⟨zs, H2, I2, rz, l2, q2⟩ => ⟨I2.kIn, ?_⟩) (by rw [k3]; rfl)
    rw [k2]
    exact run_fnNG (us := []) Fn gd hr hb hx I2 .nil rz rfl l2 q2
  | cons e es =>
    have hp' := hp
    rw [List.all_cons, Bool.and_eq_true] at hp'
    refine PySem.W.callWith_KW (h₀ := X.base) I.ok.mod.kin hk k1 (thn (ha.run pos pins s σ H _ I run) fun us s1 ⟨vs, H1, I1, r, l1, q⟩ => ?_) (by rw [k3, back_plain hp]; rfl) (star_plain hp'.1)
    refine thn (hkw.run pos pins s1 σ H1 _ I1 q) fun ws s2 ⟨zs, H2, I2, rz, l2, q2⟩ => ⟨I2.kIn, ?_⟩
    rw [k2]
    exact run_fnNG Fn gd hr hb hx I2 r rz l1 l2 q2
end
end Wd
-- WdSd26
set_option linter.all false
set_option maxRecDepth 100000
set_option maxHeartbeats 2000000
set_option Elab.async false
/-! Comprehensions. -/
namespace Wd
open PySem L2 PySem.Spec PyProof.Rows
def WF : WX := fun _ _ _ _ => False
section
variable {α β : Type} {Z : Wo} {B : Nat → Option Addr} {W : WX} {X : Cx} {Hf Hf' H H' F F' : Hp} {s s' : Sto} {σ : L2.St} {v : V} {d d' : Wd.D} {r : Rv} {T : Tab} {C : Str → List Sl → CRes} {i : Nat}
theorem wipe_len : ∀ {t : List Nat}, (Wd.wipe s t).length = s.length
  | [] => rfl
  | i :: t => by unfold Wd.wipe; rw [List.length_set, wipe_len]
theorem wipe_at : ∀ {t : List Nat} {i : Nat} {z : Sl}, (Wd.wipe s t)[i]? = some z → (i ∉ t ∧ s[i]? = some z) ∨ (i ∈ t ∧ z = .un)
  | [], i, z, h => .inl ⟨by simp, h⟩
  | a :: t, i, z, h => by
    unfold Wd.wipe at h
    by_cases hi : i = a
    · subst hi
      by_cases hl : i < (Wd.wipe s t).length
      · rw [List.getElem?_set_self hl] at h
        cases h
        exact .inr ⟨by simp, rfl⟩
      · rw [List.getElem?_eq_none (by simpa using hl)] at h; cases h
    · rw [List.getElem?_set_ne (Ne.symm hi)] at h
      rcases wipe_at h with ⟨h1, h2⟩ | ⟨h1, h2⟩
      · exact .inl ⟨by simp [hi, h1], h2⟩
      · exact .inr ⟨by simp [h1], h2⟩
theorem Rel.wipe (R : Rel Z Hf H F s σ) (t : List Nat) : Rel Z Hf H F (Wd.wipe s t) (L2.wipe σ t) := by
  have ow : ∀ {i : Nat} {d}, own? (Wd.wipe s t)[i]? = some d → i ∉ t ∧ own? s[i]? = some d := fun {i d} h => by
    cases e : (Wd.wipe s t)[i]? with
    | none => rw [e] at h; cases h
    | some z =>
      rcases wipe_at e with ⟨h1, h2⟩ | ⟨h1, rfl⟩
      · rw [e] at h; exact ⟨h1, by rw [h2]; exact h⟩
      · rw [e] at h; cases h
  refine ⟨R.sub, R.fr, by rw [wipe_len, wipe_length, R.len], fun i d h => ?_, fun i d h => ?_, fun i j d e hij h1 h2 => ?_, fun i d h => ?_⟩
  · rcases wipe_at h with ⟨h1, h2⟩ | ⟨_, h2⟩
    · rw [wipe_out h1]; exact R.fz i d h2
    · cases h2
  · obtain ⟨h1, h2⟩ := ow h
    rw [wipe_out h1]; exact R.ow i d h2
  · obtain ⟨a1, a2⟩ := ow h1
    obtain ⟨b1, b2⟩ := ow h2
    rw [wipe_out a1, wipe_out b1]
    exact R.ap i j d e hij a2 b2
  · rcases wipe_at h with ⟨h1, h2⟩ | ⟨_, h2⟩
    · rw [wipe_out h1]; exact R.bo i d h2
    · cases h2
theorem bk_len {old : Sto} : ∀ {t : List Nat}, (back s old t).length = s.length
  | [] => rfl
  | i :: t => by unfold back; rw [List.length_set, bk_len]
theorem back_at {old : Sto} (hl : old.length = s.length) : ∀ {t : List Nat} {i : Nat} {z : Sl}, (back s old t)[i]? = some z → (i ∉ t ∧ s[i]? = some z) ∨ (i ∈ t ∧ old[i]? = some z)
  | [], i, z, h => .inl ⟨by simp, h⟩
  | a :: t, i, z, h => by
    unfold back at h
    by_cases hi : i = a
    · subst hi
      by_cases hl2 : i < (back s old t).length
      · rw [List.getElem?_set_self hl2] at h
        cases h
        rw [bk_len] at hl2
        refine .inr ⟨by simp, ?_⟩
        have : i < old.length := by omega
        simp [this]
      · rw [List.getElem?_eq_none (by simpa using hl2)] at h; cases h
    · rw [List.getElem?_set_ne (Ne.symm hi)] at h
      rcases back_at hl h with ⟨h1, h2⟩ | ⟨h1, h2⟩
      · exact .inl ⟨by simp [hi, h1], h2⟩
      · exact .inr ⟨by simp [h1], h2⟩
theorem free_at {t : List Nat} {z : Sl} (h : freeAt s t = true) (hi : i ∈ t) (hz : s[i]? = some z) : own? (some z) = none := by
  unfold freeAt at h
  have := List.all_eq_true.mp h i hi
  rw [hz] at this
  cases z with
  | un => rfl
  | fr _ => rfl
  | ow _ => cases this
  | bo _ => cases this
/-- the block's end: the outer names as they stood -/
theorem Rel.back {s0 : Sto} {H0 F0 : Hp} {t : List Nat} (R0 : Rel Z Hf H0 F0 s0 σ) (R : Rel Z Hf' H F' (Wd.wipe s t) (L2.wipe σ t)) (sm : Same Hf Hf') (hF : ∀ p o, F p = some o → F' p = some o) (hfr : freeAt s0 t = true) : Rel Z Hf' H F (Wd.back s s0 t) σ := by
  have R := R.weak hF
  have hl : s0.length = s.length := by have h1 := R.len; have h2 := R0.len; rw [wipe_len, wipe_length] at h1; omega
  have out : ∀ {i : Nat} {z}, i ∉ t → s[i]? = some z → (Wd.wipe s t)[i]? = some z := fun {i z} h1 h2 => by
    have hi : i < (Wd.wipe s t).length := by rw [wipe_len]; exact (List.getElem?_eq_some_iff.mp h2).1
    cases e : (Wd.wipe s t)[i]? with
    | none => rw [List.getElem?_eq_none_iff] at e; omega
    | some y =>
      rcases wipe_at e with ⟨_, h4⟩ | ⟨h3, _⟩
      · rw [h2] at h4; exact h4.symm ▸ rfl
      · exact absurd h3 h1
  have ow : ∀ {i : Nat} {d}, own? (Wd.back s s0 t)[i]? = some d → i ∉ t ∧ own? (Wd.wipe s t)[i]? = some d := fun {i d} h => by
    cases e : (Wd.back s s0 t)[i]? with
    | none => rw [e] at h; cases h
    | some z =>
      rcases back_at hl e with ⟨h1, h2⟩ | ⟨h1, h2⟩
      · rw [e] at h; exact ⟨h1, by rw [out h1 h2]; exact h⟩
      · rw [e, free_at hfr h1 h2] at h; cases h
  refine ⟨R.sub, R.fr, by rw [bk_len, ← hl]; exact R0.len, fun i d h => ?_, fun i d h => ?_, fun i j d e hij h1 h2 => ?_, fun i d h => ?_⟩
  · rcases back_at hl h with ⟨h1, h2⟩ | ⟨h1, h2⟩
    · have := R.fz i d (out h1 h2)
      rw [wipe_out h1] at this
      exact this
    · obtain ⟨v, k1, k2⟩ := R0.fz i d h2
      exact ⟨v, k1, k2.mono sm⟩
  · obtain ⟨h1, h2⟩ := ow h
    have := R.ow i d h2
    rw [wipe_out h1] at this
    exact this
  · obtain ⟨a1, a2⟩ := ow h1
    obtain ⟨b1, b2⟩ := ow h2
    have := R.ap i j d e hij a2 b2
    rw [wipe_out a1, wipe_out b1] at this
    exact this
  · rcases back_at hl h with ⟨h1, h2⟩ | ⟨h1, h2⟩
    · have := R.bo i d (out h1 h2)
      rw [wipe_out h1] at this
      exact this
    · have := free_at hfr h1 h2
      cases this
theorem wipe_set : ∀ {t : List Nat} {σ : L2.St} {x : Option V}, i ∈ t → L2.wipe (σ.set i x) t = L2.wipe σ t
  | [], σ, x, h => by simp at h
  | a :: t, σ, x, h => by
    unfold L2.wipe
    by_cases hi : i ∈ t
    · rw [wipe_set hi]
    · have ha : i = a := by rcases List.mem_cons.mp h with h | h; exact h; exact absurd h hi
      subst ha
      have : ∀ {t : List Nat} {σ : L2.St}, i ∉ t → L2.wipe (σ.set i x) t = (L2.wipe σ t).set i x := fun {t} => by
        induction t with
        | nil => intro σ _; rfl
        | cons b t ih =>
          intro σ hn
          have hb : i ≠ b := by intro e; exact hn (by simp [e])
          have ht : i ∉ t := fun e => hn (by simp [e])
          show (L2.wipe (σ.set i x) t).set b none = ((L2.wipe σ t).set b none).set i x
          rw [ih ht, List.set_comm _ _ hb]
      rw [this hi, List.set_set]
theorem wipe_setAll {t : List Nat} : ∀ {is : List Nat} {vs : List V} {σ : L2.St}, (∀ i ∈ is, i ∈ t) → L2.wipe (setAll σ is vs) t = L2.wipe σ t
  | [], vs, σ, _ => rfl
  | i :: is, [], σ, _ => rfl
  | i :: is, v :: vs, σ, h => by
    show L2.wipe (setAll (σ.set i (some v)) is vs) t = _
    rw [wipe_setAll fun j hj => h j (by simp [hj]), wipe_set (h i (by simp))]
/-- a target's names -/
def gNs : List Nat → TGs
  | [] => gNil
  | i :: is => gCons (gName i) (gNs is)
def gD (K : PySem.W.Frag) (t : List Nat) : TG := match t with
  | [i] => gName i
  | is => fun v σ H Q => gTup K is.length (gNs is) v σ H Q ∨ gLst K is.length (gNs is) v σ H Q
theorem gNs_run : ∀ {is : List Nat} {vs : List V} {σ : L2.St} {Q : L2.St → Hp → Prop}, is.length = vs.length → Q (setAll σ is vs) H → gNs is vs σ H Q
  | [], [], σ, Q, _, q => ⟨rfl, q⟩
  | [], _ :: _, σ, Q, h, q => by simp at h
  | _ :: _, [], σ, Q, h, q => by simp at h
  | i :: is, v :: vs, σ, Q, h, q => ⟨v, vs, rfl, gNs_run (by simpa using h) q⟩
theorem putNs_rel : ∀ {is : List Nat} {rs : List Rv} {vs : List V} {Hf F : Hp} {s s' : Sto} {σ : L2.St} {u : Unit}, Rel Z Hf H F s σ → RRs Z Hf H s σ F rs vs → (∀ j, Rv.b j ∉ rs) → putNs is rs s = .ok u s' → is.length = vs.length ∧ Rel Z Hf H F s' (setAll σ is vs)
  | [], [], vs, Hf, F, s, s', σ, u, R, q, nb, h => by
    have : vs = [] := q
    subst this
    cases h
    exact ⟨rfl, R⟩
  | [], r :: rs, vs, Hf, F, s, s', σ, u, R, q, nb, h => by cases h
  | i :: is, [], vs, Hf, F, s, s', σ, u, R, q, nb, h => by cases h
  | i :: is, r :: rs, vs, Hf, F, s, s', σ, u, R, q, nb, h => by
    obtain ⟨v, w, rfl, i1, i2⟩ := q
    have h : bnd (Wd.putR s i r) (fun _ s => putNs is rs s) = .ok u s' := h
    cases q : Wd.putR s i r with
    | bad w => rw [q] at h; cases h
    | ex e s2 => exact absurd q putR_no
    | ok u s2 =>
      rw [q] at h
      obtain ⟨R2, hl, z, rfl, hz⟩ := putR_nb R (fun j e => nb j (e ▸ List.mem_cons_self ..)) i1 q
      obtain ⟨e1, e2⟩ := putNs_rel R2 (RRs.put hz hl R.len (nb_tail nb) i2 (addT_sub i1)) (nb_tail nb) h
      exact ⟨by simp [e1], e2⟩
/-- a turn's target -/
theorem gD_run {t : List Nat} {x : V} {u : Unit} {Q : L2.St → Hp → Prop} (hK : X.K = Z.K) (R : Rel Z Hf H F s σ) (q : Isd Z Hf d x) (h : putTg s t d = .ok u s') (k : ∀ xs, Rel Z Hf H F s' (setAll σ t xs) → Q (setAll σ t xs) H) : gD X.K t x σ H Q := by
  unfold putTg at h
  split at h
  · rename_i i
    have h : bnd (Wd.putR s i (.v d)) (fun _ s => putNs [] [] s) = .ok u s' := by rw [h]; rfl
    obtain ⟨_, R2⟩ := putNs_rel (is := [i]) (rs := [.v d]) (vs := [x]) R ⟨x, [], rfl, q, rfl⟩ (by simp) h
    exact k [x] R2
  · rename_i hn
    unfold putTup at h
    split at h
    · rename_i l
      unfold Isd at q
      obtain ⟨a, xs, rfl, h2, h3⟩ := q
      obtain ⟨e1, R2⟩ := putNs_rel R (rrs_v (rs := []) h3) (by simp) h
      have e : gD X.K t = fun v σ H Q => gTup X.K t.length (gNs t) v σ H Q ∨ gLst X.K t.length (gNs t) v σ H Q := by
        unfold gD
        split
        · exact absurd rfl (hn _)
        · rfl
      rw [e]
      exact .inl ⟨a, xs, rfl, by rw [hK]; exact sqt_mono R.sub h2, e1.symm, gNs_run e1 (k xs R2)⟩
    · rename_i l
      unfold Isd at q
      obtain ⟨a, xs, rfl, h2, h3⟩ := q
      obtain ⟨e1, R2⟩ := putNs_rel R (rrs_v (rs := []) h3) (by simp) h
      have e : gD X.K t = fun v σ H Q => gTup X.K t.length (gNs t) v σ H Q ∨ gLst X.K t.length (gNs t) v σ H Q := by
        unfold gD
        split
        · exact absurd rfl (hn _)
        · rfl
      rw [e]
      exact .inr ⟨a, xs, rfl, SqL.of (R.sub _ _ h2), e1.symm, gNs_run e1 (k xs R2)⟩
    · cases h
end
end Wd
-- WdSd27
set_option linter.all false
set_option maxRecDepth 100000
set_option maxHeartbeats 2000000
set_option Elab.async false
/-! [e for t in it if c]. -/
namespace Wd
open PySem L2 PySem.Spec PyProof.Rows
def lcEnd (s0 : Sto) (t : List Nat) (acc : List D) (s : Sto) : Res Rv := .ok (.n (.lst acc)) (back s s0 t)
theorem putNs_no : ∀ {is : List Nat} {rs : List Rv} {s s2 : Sto} {e : D}, putNs is rs s ≠ .ex e s2
  | [], [], s, s2, e => fun z => by cases z
  | [], _ :: _, s, s2, e => fun z => by cases z
  | _ :: _, [], s, s2, e => fun z => by cases z
  | i :: is, r :: rs, s, s2, e => fun z => by
    have z : bnd (Wd.putR s i r) (fun _ s => putNs is rs s) = .ex e s2 := z
    cases q : Wd.putR s i r with
    | bad w => rw [q] at z; cases z
    | ex e s2 => exact absurd q putR_no
    | ok u s3 => rw [q] at z; exact putNs_no z
theorem putTg_no {t : List Nat} {d e : D} {s s2 : Sto} : putTg s t d ≠ .ex e s2 := by
  unfold putTg
  split
  · exact putR_no
  · unfold putTup
    split
    · exact putNs_no
    · exact putNs_no
    · exact fun z => by cases z
/-- the new list is part of the frame -/
def fD (D : Addr) (a : List V) (F : Hp) : Hp := fun p => if p = D then some (.lst a) else F p
section
variable {α β : Type} {Z : Wo} {B : Nat → Option Addr} {W : WX} {X : Cx} {Hf Hf' H H' F F' : Hp} {s s' : Sto} {σ σ' : L2.St} {v : V} {d d' : Wd.D} {r : Rv} {T : Tab} {C : Str → List Sl → CRes} {i : Nat} {a a' : List V} {D : Addr}
theorem fD_at : fD D a F D = some (.lst a) := by unfold fD; rw [if_pos rfl]
theorem Rel.updD (R : Rel Z Hf H (fD D a F) s σ) : Rel Z Hf (upd H D (.lst a')) (fD D a' F) s σ := by
  obtain ⟨hD, hfD⟩ := R.fr D _ fD_at
  refine ⟨fun p o e => ?_, fun p o e => ?_, R.len, R.fz, fun j d h => ?_, R.ap, R.bo⟩
  · have : p ≠ D := by rintro rfl; rw [hfD] at e; cases e
    rw [upd_ne this]; exact R.sub p o e
  · unfold fD at e
    by_cases hp : p = D
    · subst hp
      rw [if_pos rfl] at e
      cases e
      exact ⟨upd_same, hfD⟩
    · rw [if_neg hp] at e
      rw [upd_ne hp]
      exact R.fr p o (by unfold fD; rw [if_neg hp]; exact e)
  · obtain ⟨p, o, k1, k2, k3, k4, k5⟩ := R.ow j d h
    have : p ≠ D := by rintro rfl; rw [fD_at] at k3; cases k3
    refine ⟨p, o, k1, k2, ?_, by rw [upd_ne this]; exact k4, k5⟩
    unfold fD at k3 ⊢
    rw [if_neg this] at k3 ⊢
    exact k3
theorem Rel.newD (R : Rel Z Hf H F s σ) (hD : H D = none) : Rel Z Hf (upd H D (.lst [])) (fD D [] F) s σ := by
  have R2 := R.alloc (o := .lst []) hD
  refine ⟨R2.sub, fun p o e => ?_, R.len, R.fz, fun j d h => ?_, R.ap, R.bo⟩
  · unfold fD at e
    by_cases hp : p = D
    · subst hp
      rw [if_pos rfl] at e
      cases e
      exact ⟨upd_same, R.hf_none hD⟩
    · rw [if_neg hp] at e
      exact R2.fr p o e
  · obtain ⟨p, o, k1, k2, k3, k4, k5⟩ := R.ow j d h
    have : p ≠ D := by rintro rfl; rw [hD] at k4; cases k4
    refine ⟨p, o, k1, k2, ?_, by rw [upd_ne this]; exact k4, k5⟩
    unfold fD
    rw [if_neg this]
    exact k3
theorem noEx_bind {x : Res α} {k : α → Sto → Res β} {kk : β → Sto → Hp → Hp → Prop} (h : Po Z W Hf F σ (bnd (noEx x) k) kk) : Po Z WF Hf F' σ' x fun a s _ Hf' => Po Z W Hf' F σ (k a s) kk := by
  cases x with
  | ok a s => exact fun H' Hf2 e2 R => Po.mono (x := k a s) h e2
  | ex a s => exact h.elim
  | bad w => exact h
theorem noEx_bind2 {γ : Type} {x : Res γ} {f : γ → Sto → Res α} {k : α → Sto → Res β} {kk : β → Sto → Hp → Hp → Prop} (h : Po Z W Hf F σ (bnd (noEx (bnd x f)) k) kk) : Po Z WF Hf F' σ' x fun a s _ Hf' => Po Z W Hf' F σ (bnd (noEx (f a s)) k) kk := by
  cases x with
  | ok a s => exact fun H' Hf2 e2 R => Po.mono (x := bnd (noEx (f a s)) k) h e2
  | ex a s => exact h.elim
  | bad w => exact h
theorem wipe_wipe : ∀ {t : List Nat} {σ : L2.St}, (∀ i ∈ t, True) → L2.wipe (L2.wipe σ t) t = L2.wipe σ t := fun {t σ} _ => by
  apply List.ext_getElem?
  intro i
  by_cases hi : i ∈ t
  · have key : ∀ {σ : L2.St} {t : List Nat}, i ∈ t → (L2.wipe σ t)[i]? = if i < σ.length then some none else none := fun {σ t} => by
      induction t with
      | nil => intro h; simp at h
      | cons b t ih =>
        intro h
        unfold L2.wipe
        by_cases hb : b = i
        · subst hb
          by_cases hl : b < σ.length
          · rw [List.getElem?_set_self (by rw [wipe_length]; exact hl), if_pos hl]
          · rw [List.getElem?_eq_none (by rw [List.length_set, wipe_length]; omega), if_neg hl]
        · rw [List.getElem?_set_ne hb]
          refine ih ?_
          rcases List.mem_cons.mp h with h | h
          · exact absurd h.symm hb
          · exact h
    rw [key hi, key hi, wipe_length]
  · rw [wipe_out hi]
theorem lc_run {t o2 : List Nat} {it : Ii} {cs : Ia} {ie : Ie} {Q : VK} (hK : X.K = Z.K) (h : tE Z W (evE T C (.lc (.one t it cs ie) o2)) σ H Q) : tLc (tI Z W (evI T C it)) (gD X.K t) (tT Z WF (fun s => evCs T C cs s)) (tE Z WF (evE T C ie)) t σ H Q := by
  obtain ⟨Hf, F, st, R0, h⟩ := h
  rw [evE] at h
  refine ⟨Hf, F, st, R0, h.bind.imp fun l s1 H1 Hf1 e1 R1 h J wk => fun D hD => ?_⟩
  split at h
  · rename_i hfr
    refine ⟨fun i m H => m = l.length - i ∧ i ≤ l.length ∧ ∃ Hf2 s2 acc accV, Same Hf1 Hf2 ∧ Rel Z Hf2 H (fD D accV F) (Wd.wipe s2 t) (L2.wipe σ t) ∧ Isl Z Hf2 acc accV ∧
      Po Z W Hf2 F σ (bnd (lcL t (fun s => noEx (evCs T C cs s)) (fun s acc => noEx (bnd (fz (evE T C ie s)) fun x s => grow acc x s)) (l.drop i) s2 acc) (lcEnd s1 t)) (fun r s' H' Hf' => ∀ v, RR Z Hf' H' F s' σ r v → Q v H'),
      ⟨l.length, by simp, Nat.zero_le _, Hf1, s1, [], [], Same.refl _, (R1.newD hD).wipe t, isl_nil.mpr rfl, h⟩, ?_⟩
    rintro i m H2 ⟨rfl, hil, Hf2, s2, acc, accV, sm2, R2, i2, h2⟩
    have hF : ∀ p o, F p = some o → fD D accV F p = some o := fun p o e => by
      unfold fD
      rw [if_neg]
      · exact e
      · rintro rfl
        rw [R1.f_none hD] at e; cases e
    by_cases hlt : i < l.length
    · right
      refine ⟨wk.go i H2 hlt (sm2.trans R2.sub), fun H' => ∃ Hf2 s2 acc accV, Same Hf1 Hf2 ∧ Rel Z Hf2 H' (fD D accV F) (Wd.wipe s2 t) (L2.wipe σ t) ∧ Isl Z Hf2 acc accV ∧
        Po Z W Hf2 F σ (bnd (lcL t (fun s => noEx (evCs T C cs s)) (fun s acc => noEx (bnd (fz (evE T C ie s)) fun x s => grow acc x s)) (l.drop (i + 1)) s2 acc) (lcEnd s1 t)) (fun r s' H' Hf' => ∀ v, RR Z Hf' H' F s' σ r v → Q v H'),
        fun H' q => ⟨_, (by omega : l.length - (i + 1) < l.length - i), rfl, hlt, q⟩, fun x H3 y => ?_⟩
      obtain ⟨Hf3, sm3, R3, i3⟩ := wk.yld i l[i] Hf2 H2 (fD D accV F) (Wd.wipe s2 t) (L2.wipe σ t) x H3 (by simp [hlt]) sm2 R2 y
      rw [List.drop_eq_getElem_cons hlt] at h2
      have h3 := h2.mono sm3
      unfold lcL at h3
      rw [bnd_bnd] at h3
      cases q : putTg (Wd.wipe s2 t) t l[i] with
      | bad w => rw [q] at h3; exact h3.elim
      | ex e s4 => exact absurd q putTg_no
      | ok u s4 =>
        rw [q] at h3
        refine gD_run hK R3 i3 q fun xs R4 => ⟨by rw [wipe_setAll fun j hj => hj, wipe_wipe fun _ _ => trivial], ?_⟩
        have h4 : Po Z W Hf3 F σ (bnd (bnd (noEx (evCs T C cs s4)) fun b s => if b = true then bnd (noEx (bnd (fz (evE T C ie s)) fun x s => grow acc x s)) fun acc s => lcL t (fun s => noEx (evCs T C cs s)) (fun s acc => noEx (bnd (fz (evE T C ie s)) fun x s => grow acc x s)) (l.drop (i + 1)) s acc else lcL t (fun s => noEx (evCs T C cs s)) (fun s acc => noEx (bnd (fz (evE T C ie s)) fun x s => grow acc x s)) (l.drop (i + 1)) s acc) (lcEnd s1 t)) _ := h3
        rw [bnd_bnd] at h4
        refine ⟨Hf3, fD D accV F, s4, R4, (noEx_bind h4).imp fun b s5 H5 Hf5 sm5 R5 h5 => ?_⟩
        have sw : L2.wipe (setAll (L2.wipe σ t) t xs) t = L2.wipe σ t := by rw [wipe_setAll fun j hj => hj, wipe_wipe fun _ _ => trivial]
        cases b with
        | false =>
          refine iteF ⟨Hf5, s5, acc, accV, sm2.trans (sm3.trans sm5), ?_, i2.mono (sm3.trans sm5), h5⟩
          have := R5.wipe t
          rw [sw] at this
          exact this
        | true =>
          have h5 : Po Z W Hf5 F σ (bnd (bnd (noEx (bnd (fz (evE T C ie s5)) fun x s => grow acc x s)) fun acc s => lcL t (fun s => noEx (evCs T C cs s)) (fun s acc => noEx (bnd (fz (evE T C ie s)) fun x s => grow acc x s)) (l.drop (i + 1)) s acc) (lcEnd s1 t)) _ := h5
          rw [bnd_bnd, fz_bnd] at h5
          refine iteT ⟨Hf5, fD D accV F, s5, R5, (noEx_bind2 h5).imp fun r s6 H6 Hf6 sm6 R6 h6 yv ry => ?_⟩
          obtain ⟨hD6, hfD6⟩ := R6.fr D _ fD_at
          unfold frzR at h6
          cases q6 : Wd.frz r s6 with
          | none => rw [q6] at h6; exact h6.elim
          | some w =>
            obtain ⟨d6, s7⟩ := w
            rw [q6] at h6
            obtain ⟨Hf7, sm7, R7, i7, _⟩ := R6.frzW ry q6
            have h7 : Po Z W Hf6 F σ (bnd (noEx (grow acc d6 s7)) fun acc s => bnd (lcL t (fun s => noEx (evCs T C cs s)) (fun s acc => noEx (bnd (fz (evE T C ie s)) fun x s => grow acc x s)) (l.drop (i + 1)) s acc) (lcEnd s1 t)) _ := h6
            unfold grow at h7
            split at h7
            · rename_i hz
              refine ⟨accV, hD6, by rw [← i2.length]; exact Nat.lt_of_lt_of_le hz lim_le, Hf7, s7, acc ++ [d6], accV ++ [yv], sm2.trans (sm3.trans (sm5.trans (sm6.trans sm7))), ?_, (i2.mono (sm3.trans (sm5.trans (sm6.trans sm7)))).append (.one i7), h7.mono sm7⟩
              have := (R7.updD (a' := accV ++ [yv])).wipe t
              rw [sw] at this
              exact this
            · exact h7.elim
    · left
      have e : i = l.length := by omega
      subst e
      rw [List.drop_length] at h2
      refine ⟨wk.stop H2 (sm2.trans R2.sub), ?_⟩
      have h2 : Po Z W Hf2 F σ (lcEnd s1 t acc s2) (fun r s' H' Hf' => ∀ v, RR Z Hf' H' F s' σ r v → Q v H') := h2
      obtain ⟨hD2, hfD2⟩ := R2.fr D _ fD_at
      have Rb : Rel Z Hf2 H2 (fD D accV F) (Wd.back s2 s1 t) σ := Rel.back R1 R2 sm2 (fun _ _ q => q) hfr
      refine h2 H2 Hf2 (Same.refl _) (Rb.weak hF) _ ⟨D, _, rfl, hfD2, R1.f_none hD, hD2, ⟨accV, rfl, i2⟩, fun j e he z => ?_⟩
      obtain ⟨p, o, k1, k2, k3, k4, k5⟩ := Rb.ow j e he
      rw [z] at k1
      have : p = D := by simpa using k1.symm
      subst this
      rw [fD_at] at k3; cases k3
  · exact h.elim
theorem s_lc {elt tg iter : Expr} {ifs : List Expr} {scope : Scope} {own : List (Str × Nat)} {pos : Pos} {t o2 : List Nat} {it : Ii} {cs : Ia} {ie : Ie} (hc : X.calm = true) (hK : X.K = Z.K) (hN : X.N.Nodup) (hi : PI X tg iter (tI Z W (evI T C it))) (ok : BlkOk X.N X.env.scope scope own) (ht : own.map (·.2) = t)
    (hg : ∀ (s : Shared) (H : Hp) (L : Addr) (cl : List (Str × Addr)) (fp : List Addr), PG (X.blk s H scope (compEnvC scope cl L X.env) fp) tg (gD X.K t))
    (htt : ∀ (s : Shared) (H : Hp) (L : Addr) (cl : List (Str × Addr)) (fp : List Addr), PTs (X.blk s H scope (compEnvC scope cl L X.env) fp) ifs (tT Z WF (fun s => evCs T C cs s)))
    (he : ∀ (s : Shared) (H : Hp) (L : Addr) (cl : List (Str × Addr)) (fp : List Addr), PE (X.blk s H scope (compEnvC scope cl L X.env) fp) elt (tE Z WF (evE T C ie)))
    (hs : ∀ x, foldedSetIterable iter X.env x = pure x) : PE X (.ListComp elt [⟨tg, iter, ifs, 0⟩] scope pos) (tE Z W (evE T C (.lc (.one t it cs ie) o2))) := by
  refine ⟨fun pins s σ H Q I h => (pe_lc hc hN hi ok hg htt he hs).run pins s σ H Q I ?_⟩
  rw [ht]
  exact lc_run hK h
/-- name = [..] -/
theorem s_setLc {elt tg iter : Expr} {ifs : List Expr} {scope : Scope} {own : List (Str × Nat)} {y : Str} {py pos spos : Pos} {t o2 : List Nat} {it : Ii} {cs : Ia} {ie : Ie} {i Wh : Nat} (hc : X.calm = true) (hK : X.K = Z.K) (hN : X.N.Nodup) (hy : X.N[i]? = some y) (hyl : X.env.scope.names.lookup y = some .local)
    (hsw : swapsWith (.ListComp elt [⟨tg, iter, ifs, 0⟩] scope pos) (some (.Name y py)) spos.line X.env = pure true) (hi : PI X tg iter (tI Z W (evI T C it))) (ok : BlkOk X.N X.env.scope scope own) (ht : own.map (·.2) = t)
    (hg : ∀ (s : Shared) (H : Hp) (L : Addr) (cl : List (Str × Addr)) (fp : List Addr), PG (X.blk s H scope (compEnvC scope cl L X.env) fp) tg (gD X.K t))
    (htt : ∀ (s : Shared) (H : Hp) (L : Addr) (cl : List (Str × Addr)) (fp : List Addr), PTs (X.blk s H scope (compEnvC scope cl L X.env) fp) ifs (tT Z WF (fun s => evCs T C cs s)))
    (he : ∀ (s : Shared) (H : Hp) (L : Addr) (cl : List (Str × Addr)) (fp : List Addr), PE (X.blk s H scope (compEnvC scope cl L X.env) fp) elt (tE Z WF (evE T C ie)))
    (hs : ∀ x, foldedSetIterable iter X.env x = pure x) : PS X (.Assign [.Name y py] (.ListComp elt [⟨tg, iter, ifs, 0⟩] scope pos) spos) (tS Z W (evS T C Wh (.set (.nm i) (.lc (.one t it cs ie) o2)))) :=
  ps_weak (ps_setLc hc hN hy hyl hsw hi ok hg htt he hs) fun D σ H h => by
    obtain ⟨Hf, F, st, R, h⟩ := h
    rw [evS] at h
    show tLc _ _ _ _ (own.map (·.2)) σ H _
    rw [ht]
    refine lc_run hK ⟨Hf, F, st, R, h.bind.imp fun r s1 H1 Hf1 e1 R1 h v rv => ?_⟩
    have h : PoS Z W Hf1 F (bnd (Wd.putR s1 i r) fun _ s => .ok .nx s) D := h
    cases q : Wd.putR s1 i r with
    | ok u s2 =>
      rw [q] at h
      obtain ⟨Hf2, sm, R2⟩ := R1.putR rv q
      exact (PoS.mono (x := .ok .nx s2) h sm).nx R2
    | ex e s2 => exact absurd q putR_no
    | bad w => rw [q] at h; exact h.elim
end
end Wd
-- WdSd28
set_option linter.all false
set_option maxRecDepth 100000
set_option maxHeartbeats 2000000
set_option Elab.async false
/-! New instances of own classes. -/
namespace Wd
open PySem L2 PySem.Spec PyProof.Rows
section
variable {Z : Wo} {B : Nat → Option Addr} {W : WX} {X : Cx} {Hf Hf' H H' F F' : Hp} {s s' : Sto} {σ : L2.St} {v : V} {d d' : Wd.D} {r : Rv} {T : Tab} {C : Str → List Sl → CRes} {o : HO} {x dx : Addr}
/-- a new object ahead of what is handed over -/
theorem lok_new (hx : H x = none) (hd : H dx = none) {u : HO} (H2 : Hp) (hH : H2 = upd (upd H dx u) x o) : ∀ {ks : List Lk} {vs : List V} {F F2 : Hp}, (∀ p, p ≠ x → F2 p = F p) → LOk Z Hf H s σ F ks vs → LOk Z Hf H2 s σ F2 ks vs
  | [], vs, F, F2, hF, h => h
  | k :: ks, vs, F, F2, hF, h => by
    obtain ⟨v, w, rfl, h2⟩ := h
    refine ⟨v, w, rfl, ?_⟩
    cases k with
    | fr d => exact ⟨h2.1, lok_new hx hd H2 hH hF h2.2⟩
    | sl i => exact ⟨h2.1, lok_new hx hd H2 hH hF h2.2⟩
    | tm d =>
      obtain ⟨h3, h4⟩ := h2
      obtain ⟨q, ob, rfl, g2, g3, g4, g5, g6⟩ := h3
      have qx : q ≠ x := by rintro rfl; rw [hx] at g4; cases g4
      have qd : q ≠ dx := by rintro rfl; rw [hd] at g4; cases g4
      have hq : H2 q = some ob := by rw [hH, upd_ne qx, upd_ne qd]; exact g4
      refine ⟨⟨q, ob, rfl, g2, by rw [hF q qx]; exact g3, hq, g5, g6⟩, lok_new hx hd H2 hH (fun p hp => ?_) h4⟩
      show (if p = q then H2 q else F2 p) = (if p = q then H q else F p)
      rw [hq, g4, hF p hp]
theorem mkI_ok {c : Str} {fd : FD} {rs : List Rv} {vs : List V} {Q : VK} {E : XK} (hf : fdOf T (c ++ ".__init__") = some fd) (hl : vs.length + 1 = fd.ps.length) (kn : T.cls.contains c = true → Z.kn c) (R : Rel Z Hf H F s σ) (rr : RRs Z Hf H s σ F rs vs)
    (hE : ∀ cls d H', E cls d H' = W cls d σ H')
    (h : Po Z W Hf F σ (mkI T C c rs s) fun r s' H' Hf' => ∀ v, RR Z Hf' H' F s' σ r v → Q v H') (hx : H x = none) (hd : H dx = none) (hdx : dx ≠ x) :
    spF Z (C (c ++ ".__init__")) fd.ps.length (.ref x :: vs) (upd (upd H dx (.own x)) x (.ins (Z.cA c) dx [])) (fun v H2 => v = .non ∧ Q (.ref x) H2) E := by
  unfold mkI at h
  rw [hf] at h
  simp only at h
  split at h
  · rename_i hk
    have knc := kn hk
    cases e1 : lendAll fd.io.tail rs s with
    | none => rw [e1] at h; exact h.elim
    | some q =>
      obtain ⟨ks, sl, s1⟩ := q
      rw [e1] at h
      simp only at h
      unfold lendAll at e1
      cases e2 : lend fd.io.tail rs s with
      | none => rw [e2] at e1; cases e1
      | some q =>
        obtain ⟨ks', s1'⟩ := q
        rw [e2] at e1
        simp only at e1
        split at e1
        · rename_i nd
          obtain ⟨sl', e3, e4⟩ := Option.map_eq_some_iff.mp e1
          cases e4
          obtain ⟨Hf1, sm, R1, L⟩ := lend_ok R rr e2
          have hx1 : upd H dx (.own x) x = none := by rw [upd_ne (Ne.symm hdx)]; exact hx
          have R2 : Rel Z Hf1 (upd H dx (.own x)) F s1 σ := R1.alloc hd
          have R3 : Rel Z Hf1 (upd (upd H dx (.own x)) x (.ins (Z.cA c) dx [])) F s1 σ := R2.alloc hx1
          have rn : RR Z Hf1 (upd (upd H dx (.own x)) x (.ins (Z.cA c) dx [])) F s1 σ (.n (.ins c [] [])) (.ref x) := R2.allocN hx1 ⟨dx, [], rfl, rfl, isl_nil.mpr rfl, knc⟩
          have L2' : LOk Z Hf1 (upd (upd H dx (.own x)) x (.ins (Z.cA c) dx [])) s1 σ F (.tm (.ins c [] []) :: ks) (.ref x :: vs) :=
            ⟨_, _, rfl, rn, lok_new hx hd _ rfl (fun p hp => by
              show (if p = x then _ else F p) = F p
              rw [if_neg hp]) L⟩
          have nd2 : nodup (lentIx (.tm (.ins c [] []) :: ks)) = true := nd
          have e5 : finAll s1 (.tm (.ins c [] []) :: ks) = some (.bo (.ins c [] []) :: sl) := by
            unfold finAll
            rw [e3]; rfl
          refine ⟨by simpa using hl, Hf1, calF F _ s1 σ (lentIx (.tm (.ins c [] []) :: ks)), _, callee_rel R3 L2' nd2 e5, ?_⟩
          cases e6 : C (c ++ ".__init__") (.bo (.ins c [] []) :: sl) with
          | bad w => rw [e6] at h; exact h.elim
          | ex e outs =>
            rw [e6] at h
            cases outs with
            | nil => exact h.elim
            | cons z outs =>
              have h : Po Z W Hf F σ (match takeBack ks outs s1 with | some s => .ex e s | none => .bad "take back") _ := h
              cases e7 : takeBack ks outs s1 with
              | none => rw [e7] at h; exact h.elim
              | some s2 =>
                rw [e7] at h
                intro H' Hf' cls d sm' A q
                rw [hE]
                exact h cls d H' Hf' (sm.trans sm') (after_rel R3 L2' nd2 (show takeBack (.tm (.ins c [] []) :: ks) (z :: outs) s1 = some s2 from e7) sm' A) q
          | ok r outs =>
            rw [e6] at h
            have key : ∃ d os, r = .v .non ∧ outs = .bo d :: os ∧ Po Z W Hf F σ (match takeBack ks os s1 with | some s => .ok (.n d) s | none => .bad "take back") fun r s' H' Hf' => ∀ v, RR Z Hf' H' F s' σ r v → Q v H' := by
              cases r with
              | v d0 =>
                cases d0 with
                | non =>
                  cases outs with
                  | nil => exact h.elim
                  | cons z os =>
                    cases z with
                    | bo d => exact ⟨d, os, rfl, rfl, h⟩
                    | _ => exact h.elim
                | _ => exact h.elim
              | _ => exact h.elim
            obtain ⟨d, os, rfl, rfl, g⟩ := key
            cases e7 : takeBack ks os s1 with
            | none => rw [e7] at g; exact g.elim
            | some s2 =>
              rw [e7] at g
              have tb : takeBack (.tm (.ins c [] []) :: ks) (.bo d :: os) s1 = some s2 := e7
              intro H' Hf' v sm' A q
              have hv : v = .non := by
                have q : Isd Z Hf' .non v := q
                unfold Isd at q; exact q
              refine ⟨hv, g H' Hf' (sm.trans sm') (after_rel R3 L2' nd2 tb sm' A) (.ref x) ?_⟩
              obtain ⟨p, ob, k1, k2, k3, k4, k5⟩ := A.out 0 d rfl
              have : x = p := by simpa using k1
              subst this
              refine ⟨x, ob, rfl, k2, (calF_none R3 k3).1, k4, k5, fun i e he z => ?_⟩
              obtain ⟨d0, h0⟩ := back_own nd2 tb he
              obtain ⟨p', o', g1, g2, g3, g4, g5⟩ := R1.ow i d0 h0
              rw [z] at g1
              have : x = p' := by simpa using g1
              subst this
              rw [hx] at g4; cases g4
        · cases e1
  · exact h.elim
end
end Wd
-- WdSd29
set_option linter.all false
set_option maxRecDepth 100000
set_option maxHeartbeats 2000000
set_option Elab.async false
/-! Makes, methods, attributes at their places. -/
namespace Wd
open PySem L2 PySem.Spec PyProof.Rows
def shift : List Pm → List Pm
  | [] => []
  | .a k :: pm => .a (k + 1) :: shift pm
  | .d v :: pm => .d v :: shift pm
theorem pmV_shift (x : V) (all : List V) : ∀ pm : List Pm, pmV (shift pm) (x :: all) = pmV pm all
  | [] => rfl
  | .a k :: pm => by
    show (x :: all).getD (k + 1) .non :: pmV (shift pm) (x :: all) = all.getD k .non :: pmV pm all
    rw [pmV_shift x all pm]; rfl
  | .d v :: pm => by
    show toV v :: pmV (shift pm) (x :: all) = toV v :: pmV pm all
    rw [pmV_shift x all pm]
section
variable {Z : Wo} {B : Nat → Option Addr} {W : WX} {X : Cx} {Hf Hf' H H' F F' : Hp} {s s' : Sto} {σ : L2.St} {v : V} {d d' : Wd.D} {r : Rv} {T : Tab} {C : Str → List Sl → CRes}
/-- how a method's parameters are bound: self, then as pm says -/
def BindM (K : PySem.W.Frag) (fdt : FuncData) (ps : List Str) (pm : List Pm) (n : Nat) (ks : List Str) : Prop := ∃ g, KBn K fdt ps (n + 1) ks g (fun vs zs => pmV (.a 0 :: shift pm) (vs ++ zs))
theorem pmV_self (x : V) (vs zs : List V) (pm : List Pm) : pmV (.a 0 :: shift pm) ((x :: vs) ++ zs) = x :: pmV pm (vs ++ zs) := by
  show (x :: (vs ++ zs)).getD 0 .non :: pmV (shift pm) (x :: (vs ++ zs)) = _
  rw [pmV_shift]; rfl
theorem s_mk {CX : CXT} {k : Nat} {fa : Addr} {fdt : FuncData} {ps ks : List Str} {c x : Str} {fd : FD} {pm : List Pm} {es : List Expr} {kws : List Keyword} {p pos : Pos} {ia ik : Ia} {E0 : XK}
    (M : Mk X.K (Z.cA c) fa) (gd : X.A.guards = some []) (Fn : FnG X.prog X.w X.K X.mg X.base CX k fa fdt ps (spF Z (C (c ++ ".__init__")) ps.length)) (hr : Room (k + 1) X.A) (hg : Gl X x) (hm : X.mg x = some (.ref (Z.cA c))) (hb : BindM X.K fdt ps pm es.length ks) (hx : Passes CX X E0) (hW : ∀ cls d σ H, W cls d σ H = E0 cls d H)
    (kn : T.cls.contains c = true → Z.kn c) (hf : fdOf T (c ++ ".__init__") = some fd) (hps : fd.ps.length = ps.length) (hpm : pm.length + 1 = ps.length) (hsc : pmScal pm = true) (ha : PA X es (tA (Z.wB B) W (evA T C ia))) (h0 : es = [] → ia = .nil) (hkw : PK X kws (tA (Z.wB B) W (evA T C ik))) (hp : es.all plain = true) (hks : kws.map (·.arg) = ks.map some)
    (hdb : (x == ("__debug__" : Str)) = false) : PE X (.Call (.Name x p) es kws pos) (tE (Z.wB B) W (evE T C (.mk c pm es.length ks.length ia ik))) := by
  obtain ⟨g, hb⟩ := hb
  refine ⟨fun pins s σ H Q I h => ?_⟩
  obtain ⟨Hf, F, st, R, h⟩ := h
  rw [evE] at h
  have run := args_run (G := fun vs H2 => ∀ y dx, H2 y = none → H2 dx = none → dx ≠ y → spF Z (C (c ++ ".__init__")) ps.length (.ref y :: vs) (upd (upd H2 dx (.own y)) y (.ins (Z.cA c) dx [])) (fun v H3 => v = .non ∧ Q (.ref y) H3) E0) hsc (fun _ _ q => q) R h fun ts s2 H2 Hf2 vs e2 R2 r2 hl h y dx hy hd hdx => by
    have := mkI_ok (Z := Z.wB B) (E := E0) hf (by rw [hl, hpm, hps]) kn R2 r2 (fun cls d H' => (hW cls d σ H').symm) h hy hd hdx
    rw [hps] at this
    exact spF_B this
  obtain ⟨k1, k2, k3⟩ := kw_all (env := X.env) (pos := pos) hks
  refine wpAny_Call_Name_kw (ld_glob I hg hm ?_ hdb)
  cases es with
  | nil =>
    have := h0 rfl
    subst this
    obtain ⟨Hf1, F1, s1, R1, run⟩ := run
    rw [evA] at run
    have run := run.at R1 [] rfl
    refine PySem.W.callWith_KW0 (h₀ := X.base) I.ok.mod.kin M.kp k1 (thn (hkw.run pos pins s σ H _ I run.2) fun ws s2 ⟨zs, H2, I2, rz, l2, q2⟩ => ⟨I2.kIn, ?_⟩) (by rw [k3]; rfl)
    rw [k2]
    refine run_makeNG (us := []) M Fn gd hr hb hx I2 .nil rz rfl l2 fun y dx hy hd hdx => ?_
    rw [pmV_self]
    exact q2 y dx hy hd hdx
  | cons e es =>
    have hp' := hp
    rw [List.all_cons, Bool.and_eq_true] at hp'
    refine PySem.W.callWith_KW (h₀ := X.base) I.ok.mod.kin M.kp k1 (thn (ha.run pos pins s σ H _ I run) fun us s1 ⟨vs, H1, I1, r, l1, q⟩ => ?_) (by rw [k3, back_plain hp]; rfl) (star_plain hp'.1)
    refine thn (hkw.run pos pins s1 σ H1 _ I1 q) fun ws s2 ⟨zs, H2, I2, rz, l2, q2⟩ => ⟨I2.kIn, ?_⟩
    rw [k2]
    refine run_makeNG M Fn gd hr hb hx I2 r rz l1 l2 fun y dx hy hd hdx => ?_
    rw [pmV_self]
    exact q2 y dx hy hd hdx
end
end Wd
-- WdSd30
set_option linter.all false
set_option maxRecDepth 100000
set_option maxHeartbeats 2000000
set_option Elab.async false
/-! Attributes. -/
namespace Wd
open PySem L2 PySem.Spec PyProof.Rows
section
variable {Z : Wo} {B : Nat → Option Addr} {W : WX} {X : Cx} {Hf Hf' H H' F F' : Hp} {s s' : Sto} {σ : L2.St} {v : V} {d d' : Wd.D} {r : Rv} {T : Tab} {C : Str → List Sl → CRes}
theorem getpropG {CX : CXT} {k : Nat} {K0 p g a dx : Addr} {fs : List (Str × V)} {f : Str} {fd : FuncData} {ps : List Str} {sp : Sp} {E : XK} {pins : List (Addr × Obj)} {sh : Shared} {Q : VK} {b : Bool} {E' : Value → Shared → Prop} (I : L2.Inv X pins σ H sh) (ea : H a = some (.ins K0 dx fs)) (c : Cls X.K K0) (hp : PropOf X.K K0 f p g)
    (gd : X.A.guards = some []) (Fn : FnG X.prog X.w X.K X.mg X.base CX k g fd ps sp) (hr : Room (k + 1) X.A) (hb : Binds X.K fd ps []) (hx : Passes CX X.nox E) (h : sp [.ref a] H Q E) :
    wpAny (model X.prog X.w) X.A (getAttr (.ref a) f b) (EP X pins σ Q) E' sh := by
  obtain ⟨mA, O, _, _, _, _⟩ := ins_get I.hok ea
  obtain ⟨od, J, _⟩ := O.look
  obtain ⟨rest, hrec⟩ := hp.rec_
  have I1 := I.tok (sh.toks + 1)
  have hl : ([Value.ref a] ++ []).length = ps.length := (Fn.len _ _ _ _ h)
  refine PySem.W.get_bind I.kIn J (PySem.W.plainGet_of (c.get f)).1 (PySem.W.findObj_data (by
    obtain ⟨cd, hc, _⟩ := PySem.W.any_some c.hd
    rw [hc]; rfl) hp.at_ hp.get hp.tak) (PySem.W.plainGet_of (c.get f)).2 (wpAny_call (PySem.W.prop_get (s := { sh with toks := sh.toks + 1 }) I.kIn hrec ?_))
  refine codeAny_mono (Fn.run X.A.in1 X.stack { sh with toks := sh.toks + 1 } H ⟨[.ref a], []⟩ [.ref a] [.ref a] Q E (g_in1 gd) hr.in1 I1.env0.in1 (hb _ [.ref a] I1.kIn hl) (.cons rfl .nil) h) fun r s' hq => ?_
  cases r with
  | error er => exact False.elim (hx pins σ H { sh with toks := sh.toks + 1 } er s' (I1.wish _) hq)
  | ok fl =>
    cases fl with
    | ret u =>
      obtain ⟨v, H', I3, rv, q3⟩ := I1.after hq
      show wpAny _ _ (handedOut u) _ _ _
      rw [PySem.W.handedOut_of (handed_of rv)]
      exact wpAny_pure ⟨v, H', I3, rv, q3⟩
    | next => exact False.elim hq
    | brk => exact False.elim hq
    | cont => exact False.elim hq
/-- the properties of own classes -/
structure PrOk (X : Cx) (Z : Wo) (T : Tab) (C : Str → List Sl → CRes) (CX : CXT) (k : Nat) : Prop where
  pr : ∀ c f, Z.kn c → T.props.contains (c, f) = true → ∃ p g fdt ps fd, PropOf X.K (Z.cA c) f p g ∧ FnG X.prog X.w X.K X.mg X.base CX k g fdt ps (spF Z (C (c ++ "." ++ f)) ps.length) ∧ Binds X.K fdt ps [] ∧ fdOf T (c ++ "." ++ f) = some fd ∧ fd.ps.length = ps.length ∧ ps.length = 1
theorem fld_val {f : Str} : ∀ {ns : List Str} {l : List Wd.D} {vs : List V}, ns.length = vs.length → Isl Z Hf l vs → (ns.zip l).lookup f = some d → ∃ v, (ns.zip vs).lookup f = some v ∧ Isd Z Hf d v
  | [], l, vs, hl, h, e => by simp at e
  | q :: ns, [], vs, hl, h, e => by simp at e
  | q :: ns, x :: l, vs, hl, h, e => by
    obtain ⟨y, w, rfl, h1, h2⟩ := isl_cons.mp h
    rw [List.zip_cons_cons, List.lookup_cons] at e ⊢
    split
    · rename_i hq
      rw [hq] at e
      cases e
      exact ⟨y, rfl, h1⟩
    · rename_i hq
      rw [hq] at e
      exact fld_val (by simpa using hl) h2 e
theorem noEx_po {α : Type} {x : Res α} {kk : α → Sto → Hp → Hp → Prop} (h : Po Z W Hf F σ (noEx x) kk) : Po Z WF Hf F σ x kk := by
  cases x with
  | ok a s => exact h
  | ex a s => exact h.elim
  | bad w => exact h
theorem s_attr {CX : CXT} {k : Nat} {o : Expr} {io : Ie} {f : Str} {pos : Pos} (G : CxOk X Z) (FD : FdOk X Z T) (gd : X.A.guards = some []) (P : PrOk X Z T C CX k) (hr : Room (k + 1) X.A) (hx : Passes CX X.nox (fun _ _ _ => False)) (ho : PE X o (tE (Z.wB B) W (evE T C io))) (hb : okBase o = true) :
    PE X (.Attribute o f pos) (tE (Z.wB B) W (evE T C (.attr io f))) := by
  refine ⟨fun pins s σ H Q I h => ?_⟩
  obtain ⟨Hf, F, st, R, h⟩ := h
  rw [evE] at h
  have key : tE (Z.wB B) W (evE T C io) σ H fun v H1 => (∃ a C0 dx fs w, v = .ref a ∧ H1 a = some (.ins C0 dx fs) ∧ Cls X.K C0 ∧ NoAttr X.K C0 f ∧ fs.lookup f = some w ∧ Q w H1) ∨
      (∃ a c dx fs, v = .ref a ∧ H1 a = some (.ins (Z.cA c) dx fs) ∧ Z.kn c ∧ T.props.contains (c, f) = true ∧ ∀ fd, fdOf T (c ++ "." ++ f) = some fd → fd.ps.length = 1 → spF Z (C (c ++ "." ++ f)) 1 [.ref a] H1 Q (fun _ _ _ => False)) := by
    refine t_one R h fun x s1 H1 Hf1 v1 e1 R1 r1 h => ?_
    obtain ⟨d, hd, h⟩ := h.bind.opt R1
    have p := rep_of R1 r1 hd
    unfold attrF at h
    cases d with
    | ins c ns l =>
      obtain ⟨a, dx, vs, rfl, h1, h2, h3, kn⟩ := p.ins R1.sub
      simp only at h
      split at h
      · rename_i hf
        obtain ⟨rr, hrr, h⟩ := Po.optP h
        obtain ⟨w, hw, rfl⟩ := Option.map_eq_some_iff.mp hrr
        obtain ⟨v, g1, g2⟩ := fld_val h1 h3 hw
        exact .inl ⟨a, Z.cA c, dx, ns.zip vs, v, rfl, h2, (G.cls c kn).cl, FD.na c f kn hf, g1, ret_v h R1 g2⟩
      · split at h
        · rename_i _ hpr
          refine .inr ⟨a, c, dx, ns.zip vs, rfl, h2, kn, hpr, fun fd hfd hl => ?_⟩
          have := callF_ok (E := fun _ _ _ => False) (rs := [x]) (vs := [.ref a]) hfd (by rw [hl]; rfl) R1 (show RRs (Z.wB B) Hf1 H1 s1 σ F [x] [.ref a] from ⟨_, _, rfl, r1, rfl⟩) (fun _ _ _ => rfl) (noEx_po h)
          rw [hl] at this
          exact spF_B this
        · exact h.elim
    | _ => exact h.elim
  refine attr_of (base_ok hb) (thn (ho.run pins s σ H _ I key) fun u s1 ⟨y, H1, I1, ry, q⟩ => ?_)
  rcases q with ⟨a, C0, dx, fs, w, rfl, ea, c, n, l, q⟩ | ⟨a, c, dx, fs, rfl, ea, kn, hpr, q⟩
  · obtain rfl : u = Value.ref a := ry
    exact getattr_ok I1 ea c n l fun u' s2 I2 ru => ⟨w, H1, I2, ru, q⟩
  · obtain rfl : u = Value.ref a := ry
    obtain ⟨p, g, fdt, ps, fd, e1, e2, e3, e4, e5, e6⟩ := P.pr c f kn hpr
    refine getpropG I1 ea (G.cls c kn).cl e1 gd e2 hr e3 hx ?_
    rw [e6]
    exact q fd e4 (by rw [e5, e6])
end
end Wd
-- WdSd31
set_option linter.all false
set_option maxRecDepth 100000
set_option maxHeartbeats 2000000
set_option Elab.async false
/-! Methods of own classes. -/
namespace Wd
open PySem L2 PySem.Spec PyProof.Rows
theorem kw_len {env : Env} {pos : Pos} : ∀ {ks : List Keyword}, (backToKw pos (keywordEach ks env)).isEmpty = ks.isEmpty
  | [] => rfl
  | ⟨_, _, _⟩ :: _ => rfl
def fewOk (es : List Expr) (kws : List Keyword) : Bool := decide (es.length + kws.length + (if kws.isEmpty then 0 else 1) < 30)
theorem meth_eq {o : Expr} {name : Str} {apos pos : Pos} {es : List Expr} {kws : List Keyword} {ks : List Str} {env : Env} (hb : okBase o = true) (hp : es.all plain = true) (hks : kws.map (·.arg) = ks.map some) (hn : fewOk es kws = true) (hl : (apos.endLine == pos.line) = true) :
    eval (.Call (.Attribute o name apos) es kws pos) env = (do
      let ov ← eval o env
      standAt apos.atName
      let (f, first) ← holding [ov] (getMethod ov name (do return (← importBound o env).getD true))
      callWith pos f first (backTo pos (starEach es env)) (backToKw pos (keywordEach kws env))) := by
  rw [arm_eval_Call, base_ok hb]
  have e1 : methodCallForm (es.length + kws.length) (backTo pos (starEach es env)) (backToKw pos (keywordEach kws env)) = true := by
    unfold methodCallForm
    rw [back_len hp, (kw_all hks).1, kw_len]
    simpa [fewOk] using hn
  have e2 : methodCallPos true o env apos pos = pure pos := by
    unfold methodCallPos
    simp [hl]
  have e3 : ∀ ov, calleeOf true o env ov name = getMethod ov name (do return (← importBound o env).getD true) := fun _ => rfl
  simp only [methodCall, e1, e2, e3, pure_bind]
section
variable {Z : Wo} {B : Nat → Option Addr} {W : WX} {X : Cx} {Hf Hf' H H' F F' : Hp} {s s' : Sto} {σ : L2.St} {v : V} {d d' : Wd.D} {r : Rv} {T : Tab} {C : Str → List Sl → CRes}
theorem look_zip {f : Str} : ∀ {ns : List Str} {vs : List V}, ns.contains f = false → (ns.zip vs).lookup f = none
  | [], vs, h => by simp
  | n :: ns, [], h => by simp
  | n :: ns, v :: vs, h => by
    rw [List.contains_cons, Bool.or_eq_false_iff] at h
    rw [List.zip_cons_cons, List.lookup_cons, h.1]
    exact look_zip h.2
/-- the methods called f -/
def MtOk (X : Cx) (Z : Wo) (T : Tab) (C : Str → List Sl → CRes) (CX : CXT) (k : Nat) (f : Str) (pm : List Pm) (n : Nat) (ks : List Str) : Prop :=
  ∀ c fd, Z.kn c → fdOf T (c ++ "." ++ f) = some fd → ∃ g fdt ps, Meth X.K (Z.cA c) f g ∧ FnG X.prog X.w X.K X.mg X.base CX k g fdt ps (spF Z (C (c ++ "." ++ f)) ps.length) ∧ BindM X.K fdt ps pm n ks ∧ fd.ps.length = ps.length ∧ pm.length + 1 = ps.length
theorem s_meth {CX : CXT} {k : Nat} {ks : List Str} {f : Str} {pm : List Pm} {o : Expr} {io : Ie} {es : List Expr} {kws : List Keyword} {apos pos : Pos} {ia ik : Ia} {E0 : XK} (G : CxOk X Z)
    (gd : X.A.guards = some []) (M : MtOk X Z T C CX k f pm es.length ks) (hr : Room k X.A) (hx : Passes CX X E0) (hW : ∀ cls d σ H, W cls d σ H = E0 cls d H) (hsc : pmScal pm = true) (ho : PE X o (tE (Z.wB B) W (evE T C io))) (ha : PA X es (tA (Z.wB B) W (evA T C ia))) (h0 : es = [] → ia = .nil) (hkw : PK X kws (tA (Z.wB B) W (evA T C ik)))
    (hb : okBase o = true) (hp : es.all plain = true) (hks : kws.map (·.arg) = ks.map some) (hn : fewOk es kws = true) (hl : (apos.endLine == pos.line) = true) :
    PE X (.Call (.Attribute o f apos) es kws pos) (tE (Z.wB B) W (evE T C (.meth f io pm es.length ks.length ia ik))) := by
  refine ⟨fun pins s σ H Q I h => ?_⟩
  obtain ⟨Hf, F, st, R, h⟩ := h
  rw [evE] at h
  have key : tE (Z.wB B) W (evE T C io) σ H fun v H1 => ∃ a c dx fs fd, v = .ref a ∧ H1 a = some (.ins (Z.cA c) dx fs) ∧ fs.lookup f = none ∧ Z.kn c ∧ fdOf T (c ++ "." ++ f) = some fd ∧
      tA (Z.wB B) W (evA T C ia) σ H1 fun vs H2 => vs.length = es.length ∧ tA (Z.wB B) W (evA T C ik) σ H2 fun zs H3 => zs.length = ks.length ∧ (pm.length + 1 = fd.ps.length → spF Z (C (c ++ "." ++ f)) fd.ps.length (.ref a :: pmV pm (vs ++ zs)) H3 Q E0) := by
    refine t_one R h fun x s1 H1 Hf1 v1 e1 R1 r1 h => ?_
    obtain ⟨d, hd, h⟩ := h.bind.opt R1
    obtain ⟨c, hc, gg⟩ := h.bind.opt R1
    have p := rep_of R1 r1 hd
    unfold clsOf at hc
    split at hc
    · rename_i c0 ns l
      split at hc
      · cases hc
      · rename_i hnn
        cases hc
        obtain ⟨a, dx, vs0, rfl, h1, h2, h3, kn⟩ := p.ins R1.sub
        have hnf : ns.contains f = false := by
          cases q : ns.contains f with
          | false => rfl
          | true => exact absurd (.inl q) hnn
        cases hfd : fdOf T (c ++ "." ++ f) with
        | none => exact absurd (.inr (by rw [hfd]; rfl)) hnn
        | some fd =>
          refine ⟨a, c, dx, ns.zip vs0, fd, rfl, h2, look_zip hnf, kn, hfd, ?_⟩
          refine args_run (G := fun vs H3 => pm.length + 1 = fd.ps.length → spF Z (C (c ++ "." ++ f)) fd.ps.length (.ref a :: vs) H3 Q E0) hsc (addT_sub r1) (R1.add r1) gg fun ts s2 H2 Hf2 vs e2 R2 r2 hlv h hpl => ?_
          have rx : RRs (Z.wB B) Hf2 H2 s2 σ F (x :: ts) (.ref a :: vs) := ⟨_, _, rfl, r1.later e2 R2, by rw [addT_eq r1 R2]; exact r2⟩
          exact spF_B (callF_ok (E := E0) hfd (by rw [List.length_cons, hlv, hpl]) (R2.weak (addT_sub r1)) rx (fun cls d H' => (hW cls d σ H').symm) h)
    · cases hc
  obtain ⟨k1, k2, k3⟩ := kw_all (env := X.env) (pos := pos) hks
  rw [meth_eq hb hp hks hn hl]
  refine wpAny_bind (thn (ho.run pins s σ H _ I key) fun u s1 ⟨y, H1, I1, ry, a, c, dx, fs, fd, ey, ea, hl0, kn, hfd, run⟩ => wpAny_bind (wpAny_standAt (wpAny_bind (wpAny_holding ?_))))
  subst ey
  obtain rfl : u = Value.ref a := ry
  obtain ⟨g, fdt, ps, m1, m2, ⟨gg, m3⟩, m4, m5⟩ := M c fd kn hfd
  have hpl : pm.length + 1 = fd.ps.length := by rw [m5, m4]
  refine getmeth_ok I1 ea (G.cls c kn).cl m1 hl0 ?_
  have fin : ∀ {s2 : Shared} {H2 : Hp} {us ws : List Value} {vs zs : List V}, Inv X pins σ H2 s2 → Vals vs us → Vals zs ws → vs.length = es.length → zs.length = ks.length → (pm.length + 1 = fd.ps.length → spF Z (C (c ++ "." ++ f)) fd.ps.length (.ref a :: pmV pm (vs ++ zs)) H2 Q E0) →
      wpAny (model X.prog X.w) X.A (call (.ref g) (.ref a :: us) (ks.zip ws)) (EP X pins σ Q) X.xe s2 := fun {s2 H2 us ws vs zs} I2 rv rz l1 l2 q => by
    refine run_fnNG (us := .ref a :: us) (vs := .ref a :: vs) m2 gd hr m3 hx I2 (.cons rfl rv) rz (by rw [List.length_cons, l1]) l2 ?_
    rw [pmV_self, ← m4]
    exact q hpl
  cases es with
  | nil =>
    have := h0 rfl
    subst this
    obtain ⟨Hf1, F1, s1', R1, run⟩ := run
    rw [evA] at run
    have run := run.at R1 [] rfl
    refine PySem.W.callWith_KW0 (first := [.ref a]) (h₀ := X.base) I.ok.mod.kin m1.kp k1 (thn (hkw.run pos pins s1 σ H1 _ I1 run.2) fun ws s2 ⟨zs, H2, I2, rz, l2, q2⟩ => ⟨I2.kIn, ?_⟩) (by rw [k3]; rfl)
    rw [k2]
    exact fin (us := []) I2 .nil rz rfl l2 q2
  | cons e es =>
    have hp' := hp
    rw [List.all_cons, Bool.and_eq_true] at hp'
    refine PySem.W.callWith_KW (first := [.ref a]) (h₀ := X.base) I.ok.mod.kin m1.kp k1 (thn (ha.run pos pins s1 σ H1 _ I1 run) fun us s2 ⟨vs, H2, I2, r, l1, q⟩ => ?_) (by rw [k3, back_plain hp]; rfl) (star_plain hp'.1)
    refine thn (hkw.run pos pins s2 σ H2 _ I2 q) fun ws s3 ⟨zs, H3, I3, rz, l2, q2⟩ => ⟨I3.kIn, ?_⟩
    rw [k2]
    exact fin I3 r rz l1 l2 q2
end
end Wd
-- WdSd32
set_option linter.all false
set_option maxRecDepth 100000
set_option maxHeartbeats 2000000
set_option Elab.async false
/-! Conditions of a comprehension; plain names of a block. -/
namespace Wd
open PySem L2 PySem.Spec PyProof.Rows
section
variable {Z : Wo} {B : Nat → Option Addr} {W : WX} {X : Cx} {Hf Hf' H H' F F' : Hp} {s s' : Sto} {σ : L2.St} {v : V} {d d' : Wd.D} {r : Rv} {T : Tab} {C : Str → List Sl → CRes}
theorem pts_weak {es : List Expr} {t t' : TT} (h : PTs X es t) (w : ∀ σ H Q, t' σ H Q → t σ H Q) : PTs X es t' := ⟨fun pins s σ H Q I q => h.run pins s σ H Q I (w σ H Q q)⟩
theorem c_nil : PTs X [] (tT Z W (fun s => evCs T C .nil s)) := pts_weak pts_nil fun σ H Q h => by
  obtain ⟨Hf, F, s, R, h⟩ := h
  simp only [evCs] at h
  exact h.at R
theorem evCs_one (ic : Ie) (s : Sto) : evCs T C (.cons ic .nil) s = evT T C ic s := by
  rw [evCs]
  unfold evT rd
  cases h1 : evE T C ic s with
  | bad _ => rfl
  | ex _ _ => rfl
  | ok x s1 =>
    cases hp : peek x s1 with
    | none => simp [bnd, Wd.opt, hp]
    | some d =>
      cases ht : truth d with
      | none => simp [bnd, Wd.opt, hp, ht]
      | some k => cases k <;> simp [bnd, Wd.opt, hp, ht, evCs]
theorem c_one {c : Expr} {ic : Ie} (h : PT X c (tT Z W (evT T C ic))) : PTs X [c] (tT Z W (fun s => evCs T C (.cons ic .nil) s)) := pts_weak (pts_one h) fun σ H Q h => by
  obtain ⟨Hf, F, s, R, h⟩ := h
  simp only [evCs_one] at h
  exact ⟨Hf, F, s, R, h⟩
end
end Wd
-- WdSd33
set_option linter.all false
set_option maxRecDepth 100000
set_option maxHeartbeats 2000000
set_option Elab.async false
/-! Names of the module, built-in types. -/
namespace Wd
open PySem L2 PySem.Spec PyProof.Rows
section
variable {Z : Wo} {B : Nat → Option Addr} {W : WX} {X : Cx} {Hf Hf' H H' F F' : Hp} {s s' : Sto} {σ : L2.St} {v : V} {d d' : Wd.D} {r : Rv} {T : Tab} {C : Str → List Sl → CRes}
theorem s_glob {x : Str} {u : Value} {pos : Pos} (hg : Gl X x) (hm : X.mg x = some u) (hr : RelV v u) (hd : ∀ Hf, Isd Z Hf d v) (hdb : (x == ("__debug__" : Str)) = false) : PE X (.Name x pos) (tE Z W (evE T C (.con d))) := by
  refine ⟨fun pins s σ H Q I h => ld_glob I hg hm ⟨v, H, I, hr, ?_⟩ hdb⟩
  exact tE_con hd (fun s => by rw [evE]) h
theorem s_bty {x : Str} {n : String} {pos : Pos} (N : BiN X x (.type n)) : PE X (.Name x pos) (tE Z W (evE T C (.con (.ty n)))) := by
  refine ⟨fun pins s σ H Q I h => ld_blt I N.gl N.mg N.bt ⟨.ty n, H, I, rfl, ?_⟩ N.nn N.nd⟩
  exact tE_con (d := .ty n) (v := .ty n) (fun Hf => by unfold Isd; rfl) (fun s => by rw [evE]) h
theorem s_fail {e : Expr} {ie : Ie} (hf : ∀ s, ∃ w, evE T C ie s = .bad w) : PE X e (tE Z W (evE T C ie)) := ⟨fun pins s σ H Q I h => by
  obtain ⟨Hf, F, st, R, h⟩ := h
  obtain ⟨w, e⟩ := hf st
  rw [e] at h
  exact h.elim⟩
end
end Wd
-- WdSd34
set_option linter.all false
set_option maxRecDepth 100000
set_option maxHeartbeats 2000000
set_option Elab.async false
/-! x.count(y), x.index(y), whole numbers. -/
namespace Wd
open PySem L2 PySem.Spec PyProof.Rows
section
variable {Z : Wo} {W : WX} {X : Cx} {Hf Hf' H H' F F' : Hp} {s s' : Sto} {σ : L2.St} {v : V} {d d' : D} {r : Rv} {T : Tab} {C : Str → List Sl → CRes} {Q : VK} {i : Nat} {p : Addr} {o : HO}
theorem mt_lst {K : PySem.W.Frag} {m : Mt} {x : Rv} (R : Rel Z Hf H F s σ) (rx : RR Z Hf H F s σ x v) (hp : peek x s = some d) (ok : mtOk m d = true) (hm : m = .count ∨ m = .index) : tyV K "list" v H := by
  have hd : ∃ l, d = .lst l := by
    rcases hm with rfl | rfl <;> (cases d <;> first | exact ⟨_, rfl⟩ | cases ok)
  obtain ⟨l, rfl⟩ := hd
  obtain ⟨a, vs, rfl, h2, h3⟩ := (rep_of R rx hp).lst R.sub
  exact .inl ⟨rfl, vs, SqL.of h2⟩
theorem E_mtr0 (m : Mt) (o : Ie) (as : Ia) (s : Sto) (h : isMut m = false) : evE T C (.mt m o as) s = bnd (evE T C o s) fun x s => bnd (opt "peek" (peek x s) s) fun d s => if mtOk m d = true then bnd (evA T C as s) fun rs s => bnd (opt "peek" (peek x s) s) fun d s => bnd (opt "peek" (rds rs s) s) fun ds s => opt "method" (mt m d ds) s else .bad "method: its type" := by rw [evE, h]
theorem findIdx_int : ∀ {ns : List Int} {x : Int} {k : Nat}, ns.idxOf? x = some k → ns[k]? = some x ∧ ∀ m, m < k → ns[m]? ≠ some x
  | [], x, k, h => by simp at h
  | a :: l, x, k, h => by
    rw [List.idxOf?_cons] at h
    by_cases e : a = x
    · subst e
      simp at h
      subst h
      exact ⟨rfl, fun m hm => absurd hm (by omega)⟩
    · rw [if_neg (by simpa using e)] at h
      obtain ⟨j, hj, rfl⟩ := Option.map_eq_some_iff.mp h
      obtain ⟨h1, h2⟩ := findIdx_int hj
      refine ⟨by simpa using h1, fun m hm => ?_⟩
      cases m with
      | zero => simpa using e
      | succ m => simpa using h2 m (by omega)
theorem mt_count_inv {d : D} {ds : List D} {rr : Rv} (h : mt .count d ds = some rr) : ∃ l k ns, d = .lst l ∧ ds = [.int k] ∧ ints? l = some ns ∧ rr = .v (.int (ns.count k : Nat)) := by
  match d, ds, h with
  | .lst l, [.int k], h =>
    obtain ⟨ns, h1, h2⟩ := Option.map_eq_some_iff.mp (show (ints? l).map _ = some rr from h)
    exact ⟨l, k, ns, rfl, rfl, h1, h2.symm⟩
theorem mt_index_inv {d : D} {ds : List D} {rr : Rv} (h : mt .index d ds = some rr) : ∃ l k ns j, d = .lst l ∧ ds = [.int k] ∧ ints? l = some ns ∧ ns.idxOf? k = some j ∧ rr = .v (.int (j : Nat)) := by
  match d, ds, h with
  | .lst l, [.int k], h =>
    obtain ⟨ns, h1, h2⟩ := Option.bind_eq_some_iff.mp (show (ints? l).bind _ = some rr from h)
    obtain ⟨j, h3, h4⟩ := Option.map_eq_some_iff.mp h2
    exact ⟨l, k, ns, j, rfl, rfl, h1, h3, h4.symm⟩
theorem s_count {o e : Expr} {io : Ie} {ia : Ia} {apos cpos : Pos} (ho : PE X o (tE Z W (evE T C io))) (ha : PA X [e] (tA Z W (evA T C ia))) (hb : okBase o = true) (hl : (apos.endLine == cpos.line) = true) (hp : plain e = true) :
    PE X (.Call (.Attribute o "count" apos) [e] [] cpos) (tE Z W (evE T C (.mt .count io ia))) := by
  refine ⟨fun pins s σ H Q I h => (pe_bm (r := rCntI X.K) PySem.F.plainAttrs_list PySem.F.slot_list_count PySem.F.type_list_count mt_lcount ho ha (base_ok hb) (by rw [star_plain hp]; rfl) hl (star_plain hp) rfl).run pins s σ H Q I ?_⟩
  obtain ⟨Hf, F, st, R, h⟩ := h
  rw [E_mtr0 .count _ _ _ rfl] at h
  refine t_one R h fun x s1 H1 Hf1 v1 e1 R1 r1 h => ?_
  obtain ⟨d0, hd0, h⟩ := h.bind.opt R1
  split at h
  · rename_i ok
    refine ⟨mt_lst R1 r1 hd0 ok (.inl rfl), ?_⟩
    refine ⟨Hf1, addT F H1 x v1, s1, R1.add r1, (h.bind.frame (addT_sub r1)).imp fun rs s2 H2 Hf2 e2 R2 h vs r2 => ?_⟩
    obtain ⟨d, hd, h⟩ := h.bind.opt (R2.weak (addT_sub r1))
    obtain ⟨ds, hds, h⟩ := h.bind.opt (R2.weak (addT_sub r1))
    obtain ⟨rr, hr, h⟩ := Po.optP h
    have q1 := rep_of (R2.weak (addT_sub r1)) (r1.later e2 R2) hd
    have q2 := reps_of (R2.weak (addT_sub r1)) (r2.weak (addT_sub r1)) hds
    obtain ⟨l, k, ns, rfl, rfl, hns, rfl⟩ := mt_count_inv hr
    obtain ⟨a, us, rfl, h2, h3⟩ := q1.lst R2.sub
    obtain ⟨w, rfl, q3⟩ := reps1 q2
    obtain rfl := ints_isl hns h3
    obtain rfl := q3.int
    exact ⟨a, ns, k, rfl, rfl, SqL.of h2, h _ Hf2 (Same.refl _) (R2.weak (addT_sub r1)) _ (isd_int (Z := Z) (Hf := Hf2))⟩
  · exact h.elim
theorem s_index {o e : Expr} {io : Ie} {ia : Ia} {apos cpos : Pos} (ho : PE X o (tE Z W (evE T C io))) (ha : PA X [e] (tA Z W (evA T C ia))) (hb : okBase o = true) (hl : (apos.endLine == cpos.line) = true) (hp : plain e = true) :
    PE X (.Call (.Attribute o "index" apos) [e] [] cpos) (tE Z W (evE T C (.mt .index io ia))) := by
  refine ⟨fun pins s σ H Q I h => (pe_bm (r := rIndex X.K) PySem.F.plainAttrs_list PySem.F.slot_list_index PySem.F.type_list_index mt_index ho ha (base_ok hb) (by rw [star_plain hp]; rfl) hl (star_plain hp) rfl).run pins s σ H Q I ?_⟩
  obtain ⟨Hf, F, st, R, h⟩ := h
  rw [E_mtr0 .index _ _ _ rfl] at h
  refine t_one R h fun x s1 H1 Hf1 v1 e1 R1 r1 h => ?_
  obtain ⟨d0, hd0, h⟩ := h.bind.opt R1
  split at h
  · rename_i ok
    refine ⟨mt_lst R1 r1 hd0 ok (.inr rfl), ?_⟩
    refine ⟨Hf1, addT F H1 x v1, s1, R1.add r1, (h.bind.frame (addT_sub r1)).imp fun rs s2 H2 Hf2 e2 R2 h vs r2 => ?_⟩
    obtain ⟨d, hd, h⟩ := h.bind.opt (R2.weak (addT_sub r1))
    obtain ⟨ds, hds, h⟩ := h.bind.opt (R2.weak (addT_sub r1))
    obtain ⟨rr, hr, h⟩ := Po.optP h
    have q1 := rep_of (R2.weak (addT_sub r1)) (r1.later e2 R2) hd
    have q2 := reps_of (R2.weak (addT_sub r1)) (r2.weak (addT_sub r1)) hds
    obtain ⟨l, k, ns, j, rfl, rfl, hns, hj, rfl⟩ := mt_index_inv hr
    obtain ⟨g1, g2⟩ := findIdx_int hj
    obtain ⟨a, us, rfl, h2, h3⟩ := q1.lst R2.sub
    obtain ⟨w, rfl, q3⟩ := reps1 q2
    obtain rfl := ints_isl hns h3
    obtain rfl := q3.int
    refine ⟨a, ns.map V.int, .int k, j, .int k, rfl, rfl, SqL.of h2, rfl, ?_, by rw [List.getElem?_map, g1]; rfl, ?_, ?_, h _ Hf2 (Same.refl _) (R2.weak (addT_sub r1)) _ (isd_int (Z := Z) (Hf := Hf2))⟩
    · rw [List.all_eq_true]
      intro y hy
      obtain ⟨i, _, rfl⟩ := List.mem_map.mp hy
      rfl
    · exact beq_self_eq_true k
    · intro m z' hm hz
      rw [List.getElem?_map] at hz
      obtain ⟨i, hi, rfl⟩ := Option.map_eq_some_iff.mp hz
      refine beq_eq_false_iff_ne.mpr fun e => g2 m hm ?_
      rw [hi, e]
  · exact h.elim
end
end Wd
-- WdSd35
set_option linter.all false
set_option maxRecDepth 100000
set_option maxHeartbeats 2000000
set_option Elab.async false
/-! Displays of dicts: none, one entry. -/
namespace Wd
open PySem L2 PySem.Spec PyProof.Rows
section
variable {Z : Wo} {W : WX} {X : Cx} {Hf Hf' H H' F F' : Hp} {s s' : Sto} {σ : L2.St} {v : V} {d d' : D} {r : Rv} {T : Tab} {C : Str → List Sl → CRes} {Q : VK} {i : Nat} {p : Addr} {o : HO}
theorem s_dct0 {pos : Pos} : PE X (.Dict [] [] pos) (tE Z W (evE T C (.dct .nil .nil))) := by
  refine ⟨fun pins s σ H Q I h => pe_dnewK.run pins s σ H Q I ?_⟩
  obtain ⟨Hf, F, st, R, h⟩ := h
  have e : evE T C (.dct .nil .nil) st = .ok (.n (.dct [] [])) st := by rw [evE, evA]; rfl
  rw [e] at h
  exact fun p hp => ret_n h R hp ⟨[], rfl, rfl, isl_nil.mpr rfl⟩
def dctR (ks : List D) (vs : List Rv) (s : Sto) : Res Rv := match fzs vs s with
  | some (l, s) => opt "keys" ((ks.mapM keyOf).map fun ks => let r := (ks.zip l).foldl (fun (a : List (Sum Int Str) × List D) p => kput a.1 a.2 p.1 p.2) ([], []); .n (.dct r.1 r.2)) s
  | none => .bad "freeze"
theorem E_dct1 (ik iv : Ie) (s : Sto) : evE T C (.dct (.cons ik .nil) (.cons iv .nil)) s = bnd (evE T C ik s) fun x s => bnd (evE T C iv s) fun y s => bnd (opt "peek" (rds [x] s) s) fun ks s => dctR ks [y] s := by
  rw [evE, evA]
  cases evE T C ik s with
  | bad w => rfl
  | ex e s => rfl
  | ok x s =>
    show bnd (evA T C (.cons iv .nil) s) _ = bnd (evE T C iv s) _
    rw [evA]
    cases evE T C iv s with
    | bad w => rfl
    | ex e s => rfl
    | ok y s => rfl
/-- what waits in the frame is written -/
theorem Rel.wrt (R : Rel Z Hf H F' s σ) (hs : ∀ q o, F q = some o → F' q = some o) {o0 : HO} (h1 : F' p = some o0) (h2 : F p = none) : Rel Z Hf (upd H p o) F s σ := by
  have hn := (R.fr p o0 h1).2
  refine ⟨fun a u e => ?_, fun q u e => ?_, R.len, R.fz, fun i d e => ?_, R.ap, R.bo⟩
  · have ne : a ≠ p := fun z => by rw [z, hn] at e; cases e
    rw [upd_ne ne]; exact R.sub a u e
  · have ne : q ≠ p := fun z => by rw [z, h2] at e; cases e
    rw [upd_ne ne]; exact R.fr q u (hs q u e)
  · obtain ⟨q, u, g1, g2, g3, g4, g5⟩ := R.ow i d e
    have ne : q ≠ p := fun z => by rw [z, h1] at g3; cases g3
    refine ⟨q, u, g1, g2, ?_, by rw [upd_ne ne]; exact g4, g5⟩
    cases hF : F q with
    | none => rfl
    | some u' => have := hs q u' hF; rw [g3] at this; cases this
theorem s_dct1 {k e : Expr} {ik iv : Ie} {pos : Pos} (hk : PE X k (tE Z W (evE T C ik))) (hv : PE X e (tE Z W (evE T C iv))) : PE X (.Dict [some k] [e] pos) (tE Z W (evE T C (.dct (.cons ik .nil) (.cons iv .nil)))) := by
  refine ⟨fun pins s σ H Q I h => (pe_disp (pps_cons hk hv pps_nil) rfl rfl (by simp) (by simp)).run pins s σ H Q I ?_⟩
  obtain ⟨Hf, F, st, R, h⟩ := h
  rw [E_dct1] at h
  intro p hp
  have R0 := R.alloc hp (o := .dK [])
  have q0 : RR Z Hf (upd H p (.dK [])) F st σ (.n (.dct [] [])) (.ref p) := R.allocN hp ⟨[], rfl, rfl, isl_nil.mpr rfl⟩
  have f0 : F p = none := by
    cases hF : F p with
    | none => rfl
    | some u => have := (R.fr p u hF).1; rw [hp] at this; cases this
  have b0 : addT F (upd H p (.dK [])) (.n (.dct [] [])) (.ref p) p = some (.dK []) := by
    show (if p = p then upd H p (.dK []) p else F p) = _
    rw [if_pos rfl]; exact upd_same
  refine t_oneF (addT_sub q0) (R0.add q0) h fun x s1 H1 Hf1 v1 e1 R1 r1 h => ?_
  have b1 := addT_sub r1 _ _ b0
  refine t_oneF (fun q o e => addT_sub r1 _ _ (addT_sub q0 _ _ e)) (R1.add r1) h fun y s2 H2 Hf2 v2 e2 R2 r2 h => ?_
  have hsub : ∀ q o, F q = some o → addT (addT F (upd H p (.dK [])) (.n (.dct [] [])) (.ref p)) H1 x v1 q = some o := fun q o e => addT_sub r1 _ _ (addT_sub q0 _ _ e)
  have hH := (R2.fr p _ b1).1
  obtain ⟨ks, hks, h⟩ := h.bind.opt (R2.weak hsub)
  have Rk := reps_of (R2.weak (addT_sub r1)) (rs := [x]) (vs := [v1]) ⟨v1, [], rfl, r1.later e2 R2, rfl⟩ hks
  have hd : ∃ kd, ks = [kd] := by
    unfold rds at hks
    rw [List.mapM_cons] at hks
    cases hp : peek x s2 with
    | none => rw [hp] at hks; cases hks
    | some kd => rw [hp] at hks; exact ⟨kd, by cases hks; rfl⟩
  obtain ⟨kd, rfl⟩ := hd
  obtain ⟨v1', hv1, q1⟩ := reps1 Rk
  cases hv1
  unfold dctR at h
  cases hz : fzs [y] s2 with
  | none => simp only [hz] at h; exact h.elim
  | some w =>
    obtain ⟨l, s3⟩ := w
    simp only [hz] at h
    obtain ⟨Hf3, e3, R3, i3⟩ := fzs_ok R2 (rs := [y]) (vs := [v2]) ⟨v2, [], rfl, r2, rfl⟩ hz
    obtain ⟨rr, hr, h⟩ := Po.optP h
    cases hkk : keyOf kd with
    | none => rw [List.mapM_cons, hkk] at hr; cases hr
    | some kk =>
      have hl : ∃ d, l = [d] := by
        have := i3.length
        match l, this with
        | [d], _ => exact ⟨d, rfl⟩
      obtain ⟨d, rfl⟩ := hl
      have hr' : rr = .n (.dct [kk] [d]) := by
        rw [List.mapM_cons, hkk] at hr
        cases hr; rfl
      subst hr'
      refine ⟨hH, [(kk, v2)], by rw [keyOf_kV hkk q1]; rfl, by simp, ?_⟩
      have R4 : Rel Z Hf3 (upd H2 p (.dK [(kk, v2)])) F s3 σ := R3.wrt hsub b1 f0
      refine h _ Hf3 e3 R4 _ ⟨p, .dK [(kk, v2)], rfl, (R3.fr p _ b1).2, f0, upd_same, ⟨[v2], rfl, rfl, i3⟩, fun i e he z => ?_⟩
      obtain ⟨q, u, g1, g2, g3, g4, g5⟩ := R3.ow i e he
      rw [g1] at z
      cases z
      rw [b1] at g3
      cases g3
end
end Wd
-- WdSd36
set_option linter.all false
set_option maxRecDepth 100000
set_option maxHeartbeats 2000000
set_option Elab.async false
/-! list(range(..)), len(set(..)). -/
namespace Wd
open PySem L2 PySem.Spec PyProof.Rows
section
variable {Z : Wo} {B : Nat → Option Addr} {W : WX} {X : Cx} {Hf Hf' H H' F F' : Hp} {s s' : Sto} {σ : L2.St} {v : V} {d d' : Wd.D} {r : Rv} {T : Tab} {C : Str → List Sl → CRes}
theorem E_bi1 (b : Bi) (e : Ie) (s : Sto) : evE T C (.bi b (.cons e .nil)) s = bnd (evE T C e s) fun x s => bnd (Wd.opt "peek" (rds [x] s) s) fun ds s => Wd.opt ("builtin " ++ toString (Repr.reprPrec b 0)) (bi b ds) s := by
  rw [evE]
  simp only [evA]
  cases evE T C e s <;> rfl
theorem E_bi1c (b : Bi) (d : Wd.D) (e : Ie) (s : Sto) : evE T C (.bi b (.cons (.con d) (.cons e .nil))) s = bnd (evE T C e s) fun x s => bnd (Wd.opt "peek" (rds [.v d, x] s) s) fun ds s => Wd.opt ("builtin " ++ toString (Repr.reprPrec b 0)) (bi b ds) s := by
  rw [evE]
  simp only [evA, evE, bnd]
  cases evE T C e s <;> rfl
theorem rds1 {x : Rv} {ds : List Wd.D} (h : rds [x] s = some ds) : ∃ d, peek x s = some d ∧ ds = [d] := by
  unfold rds at h
  simp only [List.mapM_cons, List.mapM_nil] at h
  cases hp : peek x s with
  | none => rw [hp] at h; cases h
  | some d =>
    rw [hp] at h
    exact ⟨d, rfl, (Option.some.inj h).symm⟩
theorem rds2 {x y : Rv} {ds : List Wd.D} (h : rds [x, y] s = some ds) : ∃ d e, peek x s = some d ∧ peek y s = some e ∧ ds = [d, e] := by
  unfold rds at h
  simp only [List.mapM_cons, List.mapM_nil] at h
  cases hp : peek x s with
  | none => rw [hp] at h; cases h
  | some d =>
    cases hq : peek y s with
    | none => rw [hp, hq] at h; cases h
    | some e =>
      rw [hp, hq] at h
      exact ⟨d, e, rfl, rfl, (Option.some.inj h).symm⟩
theorem listrange_inv {ds : List Wd.D} {rr : Rv} (h : bi .listrange ds = some rr) : ∃ a b : Int, ds = [.int a, .int b] ∧ RgOk a b ∧ rr = .n (.lst ((List.range (b - a).toNat).map fun (k : Nat) => .int (a + k))) := by
  have h : listrangeB ds = some rr := h
  unfold listrangeB at h
  split at h
  · split at h
    · rename_i q
      cases h
      exact ⟨_, _, rfl, ⟨q.1, q.2.1, q.2.2.1, q.2.2.2.1, Nat.le_trans q.2.2.2.2 (by unfold LIM; decide)⟩, rfl⟩
    · cases h
  · cases h
theorem isl_rg (a b : Int) : Isl Z Hf ((List.range (b - a).toNat).map fun (k : Nat) => D.int (a + k)) (rgV a b) := by
  have e1 : ((List.range (b - a).toNat).map fun (k : Nat) => D.int (a + k)) = ((List.range (b - a).toNat).map fun (k : Nat) => a + (k : Int)).map .int := by rw [List.map_map]; rfl
  have e2 : rgV a b = ((List.range (b - a).toNat).map fun (k : Nat) => a + (k : Int)).map V.int := by unfold rgV; rw [List.map_map]; rfl
  rw [e1, e2]
  exact isl_ints _
theorem s_listRg1 {e : Expr} {ie : Ie} {p p2 q pos : Pos} (hc : X.calm = true) (hg : Gl X "list") (hm : X.mg "list" = none) (hg2 : Gl X "range") (hm2 : X.mg "range" = none) (he : PE X e (tE Z W (evE T C ie))) (hp : plain e = true) :
    PE X (.Call (.Name "list" p) [.Call (.Name "range" p2) [e] [] q] [] pos) (tE Z W (evE T C (.bi .listrange (.cons (.con (.int 0)) (.cons ie .nil))))) := by
  refine ⟨fun pins s σ H Q I h => (pe_listRg hc hg hm (prg_1 hg2 hm2 he (star_plain hp)) rfl).run pins s σ H Q I ?_⟩
  obtain ⟨Hf, F, st, R, h⟩ := h
  rw [E_bi1c] at h
  refine t_one R h fun x s2 H2 Hf2 v e2 R2 r2 h => ?_
  obtain ⟨ds, hds, h⟩ := Po.optP h.bind
  have h9 := h.at R2
  obtain ⟨d0, d1, h1, h2, e3⟩ := rds2 hds
  obtain ⟨rr, hr, h8⟩ := Po.optP h9
  obtain ⟨a, b, hab, ok, er⟩ := listrange_inv hr
  rw [er] at h8
  rw [e3] at hab
  cases h1
  cases hab
  exact ⟨b, (rep_of R2 r2 h2).int, ok, fun q hq => ret_n h8 R2 hq ⟨_, rfl, isl_rg 0 b⟩⟩
/-- how many different ones a set of a list's ints has -/
def tLenS (K : PySem.W.Frag) (te : TE) : TE := fun σ H Q => te σ H fun x H1 => ∃ (p : Addr) (zs : List Int), x = V.ref p ∧ SqL K H1 p (zs.map V.int) ∧ zs.length ≤ 4000 ∧ Q (.int (zs.foldl step_dedup []).length) H1
theorem pe_lenS {e : Expr} {te : TE} {n1 n2 n3 n4 : Pos} (calm : X.calm = true) (gl : Gl X "len") (ml : X.mg "len" = none) (gs : Gl X "set") (ms : X.mg "set" = none) (pe : PE X e te) (st : starEach [e] X.env = (false, eval e X.env) :: starEach [] X.env) :
    PE X (.Call (.Name "len" n1) [.Call (.Name "set" n2) [e] [] n3] [] n4) (tLenS X.K te) := by
  constructor
  intro pins s0 σ0 H0 Q0 I0 q0
  suffices inner : ∀ (w : Value) (t1 : Shared), (∃ (y : V) (K1 : Hp), L2.Inv X pins σ0 K1 t1 ∧ RelV y w ∧ ∃ (p : Addr) (zs : List Int), y = V.ref p ∧ SqL X.K K1 p (zs.map V.int) ∧ zs.length ≤ 4000 ∧ Q0 (.int (zs.foldl step_dedup []).length) K1) →
      wpAny (model X.prog X.w) X.A (call (.type "set") [w]) (fun u t2 => wpAny (model X.prog X.w) X.A (call (.builtin "len") [u]) (EP X pins σ0 Q0) X.xe t2) X.xe t1 from
    Call_ (ld_blt I0 gl ml PySem.boot_len (callWith_builtin1 (args_cons (Call_ (ld_blt I0 gs ms boot_set (callWith_type1 (args_cons (thn (pe.run pins s0 σ0 H0 _ I0 q0) fun w t1 z => args_nil (wpAny_mono (inner w t1 z) (fun u t2 g => args_nil g) fun _ _ g => g)) st) st rfl))) rfl) rfl rfl))
  rintro w t1 ⟨y, K1, J1, ry, p, zs, rfl, hp, hz, q1⟩
  cases ry
  obtain ⟨us, rv, isl, _⟩ := J1.list hp
  have sz : us.toArray.size = zs.length := by
    have := rv.length
    rw [List.length_map] at this
    rw [List.size_toArray, this]
  have few : (zs.foldl step_dedup []).length ≤ zs.length := by
    have := length_foldl_step_dedup_le zs []
    simpa using this
  have room : us.toArray.size + 1 < scanBound := by rw [sz]; unfold scanBound; omega
  have iz : IntsAre us.toArray.toList zs := by simpa using rv.ints
  refine call_set_list (J1.ok.hd calm) isl.isList iz room ?_
  intro h2 tk2 hS keep
  have em : firstMet (fun i => zs.getD i 0) zs.length = zs.foldl step_dedup [] := by
    unfold firstMet
    congr 1
    refine List.ext_getElem (by simp) fun i a1 a2 => ?_
    simp [List.getElem?_eq_getElem a2]
  rw [sz, em] at hS
  obtain ⟨ob, es, ep, tb, e1, e2, e3, _, _, _, e4, e5⟩ := hS
  have J2 : Inv X pins σ0 K1 { t1 with heap := h2, toks := tk2 } := J1.kept fun b o z => keep b o (Heap.lt_size z) z
  have e6 : es.size = (zs.foldl step_dedup []).length := e5
  refine call_len_set e1 e2 e3 e4 (by rw [e6]; omega) ?_
  exact ⟨.int (zs.foldl step_dedup []).length, K1, J2.tok _, ⟨_, by rw [e6]⟩, q1⟩
theorem lenset_inv {ds : List Wd.D} {rr : Rv} (h : bi .lenset ds = some rr) : ∃ (l : List Wd.D) (zs : List Int), ds = [.lst l] ∧ ints? l = some zs ∧ zs.length ≤ 4000 ∧ rr = .v (.int (zs.foldl step_dedup []).length) := by
  have h : lensetB ds = some rr := h
  unfold lensetB at h
  split at h
  · obtain ⟨zs, hz, h⟩ := Option.bind_eq_some_iff.mp h
    split at h
    · rename_i q
      cases h
      exact ⟨_, zs, rfl, hz, q, rfl⟩
    · cases h
  · cases h
theorem s_lenSet {e : Expr} {ie : Ie} {p p2 q pos : Pos} (hK : X.K = Z.K) (hc : X.calm = true) (hg : Gl X "len") (hm : X.mg "len" = none) (hg2 : Gl X "set") (hm2 : X.mg "set" = none) (he : PE X e (tE Z W (evE T C ie))) (hp : plain e = true) :
    PE X (.Call (.Name "len" p) [.Call (.Name "set" p2) [e] [] q] [] pos) (tE Z W (evE T C (.bi .lenset (.cons ie .nil)))) := by
  refine ⟨fun pins s σ H Q I h => (pe_lenS hc hg hm hg2 hm2 he (star_plain hp)).run pins s σ H Q I ?_⟩
  obtain ⟨Hf, F, st, R, h⟩ := h
  rw [E_bi1] at h
  refine t_one R h fun x s2 H2 Hf2 v e2 R2 r2 h => ?_
  obtain ⟨ds, hds, h⟩ := Po.optP h.bind
  have h9 := h.at R2
  obtain ⟨d1, h1, e3⟩ := rds1 hds
  obtain ⟨rr, hr, h8⟩ := Po.optP h9
  obtain ⟨l, zs, hl, hz, hn, er⟩ := lenset_inv hr
  rw [er] at h8
  rw [e3] at hl
  cases hl
  obtain ⟨a, vs, ev, k1, k2⟩ := (rep_of R2 r2 h1).lst R2.sub
  rw [ints_isl hz k2] at k1
  exact ⟨a, zs, ev, SqL.of k1, hn, ret_v h8 R2 (by unfold Isd; rfl)⟩
end
end Wd
-- WdSd37
set_option linter.all false
set_option maxRecDepth 100000
set_option maxHeartbeats 2000000
set_option Elab.async false
/-! [e for t in it if c for t1 in it1 if c1]. -/
namespace Wd
open PySem L2 PySem.Spec PyProof.Rows
theorem wipe_sub {t1 w : List Nat} {σ : L2.St} (h : ∀ i ∈ t1, i ∈ w) : L2.wipe (L2.wipe σ t1) w = L2.wipe σ w := by
  apply List.ext_getElem?
  intro i
  by_cases hi : i ∈ w
  · have key : ∀ {σ : L2.St} {t : List Nat}, i ∈ t → (L2.wipe σ t)[i]? = if i < σ.length then some none else none := fun {σ t} => by
      induction t with
      | nil => intro h; simp at h
      | cons b t ih =>
        intro h
        unfold L2.wipe
        by_cases hb : b = i
        · subst hb
          by_cases hl : b < σ.length
          · rw [List.getElem?_set_self (by rw [wipe_length]; exact hl), if_pos hl]
          · rw [List.getElem?_eq_none (by rw [List.length_set, wipe_length]; omega), if_neg hl]
        · rw [List.getElem?_set_ne hb]
          refine ih ?_
          rcases List.mem_cons.mp h with h | h
          · exact absurd h.symm hb
          · exact h
    rw [key hi, key hi, wipe_length]
  · rw [wipe_out hi, wipe_out hi, wipe_out fun z => hi (h i z)]
section
variable {α β : Type} {Z : Wo} {B : Nat → Option Addr} {W : WX} {X : Cx} {Hf Hf' H H' F F' : Hp} {s s' : Sto} {σ σ' : L2.St} {v : V} {d d' : Wd.D} {r : Rv} {T : Tab} {C : Str → List Sl → CRes} {i : Nat} {a a' : List V} {D : Addr}
theorem lc2_run {t t1 w : List Nat} {it it1 : Ii} {cs cs1 : Ia} {ie : Ie} {Q : VK} (hK : X.K = Z.K) (ht : ∀ i ∈ t, i ∈ w) (ht1 : ∀ i ∈ t1, i ∈ w) (h : tE Z W (evE T C (.lc (.two t it cs (.one t1 it1 cs1 ie)) w)) σ H Q) : tLc2 (tI Z W (evI T C it)) (gD X.K t) (tT Z WF (fun s => evCs T C cs s)) (tI Z WF (evI T C it1)) (gD X.K t1) (tT Z WF (fun s => evCs T C cs1 s)) (tE Z WF (evE T C ie)) w t1 σ H Q := by
  obtain ⟨Hf, F, st, R0, h⟩ := h
  rw [evE] at h
  refine ⟨Hf, F, st, R0, h.bind.imp fun l s1 H1 Hf1 e1 R1 h J wk => fun D hD => ?_⟩
  split at h
  · rename_i hfr
    generalize hN : (fun (s : Sto) (acc : List Wd.D) => bnd (noEx (evI T C it1 s)) fun l1 s => bnd (lcL t1 (fun s => noEx (evCs T C cs1 s)) (fun s acc => noEx (bnd (fz (evE T C ie s)) fun x s => grow acc x s)) l1 s acc) fun acc s => Res.ok acc (Wd.wipe s t1)) = fN at h
    refine ⟨fun i m H => m = l.length - i ∧ i ≤ l.length ∧ ∃ Hf2 s2 acc accV, Same Hf1 Hf2 ∧ Rel Z Hf2 H (fD D accV F) (Wd.wipe s2 w) (L2.wipe σ w) ∧ Isl Z Hf2 acc accV ∧
      Po Z W Hf2 F σ (bnd (lcW w t (fun s => noEx (evCs T C cs s)) fN (l.drop i) s2 acc) (lcEnd s1 w)) (fun r s' H' Hf' => ∀ v, RR Z Hf' H' F s' σ r v → Q v H'),
      ⟨l.length, by simp, Nat.zero_le _, Hf1, s1, [], [], Same.refl _, (R1.newD hD).wipe w, isl_nil.mpr rfl, h⟩, ?_⟩
    rintro i m H2 ⟨rfl, hil, Hf2, s2, acc, accV, sm2, R2, i2, h2⟩
    have hF : ∀ p o, F p = some o → fD D accV F p = some o := fun p o e => by
      unfold fD
      rw [if_neg]
      · exact e
      · rintro rfl
        rw [R1.f_none hD] at e; cases e
    by_cases hlt : i < l.length
    · right
      refine ⟨wk.go i H2 hlt (sm2.trans R2.sub), fun H' => ∃ Hf2 s2 acc accV, Same Hf1 Hf2 ∧ Rel Z Hf2 H' (fD D accV F) (Wd.wipe s2 w) (L2.wipe σ w) ∧ Isl Z Hf2 acc accV ∧
        Po Z W Hf2 F σ (bnd (lcW w t (fun s => noEx (evCs T C cs s)) fN (l.drop (i + 1)) s2 acc) (lcEnd s1 w)) (fun r s' H' Hf' => ∀ v, RR Z Hf' H' F s' σ r v → Q v H'),
        fun H' q => ⟨_, (by omega : l.length - (i + 1) < l.length - i), rfl, hlt, q⟩, fun x H3 y => ?_⟩
      obtain ⟨Hf3, sm3, R3, i3⟩ := wk.yld i l[i] Hf2 H2 (fD D accV F) (Wd.wipe s2 w) (L2.wipe σ w) x H3 (by simp [hlt]) sm2 R2 y
      rw [List.drop_eq_getElem_cons hlt] at h2
      have h3 := h2.mono sm3
      unfold lcW at h3
      rw [bnd_bnd] at h3
      cases q : putTg (Wd.wipe s2 w) t l[i] with
      | bad w => rw [q] at h3; exact h3.elim
      | ex e s4 => exact absurd q putTg_no
      | ok u s4 =>
        rw [q] at h3
        refine gD_run hK R3 i3 q fun xs R4 => ⟨by rw [wipe_setAll ht, wipe_wipe fun _ _ => trivial], ?_⟩
        have h4 : Po Z W Hf3 F σ (bnd (bnd (noEx (evCs T C cs s4)) fun b s => if b = true then bnd (fN s acc) fun acc s => lcW w t (fun s => noEx (evCs T C cs s)) fN (l.drop (i + 1)) s acc else lcW w t (fun s => noEx (evCs T C cs s)) fN (l.drop (i + 1)) s acc) (lcEnd s1 w)) _ := h3
        rw [bnd_bnd] at h4
        refine ⟨Hf3, fD D accV F, s4, R4, (noEx_bind h4).imp fun b s5 H5 Hf5 sm5 R5 h5 => ?_⟩
        have sw : L2.wipe (setAll (L2.wipe σ w) t xs) w = L2.wipe σ w := by rw [wipe_setAll ht, wipe_wipe fun _ _ => trivial]
        generalize hσ : setAll (L2.wipe σ w) t xs = σ2 at *
        cases b with
        | false =>
          refine iteF ⟨Hf5, s5, acc, accV, sm2.trans (sm3.trans sm5), ?_, i2.mono (sm3.trans sm5), h5⟩
          have := R5.wipe w
          rw [sw] at this
          exact this
        | true =>
          have h5 : Po Z W Hf5 F σ (bnd (bnd (fN s5 acc) fun acc s => lcW w t (fun s => noEx (evCs T C cs s)) fN (l.drop (i + 1)) s acc) (lcEnd s1 w)) _ := h5
          rw [← hN, bnd_bnd, bnd_bnd] at h5
          refine iteT ⟨Hf5, fD D accV F, s5, R5, (noEx_bind h5).imp fun l1 s6 H6 Hf6 sm6 R6 h6 J1 wk1 => ?_⟩
          rw [hN] at h6
          obtain ⟨K, hKd⟩ : ∃ K : List Wd.D → Sto → Res Rv, K = fun acc s => bnd (lcW w t (fun s => noEx (evCs T C cs s)) fN (l.drop (i + 1)) (Wd.wipe s t1) acc) (lcEnd s1 w) := ⟨_, rfl⟩
          have h6 : Po Z W Hf6 F σ (bnd (lcL t1 (fun s => noEx (evCs T C cs1 s)) (fun s acc => noEx (bnd (fz (evE T C ie s)) fun x s => grow acc x s)) l1 s6 acc) K) (fun r s' H' Hf' => ∀ v, RR Z Hf' H' F s' σ r v → Q v H') := by
            rw [bnd_bnd] at h6
            rw [hKd]
            exact h6
          refine ⟨fun j k H => k = l1.length - j ∧ j ≤ l1.length ∧ ∃ Hf7 s7 acc accV, Same Hf6 Hf7 ∧ Rel Z Hf7 H (fD D accV F) (Wd.wipe s7 t1) (L2.wipe σ2 t1) ∧ Isl Z Hf7 acc accV ∧
            Po Z W Hf7 F σ (bnd (lcL t1 (fun s => noEx (evCs T C cs1 s)) (fun s acc => noEx (bnd (fz (evE T C ie s)) fun x s => grow acc x s)) (l1.drop j) s7 acc) K) (fun r s' H' Hf' => ∀ v, RR Z Hf' H' F s' σ r v → Q v H'),
            ⟨l1.length, by simp, Nat.zero_le _, Hf6, s6, acc, accV, Same.refl _, R6.wipe t1, i2.mono (sm3.trans (sm5.trans sm6)), h6⟩, ?_⟩
          rintro j k H7 ⟨rfl, hjl, Hf7, s7, acc7, accV7, sm7, R7, i7, h7⟩
          by_cases hlt1 : j < l1.length
          · right
            refine ⟨wk1.go j H7 hlt1 (sm7.trans R7.sub), fun H' => ∃ Hf8 s8 acc accV, Same Hf6 Hf8 ∧ Rel Z Hf8 H' (fD D accV F) (Wd.wipe s8 t1) (L2.wipe σ2 t1) ∧ Isl Z Hf8 acc accV ∧
              Po Z W Hf8 F σ (bnd (lcL t1 (fun s => noEx (evCs T C cs1 s)) (fun s acc => noEx (bnd (fz (evE T C ie s)) fun x s => grow acc x s)) (l1.drop (j + 1)) s8 acc) K) (fun r s' H' Hf' => ∀ v, RR Z Hf' H' F s' σ r v → Q v H'),
              fun H' q => ⟨_, (by omega : l1.length - (j + 1) < l1.length - j), rfl, hlt1, q⟩, fun x1 H8 y1 => ?_⟩
            obtain ⟨Hf8, sm8, R8, i8⟩ := wk1.yld j l1[j] Hf7 H7 (fD D accV7 F) (Wd.wipe s7 t1) (L2.wipe σ2 t1) x1 H8 (by simp [hlt1]) sm7 R7 y1
            rw [List.drop_eq_getElem_cons hlt1] at h7
            have h8 := h7.mono sm8
            unfold lcL at h8
            rw [bnd_bnd] at h8
            cases q8 : putTg (Wd.wipe s7 t1) t1 l1[j] with
            | bad w => rw [q8] at h8; exact h8.elim
            | ex e s9 => exact absurd q8 putTg_no
            | ok u s9 =>
              rw [q8] at h8
              refine gD_run hK R8 i8 q8 fun xs1 R9 => ⟨by rw [wipe_setAll fun j hj => hj, wipe_wipe fun _ _ => trivial], ?_⟩
              have sw1 : L2.wipe (setAll (L2.wipe σ2 t1) t1 xs1) t1 = L2.wipe σ2 t1 := by rw [wipe_setAll fun j hj => hj, wipe_wipe fun _ _ => trivial]
              have h9 : Po Z W Hf8 F σ (bnd (bnd (noEx (evCs T C cs1 s9)) fun b s => if b = true then bnd (noEx (bnd (fz (evE T C ie s)) fun x s => grow acc7 x s)) fun acc s => lcL t1 (fun s => noEx (evCs T C cs1 s)) (fun s acc => noEx (bnd (fz (evE T C ie s)) fun x s => grow acc x s)) (l1.drop (j + 1)) s acc else lcL t1 (fun s => noEx (evCs T C cs1 s)) (fun s acc => noEx (bnd (fz (evE T C ie s)) fun x s => grow acc x s)) (l1.drop (j + 1)) s acc7) K) _ := h8
              rw [bnd_bnd] at h9
              refine ⟨Hf8, fD D accV7 F, s9, R9, (noEx_bind h9).imp fun b s10 H10 Hf10 sm10 R10 h10 => ?_⟩
              cases b with
              | false =>
                refine iteF ⟨Hf10, s10, acc7, accV7, sm7.trans (sm8.trans sm10), ?_, i7.mono (sm8.trans sm10), h10⟩
                have := R10.wipe t1
                rw [sw1] at this
                exact this
              | true =>
                have h10 : Po Z W Hf10 F σ (bnd (bnd (noEx (bnd (fz (evE T C ie s10)) fun x s => grow acc7 x s)) fun acc s => lcL t1 (fun s => noEx (evCs T C cs1 s)) (fun s acc => noEx (bnd (fz (evE T C ie s)) fun x s => grow acc x s)) (l1.drop (j + 1)) s acc) K) _ := h10
                rw [bnd_bnd, fz_bnd] at h10
                refine iteT ⟨Hf10, fD D accV7 F, s10, R10, (noEx_bind2 h10).imp fun r s11 H11 Hf11 sm11 R11 h11 yv ry => ?_⟩
                obtain ⟨hD11, hfD11⟩ := R11.fr D _ fD_at
                unfold frzR at h11
                cases q11 : Wd.frz r s11 with
                | none => rw [q11] at h11; exact h11.elim
                | some w11 =>
                  obtain ⟨d12, s12⟩ := w11
                  rw [q11] at h11
                  obtain ⟨Hf12, sm12, R12, i12, _⟩ := R11.frzW ry q11
                  have h12 : Po Z W Hf11 F σ (bnd (noEx (grow acc7 d12 s12)) fun acc s => bnd (lcL t1 (fun s => noEx (evCs T C cs1 s)) (fun s acc => noEx (bnd (fz (evE T C ie s)) fun x s => grow acc x s)) (l1.drop (j + 1)) s acc) K) _ := h11
                  unfold grow at h12
                  split at h12
                  · rename_i hz
                    refine ⟨accV7, hD11, by rw [← i7.length]; exact Nat.lt_of_lt_of_le hz lim_le, Hf12, s12, acc7 ++ [d12], accV7 ++ [yv], sm7.trans (sm8.trans (sm10.trans (sm11.trans sm12))), ?_, (i7.mono (sm8.trans (sm10.trans (sm11.trans sm12)))).append (.one i12), h12.mono sm12⟩
                    have := (R12.updD (a' := accV7 ++ [yv])).wipe t1
                    rw [sw1] at this
                    exact this
                  · exact h12.elim
          · left
            have e : j = l1.length := by omega
            subst e
            rw [List.drop_length] at h7
            have h7 : Po Z W Hf7 F σ (K acc7 s7) (fun r s' H' Hf' => ∀ v, RR Z Hf' H' F s' σ r v → Q v H') := h7
            rw [hKd] at h7
            refine ⟨wk1.stop H7 (sm7.trans R7.sub), Hf7, Wd.wipe s7 t1, acc7, accV7, sm2.trans (sm3.trans (sm5.trans (sm6.trans sm7))), ?_, i7, h7⟩
            have := R7.wipe w
            rw [wipe_sub ht1, sw] at this
            exact this
    · left
      have e : i = l.length := by omega
      subst e
      rw [List.drop_length] at h2
      refine ⟨wk.stop H2 (sm2.trans R2.sub), ?_⟩
      have h2 : Po Z W Hf2 F σ (lcEnd s1 w acc s2) (fun r s' H' Hf' => ∀ v, RR Z Hf' H' F s' σ r v → Q v H') := h2
      obtain ⟨hD2, hfD2⟩ := R2.fr D _ fD_at
      have Rb : Rel Z Hf2 H2 (fD D accV F) (Wd.back s2 s1 w) σ := Rel.back R1 R2 sm2 (fun _ _ q => q) hfr
      refine h2 H2 Hf2 (Same.refl _) (Rb.weak hF) _ ⟨D, _, rfl, hfD2, R1.f_none hD, hD2, ⟨accV, rfl, i2⟩, fun j e he z => ?_⟩
      obtain ⟨p, o, k1, k2, k3, k4, k5⟩ := Rb.ow j e he
      rw [z] at k1
      have : p = D := by simpa using k1.symm
      subst this
      rw [fD_at] at k3; cases k3
  · exact h.elim
theorem s_lc2 {elt tg iter tg1 iter1 : Expr} {ifs ifs1 : List Expr} {scope : Scope} {own : List (Str × Nat)} {pos : Pos} {t t1 w : List Nat} {it it1 : Ii} {cs cs1 : Ia} {ie : Ie} (hc : X.calm = true) (hK : X.K = Z.K) (hN : X.N.Nodup) (hi : PI X tg iter (tI Z W (evI T C it))) (ok : BlkOk X.N X.env.scope scope own) (hw : own.map (·.2) = w) (ht : ∀ i ∈ t, i ∈ w) (ht1 : ∀ i ∈ t1, i ∈ w)
    (hg : ∀ (s : Shared) (H : Hp) (L : Addr) (cl : List (Str × Addr)) (fp : List Addr), PG (X.blk s H scope (compEnvC scope cl L X.env) fp) tg (gD X.K t))
    (htt : ∀ (s : Shared) (H : Hp) (L : Addr) (cl : List (Str × Addr)) (fp : List Addr), PTs (X.blk s H scope (compEnvC scope cl L X.env) fp) ifs (tT Z WF (fun s => evCs T C cs s)))
    (hi1 : ∀ (s : Shared) (H : Hp) (L : Addr) (cl : List (Str × Addr)) (fp : List Addr), PI (X.blk s H scope (compEnvC scope cl L X.env) fp) tg1 iter1 (tI Z WF (evI T C it1)))
    (hg1 : ∀ (s : Shared) (H : Hp) (L : Addr) (cl : List (Str × Addr)) (fp : List Addr), PG (X.blk s H scope (compEnvC scope cl L X.env) fp) tg1 (gD X.K t1))
    (htt1 : ∀ (s : Shared) (H : Hp) (L : Addr) (cl : List (Str × Addr)) (fp : List Addr), PTs (X.blk s H scope (compEnvC scope cl L X.env) fp) ifs1 (tT Z WF (fun s => evCs T C cs1 s)))
    (he : ∀ (s : Shared) (H : Hp) (L : Addr) (cl : List (Str × Addr)) (fp : List Addr), PE (X.blk s H scope (compEnvC scope cl L X.env) fp) elt (tE Z WF (evE T C ie)))
    (hs : ∀ x, foldedSetIterable iter X.env x = pure x) (hs1 : ∀ env x, foldedSetIterable iter1 env x = pure x) : PE X (.ListComp elt [⟨tg, iter, ifs, 0⟩, ⟨tg1, iter1, ifs1, 0⟩] scope pos) (tE Z W (evE T C (.lc (.two t it cs (.one t1 it1 cs1 ie)) w))) := by
  refine ⟨fun pins s σ H Q I h => (pe_lc2 hc hN hi ok (vs1 := t1) (fun i h => by rw [hw]; exact ht1 i h) hg htt hi1 hg1 htt1 he hs hs1).run pins s σ H Q I ?_⟩
  rw [hw]
  exact lc2_run hK ht ht1 h
/-- name = [..] -/
theorem s_setLc2 {elt tg iter tg1 iter1 : Expr} {ifs ifs1 : List Expr} {scope : Scope} {own : List (Str × Nat)} {y : Str} {py pos spos : Pos} {t t1 w : List Nat} {it it1 : Ii} {cs cs1 : Ia} {ie : Ie} {i Wh : Nat} (hc : X.calm = true) (hK : X.K = Z.K) (hN : X.N.Nodup) (hy : X.N[i]? = some y) (hyl : X.env.scope.names.lookup y = some .local)
    (hsw : swapsWith (.ListComp elt [⟨tg, iter, ifs, 0⟩, ⟨tg1, iter1, ifs1, 0⟩] scope pos) (some (.Name y py)) spos.line X.env = pure true) (hi : PI X tg iter (tI Z W (evI T C it))) (ok : BlkOk X.N X.env.scope scope own) (hw : own.map (·.2) = w) (ht : ∀ i ∈ t, i ∈ w) (ht1 : ∀ i ∈ t1, i ∈ w)
    (hg : ∀ (s : Shared) (H : Hp) (L : Addr) (cl : List (Str × Addr)) (fp : List Addr), PG (X.blk s H scope (compEnvC scope cl L X.env) fp) tg (gD X.K t))
    (htt : ∀ (s : Shared) (H : Hp) (L : Addr) (cl : List (Str × Addr)) (fp : List Addr), PTs (X.blk s H scope (compEnvC scope cl L X.env) fp) ifs (tT Z WF (fun s => evCs T C cs s)))
    (hi1 : ∀ (s : Shared) (H : Hp) (L : Addr) (cl : List (Str × Addr)) (fp : List Addr), PI (X.blk s H scope (compEnvC scope cl L X.env) fp) tg1 iter1 (tI Z WF (evI T C it1)))
    (hg1 : ∀ (s : Shared) (H : Hp) (L : Addr) (cl : List (Str × Addr)) (fp : List Addr), PG (X.blk s H scope (compEnvC scope cl L X.env) fp) tg1 (gD X.K t1))
    (htt1 : ∀ (s : Shared) (H : Hp) (L : Addr) (cl : List (Str × Addr)) (fp : List Addr), PTs (X.blk s H scope (compEnvC scope cl L X.env) fp) ifs1 (tT Z WF (fun s => evCs T C cs1 s)))
    (he : ∀ (s : Shared) (H : Hp) (L : Addr) (cl : List (Str × Addr)) (fp : List Addr), PE (X.blk s H scope (compEnvC scope cl L X.env) fp) elt (tE Z WF (evE T C ie)))
    (hs : ∀ x, foldedSetIterable iter X.env x = pure x) (hs1 : ∀ env x, foldedSetIterable iter1 env x = pure x) : PS X (.Assign [.Name y py] (.ListComp elt [⟨tg, iter, ifs, 0⟩, ⟨tg1, iter1, ifs1, 0⟩] scope pos) spos) (tS Z W (evS T C Wh (.set (.nm i) (.lc (.two t it cs (.one t1 it1 cs1 ie)) w)))) :=
  ps_weak (ps_setLc2 hc hN hy hyl hsw hi ok (vs1 := t1) (fun i h => by rw [hw]; exact ht1 i h) hg htt hi1 hg1 htt1 he hs hs1) fun D σ H h => by
    obtain ⟨Hf, F, st, R, h⟩ := h
    rw [evS] at h
    show tLc2 _ _ _ _ _ _ _ (own.map (·.2)) _ σ H _
    rw [hw]
    refine lc2_run hK ht ht1 ⟨Hf, F, st, R, h.bind.imp fun r s1 H1 Hf1 e1 R1 h v rv => ?_⟩
    have h : PoS Z W Hf1 F (bnd (Wd.putR s1 i r) fun _ s => .ok .nx s) D := h
    cases q : Wd.putR s1 i r with
    | ok u s2 =>
      rw [q] at h
      obtain ⟨Hf2, sm, R2⟩ := R1.putR rv q
      exact (PoS.mono (x := .ok .nx s2) h sm).nx R2
    | ex e s2 => exact absurd q putR_no
    | bad w => rw [q] at h; exact h.elim
end
end Wd
-- WdSd39
set_option linter.all false
set_option maxRecDepth 100000
set_option maxHeartbeats 3200000
set_option Elab.async false
/-! sorted(set(..)) of a list of ints. -/
namespace L2
open PySem PySem.Spec PyProof.Rows
section
variable {P : Program} {w : World} {A : Around} {E : Value → Shared → Prop} {s : Shared}
/-- the empty set that set() begins with -/
abbrev emptyS (w : World) : Obj := { cls := .type "set", dict := none, data := .set #[] 0 (.fresh 0 0 (!w.params.followText "set-order")) }
/-- what is known behind set(l) -/
def SetDone (w : World) (s : Shared) (zs : List Int) (t : Shared) : Prop := ∃ h2 tk c, t = { s with heap := h2, toks := tk } ∧ SetR w h2 s.heap.objs.size (fun j => decide (j ∈ zs)) c ∧ c ≤ zs.length ∧ ∀ b o, s.heap.get? b = some o → h2.get? b = some o
theorem call_setR_list {l : Addr} {its : Array Value} (zs : List Int) {Q : Value → Shared → Prop} (none_handled : A.handled = none) (isl : s.heap.IsList l its) (are : IntsAre its.toList zs) (room : zs.length + 1 < scanBound)
    (fin : ∀ t, SetDone w s zs t → Q (.ref s.heap.objs.size) t) :
    wpAny (model P w) A (call (.type "set") [.ref l]) Q E s := by
  have same : its.size = zs.length := by simpa using are.length
  obtain ⟨c, tl, mro⟩ := F.called_set.mro
  have made := F.called_set.made
  have sub := F.called_set.sub
  refine wpAny_call (codeAny_of_tree ?_)
  show wpAny _ _ (callAny (.type "set") _) _ _ _
  refine wpAny_pure ⟨Code.quiet_builtin _ (by decide +kernel), codeAny_builtin F.entry_type_call ?_⟩
  rw [Around.under_plain (weight_type_call_type "set" [.ref l] []) rfl]
  have not_type := F.called_set.notType
  have creates := F.called_set.canCreate
  have typeCall := F.typeCall_set_1 (.ref l)
  repeat (any_goals (first | assumption | wp_step))
  refine codeAny_mono (code_set_led1 (.ref l) (E := E) (Q₁ := fun obj s₁ => obj = .ref s.heap.objs.size ∧ s₁ = { s with heap := s.heap.push (emptyS w) }) ⟨rfl, rfl⟩) fun r s1 hr => ?_
  cases r with
  | error e => exact hr
  | ok fl =>
    cases fl with
    | ret obj =>
      obtain ⟨rfl, rfl⟩ := hr
      have onto : (s.heap.push (emptyS w)).get? s.heap.objs.size = some (emptyS w) := Heap.get?_push_size _ rfl
      have kind : Shared.TypeIs { s with heap := s.heap.push (emptyS w) } (.ref s.heap.objs.size) "set" := ⟨_, onto, rfl⟩
      have look := F.called_set.init.lookup
      have bound := F.called_set.init.bind (.ref s.heap.objs.size)
      repeat (any_goals (first | assumption | wp_step))
      refine codeAny_mono (codeAny_call_builtin (R := wants (fun r t => r = .none ∧ SetDone w s zs t) E) F.called_set.init.plain F.entry_set_init (check_set_init_1 kind ?_)) fun r2 s2 hr2 => ?_
      · obtain ⟨ob, isob, c1, n1, d1⟩ := isl
        obtain ⟨oc, od, odt, osl⟩ := ob
        simp only at c1 d1
        subst c1
        subst d1
        have isob1 : (s.heap.push (emptyS w)).get? l = some { cls := .type "list", dict := od, data := .seq its n1, slots := osl } := Heap.get?_push_of_some _ isob
        have sub1 := F.sub_list_set
        have sub2 := F.sub_list_frozenset
        have no_dict : (Value.type "list" == Value.type "dict") = false := by decide
        have isl1 : (s.heap.push (emptyS w)).IsList l its := ⟨_, isob1, rfl, n1, rfl⟩
        unfold Builtin.«set.__init__» noKeywords Builtin.Frozenset.updateFrom
        generalize hPI : pyIter = PI
        wp_walk
        subst hPI
        refine wpAny_pyIter_list isl1 ?_
        refine wpAny_bind (wpAny_runValue ?_)
        have below : l < s.heap.objs.size := Heap.lt_size isob
        have size1 : (s.heap.push (emptyS w)).objs.size = s.heap.objs.size + 1 := Heap.size_push ..
        have inner : A.in1.in1.in1.handled = none := by simp [none_handled]
        have apart : l ≠ (s.heap.push (emptyS w)).objs.size := by
          rw [Heap.size_push]
          exact Nat.ne_of_lt (Nat.lt_succ_of_lt below)
        have away : s.heap.objs.size ∉ [(s.heap.push (emptyS w)).objs.size, l] := by
          rw [Heap.size_push]
          simp only [List.mem_cons, List.not_mem_nil, or_false, not_or]
          exact ⟨Nat.ne_of_lt (Nat.lt_succ_self _), Nat.ne_of_gt below⟩
        have vals : ∀ (i : Nat) (v : Value), its[i]? = some v → ∃ k t, zs[i]? = some k ∧ v = .int k t := fun i v hv => by
          have lt : i < zs.length := by rw [← same]; exact (Array.getElem?_eq_some_iff.mp hv).1
          obtain ⟨t, e⟩ := are.int_at i v (by rw [Array.getElem?_toList]; exact hv)
          refine ⟨zs[i], t, List.getElem?_eq_getElem lt, ?_⟩
          rw [e, List.getD_eq_getElem?_getD, List.getElem?_eq_getElem lt] <;> rfl
        refine set_update_ints ((Walks.list inner _ l apart its).toS) s.heap.objs.size away zs same room vals (its.size - 0) 0 _ (by omega) (Nat.zero_le _) ⟨⟨_, Heap.get?_push_size _ rfl, rfl, rfl⟩, (isl1.push _)⟩ ?begin ?done
        case begin =>
          exact ⟨0, Nat.le_refl 0, setR_new_at (Heap.get?_push_of_some _ onto)⟩
        case done =>
          intro s' c2 moved few R
          obtain ⟨h2, g2, dr2, tk2, os2⟩ := s'
          have e1 : g2 = s.gens := moved.gens
          have e2 : dr2 = s.drawn := moved.drawn
          have e3 : os2 = s.os := moved.os
          subst e1
          subst e2
          subst e3
          show wpAny _ _ _ _ _ _
          refine wpAny_pure ?_
          show wpAny _ _ (ret Value.none) _ _ _
          rw [same] at few
          refine wpAny_pure ⟨rfl, h2, tk2, c2, rfl, R, few, fun b o e => ?_⟩
          have lt : b < s.heap.objs.size := Heap.lt_size e
          refine moved.heap b o ?_ (Heap.get?_push_of_some _ (Heap.get?_push_of_some _ e))
          have ne2 : b ≠ (s.heap.push (emptyS w)).objs.size := by
            rw [Heap.size_push]
            exact Nat.ne_of_lt (Nat.lt_succ_of_lt lt)
          simp only [List.mem_cons, List.not_mem_nil, or_false, not_or]
          exact ⟨Nat.ne_of_lt lt, ne2⟩
      · cases r2 with
        | error e => exact hr2
        | ok fl2 =>
          cases fl2 with
          | ret r =>
            obtain ⟨rfl, D⟩ := hr2
            obtain ⟨h2, tk2, c2, rfl, R, few, kept⟩ := D
            repeat (any_goals (first | assumption | wp_step))
            exact fin _ ⟨h2, tk2, c2, rfl, R, few, kept⟩
          | _ => exact hr2.elim
    | _ => exact hr.elim
end
end L2
-- WdSd40
set_option linter.all false
set_option maxRecDepth 100000
set_option maxHeartbeats 2000000
set_option Elab.async false
/-! sorted(set(..)), len(range(..)). -/
namespace Wd
open PySem L2 PySem.Spec PyProof.Rows
theorem has_ints (zs : List Int) (x : Int) : x ∈ zs.foldl step_dedup [] ↔ x ∈ zs := by
  have key : ∀ (l acc : List Int), x ∈ l.foldl step_dedup acc ↔ x ∈ acc ∨ x ∈ l := fun l => by
    induction l with
    | nil => intro acc; simp
    | cons a l ih =>
      intro acc
      rw [List.foldl_cons, ih, List.mem_cons]
      have : x ∈ step_dedup acc a ↔ x ∈ acc ∨ x = a := by
        unfold step_dedup
        split
        · rename_i h
          rw [List.any_eq_true] at h
          obtain ⟨y, hy, e⟩ := h
          have e := beq_iff_eq.mp e
          subst e
          exact ⟨fun h => .inl h, fun h => h.elim id fun e => e ▸ hy⟩
        · simp
      rw [this]
      exact or_assoc
  rw [key]
  simp
theorem nodup_ints (zs : List Int) : (zs.foldl step_dedup []).Nodup := by
  have key : ∀ (l acc : List Int), acc.Nodup → (l.foldl step_dedup acc).Nodup := fun l => by
    induction l with
    | nil => intro acc h; exact h
    | cons a l ih =>
      intro acc h
      rw [List.foldl_cons]
      refine ih _ ?_
      unfold step_dedup
      split
      · exact h
      · rename_i q
        rw [List.nodup_append]
        refine ⟨h, by simp, fun x hx y hy e => q ?_⟩
        rw [List.mem_singleton] at hy
        rw [List.any_eq_true]
        exact ⟨x, hx, by rw [e, hy, beq_self_eq_true]⟩
  exact key zs [] List.nodup_nil
section
variable {Z : Wo} {B : Nat → Option Addr} {W : WX} {X : Cx} {Hf Hf' H H' F F' : Hp} {s s' : Sto} {σ : L2.St} {v : V} {d d' : Wd.D} {r : Rv} {T : Tab} {C : Str → List Sl → CRes}
/-- a list's ints, each once, ascending -/
def tSortS (K : PySem.W.Frag) (te : TE) : TE := fun σ H Q => te σ H fun x H1 => ∃ (p : Addr) (zs : List Int), x = V.ref p ∧ SqL K H1 p (zs.map V.int) ∧ zs.length ≤ 4000 ∧ (zs.foldl step_dedup []).length < 64 ∧ ∀ q, H1 q = none → Q (.ref q) (upd H1 q (.lst ((sortI (zs.foldl step_dedup [])).map V.int)))
theorem pe_sortS {e : Expr} {te : TE} {n1 n2 n3 n4 : Pos} (calm : X.calm = true) (gl : Gl X "sorted") (ml : X.mg "sorted" = none) (gs : Gl X "set") (ms : X.mg "set" = none) (pe : PE X e te) (st : starEach [e] X.env = (false, eval e X.env) :: starEach [] X.env) :
    PE X (.Call (.Name "sorted" n1) [.Call (.Name "set" n2) [e] [] n3] [] n4) (tSortS X.K te) := by
  constructor
  intro pins s0 σ0 H0 Q0 I0 q0
  suffices inner : ∀ (w : Value) (t1 : Shared), (∃ (y : V) (K1 : Hp), L2.Inv X pins σ0 K1 t1 ∧ RelV y w ∧ ∃ (p : Addr) (zs : List Int), y = V.ref p ∧ SqL X.K K1 p (zs.map V.int) ∧ zs.length ≤ 4000 ∧ (zs.foldl step_dedup []).length < 64 ∧ ∀ q, K1 q = none → Q0 (.ref q) (upd K1 q (.lst ((sortI (zs.foldl step_dedup [])).map V.int)))) →
      wpAny (model X.prog X.w) X.A (call (.type "set") [w]) (fun u t2 => wpAny (model X.prog X.w) X.A (call (.builtin "sorted") [u]) (EP X pins σ0 Q0) X.xe t2) X.xe t1 from
    Call_ (ld_blt I0 gl ml (by decide +kernel) (callWith_builtin1 (args_cons (Call_ (ld_blt I0 gs ms boot_set (callWith_type1 (args_cons (thn (pe.run pins s0 σ0 H0 _ I0 q0) fun w t1 z => args_nil (wpAny_mono (inner w t1 z) (fun u t2 g => args_nil g) fun _ _ g => g)) st) st rfl))) rfl) rfl rfl))
  rintro w t1 ⟨y, K1, J1, ry, p, zs, rfl, hp, hz, h64, q1⟩
  cases ry
  obtain ⟨us, rv, isl, _⟩ := J1.list hp
  have sz : us.toArray.size = zs.length := by
    have := rv.length
    rw [List.length_map] at this
    rw [List.size_toArray, this]
  have room : zs.length + 1 < scanBound := by unfold scanBound; omega
  have iz : IntsAre us.toArray.toList zs := by simpa using rv.ints
  refine call_setR_list zs (J1.ok.hd calm) isl.isList iz room ?_
  rintro t2 ⟨h2, tk2, c, rfl, R, few, keep⟩
  have J2 : Inv X pins σ0 K1 { t1 with heap := h2, toks := tk2 } := J1.kept keep
  have cl : c = (zs.foldl step_dedup []).length := by
    obtain ⟨o, es, ep, t, _, _, _, _, nd, mem, _, _, hn, _⟩ := R
    have pm : (es.toList.map L2.keyOf).Perm (zs.foldl step_dedup []) := (List.perm_ext_iff_of_nodup nd (nodup_ints zs)).mpr fun x => by
      rw [has_ints, ← mem x, decide_eq_true_iff]
    have := pm.length_eq
    rw [List.length_map, Array.length_toList, hn] at this
    exact this
  have R2 : SetR X.w ({ t1 with heap := h2, toks := tk2 } : Shared).heap t1.heap.objs.size (fun j => decide (j ∈ zs)) c := R
  generalize ({ t1 with heap := h2, toks := tk2 } : Shared) = t3 at *
  refine sorted_set R2 (J2.ok.hd calm) (by omega) fun s' p out c' ns k g o hp hg hi hs hm hl => ?_
  have pm : ns.Perm (zs.foldl step_dedup []) := (List.perm_ext_iff_of_nodup (hs.imp fun h => Int.ne_of_lt h) (nodup_ints zs)).mpr fun x => by
    rw [has_ints, hm x, decide_eq_true_iff]
  have en : ns = sortI (zs.foldl step_dedup []) := perm_sorted_eq (pm.trans (sortI_perm _).symm) (hs.imp fun h => Int.le_of_lt h) (sortI_sorted _)
  have hlen : (ns.map V.int).length ≤ sizeLine := by rw [List.length_map, hl, sizeLine_eq]; omega
  have hn : K1 p = none := J2.hok.fresh hp
  have J : Inv X pins σ0 (upd K1 p (.lst (ns.map V.int))) { t3 with heap := s'.heap, gens := s'.gens, drawn := s'.drawn, toks := s'.toks } :=
    J2.call (ch := []) (Un.laid k hp hn) (J2.hok.laid k hp ⟨hlen, out.toList, c', vals_of_ints hi, hg⟩) (by rw [g]; exact J2.bare) (fun _ z => nomatch z)
  have e : s' = { t3 with heap := s'.heap, gens := s'.gens, drawn := s'.drawn, toks := s'.toks } := by
    cases s'
    cases t3
    cases o
    rfl
  rw [e]
  rw [en] at J
  exact ⟨.ref p, _, J, rfl, q1 p hn⟩
theorem sortedset_inv {ds : List Wd.D} {rr : Rv} (h : bi .sortedset ds = some rr) : ∃ (l : List Wd.D) (zs : List Int), ds = [.lst l] ∧ ints? l = some zs ∧ zs.length ≤ 4000 ∧ (zs.foldl step_dedup []).length < 64 ∧ rr = .n (.lst ((sortI (zs.foldl step_dedup [])).map .int)) := by
  have h : sortedsetB ds = some rr := h
  unfold sortedsetB at h
  split at h
  · obtain ⟨zs, hz, h⟩ := Option.bind_eq_some_iff.mp h
    split at h
    · rename_i q
      cases h
      exact ⟨_, zs, rfl, hz, q.1, q.2, rfl⟩
    · cases h
  · cases h
theorem s_sortSet {e : Expr} {ie : Ie} {p p2 q pos : Pos} (hK : X.K = Z.K) (hc : X.calm = true) (hg : Gl X "sorted") (hm : X.mg "sorted" = none) (hg2 : Gl X "set") (hm2 : X.mg "set" = none) (he : PE X e (tE Z W (evE T C ie))) (hp : plain e = true) :
    PE X (.Call (.Name "sorted" p) [.Call (.Name "set" p2) [e] [] q] [] pos) (tE Z W (evE T C (.bi .sortedset (.cons ie .nil)))) := by
  refine ⟨fun pins s σ H Q I h => (pe_sortS hc hg hm hg2 hm2 he (star_plain hp)).run pins s σ H Q I ?_⟩
  obtain ⟨Hf, F, st, R, h⟩ := h
  rw [E_bi1] at h
  refine t_one R h fun x s2 H2 Hf2 v e2 R2 r2 h => ?_
  obtain ⟨ds, hds, h⟩ := Po.optP h.bind
  have h9 := h.at R2
  obtain ⟨d1, h1, e3⟩ := rds1 hds
  obtain ⟨rr, hr, h8⟩ := Po.optP h9
  obtain ⟨l, zs, hl, hz, hn, h64, er⟩ := sortedset_inv hr
  rw [er] at h8
  rw [e3] at hl
  cases hl
  obtain ⟨a, vs, ev, k1, k2⟩ := (rep_of R2 r2 h1).lst R2.sub
  rw [ints_isl hz k2] at k1
  exact ⟨a, zs, ev, SqL.of k1, hn, h64, fun q hq => ret_n h8 R2 hq ⟨_, rfl, isl_ints _⟩⟩
/-- how many numbers range(i, j, k) has -/
def tLenRg (ta : TA) : TE := fun σ H Q => ta σ H fun vs H1 => ∃ (i j c : Int) (n : Nat), vs = [.int i, .int j, .int c] ∧ RgC i j c n ∧ (n : Int) < 2 ^ 62 ∧ Q (.int (n : Int)) H1
theorem pe_lenRg {a b c : Expr} {ta : TA} {n1 n2 n3 n4 : Pos} (gl : Gl X "len") (ml : X.mg "len" = none) (gs : Gl X "range") (ms : X.mg "range" = none) (pa : PA X [a, b, c] ta) (hs : starEach [a, b, c] X.env = (false, eval a X.env) :: starEach [b, c] X.env) (hpl : (backTo n3 (starEach [b, c] X.env)).any (·.1) = false) :
    PE X (.Call (.Name "len" n1) [.Call (.Name "range" n2) [a, b, c] [] n3] [] n4) (tLenRg ta) := by
  constructor
  intro pins s0 σ0 H0 Q0 I0 q0
  suffices inner : ∀ (us : List Value) (t1 : Shared), (∃ (vs : List V) (K1 : Hp), L2.Inv X pins σ0 K1 t1 ∧ Vals vs us ∧ ∃ (i j c : Int) (n : Nat), vs = [.int i, .int j, .int c] ∧ RgC i j c n ∧ (n : Int) < 2 ^ 62 ∧ Q0 (.int (n : Int)) K1) →
      wpAny (model X.prog X.w) X.A (call (.type "range") us) (fun u t2 => wpAny (model X.prog X.w) X.A (call (.builtin "len") [u]) (EP X pins σ0 Q0) X.xe t2) X.xe t1 from
    Call_ (ld_blt I0 gl ml PySem.boot_len (callWith_builtin1 (args_cons (Call_ (ld_blt I0 gs ms boot_range (callWith_type1 (thn (pa.run n3 pins s0 σ0 H0 _ I0 q0) fun us t1 z => wpAny_mono (inner us t1 z) (fun u t2 g => args_nil g) fun _ _ g => g) hs hpl))) rfl) rfl rfl))
  rintro us t1 ⟨vs, K1, J1, rv, i, j, k, n, rfl, ⟨c0, c1, c2, c3⟩, hn, q1⟩
  cases rv with
  | cons r rr =>
    cases rr with
    | cons r' rr =>
      cases rr with
      | cons r'' rr =>
        cases rr
        obtain ⟨t, rfl⟩ := r
        obtain ⟨t', rfl⟩ := r'
        obtain ⟨t'', rfl⟩ := r''
        refine call_range_3 c0 ?_ (.inl (PyProof.noPylong_small c1))
        have J2 : Inv X pins σ0 K1 { t1 with heap := t1.heap.push { cls := .type "range", data := .fields #[.int i t, .int j t', .int k t''] }, toks := t1.toks } := J1.kept (t' := t1.toks) fun b o e => Heap.get?_push_of_some _ e
        refine call_len_range (n := n) (IsRange.new ..) c3 (by omega) ?_
        exact ⟨.int n, K1, J2.tok _, ⟨_, rfl⟩, q1⟩
theorem lenrange_inv {ds : List Wd.D} {rr : Rv} (h : bi .lenrange ds = some rr) : ∃ (i j c : Int) (n : Nat), ds = [.int i, .int j, .int c] ∧ RgC i j c n ∧ (n : Int) < 2 ^ 62 ∧ rr = .v (.int (n : Int)) := by
  have h : lenrangeB ds = some rr := h
  unfold lenrangeB at h
  split at h
  · split at h
    · rename_i i j c h0 q
      cases h
      refine ⟨i, j, c, (Builtin.Range.rangeSize i j c).toNat, rfl, ⟨q.1, q.2.1, q.2.2.1, ?_⟩, ?_, ?_⟩
      · rw [Int.toNat_of_nonneg q.2.2.2.1]
      · rw [Int.toNat_of_nonneg q.2.2.2.1]
        exact q.2.2.2.2
      · rw [Int.toNat_of_nonneg q.2.2.2.1]
    · cases h
  · cases h
theorem s_lenRg {a b c : Expr} {ia : Ia} {p p2 q pos : Pos} (hg : Gl X "len") (hm : X.mg "len" = none) (hg2 : Gl X "range") (hm2 : X.mg "range" = none) (ha : PA X [a, b, c] (tA Z W (evA T C ia))) (hp : [a, b, c].all plain = true) :
    PE X (.Call (.Name "len" p) [.Call (.Name "range" p2) [a, b, c] [] q] [] pos) (tE Z W (evE T C (.bi .lenrange ia))) := by
  have hp' := hp
  rw [List.all_cons, Bool.and_eq_true] at hp'
  refine ⟨fun pins s σ H Q I h => (pe_lenRg hg hm hg2 hm2 ha (star_plain hp'.1) (back_plain hp'.2)).run pins s σ H Q I ?_⟩
  obtain ⟨Hf, F, st, R, h⟩ := h
  rw [evE] at h
  refine t_args R h fun ds s2 H2 Hf2 vs e2 R2 p h => ?_
  obtain ⟨rr, hr, h⟩ := Po.optP h
  obtain ⟨i, j, k, n, rfl, ok, hn, rfl⟩ := lenrange_inv hr
  obtain ⟨v, w, rfl, p1, p2⟩ := p
  obtain ⟨w1, w2, rfl, p2, p3⟩ := reps2 p2
  exact ⟨i, j, k, n, by rw [p1.int, p2.int, p3.int], ok, hn, ret_v h R2 (by unfold Isd; rfl)⟩
end
end Wd
-- WdSd41
set_option linter.all false
set_option maxRecDepth 100000
set_option maxHeartbeats 2000000
set_option Elab.async false
/-! x.get(k, a number). -/
namespace Wd
open PySem L2 PySem.Spec PyProof.Rows
section
variable {Z : Wo} {W : WX} {X : Cx} {Hf Hf' H H' F F' : Hp} {s s' : Sto} {σ : L2.St} {v : V} {d d' : D} {r : Rv} {T : Tab} {C : Str → List Sl → CRes} {Q : VK} {i : Nat} {p : Addr} {o : HO}
def rGet2 : V → List V → Hp → VK → Prop := fun x xs H Q => ∃ a y z o, x = .ref a ∧ xs = [y, z] ∧ DGet H a y o ∧ Q (o.getD z) H
theorem mt_get2 (hu : X.A.units + 1 < cLine) : MtR X "dict.get" rGet2 := by
  intro pins s σ H x xs v us Q I rx rxs h
  obtain ⟨a, y, z, o, rfl, rfl, g, q⟩ := h
  cases rx
  cases rxs with
  | cons r1 rr =>
    cases rr with
    | cons r2 rr =>
      cases rr
      exact d_get2 hu I g r1 r2 fun w' s' I' rw' => ⟨_, H, I', rw', q⟩
theorem mt_dct {K : PySem.W.Frag} {x : Rv} (R : Rel Z Hf H F s σ) (rx : RR Z Hf H F s σ x v) (hp : peek x s = some d) (ok : mtOk .get d = true) : tyV K "dict" v H := by
  have hd : ∃ ks l, d = .dct ks l := by
    cases d <;> first | exact ⟨_, _, rfl⟩ | cases ok
  obtain ⟨ks, l, rfl⟩ := hd
  obtain ⟨a, vs, e1, e2, g1, i1⟩ := (rep_of R rx hp).dct R.sub
  subst e1
  exact .inr (.inr (.inl ⟨rfl, .inl ⟨_, g1⟩⟩))
theorem mt_get_inv {d : D} {ds : List D} {rr : Rv} (h : mt .get d ds = some rr) : ∃ ks l k x k', d = .dct ks l ∧ ds = [k, .int x] ∧ keyOf k = some k' ∧ rr = .v ((kget ks l k').getD (.int x)) := by
  match d, ds, h with
  | .dct ks l, [k, .int x], h =>
    obtain ⟨k', h1, h2⟩ := Option.map_eq_some_iff.mp (show (keyOf k).map _ = some rr from h)
    exact ⟨ks, l, k, x, k', rfl, rfl, h1, h2.symm⟩
theorem s_get2 {o e f : Expr} {io : Ie} {ia : Ia} {apos cpos : Pos} (hu : X.A.units + 64 < cLine) (ho : PE X o (tE Z W (evE T C io))) (ha : PA X [e, f] (tA Z W (evA T C ia))) (hb : okBase o = true) (hl : (apos.endLine == cpos.line) = true) (hp : plain e = true) (hp2 : plain f = true) :
    PE X (.Call (.Attribute o "get" apos) [e, f] [] cpos) (tE Z W (evE T C (.mt .get io ia))) := by
  refine ⟨fun pins s σ H Q I h => (pe_bm (r := rGet2) PySem.F.plainAttrs_dict PySem.F.slot_dict_get PySem.F.type_dict_get (mt_get2 (by omega)) ho ha (base_ok hb) (by rw [star_plain hp, star_plain hp2]; rfl) hl (star_plain hp) (by rw [star_plain hp2]; rfl)).run pins s σ H Q I ?_⟩
  obtain ⟨Hf, F, st, R, h⟩ := h
  rw [E_mtr0 .get _ _ _ rfl] at h
  refine t_one R h fun x s1 H1 Hf1 v1 e1 R1 r1 h => ?_
  obtain ⟨d0, hd0, h⟩ := h.bind.opt R1
  split at h
  · rename_i ok
    refine ⟨mt_dct R1 r1 hd0 ok, ?_⟩
    refine ⟨Hf1, addT F H1 x v1, s1, R1.add r1, (h.bind.frame (addT_sub r1)).imp fun rs s2 H2 Hf2 e2 R2 h vs r2 => ?_⟩
    obtain ⟨d, hd, h⟩ := h.bind.opt (R2.weak (addT_sub r1))
    obtain ⟨ds, hds, h⟩ := h.bind.opt (R2.weak (addT_sub r1))
    obtain ⟨rr, hr, h⟩ := Po.optP h
    have q1 := rep_of (R2.weak (addT_sub r1)) (r1.later e2 R2) hd
    have q2 := reps_of (R2.weak (addT_sub r1)) (r2.weak (addT_sub r1)) hds
    obtain ⟨ks, l, k, x, k', rfl, rfl, hk, rfl⟩ := mt_get_inv hr
    obtain ⟨a, vs, e1, e2, g1, i1⟩ := q1.dct R2.sub
    obtain ⟨w1, w2, rfl, p1, p2⟩ := reps2 q2
    obtain rfl := p2.int
    obtain ⟨j1, j2⟩ := valV_kget (k := k') e2 i1
    subst e1
    have hR2 := R2.weak (addT_sub r1)
    cases hg : kget ks l k' with
    | some d1 =>
      obtain ⟨v2, hv, q⟩ := j1 d1 hg
      rw [hg] at h
      refine ⟨a, w1, .int x, some v2, rfl, rfl, ?_, h _ Hf2 (Same.refl _) hR2 _ q⟩
      rw [keyOf_kV hk p1, ← hv]
      exact DGet.k g1
    | none =>
      have hv := j2 hg
      rw [hg] at h
      refine ⟨a, w1, .int x, none, rfl, rfl, ?_, h _ Hf2 (Same.refl _) hR2 _ (isd_int (Z := Z) (Hf := Hf2))⟩
      rw [keyOf_kV hk p1, ← hv]
      exact DGet.k g1
  · exact h.elim
end
end Wd
-- WdSd42
set_option linter.all false
set_option maxRecDepth 100000
set_option maxHeartbeats 2000000
set_option Elab.async false
/-! x.join(y), x.split(y), str(x). -/
namespace Wd
open PySem L2 PySem.Spec PyProof.Rows
section
variable {Z : Wo} {W : WX} {X : Cx} {Hf Hf' H H' F F' : Hp} {s s' : Sto} {σ : L2.St} {v : V} {d d' : D} {r : Rv} {T : Tab} {C : Str → List Sl → CRes} {Q : VK} {i : Nat} {p : Addr} {o : HO}
theorem strs_isl : ∀ {l : List D} {ss : List Str} {vs : List V}, strs? l = some ss → Isl Z Hf l vs → vs = ss.map V.str
  | [], ss, vs, h, q => by
    cases h
    unfold Isl at q
    exact q
  | d :: l, ss, vs, h, q => by
    obtain ⟨x, r, rfl, h1, h2⟩ := isl_cons.mp q
    match d, h with
    | .str z, h =>
      obtain ⟨ss', e1, rfl⟩ := Option.map_eq_some_iff.mp (show (strs? l).map _ = some ss from h)
      have h1 : x = .str z := by unfold Isd at h1; exact h1
      rw [h1, strs_isl e1 h2]
      rfl
theorem isl_strs : ∀ ss : List Str, Isl Z Hf (ss.map D.str) (ss.map V.str)
  | [] => by unfold Isl; rfl
  | z :: ss => isl_cons.mpr ⟨_, _, rfl, isd_str, isl_strs ss⟩
theorem mt_strT {K : PySem.W.Frag} {m : Mt} {x : Rv} (R : Rel Z Hf H F s σ) (rx : RR Z Hf H F s σ x v) (hp : peek x s = some d) (ok : mtOk m d = true) (hm : m = .join ∨ m = .split) : tyV K "str" v H := by
  have hd : ∃ l, d = .str l := by
    rcases hm with rfl | rfl <;> (cases d <;> first | exact ⟨_, rfl⟩ | cases ok)
  obtain ⟨l, rfl⟩ := hd
  rw [(rep_of R rx hp).str]
  rfl
theorem mt_join_inv {d : D} {ds : List D} {rr : Rv} (h : mt .join d ds = some rr) : ∃ z l ss, d = .str z ∧ (ds = [.lst l] ∨ ds = [.tup l]) ∧ strs? l = some ss ∧ (ss.map slen).sum + ss.length * slen z ≤ LIM ∧ rr = .v (.str (Txt.join z ss)) := by
  match d, ds, h with
  | .str z, [.lst l], h =>
    obtain ⟨ss, h1, h2⟩ := Option.bind_eq_some_iff.mp (show (strs? l).bind _ = some rr from h)
    split at h2
    · rename_i hc
      exact ⟨z, l, ss, rfl, .inl rfl, h1, hc, (Option.some.inj h2).symm⟩
    · cases h2
  | .str z, [.tup l], h =>
    obtain ⟨ss, h1, h2⟩ := Option.bind_eq_some_iff.mp (show (strs? l).bind _ = some rr from h)
    split at h2
    · rename_i hc
      exact ⟨z, l, ss, rfl, .inr rfl, h1, hc, (Option.some.inj h2).symm⟩
    · cases h2
theorem mt_split_inv {d : D} {ds : List D} {rr : Rv} (h : mt .split d ds = some rr) : ∃ z t, d = .str z ∧ ds = [.str t] ∧ slen t ≠ 0 ∧ slen z ≤ LIM ∧ rr = .n (.lst ((Txt.split z t).map .str)) := by
  match d, ds, h with
  | .str z, [.str t], h =>
    have h : (if slen t ≠ 0 ∧ slen z ≤ LIM then some (Rv.n (.lst ((Txt.split z t).map .str))) else none) = some rr := h
    split at h
    · rename_i hc
      exact ⟨z, t, rfl, rfl, hc.1, hc.2, (Option.some.inj h).symm⟩
    · cases h
def rJoin (K : PySem.W.Frag) : V → List V → Hp → VK → Prop := fun x xs H Q => ∃ a p, ∃ ys : List Str, x = .str a ∧ xs = [.ref p] ∧ (SqL K H p (ys.map V.str) ∨ SqT K H p (ys.map V.str)) ∧
    (ys.map (·.length)).sum + ys.length * a.length ≤ 16777216 ∧ Q (.str (Txt.join a ys)) H
def rSplit : V → List V → Hp → VK → Prop := fun x xs H Q => ∃ a b, x = .str a ∧ xs = [.str b] ∧ (b.length == 0) = false ∧ a.length + 2 ≤ sizeLine ∧ rNewStrs (Txt.split a b) H Q
theorem lim_24 : LIM ≤ 16777216 := by decide
theorem lim_2 : LIM + 2 ≤ sizeLine := by decide
theorem s_join {o e : Expr} {io : Ie} {ia : Ia} {apos cpos : Pos} (hK : X.K = Z.K) (ho : PE X o (tE Z W (evE T C io))) (ha : PA X [e] (tA Z W (evA T C ia))) (hb : okBase o = true) (hl : (apos.endLine == cpos.line) = true) (hp : plain e = true) :
    PE X (.Call (.Attribute o "join" apos) [e] [] cpos) (tE Z W (evE T C (.mt .join io ia))) := by
  refine ⟨fun pins s σ H Q I h => (pe_bm (r := rJoin X.K) PySem.F.plainAttrs_str PySem.F.slot_str_join PySem.F.type_str_join mt_join ho ha (base_ok hb) (by rw [star_plain hp]; rfl) hl (star_plain hp) rfl).run pins s σ H Q I ?_⟩
  obtain ⟨Hf, F, st, R, h⟩ := h
  rw [E_mtr0 .join _ _ _ rfl] at h
  refine t_one R h fun x s1 H1 Hf1 v1 e1 R1 r1 h => ?_
  obtain ⟨d0, hd0, h⟩ := h.bind.opt R1
  split at h
  · rename_i ok
    refine ⟨mt_strT R1 r1 hd0 ok (.inl rfl), ?_⟩
    refine ⟨Hf1, addT F H1 x v1, s1, R1.add r1, (h.bind.frame (addT_sub r1)).imp fun rs s2 H2 Hf2 e2 R2 h vs r2 => ?_⟩
    obtain ⟨d, hd, h⟩ := h.bind.opt (R2.weak (addT_sub r1))
    obtain ⟨ds, hds, h⟩ := h.bind.opt (R2.weak (addT_sub r1))
    obtain ⟨rr, hr, h⟩ := Po.optP h
    have q1 := rep_of (R2.weak (addT_sub r1)) (r1.later e2 R2) hd
    have q2 := reps_of (R2.weak (addT_sub r1)) (r2.weak (addT_sub r1)) hds
    obtain ⟨z, l, ss, rfl, hds', hss, hz, rfl⟩ := mt_join_inv hr
    have hz' : (ss.map (·.length)).sum + ss.length * z.length ≤ 16777216 := Nat.le_trans hz lim_24
    have fin := h _ Hf2 (Same.refl _) (R2.weak (addT_sub r1)) _ (isd_str (Z := Z) (Hf := Hf2))
    rcases hds' with rfl | rfl
    · obtain ⟨w, rfl, q3⟩ := reps1 q2
      obtain ⟨a, us, rfl, h2, h3⟩ := q3.lst R2.sub
      rw [strs_isl hss h3] at h2
      exact ⟨z, a, ss, q1.str, rfl, .inl (SqL.of h2), hz', fin⟩
    · obtain ⟨w, rfl, q3⟩ := reps1 q2
      obtain ⟨a, us, rfl, h2, h3⟩ := q3.tup R2.sub
      rw [strs_isl hss h3] at h2
      exact ⟨z, a, ss, q1.str, rfl, .inr (by rw [hK]; exact h2), hz', fin⟩
  · exact h.elim
theorem s_split {o e : Expr} {io : Ie} {ia : Ia} {apos cpos : Pos} (ho : PE X o (tE Z W (evE T C io))) (ha : PA X [e] (tA Z W (evA T C ia))) (hb : okBase o = true) (hl : (apos.endLine == cpos.line) = true) (hp : plain e = true) :
    PE X (.Call (.Attribute o "split" apos) [e] [] cpos) (tE Z W (evE T C (.mt .split io ia))) := by
  refine ⟨fun pins s σ H Q I h => (pe_bm (r := rSplit) PySem.F.plainAttrs_str PySem.F.slot_str_split PySem.F.type_str_split mt_split ho ha (base_ok hb) (by rw [star_plain hp]; rfl) hl (star_plain hp) rfl).run pins s σ H Q I ?_⟩
  obtain ⟨Hf, F, st, R, h⟩ := h
  rw [E_mtr0 .split _ _ _ rfl] at h
  refine t_one R h fun x s1 H1 Hf1 v1 e1 R1 r1 h => ?_
  obtain ⟨d0, hd0, h⟩ := h.bind.opt R1
  split at h
  · rename_i ok
    refine ⟨mt_strT R1 r1 hd0 ok (.inr rfl), ?_⟩
    refine ⟨Hf1, addT F H1 x v1, s1, R1.add r1, (h.bind.frame (addT_sub r1)).imp fun rs s2 H2 Hf2 e2 R2 h vs r2 => ?_⟩
    obtain ⟨d, hd, h⟩ := h.bind.opt (R2.weak (addT_sub r1))
    obtain ⟨ds, hds, h⟩ := h.bind.opt (R2.weak (addT_sub r1))
    obtain ⟨rr, hr, h⟩ := Po.optP h
    have q1 := rep_of (R2.weak (addT_sub r1)) (r1.later e2 R2) hd
    have q2 := reps_of (R2.weak (addT_sub r1)) (r2.weak (addT_sub r1)) hds
    obtain ⟨z, t, rfl, rfl, h1, h2, rfl⟩ := mt_split_inv hr
    obtain ⟨w, rfl, q3⟩ := reps1 q2
    exact ⟨z, t, q1.str, by rw [q3.str], beq_eq_false_iff_ne.mpr h1, Nat.le_trans (Nat.add_le_add_right h2 2) lim_2, fun p hp => ret_n h (R2.weak (addT_sub r1)) hp ⟨_, rfl, isl_strs _⟩⟩
  · exact h.elim
end
end Wd
-- WdSd43
set_option linter.all false
set_option maxRecDepth 100000
set_option maxHeartbeats 2000000
set_option Elab.async false
/-! str(x): of a whole number, a string, an object of an own class. -/
namespace Wd
open PySem L2 PySem.Spec PyProof.Rows
section
variable {Z : Wo} {B : Nat → Option Addr} {W : WX} {X : Cx} {Hf Hf' H H' F F' : Hp} {s s' : Sto} {σ : L2.St} {v : V} {d d' : Wd.D} {r : Rv} {T : Tab} {C : Str → List Sl → CRes}
def rStrI : List V → Hp → VK → Prop := fun xs H Q => ∃ i, xs = [V.int i] ∧ i.natAbs.log2 < 1920 ∧ Q (.str (toString i)) H
def rStrS : List V → Hp → VK → Prop := fun xs H Q => ∃ a, xs = [V.str a] ∧ Q (.str a) H
def rStrO (Z : Wo) (T : Tab) (C : Str → List Sl → CRes) : List V → Hp → VK → Prop := fun xs H Q => ∃ a c dx fs fd, xs = [V.ref a] ∧ H a = some (.ins (Z.cA c) dx fs) ∧ Z.kn c ∧ fdOf T (c ++ "." ++ "__str__") = some fd ∧
  (fd.ps.length = 1 → spF Z (C (c ++ "." ++ "__str__")) fd.ps.length [.ref a] H (fun v H' => ∃ t, v = .str t ∧ Q v H') fun _ _ _ => False)
theorem cr_strO {CX : CXT} {k : Nat} (G : CxOk X Z) (gd : X.A.guards = some []) (M : MtOk X Z T C CX k "__str__" [] 0 []) (hr : Room (k + 2) X.A) (hx : Passes CX X.nox (fun _ _ _ => False)) : CallR X (.type "str") (rStrO Z T C) := by
  intro pins s σ H xs us Q I rr h
  obtain ⟨a, c, dx, fs, fd, rfl, ea, kn, hfd, q⟩ := h
  obtain ⟨u, rfl, ru⟩ := rr.one
  obtain rfl : u = Value.ref a := ru
  obtain ⟨g, fdt, ps, m1, m2, ⟨gg, m3⟩, m4, m5⟩ := M c fd kn hfd
  obtain ⟨mA, O, _, _, _, _⟩ := ins_get I.hok ea
  obtain ⟨od, J, _⟩ := O.look
  have l1 : fd.ps.length = 1 := by rw [m4, ← m5]; rfl
  have hu : X.A.in1.in1.units < cLine := by
    have := (hr.in1.in1).units
    omega
  have q := q l1
  rw [m4] at q
  have ps1 : ps.length = 1 := by rw [← m5]; rfl
  refine PySem.W.kso_call hu I.kIn J m1.at_ m1.fn (wpAny_call ?_)
  have r2 : Vals [V.ref a] [Value.ref a] := .cons rfl .nil
  have b0 := m3.to s [.ref a] [] I.kIn rfl rfl
  have rel := m3.rel r2 .nil
  have e1 : pmV (.a 0 :: shift []) ([V.ref a] ++ []) = [V.ref a] := rfl
  rw [e1] at rel
  refine codeAny_mono (m2.run X.A.in1.in1 X.stack s H ⟨[.ref a], []⟩ (gg [.ref a] []) [.ref a] (fun v H' => ∃ t, v = .str t ∧ Q v H') (fun _ _ _ => False) (g_in1 (g_in1 gd)) hr.in1.in1 I.env0.in1.in1 b0 rel q) fun r s' hq => ?_
  cases r with
  | error er => exact False.elim (hx pins σ H s er s' (I.wish _) hq)
  | ok fl =>
    cases fl with
    | ret u =>
      obtain ⟨v, H', I3, rv, t, ev, q3⟩ := I.after hq
      subst ev
      obtain ⟨tk, rfl⟩ := (show ∃ tk, u = Value.str t tk from rv)
      exact ⟨.str t, H', I3, ⟨tk, rfl⟩, q3⟩
    | next => exact False.elim hq
    | brk => exact False.elim hq
    | cont => exact False.elim hq
theorem str_key (c : Str) : c ++ ".__str__" = c ++ "." ++ "__str__" := by
  rw [Str.append_assoc]
  congr 1
theorem s_strc {CX : CXT} {k : Nat} {a : Expr} {ia : Ie} {p pos : Pos} (G : CxOk X Z) (gd : X.A.guards = some []) (N : BiN X "str" (.type "str")) (M : MtOk X Z T C CX k "__str__" [] 0 []) (hr : Room (k + 2) X.A) (hx : Passes CX X.nox (fun _ _ _ => False))
    (ha : PE X a (tE (Z.wB B) W (evE T C ia))) (hp : plain a = true) : PE X (.Call (.Name "str" p) [a] [] pos) (tE (Z.wB B) W (evE T C (.strc ia))) := by
  refine ⟨fun pins s σ H Q I h => (pe_callTy (Wd.CallR.or (Wd.CallR.or (r := rStrI) (r' := rStrS) call_str_int SkE.call_str_str) (cr_strO G gd M hr hx)) N.gl N.mg N.bt (pa_cons ha pa_nil (star_plain hp)) N.nn N.nd (star_plain hp) rfl).run pins s σ H Q I ?_⟩
  obtain ⟨Hf, F, st, R, h⟩ := h
  rw [evE] at h
  refine t_one R h fun x s1 H1 Hf1 v1 e1 R1 r1 h => ?_
  show (_ ∨ _) ∨ _
  obtain ⟨d, hd, h⟩ := h.bind.opt R1
  have p := rep_of R1 r1 hd
  cases d with
  | int i =>
    obtain ⟨rr, hrr, h⟩ := Po.optP h
    obtain ⟨t, ht, rfl⟩ := Option.map_eq_some_iff.mp (show (strI i).map _ = some rr from hrr)
    unfold strI at ht
    split at ht
    · rename_i hb
      cases ht
      refine .inl (.inl ⟨i, by rw [p.int], ?_, ret_v h R1 isd_str⟩)
      exact hb
    · cases ht
  | str z =>
    obtain ⟨rr, hrr, h⟩ := Po.optP h
    cases hrr
    exact .inl (.inr ⟨z, by rw [p.str], ret_v h R1 isd_str⟩)
  | ins c ns l =>
    obtain ⟨a, dx, vs, rfl, h1, h2, h3, kn⟩ := p.ins R1.sub
    simp only at h
    rw [str_key] at h
    cases hfd : fdOf T (c ++ "." ++ "__str__") with
    | none =>
      unfold callF at h
      rw [hfd] at h
      exact h.elim
    | some fd =>
      refine .inr ⟨a, c, dx, ns.zip vs, fd, rfl, h2, kn, hfd, fun hl => ?_⟩
      have h' : Po (Z.wB B) WF Hf1 F σ (callF T C (c ++ "." ++ "__str__") [x] s1) fun r s' H' Hf' => ∀ v, RR (Z.wB B) Hf' H' F s' σ r v → ∃ t, v = .str t ∧ Q v H' := by
        refine (noEx_po h.bind).imp fun r s2 H2 Hf2 e2 R2 h v rv => ?_
        split at h
        · rename_i t
          have p2 := rep_of R2 rv (show peek (.v (.str t)) s2 = some (.str t) from rfl)
          refine ⟨t, p2.str, ?_⟩
          rw [p2.str]
          exact ret_v h R2 isd_str
        · exact h.elim
      have := callF_ok (E := fun _ _ _ => False) (rs := [x]) (vs := [.ref a]) hfd (by rw [hl]; rfl) R1 (show RRs (Z.wB B) Hf1 H1 s1 σ F [x] [.ref a] from ⟨_, _, rfl, r1, rfl⟩) (fun _ _ _ => rfl) h'
      exact spF_B this
  | _ => exact h.elim
end
end Wd
-- WdSd44
set_option linter.all false
set_option maxRecDepth 100000
set_option maxHeartbeats 2000000
set_option Elab.async false
/-! A static method's call. -/
namespace Wd
open PySem L2 PySem.Spec PyProof.Rows
/-- c.m is a static method of the class at C: its record at p, its def at g -/
structure SmOk (K : PySem.W.Frag) (C : Addr) (m : Str) (p g : Addr) : Prop where
  rd : PySem.W.readsIn K C (.type "type") = true
  ga : PySem.W.specialIn K (.ref C) "__getattribute__" = some (some (.builtin "type.__getattribute__"))
  at_ : PySem.W.findCls K (.ref C) (.type "type") m = some (.get (.builtin "staticmethod.__get__") (.ref p) .none (.ref C))
  rc : ∃ rest, PySem.W.recIn K p "staticmethod" = some (.ref g :: rest)
  kp : PySem.W.keepIn K (.ref g) = true
section
variable {Z : Wo} {B : Nat → Option Addr} {W : WX} {X : Cx} {Hf Hf' H H' F F' : Hp} {s s' : Sto} {σ : L2.St} {v : V} {d d' : Wd.D} {r : Rv} {T : Tab} {C : Str → List Sl → CRes}
theorem getsm_ok {K0 p g : Addr} {m : Str} {pl : Sem Bool} {pins : List (Addr × Obj)} {sh : Shared} {A : Around} {E : Value → Shared → Prop} {Q : Value × List Value → Shared → Prop} (I : L2.Inv X pins σ H sh) (S : SmOk X.K K0 m p g) (h : Q (.ref g, []) { sh with toks := sh.toks + 1 }) : wpAny (model X.prog X.w) A (getMethod (.ref K0) m pl) Q E sh := by
  obtain ⟨rest, hp⟩ := S.rc
  exact PySem.W.method_cls I.kIn S.ga (PySem.W.cls_bind I.kIn S.rd S.at_ (wpAny_call (PySem.W.sm_get (s := { sh with toks := sh.toks + 1 }) I.kIn hp (PySem.W.handed_on rfl h))))
theorem s_static {CX : CXT} {k : Nat} {fa p1 : Addr} {fdt : FuncData} {ps ks : List Str} {f c m : Str} {fd : FD} {pm : List Pm} {es : List Expr} {kws : List Keyword} {p : Pos} {apos pos : Pos} {ia ik : Ia} {E0 : XK}
    (gd : X.A.guards = some []) (Fn : FnG X.prog X.w X.K X.mg X.base CX k fa fdt ps (spF Z (C f) ps.length)) (hr : Room k X.A) (hg : Gl X c) (hm : X.mg c = some (.ref (Z.cA c))) (S : SmOk X.K (Z.cA c) m p1 fa) (hb : BindOk X.K fdt ps pm es.length ks) (hx : Passes CX X E0) (hW : ∀ cls d σ H, W cls d σ H = E0 cls d H)
    (hf : fdOf T f = some fd) (hps : fd.ps.length = ps.length) (hpm : pm.length = ps.length) (hsc : pmScal pm = true) (ha : PA X es (tA (Z.wB B) W (evA T C ia))) (h0 : es = [] → ia = .nil) (hkw : PK X kws (tA (Z.wB B) W (evA T C ik))) (hp : es.all plain = true) (hks : kws.map (·.arg) = ks.map some)
    (hob : okBase (.Name c p) = true) (hn : fewOk es kws = true) (hl : (apos.endLine == pos.line) = true) (hdb : (c == ("__debug__" : Str)) = false) :
    PE X (.Call (.Attribute (.Name c p) m apos) es kws pos) (tE (Z.wB B) W (evE T C (.call f pm es.length ks.length ia ik))) := by
  obtain ⟨g, hb⟩ := hb
  refine ⟨fun pins s σ H Q I h => ?_⟩
  obtain ⟨Hf, F, st, R, h⟩ := h
  rw [evE] at h
  have run := args_run (G := fun vs H2 => spF Z (C f) ps.length vs H2 Q E0) hsc (fun _ _ q => q) R h fun ts s2 H2 Hf2 vs e2 R2 r2 hl h => by
    have := callF_ok (E := E0) hf (by rw [hl, hpm, hps]) R2 r2 (fun cls d H' => (hW cls d σ H').symm) h
    rw [hps] at this
    exact spF_B this
  obtain ⟨k1, k2, k3⟩ := kw_all (env := X.env) (pos := pos) hks
  rw [meth_eq hob hp hks hn hl]
  refine wpAny_bind (thn ((pe_glob (X := X) (pos := p) (v := V.ref (Z.cA c)) hg hm rfl hdb).run pins s σ H (fun v H1 => v = V.ref (Z.cA c) ∧ H1 = H) I (show V.ref (Z.cA c) = V.ref (Z.cA c) ∧ H = H from ⟨rfl, rfl⟩)) fun u s1 ⟨y, H1, I1, ry, ey, eH⟩ => wpAny_bind (wpAny_standAt (wpAny_bind (wpAny_holding ?_))))
  subst ey eH
  obtain rfl : u = Value.ref (Z.cA c) := ry
  refine getsm_ok I1 S ?_
  have I1 := I1.tok (s1.toks + 1)
  cases es with
  | nil =>
    have := h0 rfl
    subst this
    obtain ⟨Hf1, F1, s1', R1, run⟩ := run
    rw [evA] at run
    have run := run.at R1 [] rfl
    refine PySem.W.callWith_KW0 (h₀ := X.base) I1.ok.mod.kin S.kp k1 (thn (hkw.run pos pins _ σ H1 _ I1 run.2) fun ws s2 ⟨zs, H2, I2, rz, l2, q2⟩ => ⟨I2.kIn, ?_⟩) (by rw [k3]; rfl)
    rw [k2]
    exact run_fnNG (us := []) Fn gd hr hb hx I2 .nil rz rfl l2 q2
  | cons e es =>
    have hp' := hp
    rw [List.all_cons, Bool.and_eq_true] at hp'
    refine PySem.W.callWith_KW (h₀ := X.base) I1.ok.mod.kin S.kp k1 (thn (ha.run pos pins _ σ H1 _ I1 run) fun us s1 ⟨vs, H1, I1, r, l1, q⟩ => ?_) (by rw [k3, back_plain hp]; rfl) (star_plain hp'.1)
    refine thn (hkw.run pos pins s1 σ H1 _ I1 q) fun ws s2 ⟨zs, H2, I2, rz, l2, q2⟩ => ⟨I2.kIn, ?_⟩
    rw [k2]
    exact run_fnNG Fn gd hr hb hx I2 r rz l1 l2 q2
end
end Wd
-- WdSd45
set_option linter.all false
set_option maxRecDepth 100000
set_option maxHeartbeats 2000000
set_option Elab.async false
/-! A dict of the module: x in D, D[x]. -/
namespace Wd
open PySem L2 PySem.Spec PyProof.Rows
section
variable {Z : Wo} {B : Nat → Option Addr} {W : WX} {X : Cx} {Hf Hf' H H' F F' : Hp} {s s' : Sto} {σ : L2.St} {v : V} {d d' : Wd.D} {r : Rv} {T : Tab} {C : Str → List Sl → CRes}
/-- x is a dict of the module, d what it holds -/
def DcAt (X : Cx) (x : Str) (d : Wd.D) : Prop := ∃ a es n ks l, d = .dct ks l ∧ X.mg x = some (.ref a) ∧ KDict X.K X.w a es n ∧ ∀ z, ∃ r, PySem.W.nsIn X.K a z = some r ∧
  (∀ e, kget ks l (.inr z) = some e → Scalar e = true ∧ ∃ u, r = some u ∧ RelV (toV e) u) ∧ (kget ks l (.inr z) = none → r = none)
theorem ev_in {ia : Ie} (b : Bi) (st : Sto) : evE T C (.bi b (.cons ia (.cons (.con d) .nil))) st = bnd (rd (evE T C ia st)) fun k s => Wd.opt ("builtin " ++ toString (Repr.reprPrec b 0)) (bi b [k, d]) s := by
  simp only [evE, evA]
  cases evE T C ia st with
  | bad _ => rfl
  | ex _ _ => rfl
  | ok x s1 =>
    simp only [bnd, rd, rds, List.mapM_cons, List.mapM_nil]
    cases peek x s1 with
    | none => rfl
    | some k => rfl
theorem ev_ix {ia : Ie} (b : Bi) (st : Sto) : evE T C (.bi b (.cons (.con d) (.cons ia .nil))) st = bnd (rd (evE T C ia st)) fun k s => Wd.opt ("builtin " ++ toString (Repr.reprPrec b 0)) (bi b [d, k]) s := by
  simp only [evE, evA]
  simp only [bnd]
  cases evE T C ia st with
  | bad _ => rfl
  | ex _ _ => rfl
  | ok x s1 =>
    simp only [bnd, rd, rds, List.mapM_cons, List.mapM_nil]
    cases peek x s1 with
    | none => rfl
    | some k => rfl
theorem indict_inv {k : Wd.D} {ks : List (Sum Int Str)} {l : List Wd.D} {rr : Rv} (h : bi .indict [k, .dct ks l] = some rr) : ∃ z, k = .str z ∧ rr = .v (.bl (kget ks l (.inr z)).isSome) := by
  have h : indictB [k, .dct ks l] = some rr := h
  unfold indictB at h
  split at h
  · rename_i z ks l e
    cases e
    exact ⟨z, rfl, (Option.some.inj h).symm⟩
  · cases h
theorem ixdict_inv {k : Wd.D} {ks : List (Sum Int Str)} {l : List Wd.D} {rr : Rv} (h : bi .ixdict [.dct ks l, k] = some rr) : ∃ z e, k = .str z ∧ kget ks l (.inr z) = some e ∧ rr = .v e := by
  have h : ixdictB [.dct ks l, k] = some rr := h
  unfold ixdictB at h
  split at h
  · rename_i ks l z e
    cases e
    obtain ⟨e, h1, h2⟩ := Option.map_eq_some_iff.mp h
    exact ⟨z, e, rfl, h1, h2.symm⟩
  · cases h
/-- x in D -/
theorem s_inK {x : Str} {a : Expr} {ia : Ie} {p pos : Pos} (hD : DcAt X x d) (hg : Gl X x) (hdb : (x == ("__debug__" : Str)) = false) (hm : behindInMarks .In (.Name x p) = false) (ha : PE X a (tE Z W (evE T C ia))) :
    PE X (.Compare a [.In] [.Name x p] pos) (tE Z W (evE T C (.bi .indict (.cons ia (.cons (.con d) .nil))))) := by
  obtain ⟨A, es, n, ks, l, rfl, hmg, D, hz⟩ := hD
  refine ⟨fun pins s σ H Q I h => (pe_cmpR (op_in_kd D) ha (pe_glob (v := V.ref A) hg hmg rfl hdb) hm).run pins s σ H Q I ?_⟩
  obtain ⟨Hf, F, st, R, h⟩ := h
  rw [ev_in] at h
  refine t_rd R h fun k s2 H2 Hf2 v e2 R2 p1 h => ?_
  obtain ⟨rr, hr, h3⟩ := Po.optP h
  obtain ⟨z, rfl, rfl⟩ := indict_inv hr
  obtain ⟨r, e1, q1, q2⟩ := hz z
  refine ⟨z, r, p1.str, rfl, e1, ?_⟩
  have e : r.isSome = (kget ks l (.inr z)).isSome := by
    cases hk : kget ks l (.inr z) with
    | none => rw [q2 hk]; rfl
    | some e =>
      obtain ⟨_, u, hu, _⟩ := q1 e hk
      rw [hu]; rfl
  rw [e]
  exact ret_v h3 R2 isd_bl
theorem p_inK {x : Str} {a : Expr} {ia : Ie} {p pos : Pos} (hD : DcAt X x d) (hg : Gl X x) (hdb : (x == ("__debug__" : Str)) = false) (hm : behindInMarks .In (.Name x p) = false) (ha : PE X a (tE Z W (evE T C ia))) :
    PT X (.Compare a [.In] [.Name x p] pos) (tT Z W (evT T C (.bi .indict (.cons ia (.cons (.con d) .nil))))) := by
  obtain ⟨A, es, n, ks, l, rfl, hmg, D, hz⟩ := hD
  refine pt_weak (pt_cmpR (op_in_kd D) ha (pe_glob (v := V.ref A) hg hmg rfl hdb) hm) fun σ H Qb h => ?_
  obtain ⟨Hf, F, st, R, h⟩ := h
  unfold evT at h
  rw [ev_in] at h
  simp only [bnd_bnd] at h
  refine t_rd R h fun k s2 H2 Hf2 v e2 R2 p1 h => ?_
  obtain ⟨rr, hr, h3⟩ := Po.optP h.bind
  obtain ⟨z, rfl, rfl⟩ := indict_inv hr
  obtain ⟨r, e1, q1, q2⟩ := hz z
  refine ⟨z, r, p1.str, rfl, e1, ?_⟩
  have e : r.isSome = (kget ks l (.inr z)).isSome := by
    cases hk : kget ks l (.inr z) with
    | none => rw [q2 hk]; rfl
    | some e =>
      obtain ⟨_, u, hu, _⟩ := q1 e hk
      rw [hu]; rfl
  rw [e]
  exact ⟨_, rfl, (h3.at R2).at R2⟩
theorem ev_nin {ia : Ie} (b : Bi) (st : Sto) : evE T C (.nt (.bi b (.cons ia (.cons (.con d) .nil)))) st = bnd (rd (evE T C ia st)) fun k s => bnd (Wd.opt ("builtin " ++ toString (Repr.reprPrec b 0)) (bi b [k, d]) s) fun r s => bnd (Wd.opt "peek" (peek r s) s) fun x s => Wd.opt "truth" ((truth x).map fun b => .v (.bl (!b))) s := by
  rw [evE, ev_in]
  cases evE T C ia st with
  | bad _ => rfl
  | ex _ _ => rfl
  | ok x s1 =>
    simp only [bnd, rd]
    cases peek x s1 with
    | none => rfl
    | some k =>
      simp only [Wd.opt]
      cases bi b [k, d] with
      | none => rfl
      | some r =>
        simp only
/-- x not in D -/
theorem s_notinK {x : Str} {a : Expr} {ia : Ie} {p pos : Pos} (hD : DcAt X x d) (hg : Gl X x) (hdb : (x == ("__debug__" : Str)) = false) (hm : behindInMarks .NotIn (.Name x p) = false) (ha : PE X a (tE Z W (evE T C ia))) :
    PE X (.Compare a [.NotIn] [.Name x p] pos) (tE Z W (evE T C (.nt (.bi .indict (.cons ia (.cons (.con d) .nil)))))) := by
  obtain ⟨A, es, n, ks, l, rfl, hmg, D, hz⟩ := hD
  refine ⟨fun pins s σ H Q I h => (pe_cmpR (op_notIn_kd D) ha (pe_glob (v := V.ref A) hg hmg rfl hdb) hm).run pins s σ H Q I ?_⟩
  obtain ⟨Hf, F, st, R, h⟩ := h
  rw [ev_nin] at h
  refine t_rd R h fun k s2 H2 Hf2 v e2 R2 p1 h => ?_
  obtain ⟨rr, hr, h3⟩ := Po.optP h.bind
  obtain ⟨z, rfl, rfl⟩ := indict_inv hr
  obtain ⟨r, e1, q1, q2⟩ := hz z
  refine ⟨z, r, p1.str, rfl, e1, ?_⟩
  have e : r.isSome = (kget ks l (.inr z)).isSome := by
    cases hk : kget ks l (.inr z) with
    | none => rw [q2 hk]; rfl
    | some e =>
      obtain ⟨_, u, hu, _⟩ := q1 e hk
      rw [hu]; rfl
  rw [e]
  exact ret_v (h3.at R2) R2 isd_bl
theorem p_notinK {x : Str} {a : Expr} {ia : Ie} {p pos : Pos} (hD : DcAt X x d) (hg : Gl X x) (hdb : (x == ("__debug__" : Str)) = false) (hm : behindInMarks .NotIn (.Name x p) = false) (ha : PE X a (tE Z W (evE T C ia))) :
    PT X (.Compare a [.NotIn] [.Name x p] pos) (tT Z W (evT T C (.nt (.bi .indict (.cons ia (.cons (.con d) .nil)))))) := by
  obtain ⟨A, es, n, ks, l, rfl, hmg, D, hz⟩ := hD
  refine pt_weak (pt_cmpR (op_notIn_kd D) ha (pe_glob (v := V.ref A) hg hmg rfl hdb) hm) fun σ H Qb h => ?_
  obtain ⟨Hf, F, st, R, h⟩ := h
  unfold evT at h
  rw [ev_nin] at h
  simp only [bnd_bnd] at h
  refine t_rd R h fun k s2 H2 Hf2 v e2 R2 p1 h => ?_
  obtain ⟨rr, hr, h3⟩ := Po.optP h.bind
  obtain ⟨z, rfl, rfl⟩ := indict_inv hr
  obtain ⟨r, e1, q1, q2⟩ := hz z
  refine ⟨z, r, p1.str, rfl, e1, ?_⟩
  have e : r.isSome = (kget ks l (.inr z)).isSome := by
    cases hk : kget ks l (.inr z) with
    | none => rw [q2 hk]; rfl
    | some e =>
      obtain ⟨_, u, hu, _⟩ := q1 e hk
      rw [hu]; rfl
  rw [e]
  exact ⟨_, rfl, (h3.at R2).at R2⟩
theorem isbl_inv {x : Wd.D} {k : Bool} {rr : Rv} (h : bi .isbl [x, .bl k] = some rr) : ∃ b, x = .bl b ∧ rr = .v (.bl (decide (b = k))) := by
  have h : isblB [x, .bl k] = some rr := h
  unfold isblB at h
  split at h
  · rename_i a b e
    cases e
    exact ⟨a, rfl, (Option.some.inj h).symm⟩
  · cases h
/-- x is True -/
theorem s_isbl {a : Expr} {ia : Ie} {k : Bool} {kk : Nat} {p pos : Pos} (hm : behindInMarks .Is (.Constant (.bool k) kk p) = false) (ha : PE X a (tE Z W (evE T C ia))) :
    PE X (.Compare a [.Is] [.Constant (.bool k) kk p] pos) (tE Z W (evE T C (.bi .isbl (.cons ia (.cons (.con (.bl k)) .nil))))) := by
  refine ⟨fun pins s σ H Q I h => (pe_cmpR op_is_bl ha pe_bl hm).run pins s σ H Q I ?_⟩
  obtain ⟨Hf, F, st, R, h⟩ := h
  rw [ev_in] at h
  refine t_rd R h fun x s2 H2 Hf2 v e2 R2 p1 h => ?_
  obtain ⟨rr, hr, h3⟩ := Po.optP h
  obtain ⟨b, rfl, rfl⟩ := isbl_inv hr
  exact ⟨b, k, p1.bl, rfl, ret_v h3 R2 isd_bl⟩
theorem p_isbl {a : Expr} {ia : Ie} {k : Bool} {kk : Nat} {p pos : Pos} (hm : behindInMarks .Is (.Constant (.bool k) kk p) = false) (ha : PE X a (tE Z W (evE T C ia))) :
    PT X (.Compare a [.Is] [.Constant (.bool k) kk p] pos) (tT Z W (evT T C (.bi .isbl (.cons ia (.cons (.con (.bl k)) .nil))))) := by
  refine pt_weak (pt_cmpR op_is_bl ha pe_bl hm) fun σ H Qb h => ?_
  obtain ⟨Hf, F, st, R, h⟩ := h
  unfold evT at h
  rw [ev_in] at h
  simp only [bnd_bnd] at h
  refine t_rd R h fun x s2 H2 Hf2 v e2 R2 p1 h => ?_
  obtain ⟨rr, hr, h3⟩ := Po.optP h.bind
  obtain ⟨b, rfl, rfl⟩ := isbl_inv hr
  exact ⟨b, k, p1.bl, rfl, _, rfl, (h3.at R2).at R2⟩
/-- x is not True -/
theorem s_isntbl {a : Expr} {ia : Ie} {k : Bool} {kk : Nat} {p pos : Pos} (hm : behindInMarks .IsNot (.Constant (.bool k) kk p) = false) (ha : PE X a (tE Z W (evE T C ia))) :
    PE X (.Compare a [.IsNot] [.Constant (.bool k) kk p] pos) (tE Z W (evE T C (.nt (.bi .isbl (.cons ia (.cons (.con (.bl k)) .nil)))))) := by
  refine ⟨fun pins s σ H Q I h => (pe_cmpR op_isnot_bl ha pe_bl hm).run pins s σ H Q I ?_⟩
  obtain ⟨Hf, F, st, R, h⟩ := h
  rw [ev_nin] at h
  refine t_rd R h fun x s2 H2 Hf2 v e2 R2 p1 h => ?_
  obtain ⟨rr, hr, h3⟩ := Po.optP h.bind
  obtain ⟨b, rfl, rfl⟩ := isbl_inv hr
  exact ⟨b, k, p1.bl, rfl, ret_v (h3.at R2) R2 isd_bl⟩
theorem p_isntbl {a : Expr} {ia : Ie} {k : Bool} {kk : Nat} {p pos : Pos} (hm : behindInMarks .IsNot (.Constant (.bool k) kk p) = false) (ha : PE X a (tE Z W (evE T C ia))) :
    PT X (.Compare a [.IsNot] [.Constant (.bool k) kk p] pos) (tT Z W (evT T C (.nt (.bi .isbl (.cons ia (.cons (.con (.bl k)) .nil)))))) := by
  refine pt_weak (pt_cmpR op_isnot_bl ha pe_bl hm) fun σ H Qb h => ?_
  obtain ⟨Hf, F, st, R, h⟩ := h
  unfold evT at h
  rw [ev_nin] at h
  simp only [bnd_bnd] at h
  refine t_rd R h fun x s2 H2 Hf2 v e2 R2 p1 h => ?_
  obtain ⟨rr, hr, h3⟩ := Po.optP h.bind
  obtain ⟨b, rfl, rfl⟩ := isbl_inv hr
  exact ⟨b, k, p1.bl, rfl, _, rfl, (h3.at R2).at R2⟩
theorem ix_kd {A : Addr} {es : Array DictEntry} {n : Nat} (D : KDict X.K X.w A es n) : IxR X (fun x y H Q => ∃ (z : Str) (u0 : Value) (v0 : V), x = .ref A ∧ y = .str z ∧ PySem.W.nsIn X.K A z = some (some u0) ∧ RelV v0 u0 ∧ Q v0 H) := by
  intro value slice pins s σ H x y v u Q I rx ry h hs
  have h₂ : wpAny (model X.prog X.w) X.A (getItem v u) (EP X pins σ Q) X.xe s := op_item_kd D pins s σ H x y v u Q I rx ry h
  obtain ⟨z, u0, v0, rfl, rfl, _⟩ := h
  cases rx
  have hT := kd_type D I
  unfold subscriptTail
  refine wpAny_bind ?_
  rw [getitemInPython_of_ne hT.not_modules]
  refine wpAny_bind (wpAny_specialOf hT PySem.F.slot_dict_getitem.lookup ?_)
  have fin : wpAny (model X.prog X.w) X.A (subscripted slice false (.ref A) u) (fun r s₃ => wpAny (model X.prog X.w) X.A (letTemporaryGo value (.ref A) r >>= fun _ => pure r) (EP X pins σ Q) X.xe s₃) X.xe s := by
    rw [hs]
    exact wpAny_operating (wpAny_mono h₂ (fun r s₃ h₃ => wpAny_bind (wpAny_letTemporaryGo (wpAny_pure h₃))) fun _ _ x => x)
  first
    | exact wpAny_pure (wpAny_bind fin)
    | exact wpAny_bind (wpAny_pure (wpAny_bind fin))
    | exact wpAny_bind fin
/-- D[x] -/
theorem s_ixK {x : Str} {b : Expr} {ib : Ie} {p pos : Pos} (hD : DcAt X x d) (hg : Gl X x) (hdb : (x == ("__debug__" : Str)) = false) (hs : PlainIx b) (hb : PE X b (tE Z W (evE T C ib))) :
    PE X (.Subscript (.Name x p) b pos) (tE Z W (evE T C (.bi .ixdict (.cons (.con d) (.cons ib .nil))))) := by
  obtain ⟨A, es, n, ks, l, rfl, hmg, D, hz⟩ := hD
  refine ⟨fun pins s σ H Q I h => (pe_ix (ix_kd D) (pe_glob (v := V.ref A) hg hmg rfl hdb) hb hs).run pins s σ H Q I ?_⟩
  obtain ⟨Hf, F, st, R, h⟩ := h
  rw [ev_ix] at h
  refine t_rd R h fun k s2 H2 Hf2 v e2 R2 p1 h => ?_
  obtain ⟨rr, hr, h3⟩ := Po.optP h
  obtain ⟨z, e, rfl, hk, rfl⟩ := ixdict_inv hr
  obtain ⟨r, e1, q1, q2⟩ := hz z
  obtain ⟨sc, u, rfl, hu⟩ := q1 e hk
  exact ⟨z, u, toV e, rfl, p1.str, e1, hu, ret_v h3 R2 (isd_toV sc)⟩
end
end Wd
-- WdBd
set_option linter.all false
set_option maxRecDepth 100000
set_option maxHeartbeats 2000000
set_option Elab.async false
/-! How plain parameters are bound. -/
namespace Wd
open PySem L2 PySem.Spec PyProof.Rows
structure SimpleP (p : Arguments) (ps : List Str) : Prop where
  po : p.posonlyargs = []
  ar : p.args.map (·.arg) = ps
  ko : p.kwonlyargs = []
  va : p.vararg = none
  ka : p.kwarg = none
theorem zip_look : ∀ {ps : List Str} {us : List Value} {n : Str}, ps.length = us.length → n ∈ ps → ((ps.zip us).lookup n).isSome = true
  | [], us, n, h, hn => by simp at hn
  | p :: ps, [], n, h, hn => by simp at h
  | p :: ps, u :: us, n, h, hn => by
    rw [List.zip_cons_cons, List.lookup_cons]
    cases q : n == p with
    | true => rfl
    | false =>
      refine zip_look (by simpa using h) ?_
      rcases List.mem_cons.mp hn with e | e
      · rw [e] at q; simp at q
      · exact e
theorem loop_same {slots : List (Str × Value)} : ∀ {l : List (Str × Value)}, (∀ x ∈ l, (slots.lookup x.1).isSome = true) →
    (forIn l slots fun x __s => if (List.lookup x.fst __s).isNone = true then pure (ForInStep.yield (__s ++ [(x.fst, x.snd)])) else pure (ForInStep.yield __s) : Sem (List (Str × Value))) = pure slots
  | [], _ => by rw [List.forIn_nil]
  | x :: l, h => by
    rw [List.forIn_cons]
    have h1 : (List.lookup x.fst slots).isNone = false := by
      have := h x (by simp)
      cases q : List.lookup x.fst slots with
      | none => rw [q] at this; cases this
      | some _ => rfl
    rw [h1]
    simp only [Bool.false_eq_true, if_false, pure_bind]
    exact loop_same fun y hy => h y (by simp [hy])
theorem fm_congr {α β : Type} {f g : α → Option β} : ∀ {l : List α}, (∀ a ∈ l, f a = g a) → l.filterMap f = l.filterMap g
  | [], _ => rfl
  | a :: l, h => by
    rw [List.filterMap_cons, List.filterMap_cons, h a (by simp), fm_congr fun b hb => h b (by simp [hb])]
theorem zip_all : ∀ {ps : List Str} {us : List Value}, ps.Nodup → ps.length = us.length → List.filterMap (fun n => Option.map (fun x => (n, x)) (List.lookup n (ps.zip us))) ps = ps.zip us
  | [], us, _, h => by simp
  | p :: ps, [], _, h => by simp at h
  | p :: ps, u :: us, nd, h => by
    obtain ⟨n1, n2⟩ := List.nodup_cons.mp nd
    rw [List.zip_cons_cons, List.filterMap_cons]
    have e1 : List.lookup p ((p, u) :: ps.zip us) = some u := by rw [List.lookup_cons]; simp
    rw [e1]
    simp only [Option.map_some]
    congr 1
    refine Eq.trans (fm_congr fun n hn => ?_) (zip_all n2 (by simpa using h))
    rw [List.lookup_cons]
    have : (n == p) = false := by
      rw [beq_eq_false_iff_ne]
      rintro rfl
      exact n1 hn
    rw [this]
theorem bind_all {fd : FuncData} {ps : List Str} {us : List Value} (S : SimpleP fd.params ps) (nd : ps.Nodup) (hl : ps.length = us.length) : bindArgs fd ⟨us, []⟩ = (seqItems? fd.defaults >>= fun _ => pure (ps.zip us)) := by
  unfold bindArgs
  simp only [S.po, S.ar, S.ko, S.va, S.ka, List.map_nil, List.nil_append, List.append_nil, List.forIn_nil, pure_bind]
  congr 1
  funext o
  have h1 : decide (us.length > ps.length) = false := by simp; omega
  have hm : ∀ k, (List.filter (fun n => ((ps.zip us).lookup n).isNone) (ps.take k)) = [] := fun k => by
    rw [List.filter_eq_nil_iff]
    intro n hn
    have := zip_look hl (List.mem_of_mem_take hn)
    simp [Option.isNone_iff_eq_none, Option.isSome_iff_ne_none] at this ⊢
    exact this
  simp only [hm, h1, Bool.false_and, Bool.false_eq_true, if_false, List.isEmpty_nil, Bool.not_true]
  rw [loop_same fun x hx => zip_look hl (List.mem_of_mem_drop (List.of_mem_zip hx).1)]
  rw [pure_bind, zip_all nd hl]
end Wd
-- WdBd2
set_option linter.all false
set_option maxRecDepth 100000
set_option maxHeartbeats 2000000
set_option Elab.async false
/-! How plain parameters are bound: keywords, defaults. -/
namespace Wd
open PySem L2 PySem.Spec PyProof.Rows
theorem loopK {β : Type} {ps : List Str} {g : Str × Value → List (Str × Value) × β → Sem (ForInStep (List (Str × Value) × β))}
    (hg : ∀ x slots e, ps.contains x.1 = true → (List.lookup x.1 slots).isSome = false → g x (slots, e) = pure (.yield (slots ++ [(x.1, x.2)], e))) :
    ∀ {l : List (Str × Value)} {slots : List (Str × Value)} {e : β}, (∀ x ∈ l, ps.contains x.1 = true) → (∀ x ∈ l, (List.lookup x.1 slots).isSome = false) → (l.map (·.1)).Nodup → forIn l (slots, e) g = pure (slots ++ l, e)
  | [], slots, e, _, _, _ => by rw [List.forIn_nil, List.append_nil]
  | x :: l, slots, e, h1, h2, h3 => by
    rw [List.forIn_cons, hg x slots e (h1 x (by simp)) (h2 x (by simp)), pure_bind]
    simp only [List.map_cons, List.nodup_cons] at h3
    have := loopK hg (l := l) (slots := slots ++ [(x.1, x.2)]) (e := e) (fun y hy => h1 y (by simp [hy])) (fun y hy => ?_) h3.2
    · simp only []
      rw [this, List.append_assoc]; rfl
    · have hn : (y.1 == x.1) = false := by
        rw [beq_eq_false_iff_ne]
        intro q
        exact h3.1 (List.mem_map.mpr ⟨y, hy, q⟩)
      have h0 := h2 y (by simp [hy])
      rw [List.lookup_append]
      cases q : List.lookup y.1 slots with
      | some _ => rw [q] at h0; cases h0
      | none => simp [List.lookup_cons, hn]
/-- the defaults fill up what lacks -/
def fillD : List (Str × Value) → List (Str × Value) → List (Str × Value)
  | [], s => s
  | x :: l, s => fillD l (if (List.lookup x.1 s).isNone = true then s ++ [(x.1, x.2)] else s)
theorem loopD : ∀ {l slots : List (Str × Value)}, (forIn l slots fun x __s => if (List.lookup x.fst __s).isNone = true then pure (ForInStep.yield (__s ++ [(x.fst, x.snd)])) else pure (ForInStep.yield __s) : Sem (List (Str × Value))) = pure (fillD l slots)
  | [], slots => by rw [List.forIn_nil]; rfl
  | x :: l, slots => by
    rw [List.forIn_cons]
    unfold fillD
    split
    · rw [pure_bind]; exact loopD
    · rw [pure_bind]; exact loopD
end Wd
-- WdBd3
set_option linter.all false
set_option maxRecDepth 100000
set_option maxHeartbeats 2000000
set_option Elab.async false
/-! How plain parameters are bound: the whole. -/
namespace Wd
open PySem L2 PySem.Spec PyProof.Rows
theorem zip_none : ∀ {ps : List Str} {us : List Value} {n : Str}, n ∉ ps.take us.length → (List.lookup n (ps.zip us)).isSome = false
  | [], us, n, h => by simp
  | p :: ps, [], n, h => by simp
  | p :: ps, u :: us, n, h => by
    rw [List.length_cons, List.take_succ_cons, List.mem_cons, not_or] at h
    rw [List.zip_cons_cons, List.lookup_cons]
    have : (n == p) = false := by rw [beq_eq_false_iff_ne]; exact h.1
    rw [this]
    exact zip_none h.2
theorem bind_kw {fd : FuncData} {ps ks : List Str} {us ws : List Value} (S : SimpleP fd.params ps) (hn : us.length ≤ ps.length) (hk : ∀ k ∈ ks, ps.contains k = true ∧ k ∉ ps.take us.length) (nd : ks.Nodup) (hw : ws.length = ks.length) :
    ∃ k, bindArgs fd ⟨us, ks.zip ws⟩ = (seqItems? fd.defaults >>= k) ∧ ∀ o : Option (Array Value), (∀ n ∈ ps.take (ps.length - ((o.getD #[]).toList.drop ((o.getD #[]).toList.length - ps.length)).length), (List.lookup n (ps.zip us ++ ks.zip ws)).isSome = true) →
      k o = pure (List.filterMap (fun n => Option.map (fun x => (n, x)) (List.lookup n (fillD ((ps.drop (ps.length - ((o.getD #[]).toList.drop ((o.getD #[]).toList.length - ps.length)).length)).zip ((o.getD #[]).toList.drop ((o.getD #[]).toList.length - ps.length))) (ps.zip us ++ ks.zip ws)))) ps) := by
  have m1 : ∀ x ∈ ks.zip ws, ps.contains x.1 = true := fun x hx => (hk x.1 (List.of_mem_zip hx).1).1
  have m2 : ∀ x ∈ ks.zip ws, (List.lookup x.1 (ps.zip us)).isSome = false := fun x hx => zip_none (hk x.1 (List.of_mem_zip hx).1).2
  have m3 : ((ks.zip ws).map (·.1)).Nodup := by
    have : (ks.zip ws).map (·.1) = ks := List.map_fst_zip (by omega)
    rw [this]; exact nd
  have h1 : decide (us.length > ps.length) = false := by simp; omega
  unfold bindArgs
  simp only [S.po, S.ar, S.ko, S.va, S.ka, List.map_nil, List.nil_append, List.append_nil, List.forIn_nil, pure_bind]
  rw [loopK (ps := ps) (fun x slots e a b => by
    have a' : x.1 ∈ ps := by simpa using a
    simp [a', b]) m1 m2 m3, pure_bind]
  refine ⟨_, rfl, ?_⟩
  · intro o hm
    have hmm : (List.filter (fun n => (List.lookup n (ps.zip us ++ ks.zip ws)).isNone) (ps.take (ps.length - ((o.getD #[]).toList.drop ((o.getD #[]).toList.length - ps.length)).length))) = [] := by
      rw [List.filter_eq_nil_iff]
      intro n hn'
      have := hm n hn'
      cases q : List.lookup n (ps.zip us ++ ks.zip ws) with
      | none => rw [q] at this; cases this
      | some _ => simp
    simp only [hmm, h1, Bool.false_and, Bool.false_eq_true, if_false, List.isEmpty_nil, Bool.not_true]
    rw [loopD, pure_bind]
end Wd
-- WdBd4
set_option linter.all false
set_option maxRecDepth 100000
set_option maxHeartbeats 2000000
set_option Elab.async false
/-! How plain parameters are bound: from the written arguments to the parameters' values. -/
namespace Wd
open PySem L2 PySem.Spec PyProof.Rows
theorem look_fill : ∀ {l s : List (Str × Value)} {n : Str}, (fillD l s).lookup n = (s.lookup n).or (l.lookup n)
  | [], s, n => by simp [fillD]
  | x :: l, s, n => by
    unfold fillD
    rw [look_fill]
    by_cases hx : (List.lookup x.1 s).isNone = true
    · rw [if_pos hx, List.lookup_append, Option.or_assoc]
      congr 1
      obtain ⟨a, b⟩ := x
      rw [List.lookup_cons, List.lookup_cons]
      cases h : n == a <;> simp
    · rw [if_neg hx]
      obtain ⟨a, b⟩ := x
      rw [List.lookup_cons]
      cases h : n == a with
      | false => rfl
      | true =>
        have e : n = a := eq_of_beq h
        subst e
        cases q : List.lookup n s with
        | none => simp [q] at hx
        | some v => simp
theorem zip_at : ∀ {ps : List Str} {us : List Value} {j : Nat} {p : Str} {u : Value}, ps.Nodup → ps[j]? = some p → us[j]? = some u → (ps.zip us).lookup p = some u
  | [], us, j, p, u, _, h, _ => by simp at h
  | q :: ps, [], j, p, u, _, _, h => by simp at h
  | q :: ps, v :: us, 0, p, u, nd, h, h' => by
    have e1 : q = p := by simpa using h
    have e2 : v = u := by simpa using h'
    subst e1 e2
    rw [List.zip_cons_cons, List.lookup_cons]; simp
  | q :: ps, v :: us, j + 1, p, u, nd, h, h' => by
    obtain ⟨n1, n2⟩ := List.nodup_cons.mp nd
    have hp : ps[j]? = some p := by simpa using h
    rw [List.zip_cons_cons, List.lookup_cons]
    have : (p == q) = false := by
      rw [beq_eq_false_iff_ne]
      rintro rfl
      exact n1 (List.mem_of_getElem? hp)
    rw [this]
    exact zip_at n2 hp (by simpa using h')
theorem zip_no {ps : List Str} {us : List Value} {p : Str} (h : p ∉ ps) : (ps.zip us).lookup p = none := by
  have := zip_none (ps := ps) (us := us) (n := p) fun m => h (List.mem_of_mem_take m)
  cases q : (ps.zip us).lookup p with
  | none => rfl
  | some _ => rw [q] at this; cases this
theorem zip_ge {ps : List Str} {us : List Value} {j : Nat} {p : Str} (nd : ps.Nodup) (h : ps[j]? = some p) (hj : us.length ≤ j) : (ps.zip us).lookup p = none := by
  have := zip_none (ps := ps) (us := us) (n := p) fun m => by
    obtain ⟨i, hi⟩ := List.mem_iff_getElem?.mp m
    rw [List.getElem?_take] at hi
    split at hi
    · rename_i hl
      have h1 : j < ps.length := (List.getElem?_eq_some_iff.mp h).1
      have := (List.getElem?_inj h1 nd).mp (h.trans hi.symm)
      omega
    · cases hi
  cases q : (ps.zip us).lookup p with
  | none => rfl
  | some _ => rw [q] at this; cases this
theorem fm_zip {S : List (Str × Value)} : ∀ {ps : List Str} {G : List Value}, ps.length = G.length → (∀ (j : Nat) p u, ps[j]? = some p → G[j]? = some u → S.lookup p = some u) → List.filterMap (fun n => Option.map (fun x => (n, x)) (List.lookup n S)) ps = ps.zip G
  | [], G, hl, h => by simp
  | p :: ps, [], hl, h => by simp at hl
  | p :: ps, u :: G, hl, h => by
    rw [List.filterMap_cons, h 0 p u rfl rfl, List.zip_cons_cons]
    simp only [Option.map_some]
    rw [fm_zip (by simpa using hl) fun j p u h1 h2 => h (j + 1) p u (by simpa using h1) (by simpa using h2)]
/-- the parameters' values: n by position, ks by name, the defaults ds of the last ones (off: how many have none) -/
def pmsF (off n : Nat) (ds : List D) (ks : List Str) : Nat → List Str → Option (List Pm)
  | _, [] => some []
  | j, p :: r => (if j < n then some (Pm.a j) else match idx ks p with
    | some k => some (Pm.a (n + k))
    | none => if off ≤ j then (ds[j - off]?).map Pm.d else none).bind fun x => (pmsF off n ds ks (j + 1) r).map fun l => x :: l
theorem idx_ok {ks : List Str} {p : Str} {k : Nat} (h : idx ks p = some k) : ks[k]? = some p := by
  unfold idx at h
  simp only at h
  split at h
  · rename_i hl
    cases h
    rw [List.getElem?_eq_getElem hl]
    have := List.findIdx_getElem (w := hl)
    rw [eq_of_beq this]
  · cases h
theorem idx_no {ks : List Str} {p : Str} (h : idx ks p = none) : p ∉ ks := by
  unfold idx at h
  simp only at h
  split at h
  · cases h
  · rename_i hl
    intro m
    exact hl (List.findIdx_lt_length_of_exists ⟨p, m, by simp⟩)
theorem pms_at {off n : Nat} {ds : List D} {ks : List Str} : ∀ {r : List Str} {i : Nat} {pm : List Pm}, pmsF off n ds ks i r = some pm → pm.length = r.length ∧ ∀ (j : Nat) p, r[j]? = some p →
    (i + j < n ∧ pm[j]? = some (.a (i + j))) ∨ (n ≤ i + j ∧ ∃ k, ks[k]? = some p ∧ pm[j]? = some (.a (n + k))) ∨ (n ≤ i + j ∧ p ∉ ks ∧ off ≤ i + j ∧ ∃ v, ds[i + j - off]? = some v ∧ pm[j]? = some (.d v))
  | [], i, pm, h => by
    have : pm = [] := (Option.some.inj h).symm
    subst this
    exact ⟨rfl, fun j p e => by simp at e⟩
  | p :: r, i, pm, h => by
    unfold pmsF at h
    obtain ⟨x, hx, h⟩ := Option.bind_eq_some_iff.mp h
    obtain ⟨l, hl, rfl⟩ := Option.map_eq_some_iff.mp h
    obtain ⟨a, b⟩ := pms_at hl
    refine ⟨by simp [a], fun j q e => ?_⟩
    cases j with
    | zero =>
      have : p = q := by simpa using e
      subst this
      simp only [Nat.add_zero, List.getElem?_cons_zero, Option.some.injEq]
      split at hx
      · rename_i hi
        exact .inl ⟨hi, (Option.some.inj hx).symm⟩
      · rename_i hi
        cases q : idx ks p with
        | some k =>
          rw [q] at hx
          exact .inr (.inl ⟨by omega, k, idx_ok q, (Option.some.inj hx).symm⟩)
        | none =>
          rw [q] at hx
          simp only at hx
          split at hx
          · rename_i ho
            obtain ⟨v, hv, e⟩ := Option.map_eq_some_iff.mp hx
            exact .inr (.inr ⟨by omega, idx_no q, ho, v, hv, e.symm⟩)
          · cases hx
    | succ j =>
      have := b j q (by simpa using e)
      rw [show i + 1 + j = i + (j + 1) from by omega] at this
      simpa using this
/-- the values in the parameters' order -/
def gU (its : List Value) (off : Nat) : Nat → List Pm → List Value → List Value
  | _, [], _ => []
  | j, .a k :: pm, all => all.getD k .none :: gU its off (j + 1) pm all
  | j, .d _ :: pm, all => its.getD (j - off) .none :: gU its off (j + 1) pm all
theorem gU_len {its : List Value} {off : Nat} : ∀ {pm : List Pm} {i : Nat} {all : List Value}, (gU its off i pm all).length = pm.length
  | [], _, _ => rfl
  | .a _ :: pm, i, all => by simp [gU, gU_len (pm := pm)]
  | .d _ :: pm, i, all => by simp [gU, gU_len (pm := pm)]
theorem gU_a {its : List Value} {off : Nat} : ∀ {pm : List Pm} {i j k : Nat} {all : List Value}, pm[j]? = some (.a k) → (gU its off i pm all)[j]? = some (all.getD k .none)
  | [], _, j, k, all, h => by simp at h
  | x :: pm, i, 0, k, all, h => by
    have : x = .a k := by simpa using h
    subst this; rfl
  | x :: pm, i, j + 1, k, all, h => by
    have := gU_a (its := its) (off := off) (pm := pm) (i := i + 1) (all := all) (j := j) (k := k) (by simpa using h)
    cases x <;> simpa [gU] using this
theorem gU_d {its : List Value} {off : Nat} : ∀ {pm : List Pm} {i j : Nat} {v : D} {all : List Value}, pm[j]? = some (.d v) → (gU its off i pm all)[j]? = some (its.getD (i + j - off) .none)
  | [], _, j, k, all, h => by simp at h
  | x :: pm, i, 0, k, all, h => by
    have : x = .d k := by simpa using h
    subst this; rfl
  | x :: pm, i, j + 1, k, all, h => by
    have := gU_d (its := its) (off := off) (pm := pm) (i := i + 1) (all := all) (j := j) (v := k) (by simpa using h)
    rw [show i + 1 + j - off = i + (j + 1) - off from by omega] at this
    cases x <;> simpa [gU] using this
theorem vals_getD {vs : List V} {us : List Value} (h : Vals vs us) (k : Nat) : RelV (vs.getD k .non) (us.getD k .none) := by
  rw [List.getD_eq_getElem?_getD, List.getD_eq_getElem?_getD]
  cases q : vs[k]? with
  | none =>
    rw [Vals.none_of h q]; rfl
  | some x =>
    obtain ⟨u, h1, h2⟩ := Vals.get h q
    rw [h1]; exact h2
theorem gU_rel {its : List Value} {off : Nat} {ds : List D} (hd : Vals (ds.map toV) its) : ∀ {pm : List Pm} {i : Nat} {vs : List V} {us : List Value}, Vals vs us → (∀ (j : Nat) v, pm[j]? = some (.d v) → ds[i + j - off]? = some v) → Vals (pmV pm vs) (gU its off i pm us)
  | [], i, vs, us, h, _ => .nil
  | .a k :: pm, i, vs, us, h, hp => .cons (vals_getD h k) (gU_rel hd h fun j v e => by
    have := hp (j + 1) v (by simpa using e)
    rw [show i + 1 + j - off = i + (j + 1) - off from by omega]; exact this)
  | .d v :: pm, i, vs, us, h, hp => .cons (by
    have h0 := hp 0 v rfl
    have := vals_getD hd (i - off)
    rw [List.getD_eq_getElem?_getD, List.getElem?_map] at this
    rw [Nat.add_zero] at h0
    rw [h0] at this
    exact this) (gU_rel hd h fun j v e => by
    have := hp (j + 1) v (by simpa using e)
    rw [show i + 1 + j - off = i + (j + 1) - off from by omega]; exact this)
/-- the written arguments fit the parameters -/
def bindC (ps : List Str) (nd n : Nat) (ks : List Str) : Bool :=
  decide (n + ks.length ≤ ps.length) && decide (nd ≤ ps.length) && decide ps.Nodup && decide ks.Nodup && ks.all fun k => decide (k ∈ ps) && decide (k ∉ ps.take n)
structure DfOk (ds : List D) : Prop where
  sc : ds.all Scalar = true
theorem bind_gen {fd : FuncData} {ps ks : List Str} {ds : List D} {pm : List Pm} {us ws its : List Value} (S : SimpleP fd.params ps) (hc : bindC ps ds.length us.length ks = true) (hp : pmsF (ps.length - ds.length) us.length ds ks 0 ps = some pm) (hw : ws.length = ks.length) (hi : its.length = ds.length) :
    ∃ k, bindArgs fd ⟨us, ks.zip ws⟩ = (seqItems? fd.defaults >>= k) ∧ ∀ o : Option (Array Value), (o.getD #[]).toList = its → k o = pure (ps.zip (gU its (ps.length - ds.length) 0 pm (us ++ ws))) := by
  unfold bindC at hc
  simp only [Bool.and_eq_true, decide_eq_true_eq, List.all_eq_true] at hc
  obtain ⟨⟨⟨⟨h1, h2⟩, h3⟩, h4⟩, h5⟩ := hc
  obtain ⟨k, e, f⟩ := bind_kw (fd := fd) (us := us) (ws := ws) S (by omega) (fun k hk => ⟨by simpa using (h5 k hk).1, (h5 k hk).2⟩) h4 hw
  refine ⟨k, e, fun o ho => ?_⟩
  obtain ⟨pl, pa⟩ := pms_at hp
  have hz : its.length - ps.length = 0 := by omega
  have hoff : ps.length - its.length = ps.length - ds.length := by rw [hi]
  have S1 : ∀ (j : Nat) p, ps[j]? = some p → (List.lookup p (ps.zip us ++ ks.zip ws)) = if j < us.length then us[j]? else (ks.zip ws).lookup p := fun j p hj => by
    rw [List.lookup_append]
    split
    · rename_i hl
      rw [zip_at h3 hj (List.getElem?_eq_getElem hl), List.getElem?_eq_getElem hl]; rfl
    · rw [zip_ge h3 hj (by omega)]; rfl
  have key : ∀ (j : Nat) p u, ps[j]? = some p → (gU its (ps.length - ds.length) 0 pm (us ++ ws))[j]? = some u → List.lookup p (fillD ((ps.drop (ps.length - its.length)).zip its) (ps.zip us ++ ks.zip ws)) = some u := fun j p u hj hu => by
    rw [look_fill, S1 j p hj]
    have q := pa j p hj
    simp only [Nat.zero_add] at q
    rcases q with ⟨a1, a2⟩ | ⟨a1, i, a2, a3⟩ | ⟨a1, a2, a3, v, a4, a5⟩
    · rw [gU_a a2] at hu
      rw [if_pos a1]
      rw [List.getD_eq_getElem?_getD, List.getElem?_append_left a1, List.getElem?_eq_getElem a1] at hu
      rw [List.getElem?_eq_getElem a1]
      simpa using hu
    · rw [gU_a a3] at hu
      rw [if_neg (by omega)]
      have hi' : i < ws.length := by rw [hw]; exact (List.getElem?_eq_some_iff.mp a2).1
      rw [List.getD_eq_getElem?_getD, List.getElem?_append_right (by omega), Nat.add_sub_cancel_left, List.getElem?_eq_getElem hi'] at hu
      rw [zip_at h4 a2 (List.getElem?_eq_getElem hi')]
      simpa using hu
    · rw [gU_d a5] at hu
      rw [if_neg (by omega), zip_no a2]
      simp only [Nat.zero_add] at hu
      have hl : j - (ps.length - ds.length) < its.length := by rw [hi]; exact (List.getElem?_eq_some_iff.mp a4).1
      rw [List.getD_eq_getElem?_getD, List.getElem?_eq_getElem hl] at hu
      rw [hoff]
      have := zip_at (ps := ps.drop (ps.length - ds.length)) (us := its) (j := j - (ps.length - ds.length)) (p := p) (h3.sublist (List.drop_sublist _ _)) (by rw [List.getElem?_drop]; rw [show ps.length - ds.length + (j - (ps.length - ds.length)) = j from by omega]; exact hj) (List.getElem?_eq_getElem hl)
      rw [this]
      simpa using hu
  have f' := f o
  rw [ho, hz, List.drop_zero] at f'
  rw [f' fun p hp => ?_, fm_zip (by rw [gU_len, pl]) key]
  · obtain ⟨j, hj⟩ := List.mem_iff_getElem?.mp hp
    rw [List.getElem?_take] at hj
    split at hj
    · rename_i hjl
      have q := pa j p hj
      simp only [Nat.zero_add] at q
      rw [S1 j p hj]
      rcases q with ⟨a1, a2⟩ | ⟨a1, i, a2, a3⟩ | ⟨a1, a2, a3, v, a4, a5⟩
      · rw [if_pos a1, List.getElem?_eq_getElem a1]; rfl
      · rw [if_neg (by omega)]
        have hi' : i < ws.length := by rw [hw]; exact (List.getElem?_eq_some_iff.mp a2).1
        rw [zip_at h4 a2 (List.getElem?_eq_getElem hi')]; rfl
      · omega
    · cases hj
/-- the binding of a def with plain parameters -/
theorem kbn_of {K : PySem.W.Frag} {x qual : Str} {params : Arguments} {body : List Stmt} {scope : Scope} {ds : List D} {kws : List (Str × V)} {f : Addr} {fd : FuncData} {ps ks : List Str} {pm : List Pm} {n : Nat} (F : FunD K x qual params body scope (ds.map toV) kws f fd) (S : SimpleP params ps)
    (hc : bindC ps ds.length n ks = true) (hp : pmsF (ps.length - ds.length) n ds ks 0 ps = some pm) : BindOk K fd ps pm n ks := by
  obtain ⟨oc, od, dV, kV, doc, pmm, an, cdv, ct, osl, rfl, lk, hcd, hD, hK⟩ := F.ex
  have hpd := (pms_at hp).2
  have hlen := (pms_at hp).1
  have isD : ∀ (j : Nat) v, pm[j]? = some (.d v) → ds[0 + j - (ps.length - ds.length)]? = some v := fun j v e => by
    have hj : j < ps.length := by rw [← hlen]; exact (List.getElem?_eq_some_iff.mp e).1
    rcases hpd j _ (List.getElem?_eq_getElem hj) with ⟨_, a⟩ | ⟨_, _, _, a⟩ | ⟨_, _, _, w, b, a⟩
    · rw [e] at a; cases a
    · rw [e] at a; cases a
    · rw [e] at a; cases a; exact b
  rcases hD with ⟨e, rfl⟩ | ⟨ne, T, o, its, m, rfl, lT, oT, rT⟩
  · have hd0 : ds = [] := by simpa using e
    subst hd0
    refine ⟨fun us ws => gU [] (ps.length - 0) 0 pm (us ++ ws), ⟨fun s us ws KX l1 l2 => ?_, fun {vs us zs ws} r1 r2 => gU_rel (ds := []) .nil (r1.append r2) isD⟩⟩
    subst l1
    obtain ⟨k, e1, e2⟩ := bind_gen (fd := PySem.W.fnOf x qual params body scope .none kV doc pmm an cdv ct) (us := us) (ws := ws) (its := []) S hc hp l2 rfl
    refine BindsTo.of_eq ?_
    rw [e1]
    show (seqItems? .none >>= k) = _
    rw [show seqItems? .none = pure none from rfl, pure_bind]
    exact e2 none rfl
  · refine ⟨fun us ws => gU its (ps.length - ds.length) 0 pm (us ++ ws), ⟨fun s us ws KX l1 l2 => ?_, fun {vs us zs ws} r1 r2 => gU_rel rT (r1.append r2) isD⟩⟩
    subst l1
    obtain ⟨k, e1, e2⟩ := bind_gen (fd := PySem.W.fnOf x qual params body scope (.ref T) kV doc pmm an cdv ct) (us := us) (ws := ws) (its := its) S hc hp l2 (by rw [← rT.length]; simp)
    refine BindsTo.of_looks fun M => ?_
    rw [e1]
    exact looks_items KX lT oT (.of_pure (e2 (some its.toArray) (by simp)))
end Wd
-- WdCq
set_option linter.all false
set_option maxRecDepth 100000
/-! From the model's syntax to the small language. What is not covered becomes a form that is never let. -/
namespace Wd
open PySem L2
abbrev Sg := List Str × List D
/-- what stands at the top, by names: constants; defs, makes, methods (with self), static methods with their parameters and defaults; classes; names that the module leaves free -/
structure GT where
  consts : List (Str × D)
  fns : List (Str × Sg)
  inits : List (Str × Sg)
  mths : List (Str × Sg)
  cls : List Str
  free : List Str
  dcts : List (Str × D)
  sts : List (Str × Sg)
def bad1 (w : String) : Ie := .neg (.con (.str w))
def kwN : List Keyword → Option (List Str)
  | [] => some []
  | k :: ks => match k.arg with | some a => (kwN ks).map fun l => a :: l | none => none
/-- a method's arguments: the parameters' list without self -/
def unsh : List Pm → Option (List Pm)
  | [] => some []
  | .a 0 :: _ => none
  | .a (k + 1) :: r => (unsh r).map fun l => .a k :: l
  | .d v :: r => (unsh r).map fun l => .d v :: l
def pmF (sg : Sg) (n : Nat) (ks : List Str) : Option (List Pm) :=
  if bindC sg.1 sg.2.length n ks && sg.2.all Scalar then pmsF (sg.1.length - sg.2.length) n sg.2 ks 0 sg.1 else none
def pmM (sg : Sg) (n : Nat) (ks : List Str) : Option (List Pm) := match pmF sg (n + 1) ks with | some (.a 0 :: r) => unsh r | _ => none
def notSl (e : Expr) : Bool := match e with | .Slice _ _ _ _ => false | _ => true
def notSet (e : Expr) : Bool := match e with | .Set _ _ _ => false | _ => true
def okNm (x : Str) : Bool := !(x == ("__debug__" : Str)) && !(x == ("__classdict__" : Str))
def isGl (sc : Scope) (x : Str) : Bool := match sc.names.lookup x with | some .globalImplicit => true | _ => false
def isVis (sc : Scope) (x : Str) : Bool := match sc.names.lookup x with | some .local | some .cell | some .free => true | _ => false
def isLoc (sc : Scope) (x : Str) : Bool := match sc.names.lookup x with | some .local | some .cell => true | _ => false
def isLocal (sc : Scope) (x : Str) : Bool := match sc.names.lookup x with | some .local => true | _ => false
/-- a built-in of plain name: its value -/
def biTab : List (Str × Bi × Bool × String) := [("abs", .abs, false, "abs"), ("all", .all, false, "all"), ("any", .any, false, "any"), ("bool", .bool, true, "bool"), ("divmod", .divmod, false, "divmod"), ("int", .int, true, "int"), ("isinstance", .isinst, false, "isinstance"),
  ("len", .len, false, "len"), ("list", .list, true, "list"), ("max", .max, false, "max"), ("min", .min, false, "min"), ("sorted", .sorted, false, "sorted"), ("sum", .sum, false, "sum"), ("tuple", .tuple, true, "tuple")]
def biOf2 (x : Str) : Option (Bi × Bool × String) := biTab.lookup x
section
variable (G : GT) (N : List Str) (f : Scope → Expr → Ie)
def cName (sc : Scope) (x : Str) : Ie :=
  if okNm x then
    if isVis sc x then match idx N x with | some i => .var i | none => bad1 "name"
    else if isGl sc x then match G.consts.lookup x with
      | some d => .con d
      | none => if G.cls.contains x then .con (.cls x) else match typs.lookup x with
        | some t => if G.free.contains x then .con (.ty t) else bad1 "type"
        | none => bad1 "global"
    else bad1 "name"
  else bad1 "name"
def cAs (sc : Scope) : List Expr → Ia
  | [] => .nil
  | e :: r => match e with
    | .Starred a _ => .star (f sc a) (cAs sc r)
    | e => .cons (f sc e) (cAs sc r)
def cKs (sc : Scope) : List Keyword → Ia
  | [] => .nil
  | k :: r => .cons (f sc k.value) (cKs sc r)
def cBs (sc : Scope) (o : BoolOp) : List Expr → Ie
  | [] => bad1 "bool"
  | a :: r => match r with
    | [] => f sc a
    | b :: t => match o with | .And => .and (f sc a) (cBs sc o (b :: t)) | .Or => .or (f sc a) (cBs sc o (b :: t))
/-- list(range(..)), len(set(..)), sorted(set(..)), len(range(.., .., ..)) -/
def nestC (sc : Scope) (x : Str) (a : Expr) : Option Ie := match a with
  | .Call (.Name y _) [b] [] _ =>
    if okNm y && isGl sc y && G.free.contains y && plain b then
      if x = "list" ∧ y = "range" then some (.bi .listrange (.cons (.con (.int 0)) (.cons (f sc b) .nil)))
      else if x = "len" ∧ y = "set" then some (.bi .lenset (.cons (f sc b) .nil))
      else if x = "sorted" ∧ y = "set" then some (.bi .sortedset (.cons (f sc b) .nil))
      else none
    else none
  | .Call (.Name y _) [b, c, d] [] _ =>
    if okNm y && isGl sc y && G.free.contains y && [b, c, d].all plain then
      if x = "len" ∧ y = "range" then some (.bi .lenrange (cAs f sc [b, c, d])) else none
    else none
  | _ => none
def cCallN (sc : Scope) (x : Str) (as : List Expr) (ks : List Keyword) : Ie :=
  if okNm x && isGl sc x && as.all plain then match kwN ks with
    | none => bad1 "kw"
    | some kn => match G.fns.lookup x with
      | some sg => (match pmF sg as.length kn with
        | some pm => .call x pm as.length kn.length (cAs f sc as) (cKs f sc ks)
        | none => bad1 "args")
      | none => match G.inits.lookup x with
        | some sg => (match pmM sg as.length kn with
          | some pm => .mk x pm as.length kn.length (cAs f sc as) (cKs f sc ks)
          | none => bad1 "args")
        | none => if G.free.contains x then match as, ks with
            | a :: r, [] => if x = "repr" ∧ r.isEmpty = true then .reprc (f sc a) else if x = "str" ∧ r.isEmpty = true then (match G.mths.lookup (Str.ofString "__str__") with | some sg => (match pmM sg 0 [] with | some [] => .strc (f sc a) | _ => bad1 "str") | none => bad1 "str") else match (if r.isEmpty = true then nestC G f sc x a else none) with
              | some ie => ie
              | none => match biOf2 x with
              | some b => .bi b.1 (cAs f sc (a :: r))
              | none => bad1 "builtin"
            | _, _ => bad1 "builtin"
          else bad1 "call"
  else bad1 "call"
def cCallM (sc : Scope) (o : Expr) (m : Str) (ap : Pos) (as : List Expr) (ks : List Keyword) (pos : Pos) : Ie :=
  if okBase o && (ap.endLine == pos.line) && as.all plain then match kwN ks with
    | none => bad1 "kw"
    | some kn => match G.mths.lookup m with
      | some sg => (match pmM sg as.length kn with
        | some pm => if fewOk as ks then .meth m (f sc o) pm as.length kn.length (cAs f sc as) (cKs f sc ks) else bad1 "many"
        | none => bad1 "args")
      | none => if m = "append" then (match as, ks with | [a], [] => .mt .append (f sc o) (cAs f sc [a]) | _, _ => bad1 "append")
        else if m = "pop" then (match as, ks with | [], [] => .mt .pop (f sc o) .nil | _, _ => bad1 "pop")
        else if m = "count" then (match as, ks with | [a], [] => .mt .count (f sc o) (cAs f sc [a]) | _, _ => bad1 "count")
        else if m = "index" then (match as, ks with | [a], [] => .mt .index (f sc o) (cAs f sc [a]) | _, _ => bad1 "index")
        else if m = "get" then (match as, ks with | [a, b], [] => .mt .get (f sc o) (cAs f sc [a, b]) | _, _ => bad1 "get")
        else if m = "join" then (match as, ks with | [a], [] => .mt .join (f sc o) (cAs f sc [a]) | _, _ => bad1 "join")
        else if m = "split" then (match as, ks with | [a], [] => .mt .split (f sc o) (cAs f sc [a]) | _, _ => bad1 "split") else bad1 "method"
  else bad1 "method"
/-- C.m where C is a class with a static method m -/
def stOf (sc : Scope) (o : Expr) (m : Str) : Option (Str × Sg) := match o with
  | .Name c _ => if okNm c && isGl sc c && G.cls.contains c then (G.sts.lookup (c ++ "." ++ m)).map fun sg => (c, sg) else none
  | _ => none
def cCallS (sc : Scope) (o : Expr) (m : Str) (ap : Pos) (as : List Expr) (ks : List Keyword) (pos : Pos) (c : Str) (sg : Sg) : Ie :=
  if okBase o && (ap.endLine == pos.line) && as.all plain then match kwN ks with
    | none => bad1 "kw"
    | some kn => match pmF sg as.length kn with
      | some pm => if fewOk as ks then .call (c ++ "." ++ m) pm as.length kn.length (cAs f sc as) (cKs f sc ks) else bad1 "many"
      | none => bad1 "args"
  else bad1 "method"
/-- is True, is not False -/
def isBool (o : CmpOp) (b : Expr) : Option Bool := match o, b with
  | .Is, .Constant (.bool k) _ _ => some k
  | .IsNot, .Constant (.bool k) _ _ => some k
  | _, _ => none
/-- a dict of the module -/
def dctOf (sc : Scope) (b : Expr) : Option D := match b with
  | .Name x _ => if okNm x && isGl sc x then G.dcts.lookup x else none
  | _ => none
def cTgs (sc : Scope) : List Expr → Option (List Nat)
  | [] => some []
  | e :: r => match e with
    | .Name x _ => if isLoc sc x then match idx N x with | some i => (cTgs sc r).map fun l => i :: l | none => none else none
    | _ => none
/-- the names of a comprehension's target -/
def cOwn1 (sc scope : Scope) : Expr → Option (Str × Nat)
  | .Name x _ => if isLocal (relS scope sc) x then (idx N x).map fun i => (x, i) else none
  | _ => none
def cOwns (sc scope : Scope) : List Expr → Option (List (Str × Nat))
  | [] => some []
  | e :: r => match cOwn1 N sc scope e with | some p => (cOwns sc scope r).map fun l => p :: l | none => none
def cOwn (sc scope : Scope) (tg : Expr) : Option (List (Str × Nat)) := match tg with
  | .Name x p => (cOwn1 N sc scope (.Name x p)).map fun p => [p]
  | .Tuple ts _ _ => if ts.length ≠ 1 then cOwns N sc scope ts else none
  | _ => none
def isTup (e : Expr) : Bool := match e with | .Tuple _ _ _ => true | _ => false
def cIt (sc : Scope) (tg it : Expr) : Ii := match it with
  | .Call (.Name x _) as [] _ =>
    if isGl sc x && G.free.contains x && as.all plain then
      if x = "range" then (match as with | [a] => .rg 1 (cAs f sc [a]) | [a, b] => .rg 2 (cAs f sc [a, b]) | [a, b, c] => .rg 3 (cAs f sc [a, b, c]) | _ => .e (bad1 "range"))
      else if x = "enumerate" then (match as with | [a] => if isTup tg then .en (cAs f sc [a]) else .e (bad1 "enumerate") | _ => .e (bad1 "enumerate"))
      else if x = "zip" then (match as with | [a, b] => if isTup tg then .zp (cAs f sc [a, b]) else .e (bad1 "zip") | _ => .e (bad1 "zip"))
      else .e (f sc it)
    else .e (f sc it)
  | _ => .e (f sc it)
def cIfs (sc : Scope) : List Expr → Option Ia
  | [] => some .nil
  | [c] => some (.cons (f sc c) .nil)
  | _ => none
def cLc (sc : Scope) (elt : Expr) (gs : List Comprehension) (scope : Scope) : Ie := match gs with
  | [⟨tg, it, cs, 0⟩] => match cOwn N sc scope tg, cIfs f (relS scope sc) cs with
    | some own, some ics => if blkC N sc scope own && notSet it then .lc (.one (own.map (·.2)) (cIt G f sc tg it) ics (f (relS scope sc) elt)) [] else bad1 "block"
    | _, _ => bad1 "comprehension"
  | [⟨tg, it, cs, 0⟩, ⟨tg1, it1, cs1, 0⟩] => match cOwn N sc scope tg, cIfs f (relS scope sc) cs, cOwn N sc scope tg1, cIfs f (relS scope sc) cs1 with
    | some own, some ics, some own1, some ics1 => if blkC N sc scope (own ++ own1) && (notSet it && notSet it1) then .lc (.two (own.map (·.2)) (cIt G f sc tg it) ics (.one (own1.map (·.2)) (cIt G f (relS scope sc) tg1 it1) ics1 (f (relS scope sc) elt))) ((own ++ own1).map (·.2)) else bad1 "block"
    | _, _, _, _ => bad1 "comprehension"
  | _ => bad1 "comprehension"
def cOpt (sc : Scope) : Option Expr → Ie
  | none => .con .non
  | some e => f sc e
def cSub (sc : Scope) (a i : Expr) : Ie := match i with
  | .Slice none none (some (.UnaryOp .USub (.Constant (.int 1) _ _) _)) _ => .slr (f sc a)
  | .Slice (some l) none (some (.Constant (.int (.ofNat k)) _ _)) _ => if 2 ≤ k then .slk (f sc a) (f sc l) k else bad1 "slice"
  | .Slice lo hi none _ => .sl (f sc a) (cOpt f sc lo) (cOpt f sc hi)
  | .Slice _ _ _ _ => bad1 "slice"
  | i => (match dctOf G sc a with
    | some d => .bi .ixdict (.cons (.con d) (.cons (f sc i) .nil))
    | none => .ix (f sc a) (f sc i))
def cCmp (sc : Scope) (a : Expr) (os : List CmpOp) (bs : List Expr) : Ie := match os, bs with
  | [o], [b] => (match dctOf G sc b with
    | some d => (match o with
      | .In => if behindInMarks .In b = false then .bi .indict (.cons (f sc a) (.cons (.con d) .nil)) else bad1 "set"
      | .NotIn => if behindInMarks .NotIn b = false then .nt (.bi .indict (.cons (f sc a) (.cons (.con d) .nil))) else bad1 "set"
      | _ => bad1 "op")
    | none => (match isBool o b with
      | some k => if behindInMarks o b = false then (if o = .Is then .bi .isbl (.cons (f sc a) (.cons (.con (.bl k)) .nil)) else .nt (.bi .isbl (.cons (f sc a) (.cons (.con (.bl k)) .nil)))) else bad1 "set"
      | none => (match copOf o with | some c => if behindInMarks o b = false then .cmp c (f sc a) (f sc b) else bad1 "set" | none => bad1 "op")))
  | [o, p], [b, c] => (match copOf o, copOf p with | some o', some p' => if lastMarks [o, p] [b, c] = false then .chain o' p' (f sc a) (f sc b) (f sc c) else bad1 "set" | _, _ => bad1 "op")
  | _, _ => bad1 "compare"
def stepE (sc : Scope) (e : Expr) : Ie := match e with
  | .Constant c _ _ => (match constOf c with | some d => .con d | none => bad1 "constant")
  | .Name x _ => cName G N sc x
  | .BinOp a o b _ => (match bopOf o with | some o => .bin o (f sc a) (f sc b) | none => bad1 "op")
  | .UnaryOp o a _ => (match o with | .USub => .neg (f sc a) | .Not => .nt (f sc a) | _ => bad1 "op")
  | .BoolOp o es _ => cBs f sc o es
  | .Compare a os bs _ => cCmp G f sc a os bs
  | .IfExp c a b _ => .ite (f sc c) (f sc a) (f sc b)
  | .Call g as ks pos => (match g with
    | .Name x _ => cCallN G f sc x as ks
    | .Attribute o m ap => (match stOf G sc o m with
      | some q => cCallS f sc o m ap as ks pos q.1 q.2
      | none => cCallM G f sc o m ap as ks pos)
    | _ => bad1 "call")
  | .Attribute o a _ => if okBase o then .attr (f sc o) a else bad1 "attribute"
  | .Subscript a i _ => cSub G f sc a i
  | .List es _ => .lst (cAs f sc es)
  | .Tuple es _ _ => .tup (cAs f sc es)
  | .ListComp e gs scope _ => cLc G N f sc e gs scope
  | .Dict ks vs _ => (match ks, vs with
    | [], [] => .dct .nil .nil
    | [some k], [v] => .dct (.cons (f sc k) .nil) (.cons (f sc v) .nil)
    | _, _ => bad1 "dict")
  | _ => bad1 "form"
end
def cE (G : GT) (N : List Str) : Nat → Scope → Expr → Ie
  | 0 => fun _ _ => bad1 "deep"
  | n + 1 => stepE G N (cE G N n)
/-! ### statements -/
/-- which stores are exchanged: none where the model does not tell -/
def swS (sc : Scope) (ts vs : List Expr) : Option (Option (List Str)) :=
  if (!(ts.length == 2 || ts.length == 3) || vs.length != ts.length) = true then some none else
  if (vs.any fun e => !plain e) = true then some none else
  let l0 := (ts.head?.map fun e => e.pos.line).getD 0
  let ns := ts.filterMap fun e => match e with
    | .Name x p => if (sc.names.lookup x == some .local && p.line == l0) = true then some x else none
    | _ => none
  if (ns.length != ts.length || ns.eraseDups.length != ns.length) = true then some none else
  if vs.all (foldedForSure 8) = true then some none else
  if vs.all (constantsAlone 8) = true then none else some (some ns)
/-- x = [..]: whether the stores are exchanged -/
def swW (sc scope : Scope) (x : Str) (p' p : Pos) : Bool :=
  (sc.names.lookup x == some .local) && (p'.line == p.line) && !(scope.names.any fun q => q.1 == x && (q.2 == .local || q.2 == .cell))
section
variable (G : GT) (N : List Str) (sc : Scope) (f : Scope → Expr → Ie) (blk : List Stmt → Ib)
def bad2 (w : String) : Is := .raise w .nil
def cT1 (e : Expr) : Option T1 := match e with
  | .Name x _ => if isLoc sc x then (idx N x).map .nm else none
  | .Subscript (.Name x _) i _ => if isVis sc x && okNm x && notSl i then (idx N x).map fun k => .ix k (f sc i) else none
  | _ => none
def cT1s : List Expr → Option (List T1)
  | [] => some []
  | e :: r => match cT1 N sc f e with | some t => (cT1s r).map fun l => t :: l | none => none
def isFun (sc : Scope) : Bool := match sc.kind with | .function => true | _ => false
def nmOf (e : Expr) : Option Str := match e with | .Name x _ => some x | _ => none
def cPar (ts vs : List Expr) : Is := if isFun sc && ts.all plainT then match swS sc ts vs with
  | none => bad2 "stores"
  | some none => (match cTgs N sc ts with
    | some is => .parN is (cAs f sc vs)
    | none => match cT1s N sc f ts with
      | some its => .par its (cAs f sc vs)
      | none => bad2 "target")
  | some (some ns) => (match ts, vs with
    | [.Name x _, .Name y _], [_, _] => (match idx N x, idx N y with
      | some i, some j => if i ≠ j ∧ isLocal sc x = true ∧ isLocal sc y = true ∧ ns = [x, y] then .parN [i, j] (cAs f sc vs) else bad2 "swap"
      | _, _ => bad2 "swap")
    | [.Name x _, .Name y _, .Name z _], [_, _, _] => (match idx N x, idx N y, idx N z with
      | some i, some j, some l => if i ≠ j ∧ i ≠ l ∧ j ≠ l ∧ isLocal sc x = true ∧ isLocal sc y = true ∧ isLocal sc z = true ∧ ns = [x, y, z] then .parN [i, j, l] (cAs f sc vs) else bad2 "swap"
      | _, _, _ => bad2 "swap")
    | _, _ => bad2 "swap")
  else bad2 "target"
def cAsg (t e : Expr) (pos : Pos) : Is := match t with
  | .Name x p' => if isLoc sc x && isFun sc then match idx N x with
      | some i => (match e with
        | .ListComp elt gs scope p => .set (.nm i) (cLc G N f sc elt gs scope)
        | e => if okSwap e then .set (.nm i) (f sc e) else bad2 "swap")
      | none => bad2 "target"
    else bad2 "target"
  | .Subscript (.Name x p) i p' => if isVis sc x && okNm x && notSl i && okSwap e then match idx N x with
      | some k => .set (.ix k (f sc i)) (f sc e)
      | none => bad2 "target"
    else bad2 "target"
  | .Attribute (.Name x _) a _ => if isVis sc x && okNm x && okSwap e then match idx N x with
      | some k => .fld k a (f sc e)
      | none => bad2 "target"
    else bad2 "target"
  | .Tuple ts _ _ => (match e with
    | .Tuple vs _ _ => cPar N sc f ts vs
    | e => if okSwap e && ts.all plainT then match cT1s N sc f ts with
        | some its => .unp its (f sc e)
        | none => bad2 "target"
      else bad2 "target")
  | _ => bad2 "target"
def cAug (t e : Expr) : Is := match t with
  | .Name x _ => if isLoc sc x then match idx N x with | some i => .aug (.nm i) (f sc e) | none => bad2 "target" else bad2 "target"
  | .Subscript (.Name x _) i _ => if isVis sc x && okNm x && notSl i then match idx N x with
      | some k => .aug (.ix k (f sc i)) (f sc e)
      | none => bad2 "target"
    else bad2 "target"
  | _ => bad2 "target"
def cTg (t : Expr) : Option (List Nat) := match t with
  | .Name x p => cTgs N sc [.Name x p]
  | .Tuple ts _ _ => if ts.length ≠ 1 ∧ ts.all plainT = true then cTgs N sc ts else none
  | _ => none
def stepS (st : Stmt) : Is := match st with
  | .Return o _ => (match o with | none => .ret (.con .non) | some e => .ret (f sc e))
  | .Assign ts e pos => (match ts with | [t] => cAsg G N sc f t e pos | _ => bad2 "targets")
  | .AugAssign t o e _ => (match o with | .Add => cAug N sc f t e | _ => bad2 "op")
  | .For t it b els _ => (match els with
    | [] => (match cTg N sc t with | some is => if notSet it then .for_ is (cIt G f sc t it) (blk b) else bad2 "set" | none => bad2 "target")
    | _ => bad2 "else")
  | .While c b els _ => (match els with | [] => .whl (f sc c) (blk b) | _ => bad2 "else")
  | .If c a b _ => .iff (f sc c) (blk a) (blk b)
  | .Expr e _ => if okSwap e then .ex (f sc e) else bad2 "swap"
  | .Pass _ => .pass
  | .Break _ => .brk
  | .Raise _ _ _ => bad2 "raise"
  | .Try b hs els fi _ => (match hs, els, fi with | _ :: _, [], [] => .tr (blk b) .nil | _, _, _ => bad2 "try")
  | _ => bad2 "form"
def cBl (g : Stmt → Is) : List Stmt → Ib
  | [] => .nil
  | s :: r => .cons (g s) (cBl g r)
end
def cS (G : GT) (N : List Str) (sc : Scope) (k : Nat) : Nat → Stmt → Is
  | 0 => fun _ => bad2 "deep"
  | n + 1 => stepS G N sc (cE G N k) (cBl (cS G N sc k n))
def cB (G : GT) (N : List Str) (sc : Scope) (k n : Nat) (b : List Stmt) : Ib := cBl (cS G N sc k n) b
end Wd
-- WdRp
set_option linter.all false
set_option maxRecDepth 100000
set_option maxHeartbeats 2000000
set_option Elab.async false
/-! repr of lists and tuples. -/
namespace Wd
open PySem L2 PySem.Spec PyProof.Rows
def rRepr (K : PySem.W.Frag) : List V → Hp → VK → Prop := fun vs H Q => ∃ (a : Addr) (d : PyData), vs = [V.ref a] ∧ Dp K H (.ref a) d ∧ d.canLay0 = true ∧ d.depth ≤ 60 ∧ d.showable = true ∧ d.shown.length ≤ sizeLine ∧ Q (.str d.shown) H
section
variable {Z : Wo} {W : WX} {X : Cx} {Hf H F : Hp} {s : Sto} {σ : L2.St} {v : V} {d : D} {r : Rv} {T : Tab} {C : Str → List Sl → CRes} {Q : VK}
theorem cr_repr (gd : X.A.guards = some []) (hu : X.A.units + 64 < cLine) : CallR X (.builtin "repr") (rRepr X.K) := by
  intro pins s σ H xs us Q I rx q
  obtain ⟨a, d, rfl, hd, h2, hdp, h1, h4, q⟩ := q
  rw [Vals.ref1 rx]
  obtain ⟨as, r⟩ := Dp.reads I d (.ref a) (.ref a) hd rfl
  exact PySem.repr_of_reads' r h1 (PyData.noDict_hsm (PyData.hasDict_of_canLay d h2)) gd (by omega) (fun _ _ e => e) (fun h' u tk hk => ⟨.str d.shown, H, I.kept hk, ⟨u, rfl⟩, q⟩) h4
/-- of an int too -/
def rReprI : List V → Hp → VK → Prop := fun vs H Q => ∃ i, vs = [.int i] ∧ i.natAbs.log2 < 1920 ∧ Q (.str (toString i)) H
/-- of a truth, of None -/
def rReprB : List V → Hp → VK → Prop := fun vs H Q => (∃ b : Bool, vs = [.bl b] ∧ Q (.str (if b then "True" else "False")) H) ∨ (vs = [.non] ∧ Q (.str "None") H)
theorem cr_reprB : CallR X (.builtin "repr") rReprB := by
  intro pins s σ H xs us Q I r h
  rcases h with ⟨b, rfl, q⟩ | ⟨rfl, q⟩
  · obtain ⟨u, rfl, rfl⟩ := vals1 r
    exact PySem.P.repr_of_bool ⟨.str _, H, I.tok _, ⟨_, rfl⟩, q⟩
  · obtain ⟨u, rfl, rfl⟩ := vals1 r
    exact PySem.P.repr_of_none ⟨.str _, H, I.tok _, ⟨_, rfl⟩, q⟩
def rReprS : List V → Hp → VK → Prop := fun vs H Q => ∃ z, vs = [.str z] ∧ (reprText z).length ≤ sizeLine ∧ Q (.str (reprText z)) H
theorem cr_reprS : CallR X (.builtin "repr") rReprS := by
  intro pins s σ H xs us Q I r h
  obtain ⟨z, rfl, hz, q⟩ := h
  obtain ⟨u, rfl, t, rfl⟩ := vals1 r
  exact PySem.P.repr_of_str ⟨.str _, H, I.tok _, ⟨_, rfl⟩, q⟩ hz
def rRepr2 (K : PySem.W.Frag) : List V → Hp → VK → Prop := fun vs H Q => ((rRepr K vs H Q ∨ rReprI vs H Q) ∨ rReprB vs H Q) ∨ rReprS vs H Q
theorem cr_repr2 (gd : X.A.guards = some []) (hu : X.A.units + 64 < cLine) : CallR X (.builtin "repr") (rRepr2 X.K) := Wd.CallR.or (Wd.CallR.or (Wd.CallR.or (cr_repr gd hu) SkE.call_repr_int) cr_reprB) cr_reprS
theorem repr_okD {v : V} {t : Str} (hK : X.K = Z.K) (sub : Same Hf H) (p : Rep Z Hf H d v) (h : reprD d = some t) (q : Q (.str t) H) : rRepr2 X.K [v] H Q := by
  have key : shownOk d = true → (toPy d).shown = t → (∃ a, v = .ref a) → rRepr X.K [v] H Q := fun hs ht ⟨a, ha⟩ => by
    unfold shownOk at hs
    simp only [Bool.and_eq_true, decide_eq_true_eq] at hs
    subst ha
    obtain ⟨c1, c2⟩ := shaped_d hs.1.1
    refine ⟨a, toPy d, rfl, by rw [hK]; exact p.dp sub hs.1.1, c1, c2, hs.1.2, Nat.le_trans hs.2 lim_le, ?_⟩
    rw [ht]; exact q
  unfold reprD at h
  split at h
  · split at h
    · rename_i hs
      obtain ⟨a, vs, e, _⟩ := p.tup sub
      exact .inl (.inl (.inl (key hs (Option.some.inj h) ⟨a, e⟩)))
    · cases h
  · split at h
    · rename_i hs
      obtain ⟨a, vs, e, _⟩ := p.lst sub
      exact .inl (.inl (.inl (key hs (Option.some.inj h) ⟨a, e⟩)))
    · cases h
  · split at h
    · rename_i hs
      have ht := Option.some.inj h
      exact .inl (.inl (.inr ⟨_, by rw [p.int], hs, by rw [← ht] at q; exact q⟩))
    · cases h
  · have ht := Option.some.inj h
    exact .inl (.inr (.inl ⟨_, by rw [p.bl], by rw [← ht] at q; exact q⟩))
  · have ht := Option.some.inj h
    exact .inl (.inr (.inr ⟨by rw [p.non], by rw [← ht] at q; exact q⟩))
  · split at h
    · rename_i hs
      have ht := Option.some.inj h
      exact .inr ⟨_, by rw [p.str], Nat.le_trans hs lim_le, by rw [← ht] at q; exact q⟩
    · cases h
  · cases h
theorem s_reprc {a : Expr} {ia : Ie} {p pos : Pos} (hK : X.K = Z.K) (gd : X.A.guards = some []) (hu : X.A.units + 64 < cLine) (N : BiN X "repr" (.builtin "repr")) (ha : PE X a (tE Z W (evE T C ia))) (hp : plain a = true) :
    PE X (.Call (.Name "repr" p) [a] [] pos) (tE Z W (evE T C (.reprc ia))) := by
  have hpa : PA X [a] (tA Z W (evA T C (.cons ia .nil))) := a_cons ha a_nil (star_plain hp)
  refine ⟨fun pins s σ H Q I h => (pe_callB (cr_repr2 gd hu) N.gl N.mg N.bt hpa N.nn N.nd (star_plain hp) rfl).run pins s σ H Q I ?_⟩
  obtain ⟨Hf, F, st, R, h⟩ := h
  rw [evE] at h
  have e : bnd (evE T C ia st) (fun x s => bnd (Wd.opt "peek" (peek x s) s) fun d s => Wd.opt "repr" ((reprD d).map fun s => Rv.v (.str s)) s) =
      bnd (evA T C (.cons ia .nil) st) fun rs s => bnd (Wd.opt "peek" (rds rs s) s) fun ds s => Wd.opt "repr" ((match ds with | [d] => reprD d | _ => none).map fun s => Rv.v (.str s)) s := by
    rw [evA]
    cases evE T C ia st with
    | bad _ => rfl
    | ex _ _ => rfl
    | ok x s1 =>
      simp only [bnd, evA, rds, List.mapM_cons, List.mapM_nil]
      cases peek x s1 with
      | none => rfl
      | some d => rfl
  rw [e] at h
  refine t_args R h fun ds s2 H2 Hf2 vs e2 R2 p h => ?_
  obtain ⟨rr, hr, h9⟩ := Po.optP h
  obtain ⟨t, ht, rfl⟩ := Option.map_eq_some_iff.mp hr
  split at ht
  · obtain ⟨v, rfl, p1⟩ := reps1 p
    exact repr_okD hK R2.sub p1 ht (ret_v (d := .str t) (v := .str t) h9 R2 (by unfold Isd; rfl))
  · cases ht
end
end Wd
-- WdCr
set_option linter.all false
set_option maxRecDepth 100000
set_option maxHeartbeats 2000000
set_option Elab.async false
/-! What the compile step gives is sound: expressions. -/
namespace Wd
open PySem L2 PySem.Spec PyProof.Rows
structure GOk (G : GT) (T : Tab) (C : Str → List Sl → CRes) (Z : Wo) (CX : CXT) (k : Nat) (X : Cx) : Prop where
  con : ∀ x d, G.consts.lookup x = some d → ∃ u v, X.mg x = some u ∧ RelV v u ∧ ∀ Hf, Isd Z Hf d v
  cls : ∀ c, G.cls.contains c = true → X.mg c = some (.ref (Z.cA c)) ∧ Z.kn c
  free : ∀ x, G.free.contains x = true → X.mg x = none
  fn : ∀ f sg, G.fns.lookup f = some sg → ∃ fa fdt fd, X.mg f = some (.ref fa) ∧ PySem.W.keepIn X.K (.ref fa) = true ∧ FnG X.prog X.w X.K X.mg X.base CX k fa fdt sg.1 (spF Z (C f) sg.1.length) ∧ fdOf T f = some fd ∧ fd.ps.length = sg.1.length ∧
    ∀ pm n ks, pmF sg n ks = some pm → BindOk X.K fdt sg.1 pm n ks
  ini : ∀ c sg, G.inits.lookup c = some sg → ∃ fa fdt fd, X.mg c = some (.ref (Z.cA c)) ∧ Mk X.K (Z.cA c) fa ∧ FnG X.prog X.w X.K X.mg X.base CX k fa fdt sg.1 (spF Z (C (c ++ ".__init__")) sg.1.length) ∧ fdOf T (c ++ ".__init__") = some fd ∧
    fd.ps.length = sg.1.length ∧ (T.cls.contains c = true → Z.kn c) ∧ ∀ pm n ks, pmM sg n ks = some pm → BindM X.K fdt sg.1 pm n ks
  mth : ∀ m sg pm n ks, G.mths.lookup m = some sg → pmM sg n ks = some pm → MtOk X Z T C CX k m pm n ks
  pr : PrOk X Z T C CX k
  fds : FdOk X Z T
  dct : ∀ x d, G.dcts.lookup x = some d → DcAt X x d
  st : ∀ c m sg, G.cls.contains c = true → G.sts.lookup (c ++ "." ++ m) = some sg → ∃ p fa fdt fd, SmOk X.K (Z.cA c) m p fa ∧ FnG X.prog X.w X.K X.mg X.base CX k fa fdt sg.1 (spF Z (C (c ++ "." ++ m)) sg.1.length) ∧ fdOf T (c ++ "." ++ m) = some fd ∧ fd.ps.length = sg.1.length ∧
    ∀ pm n ks, pmF sg n ks = some pm → BindOk X.K fdt sg.1 pm n ks
structure Ctx (G : GT) (N : List Str) (T : Tab) (C : Str → List Sl → CRes) (Z : Wo) (CX : CXT) (k : Nat) (W : WX) (X : Cx) (sc : Scope) : Prop where
  ok : CxOk X Z
  nd : X.N.Nodup
  hN : X.N = N
  sc : X.env.scope = sc
  gd : X.A.guards = some []
  room : Room (k + 2) X.A
  own : PassesOwn (model X.prog X.w) X.A X.env X.xe
  px : ∃ E0, Passes CX X E0 ∧ ∀ cls d σ H, W cls d σ H = E0 cls d H
  pn : ∀ Y : Cx, Passes CX Y (fun _ _ _ => False)
  g : GOk G T C Z CX k X
structure EOk (T : Tab) (C : Str → List Sl → CRes) (Z : Wo) (B : Nat → Option Addr) (W : WX) (X : Cx) (e : Expr) (ie : Ie) : Prop where
  pe : PE X e (tE (Z.wB B) W (evE T C ie))
  pt : PT X e (tT (Z.wB B) W (evT T C ie))
section
variable {G : GT} {N : List Str} {Z : Wo} {B : Nat → Option Addr} {CX : CXT} {k : Nat} {W : WX} {X : Cx} {sc : Scope} {T : Tab} {C : Str → List Sl → CRes} {e : Expr} {ie : Ie}
theorem Ctx.hK (c : Ctx G N T C Z CX k W X sc) : X.K = (Z.wB B).K := c.ok.hK
theorem Ctx.okB (c : Ctx G N T C Z CX k W X sc) : CxOk X (Z.wB B) := ⟨c.ok.hK, c.ok.hu, c.ok.calm, c.ok.cls, c.ok.kit1, c.ok.kit2, c.ok.kit3⟩
theorem Ctx.rk (c : Ctx G N T C Z CX k W X sc) : Room k X.A := c.room.mono (Nat.le_add_right k 2)
theorem Ctx.r1 (c : Ctx G N T C Z CX k W X sc) : Room (k + 1) X.A := c.room.mono (Nat.le_succ _)
theorem Ctx.gl (c : Ctx G N T C Z CX k W X sc) {x : Str} (h : isGl sc x = true) : Gl X x := by
  unfold isGl at h
  show X.env.scope.names.lookup x = _
  rw [c.sc]
  split at h
  · assumption
  · cases h
theorem Ctx.vis (c : Ctx G N T C Z CX k W X sc) {x : Str} (h : isVis sc x = true) : Vis X.env.scope x := by
  unfold isVis at h
  unfold Vis
  rw [c.sc]
  split at h
  · exact .inl (by assumption)
  · exact .inr (.inl (by assumption))
  · exact .inr (.inr (by assumption))
  · cases h
theorem Ctx.loc (c : Ctx G N T C Z CX k W X sc) {x : Str} (h : isLoc sc x = true) : L2.Loc X.env.scope x := by
  unfold isLoc at h
  unfold L2.Loc
  rw [c.sc]
  split at h
  · exact .inl (by assumption)
  · exact .inr (by assumption)
  · cases h
theorem isLocal_ok {x : Str} (h : isLocal sc x = true) : sc.names.lookup x = some .local := by
  unfold isLocal at h
  split at h
  · assumption
  · cases h
theorem okNm_ok {x : Str} (h : okNm x = true) : (x == ("__debug__" : Str)) = false ∧ (x == ("__classdict__" : Str)) = false := by
  unfold okNm at h
  simpa using h
theorem Ctx.at (c : Ctx G N T C Z CX k W X sc) {x : Str} {i : Nat} (h : idx N x = some i) : X.N[i]? = some x := by rw [c.hN]; exact idx_ok h
theorem bad1_ev {w : String} (s : Sto) : evE T C (bad1 w) s = .bad "neg" := by
  unfold bad1
  rw [evE, evE]; rfl
theorem bad_ok {w : String} : EOk T C Z B W X e (bad1 w) := ⟨s_fail fun s => ⟨_, bad1_ev s⟩, ⟨fun pins s σ H Q I h => by
  obtain ⟨Hf, F, st, R, h⟩ := h
  unfold evT at h
  rw [bad1_ev] at h
  exact h.elim⟩⟩
theorem EOk.of (hK : X.K = (Z.wB B).K) (h : PE X e (tE (Z.wB B) W (evE T C ie))) (he : ∀ whole, isTrue e X.env whole = (do let v ← whole; standAt e.pos; holding [v] (truthy v)) := by intro _; rfl) : EOk T C Z B W X e ie := ⟨h, p_val hK h he⟩
/-- a op1 b op2 c as a test -/
theorem p_chain {op1 op2 : CmpOp} {o1 o2 : Cop} {a b c : Expr} {ia ib ic : Ie} {pos : Pos} (hK : X.K = Z.K) (hu : X.A.units + 64 < cLine) (h1 : copOf op1 = some o1) (h2 : copOf op2 = some o2) (hm : lastMarks [op1, op2] [b, c] = false)
    (ha : PE X a (tE Z W (evE T C ia))) (hb : PE X b (tE Z W (evE T C ib))) (hc : PE X c (tE Z W (evE T C ic))) : PT X (.Compare a [op1, op2] [b, c] pos) (tT Z W (evT T C (.chain o1 o2 ia ib ic))) := by
  refine pt_weak (pt_chain (op_cmp h1 hu) (op_cmp h2 hu) ha hb hc hm) fun σ H Qb h => ?_
  obtain ⟨Hf, F, st, R, h⟩ := h
  unfold evT at h
  rw [evE] at h
  simp only [bnd_bnd] at h
  refine t_one R h fun x s1 H1 Hf1 v1 e1 R1 r1 h => ?_
  refine t_one (R1.add r1) (h.frame (addT_sub r1)) fun y s2 H2 Hf2 v2 e2 R2 r2 h => ?_
  obtain ⟨d1, hd1, h⟩ := h.bind.opt R2
  obtain ⟨d2, hd2, h⟩ := h.bind.opt R2
  obtain ⟨k, hk, h⟩ := h.bind.opt R2
  have p1 := rep_of (R2.weak (addT_sub r1)) (r1.later e2 R2) hd1
  have p2 := rep_of R2 r2 hd2
  refine cop_ok hK p1 p2 R2.sub hk ⟨k, rfl, ?_⟩
  cases k with
  | false => exact iteF ⟨false, rfl, h.at R2⟩
  | true =>
    have h : Po Z W Hf2 (addT F H1 x v1) σ (bnd (bnd (evE T C ic s2) fun z s => bnd (Wd.opt "peek" (peek y s) s) fun y s => bnd (Wd.opt "peek" (peek z s) s) fun z s => cmpE o2 y z s) fun r s => bnd (Wd.opt "peek" (peek r s) s) fun d s => Wd.opt "truth" (truth d) s) _ := h
    simp only [bnd_bnd] at h
    refine iteT (t_one (R2.add r2) (h.frame (addT_sub r2)) fun z s3 H3 Hf3 v3 e3 R3 r3 h => ?_)
    obtain ⟨d2', hd2', h⟩ := h.bind.opt R3
    obtain ⟨d3, hd3, h⟩ := h.bind.opt R3
    obtain ⟨rr, hr, h⟩ := Po.optP h.bind
    obtain ⟨b, hb, rfl⟩ := Option.map_eq_some_iff.mp hr
    exact cop_ok hK (rep_of (R3.weak (addT_sub r2)) (r2.later e3 R3) hd2') (rep_of R3 r3 hd3) R3.sub hb ⟨b, rfl, (h.at R3).at R3⟩
end
section
variable {G : GT} {N : List Str} {Z : Wo} {B : Nat → Option Addr} {CX : CXT} {k : Nat} {W : WX} {X : Cx} {sc : Scope} {T : Tab} {C : Str → List Sl → CRes} {f : Scope → Expr → Ie}
/-- what is known of the parts -/
abbrev Fok (G : GT) (N : List Str) (T : Tab) (C : Str → List Sl → CRes) (Z : Wo) (B : Nat → Option Addr) (CX : CXT) (k : Nat) (f : Scope → Expr → Ie) : Prop := ∀ (W : WX) (X : Cx) (sc : Scope) (e : Expr), Ctx G N T C Z CX k W X sc → EOk T C Z B W X e (f sc e)
theorem cName_ok (c : Ctx G N T C Z CX k W X sc) {x : Str} {p : Pos} : EOk T C Z B W X (.Name x p) (cName G N sc x) := by
  unfold cName
  split
  · rename_i h1
    obtain ⟨d1, d2⟩ := okNm_ok h1
    split
    · rename_i h2
      cases h3 : idx N x with
      | none => exact bad_ok
      | some i => exact .of c.hK (s_var (c.at h3) (c.vis h2) d1 d2)
    · split
      · rename_i h2
        cases h3 : G.consts.lookup x with
        | some d =>
          obtain ⟨u, v, a1, a2, a3⟩ := c.g.con x d h3
          exact .of c.hK (s_glob (c.gl h2) a1 a2 (fun Hf => isd_B.mpr (a3 Hf)) d1)
        | none =>
          simp only
          split
          · rename_i h4
            obtain ⟨a1, a2⟩ := c.g.cls x h4
            exact .of c.hK (s_glob (v := .ref (Z.cA x)) (c.gl h2) a1 rfl (fun Hf => by unfold Isd; exact ⟨rfl, a2⟩) d1)
          · cases h5 : typs.lookup x with
            | none => exact bad_ok
            | some t =>
              simp only
              split
              · rename_i h6
                have ht : bootBuiltins x = some (.type t) ∧ x ≠ "__name__" := by
                  have tb : ∀ q ∈ typs, bootBuiltins q.1 = some (.type q.2) ∧ q.1 ≠ "__name__" := by decide +kernel
                  exact tb (x, t) (PySem.mem_of_lookup h5)
                exact .of c.hK (s_bty ⟨c.gl h2, c.g.free x h6, ht.1, ht.2, d1⟩)
              · exact bad_ok
      · exact bad_ok
  · exact bad_ok
theorem cAs_ok (F : Fok G N T C Z B CX k f) (c : Ctx G N T C Z CX k W X sc) : ∀ es : List Expr, PA X es (tA (Z.wB B) W (evA T C (cAs f sc es)))
  | [] => a_nil
  | e :: r => by
    have ih := cAs_ok F c r
    by_cases hp : plain e = true
    · have e1 : cAs f sc (e :: r) = .cons (f sc e) (cAs f sc r) := by
        cases e <;> first | rfl | cases hp
      rw [e1]
      exact a_cons (F W X sc e c).pe ih (star_plain hp)
    · cases e with
      | Starred a p => exact a_star c.hK (F W X sc a c).pe ih rfl
      | _ => exact absurd rfl hp
theorem cKs_ok (F : Fok G N T C Z B CX k f) (c : Ctx G N T C Z CX k W X sc) : ∀ ks : List Keyword, PK X ks (tA (Z.wB B) W (evA T C (cKs f sc ks)))
  | [] => k_nil
  | ⟨a, e, p⟩ :: r => k_cons (F W X sc e c).pe (cKs_ok F c r)
theorem kwN_ok : ∀ {ks : List Keyword} {l : List Str}, kwN ks = some l → ks.map (·.arg) = l.map some
  | [], l, h => by cases h; rfl
  | k :: ks, l, h => by
    unfold kwN at h
    split at h
    · rename_i a ha
      obtain ⟨m, hm, rfl⟩ := Option.map_eq_some_iff.mp h
      rw [List.map_cons, List.map_cons, ha, kwN_ok hm]
    · cases h
theorem kwN_len {ks : List Keyword} {l : List Str} (h : kwN ks = some l) : ks.length = l.length := by
  have := congrArg List.length (kwN_ok h)
  simpa using this
theorem cBs_ok (F : Fok G N T C Z B CX k f) (c : Ctx G N T C Z CX k W X sc) {o : BoolOp} {p : Pos} : ∀ es : List Expr, PE X (.BoolOp o es p) (tE (Z.wB B) W (evE T C (cBs f sc o es))) ∧ PW X (.BoolOp o es p) (tT (Z.wB B) W (evT T C (cBs f sc o es)))
  | [] => ⟨(bad_ok (e := .BoolOp o [] p)).pe, ⟨fun wh pins s σ H Q I h => by
      obtain ⟨Hf, F, st, R, h⟩ := h
      unfold evT cBs at h
      rw [bad1_ev] at h
      exact h.elim⟩⟩
  | [a] => ⟨pe_one (F W X sc a c).pe, by
      cases o with
      | And => exact pw_and1 (F W X sc a c).pt
      | Or => exact pw_or1 (F W X sc a c).pt⟩
  | a :: b :: r => by
    cases o with
    | And =>
      obtain ⟨h1, h2⟩ := cBs_ok F c (o := .And) (p := p) (b :: r)
      exact ⟨s_and c.hK (F W X sc a c).pe h1, w_and (F W X sc a c).pt h2⟩
    | Or =>
      obtain ⟨h1, h2⟩ := cBs_ok F c (o := .Or) (p := p) (b :: r)
      exact ⟨s_or c.hK (F W X sc a c).pe h1, w_or (F W X sc a c).pt h2⟩
theorem pmF_len {sg : Sg} {n : Nat} {ks : List Str} {pm : List Pm} (h : pmF sg n ks = some pm) : pm.length = sg.1.length := by
  unfold pmF at h
  split at h
  · exact (pms_at h).1
  · cases h
theorem pmsF_scal {off n : Nat} {ds : List D} {ks : List Str} (hs : ds.all Scalar = true) : ∀ {r : List Str} {i : Nat} {pm : List Pm}, pmsF off n ds ks i r = some pm → pmScal pm = true
  | [], i, pm, h => by
    have : pm = [] := (Option.some.inj h).symm
    subst this; rfl
  | p :: r, i, pm, h => by
    unfold pmsF at h
    obtain ⟨x, hx, h⟩ := Option.bind_eq_some_iff.mp h
    obtain ⟨l, hl, rfl⟩ := Option.map_eq_some_iff.mp h
    have ih := pmsF_scal hs hl
    cases x with
    | a _ => exact ih
    | d v =>
      unfold pmScal
      rw [Bool.and_eq_true]
      refine ⟨?_, ih⟩
      split at hx
      · cases hx
      · cases q : idx ks p with
        | some j => rw [q] at hx; cases hx
        | none =>
          rw [q] at hx
          simp only at hx
          split at hx
          · obtain ⟨w, hw, e⟩ := Option.map_eq_some_iff.mp hx
            cases e
            exact List.all_eq_true.mp hs _ (List.mem_of_getElem? hw)
          · cases hx
theorem pmF_scal {sg : Sg} {n : Nat} {ks : List Str} {pm : List Pm} (h : pmF sg n ks = some pm) : pmScal pm = true := by
  unfold pmF at h
  split at h
  · rename_i hc
    rw [Bool.and_eq_true] at hc
    exact pmsF_scal hc.2 h
  · cases h
theorem unsh_ok : ∀ {r l : List Pm}, unsh r = some l → shift l = r
  | [], l, h => by cases h; rfl
  | .a 0 :: r, l, h => by cases h
  | .a (k + 1) :: r, l, h => by
    obtain ⟨m, hm, rfl⟩ := Option.map_eq_some_iff.mp (show (unsh r).map (fun l => Pm.a k :: l) = some l from h)
    unfold shift; rw [unsh_ok hm]
  | .d v :: r, l, h => by
    obtain ⟨m, hm, rfl⟩ := Option.map_eq_some_iff.mp (show (unsh r).map (fun l => Pm.d v :: l) = some l from h)
    unfold shift; rw [unsh_ok hm]
theorem shift_len : ∀ l : List Pm, (shift l).length = l.length
  | [] => rfl
  | .a _ :: l => by unfold shift; simp [shift_len l]
  | .d _ :: l => by unfold shift; simp [shift_len l]
theorem shift_scal : ∀ l : List Pm, pmScal (shift l) = pmScal l
  | [] => rfl
  | .a _ :: l => by unfold shift pmScal; exact shift_scal l
  | .d _ :: l => by unfold shift pmScal; rw [shift_scal l]
theorem pmM_ok {sg : Sg} {n : Nat} {ks : List Str} {pm : List Pm} (h : pmM sg n ks = some pm) : pmF sg (n + 1) ks = some (.a 0 :: shift pm) := by
  unfold pmM at h
  split at h
  · rename_i r hr
    rw [hr, unsh_ok h]
  · cases h
theorem pmM_len {sg : Sg} {n : Nat} {ks : List Str} {pm : List Pm} (h : pmM sg n ks = some pm) : pm.length + 1 = sg.1.length := by
  have := pmF_len (pmM_ok h)
  rwa [List.length_cons, shift_len] at this
theorem pmM_scal {sg : Sg} {n : Nat} {ks : List Str} {pm : List Pm} (h : pmM sg n ks = some pm) : pmScal pm = true := by
  have := pmF_scal (pmM_ok h)
  unfold pmScal at this
  rwa [shift_scal] at this
theorem cAs_nil {es : List Expr} (h : es = []) : cAs f sc es = .nil := by subst h; rfl
theorem biOf2_boot {x : Str} {q : Bi × Bool × String} (h : biOf2 x = some q) : bootBuiltins x = some (if q.2.1 = true then .type q.2.2 else .builtin q.2.2) ∧ x ≠ "__name__" := by
  have tb : ∀ q ∈ biTab, bootBuiltins q.1 = some (if q.2.2.1 = true then .type q.2.2.2 else .builtin q.2.2.2) ∧ q.1 ≠ "__name__" := by decide +kernel
  exact tb (x, q) (PySem.mem_of_lookup h)
theorem biOf2_ok {x : Str} {q : Bi × Bool × String} (c : Ctx G N T C Z CX k W X sc) (h : biOf2 x = some q) : if q.2.1 = true then BiR X (Z.wB B) (bi q.1) (.type q.2.2) else BiR X (Z.wB B) (bi q.1) (.builtin q.2.2) := by
  have G := c.okB (B := B)
  have m := PySem.mem_of_lookup (show biTab.lookup x = some q from h)
  unfold biTab at m
  simp only [List.mem_cons, Prod.mk.injEq, List.not_mem_nil, or_false] at m
  rcases m with ⟨_, rfl⟩ | ⟨_, rfl⟩ | ⟨_, rfl⟩ | ⟨_, rfl⟩ | ⟨_, rfl⟩ | ⟨_, rfl⟩ | ⟨_, rfl⟩ | ⟨_, rfl⟩ | ⟨_, rfl⟩ | ⟨_, rfl⟩ | ⟨_, rfl⟩ | ⟨_, rfl⟩ | ⟨_, rfl⟩ | ⟨_, rfl⟩
  · exact bi_abs
  · exact bi_all G
  · exact bi_any G
  · exact bi_bool
  · exact bi_divmod
  · exact bi_int
  · exact bi_isinst G
  · exact bi_len G
  · exact bi_list G
  · exact bi_max G
  · exact bi_min G
  · exact bi_sorted G
  · exact bi_sum G
  · exact bi_tuple G
theorem nestC_ok (F : Fok G N T C Z B CX k f) (c : Ctx G N T C Z CX k W X sc) {x : Str} {a : Expr} {p pos : Pos} {ie : Ie} (h1 : isGl sc x = true) (h2 : G.free.contains x = true) (h : nestC G f sc x a = some ie) : PE X (.Call (.Name x p) [a] [] pos) (tE (Z.wB B) W (evE T C ie)) := by
  unfold nestC at h
  split at h
  · rename_i y p2 b p3
    split at h
    · rename_i hy
      simp only [Bool.and_eq_true] at hy
      obtain ⟨⟨⟨y1, y2⟩, y3⟩, y4⟩ := hy
      split at h
      · rename_i e
        obtain ⟨rfl, rfl⟩ := e
        cases h
        exact s_listRg1 c.ok.calm (c.gl h1) (c.g.free _ h2) (c.gl y2) (c.g.free _ y3) (F W X sc b c).pe y4
      · split at h
        · rename_i e
          obtain ⟨rfl, rfl⟩ := e
          cases h
          exact s_lenSet c.hK c.ok.calm (c.gl h1) (c.g.free _ h2) (c.gl y2) (c.g.free _ y3) (F W X sc b c).pe y4
        · split at h
          · rename_i e
            obtain ⟨rfl, rfl⟩ := e
            cases h
            exact s_sortSet c.hK c.ok.calm (c.gl h1) (c.g.free _ h2) (c.gl y2) (c.g.free _ y3) (F W X sc b c).pe y4
          · cases h
    · cases h
  · rename_i y p2 a1 b1 c1 p3
    split at h
    · rename_i hy
      rw [Bool.and_eq_true, Bool.and_eq_true, Bool.and_eq_true] at hy
      obtain ⟨⟨⟨y1, y2⟩, y3⟩, y4⟩ := hy
      split at h
      · rename_i e
        obtain ⟨rfl, rfl⟩ := e
        cases h
        exact s_lenRg (c.gl h1) (c.g.free _ h2) (c.gl y2) (c.g.free _ y3) (cAs_ok F c [a1, b1, c1]) y4
      · cases h
    · cases h
  · cases h
theorem cCallN_ok (F : Fok G N T C Z B CX k f) (c : Ctx G N T C Z CX k W X sc) {x : Str} {as : List Expr} {ks : List Keyword} {p pos : Pos} : EOk T C Z B W X (.Call (.Name x p) as ks pos) (cCallN G f sc x as ks) := by
  unfold cCallN
  split
  · rename_i h1
    simp only [Bool.and_eq_true] at h1
    obtain ⟨⟨h1, h2⟩, hp⟩ := h1
    obtain ⟨d1, d2⟩ := okNm_ok h1
    obtain ⟨E0, px, hW⟩ := c.px
    cases h3 : kwN ks with
    | none => exact bad_ok
    | some kn =>
      cases h4 : G.fns.lookup x with
      | some sg =>
        simp only
        cases h5 : pmF sg as.length kn with
        | none => exact bad_ok
        | some pm =>
          obtain ⟨fa, fdt, fd, a1, a2, a3, a4, a5, a6⟩ := c.g.fn x sg h4
          exact .of c.hK (s_call c.gd a3 c.rk (c.gl h2) a1 a2 (a6 pm _ _ h5) px hW a4 a5 (pmF_len h5) (pmF_scal h5) (cAs_ok F c as) cAs_nil (cKs_ok F c ks) hp (kwN_ok h3) d1)
      | none =>
        simp only
        cases h5 : G.inits.lookup x with
        | some sg =>
          simp only
          cases h6 : pmM sg as.length kn with
          | none => exact bad_ok
          | some pm =>
            obtain ⟨fa, fdt, fd, a1, a2, a3, a4, a5, a6, a7⟩ := c.g.ini x sg h5
            exact .of c.hK (s_mk a2 c.gd a3 c.r1 (c.gl h2) a1 (a7 pm _ _ h6) px hW a6 a4 a5 (pmM_len h6) (pmM_scal h6) (cAs_ok F c as) cAs_nil (cKs_ok F c ks) hp (kwN_ok h3) d1)
        | none =>
          simp only
          split
          · rename_i h6
            split
            · rename_i a r
              split
              · rename_i h7
                obtain ⟨rfl, h8⟩ := h7
                have hr : r = [] := List.isEmpty_iff.mp h8
                subst hr
                rw [List.all_cons, Bool.and_eq_true] at hp
                exact .of c.hK (s_reprc c.hK c.gd c.ok.hu ⟨c.gl h2, c.g.free _ h6, by decide +kernel, by decide, d1⟩ (F W X sc a c).pe hp.1)
              · split
                · rename_i h7
                  obtain ⟨rfl, h8⟩ := h7
                  have hr : r = [] := List.isEmpty_iff.mp h8
                  subst hr
                  rw [List.all_cons, Bool.and_eq_true] at hp
                  cases h9 : G.mths.lookup (Str.ofString "__str__") with
                  | none => exact bad_ok
                  | some sg =>
                    simp only
                    split
                    · rename_i hpm
                      exact .of c.hK (s_strc c.ok c.gd ⟨c.gl h2, c.g.free _ h6, by decide +kernel, by decide, d1⟩ (c.g.mth "__str__" sg [] 0 [] h9 hpm) c.room (c.pn _) (F W X sc a c).pe hp.1)
                    · exact bad_ok
                · cases hn : (if r.isEmpty = true then nestC G f sc x a else none) with
                  | some ie =>
                    simp only
                    split at hn
                    · rename_i h8
                      have hr : r = [] := List.isEmpty_iff.mp h8
                      subst hr
                      exact .of c.hK (nestC_ok F c h2 h6 hn)
                    · cases hn
                  | none =>
                  simp only
                  cases h7 : biOf2 x with
                  | none => exact bad_ok
                  | some q =>
                    obtain ⟨b1, b2⟩ := biOf2_boot h7
                    have b3 := biOf2_ok (B := B) c h7
                    simp only
                    split at b3
                    · rename_i h8
                      rw [if_pos h8] at b1
                      exact .of c.hK (s_biT b3 ⟨c.gl h2, c.g.free _ h6, b1, b2, d1⟩ (cAs_ok F c (a :: r)) hp)
                    · rename_i h8
                      rw [if_neg h8] at b1
                      exact .of c.hK (s_bi b3 ⟨c.gl h2, c.g.free _ h6, b1, b2, d1⟩ (cAs_ok F c (a :: r)) hp)
            · exact bad_ok
          · exact bad_ok
  · exact bad_ok
theorem cCallM_ok (F : Fok G N T C Z B CX k f) (c : Ctx G N T C Z CX k W X sc) {o : Expr} {m : Str} {ap pos : Pos} {as : List Expr} {ks : List Keyword} : EOk T C Z B W X (.Call (.Attribute o m ap) as ks pos) (cCallM G f sc o m ap as ks pos) := by
  unfold cCallM
  split
  · rename_i h1
    simp only [Bool.and_eq_true] at h1
    obtain ⟨⟨hb, hl⟩, hp⟩ := h1
    obtain ⟨E0, px, hW⟩ := c.px
    cases h3 : kwN ks with
    | none => exact bad_ok
    | some kn =>
      simp only
      cases h4 : G.mths.lookup m with
      | some sg =>
        simp only
        cases h5 : pmM sg as.length kn with
        | none => exact bad_ok
        | some pm =>
          simp only
          split
          · rename_i hn
            exact .of c.hK (s_meth c.ok c.gd (c.g.mth m sg pm _ _ h4 h5) c.rk px hW (pmM_scal h5) (F W X sc o c).pe (cAs_ok F c as) cAs_nil (cKs_ok F c ks) hb hp (kwN_ok h3) hn hl)
          · exact bad_ok
      | none =>
        simp only
        split
        · rename_i hm
          subst hm
          split
          · rename_i a
            rw [List.all_cons, Bool.and_eq_true] at hp
            exact .of c.hK (s_append (F W X sc o c).pe (cAs_ok F c [a]) hb hl hp.1)
          · exact bad_ok
        · split
          · rename_i hm
            subst hm
            split
            · exact .of c.hK (s_pop (F W X sc o c).pe hb hl)
            · exact bad_ok
          · split
            · rename_i hm
              subst hm
              split
              · rename_i a
                rw [List.all_cons, Bool.and_eq_true] at hp
                exact .of c.hK (s_count (F W X sc o c).pe (cAs_ok F c [a]) hb hl hp.1)
              · exact bad_ok
            · split
              · rename_i hm
                subst hm
                split
                · rename_i a
                  rw [List.all_cons, Bool.and_eq_true] at hp
                  exact .of c.hK (s_index (F W X sc o c).pe (cAs_ok F c [a]) hb hl hp.1)
                · exact bad_ok
              · split
                · rename_i hm
                  subst hm
                  split
                  · rename_i a b
                    rw [List.all_cons, List.all_cons, Bool.and_eq_true, Bool.and_eq_true] at hp
                    exact .of c.hK (s_get2 c.ok.hu (F W X sc o c).pe (cAs_ok F c [a, b]) hb hl hp.1 hp.2.1)
                  · exact bad_ok
                · split
                  · rename_i hm
                    subst hm
                    split
                    · rename_i a
                      rw [List.all_cons, Bool.and_eq_true] at hp
                      exact .of c.hK (s_join c.hK (F W X sc o c).pe (cAs_ok F c [a]) hb hl hp.1)
                    · exact bad_ok
                  · split
                    · rename_i hm
                      subst hm
                      split
                      · rename_i a
                        rw [List.all_cons, Bool.and_eq_true] at hp
                        exact .of c.hK (s_split (F W X sc o c).pe (cAs_ok F c [a]) hb hl hp.1)
                      · exact bad_ok
                    · exact bad_ok
  · exact bad_ok
theorem stOf_ok {o : Expr} {m : Str} {q : Str × Sg} (h : stOf G sc o m = some q) : ∃ p, o = .Name q.1 p ∧ okNm q.1 = true ∧ isGl sc q.1 = true ∧ G.cls.contains q.1 = true ∧ G.sts.lookup (q.1 ++ "." ++ m) = some q.2 := by
  unfold stOf at h
  split at h
  · rename_i c p
    split at h
    · rename_i hc
      simp only [Bool.and_eq_true] at hc
      obtain ⟨sg, h1, rfl⟩ := Option.map_eq_some_iff.mp h
      exact ⟨p, rfl, hc.1.1, hc.1.2, hc.2, h1⟩
    · cases h
  · cases h
theorem cCallS_ok (F : Fok G N T C Z B CX k f) (c : Ctx G N T C Z CX k W X sc) {o : Expr} {m : Str} {ap pos : Pos} {as : List Expr} {ks : List Keyword} {q : Str × Sg} (h0 : stOf G sc o m = some q) : EOk T C Z B W X (.Call (.Attribute o m ap) as ks pos) (cCallS f sc o m ap as ks pos q.1 q.2) := by
  obtain ⟨p, rfl, g1, g2, g3, g4⟩ := stOf_ok h0
  unfold cCallS
  split
  · rename_i h1
    simp only [Bool.and_eq_true] at h1
    obtain ⟨⟨hb, hl⟩, hp⟩ := h1
    obtain ⟨d1, d2⟩ := okNm_ok g1
    obtain ⟨E0, px, hW⟩ := c.px
    cases h3 : kwN ks with
    | none => exact bad_ok
    | some kn =>
      simp only
      cases h5 : pmF q.2 as.length kn with
      | none => exact bad_ok
      | some pm =>
        simp only
        split
        · rename_i hn
          obtain ⟨p1, fa, fdt, fd, a1, a2, a3, a4, a5⟩ := c.g.st q.1 m q.2 g3 g4
          obtain ⟨b1, b2⟩ := c.g.cls q.1 g3
          exact .of c.hK (s_static c.gd a2 c.rk (c.gl g2) b1 a1 (a5 pm _ _ h5) px hW a3 a4 (pmF_len h5) (pmF_scal h5) (cAs_ok F c as) cAs_nil (cKs_ok F c ks) hp (kwN_ok h3) hb hn hl d1)
        · exact bad_ok
  · exact bad_ok
theorem dctOf_ok {b : Expr} {d : Wd.D} (c : Ctx G N T C Z CX k W X sc) (h : dctOf G sc b = some d) : ∃ x p, b = .Name x p ∧ DcAt X x d ∧ Gl X x ∧ (x == ("__debug__" : Str)) = false := by
  unfold dctOf at h
  split at h
  · rename_i x p
    split at h
    · rename_i hc
      rw [Bool.and_eq_true] at hc
      exact ⟨x, p, rfl, c.g.dct x d h, c.gl hc.2, (okNm_ok hc.1).1⟩
    · cases h
  · cases h
end
end Wd
-- WdCs
set_option linter.all false
set_option maxRecDepth 100000
set_option maxHeartbeats 2000000
set_option Elab.async false
/-! What the compile step gives is sound: expressions, on. -/
namespace Wd
open PySem L2 PySem.Spec PyProof.Rows
section
variable {G : GT} {N : List Str} {Z : Wo} {B : Nat → Option Addr} {CX : CXT} {k : Nat} {W : WX} {X : Cx} {sc : Scope} {T : Tab} {C : Str → List Sl → CRes} {f : Scope → Expr → Ie}
theorem isBool_ok {o : CmpOp} {b : Expr} {k : Bool} (h : isBool o b = some k) : (∃ kk p, o = .Is ∧ b = .Constant (.bool k) kk p) ∨ ∃ kk p, o = .IsNot ∧ b = .Constant (.bool k) kk p := by
  unfold isBool at h
  split at h
  · cases h; exact .inl ⟨_, _, rfl, rfl⟩
  · cases h; exact .inr ⟨_, _, rfl, rfl⟩
  · cases h
theorem cCmp_ok (F : Fok G N T C Z B CX k f) (c : Ctx G N T C Z CX k W X sc) {a : Expr} {os : List CmpOp} {bs : List Expr} {p : Pos} : EOk T C Z B W X (.Compare a os bs p) (cCmp G f sc a os bs) := by
  unfold cCmp
  split
  · rename_i o b
    cases h0 : dctOf G sc b with
    | some d =>
      simp only
      obtain ⟨x, px, rfl, hD, hg, hdb⟩ := dctOf_ok c h0
      have hD : DcAt X x d := hD
      split
      · split
        · rename_i h2
          exact ⟨s_inK hD hg hdb h2 (F W X sc a c).pe, p_inK hD hg hdb h2 (F W X sc a c).pe⟩
        · exact bad_ok
      · split
        · rename_i h2
          exact ⟨s_notinK hD hg hdb h2 (F W X sc a c).pe, p_notinK hD hg hdb h2 (F W X sc a c).pe⟩
        · exact bad_ok
      · exact bad_ok
    | none =>
      simp only
      cases hb : isBool o b with
      | some k =>
        simp only
        split
        · rename_i h2
          rcases isBool_ok hb with ⟨kk, p, rfl, rfl⟩ | ⟨kk, p, rfl, rfl⟩
          · rw [if_pos rfl]
            exact ⟨s_isbl h2 (F W X sc a c).pe, p_isbl h2 (F W X sc a c).pe⟩
          · rw [if_neg (by decide)]
            exact ⟨s_isntbl h2 (F W X sc a c).pe, p_isntbl h2 (F W X sc a c).pe⟩
        · exact bad_ok
      | none =>
        simp only
        cases h1 : copOf o with
        | none => exact bad_ok
        | some q =>
          simp only
          split
          · rename_i h2
            exact ⟨s_cmp c.hK c.ok.hu h1 h2 (F W X sc a c).pe (F W X sc b c).pe, p_cmp c.hK c.ok.hu h1 h2 (F W X sc a c).pe (F W X sc b c).pe⟩
          · exact bad_ok
  · rename_i o o' b b'
    cases h1 : copOf o with
    | none => exact bad_ok
    | some q =>
      cases h2 : copOf o' with
      | none => exact bad_ok
      | some q' =>
        simp only
        split
        · rename_i h3
          exact ⟨s_chain c.hK c.ok.hu h1 h2 h3 (F W X sc a c).pe (F W X sc b c).pe (F W X sc b' c).pe, p_chain c.hK c.ok.hu h1 h2 h3 (F W X sc a c).pe (F W X sc b c).pe (F W X sc b' c).pe⟩
        · exact bad_ok
  · exact bad_ok
theorem plain_ix {b : Expr} (h : notSl b = true) : PlainIx b := fun o i => by
  cases b <;> first | rfl | cases h
theorem cOpt_ok (F : Fok G N T C Z B CX k f) (c : Ctx G N T C Z CX k W X sc) : ∀ o : Option Expr, PO X o (tPt (Z.wB B) W (evE T C (cOpt f sc o)))
  | none => po_non
  | some e => po_e (F W X sc e c).pe
theorem cSub_ok (F : Fok G N T C Z B CX k f) (c : Ctx G N T C Z CX k W X sc) {a i : Expr} {p : Pos} : EOk T C Z B W X (.Subscript a i p) (cSub G f sc a i) := by
  unfold cSub
  split
  · exact .of c.hK (s_slr c.hK (F W X sc a c).pe)
  · rename_i l k' k1 p1 p2
    split
    · rename_i hk
      exact .of c.hK (s_slk c.hK hk (F W X sc a c).pe (F W X sc l c).pe)
    · exact bad_ok
  · exact .of c.hK (s_sl c.hK (F W X sc a c).pe (cOpt_ok F c _) (cOpt_ok F c _))
  · exact bad_ok
  · rename_i h1 h2 h3 h4
    have pl : notSl i = true := by cases i <;> first | rfl | exact absurd rfl (h4 _ _ _ _)
    cases h0 : dctOf G sc a with
    | some d =>
      simp only
      obtain ⟨x, px, rfl, hD, hg, hdb⟩ := dctOf_ok c h0
      exact .of c.hK (s_ixK hD hg hdb (plain_ix pl) (F W X sc i c).pe)
    | none =>
      simp only
      exact .of c.hK (s_ix c.hK c.ok.hu (plain_ix pl) (F W X sc a c).pe (F W X sc i c).pe)
/-- what a for walks -/
theorem cIt_ok (F : Fok G N T C Z B CX k f) (c : Ctx G N T C Z CX k W X sc) {tg it : Expr} : PI X tg it (tI (Z.wB B) W (evI T C (cIt G f sc tg it))) := by
  have dflt : PI X tg it (tI (Z.wB B) W (evI T C (.e (f sc it)))) := i_e c.hK (F W X sc it c).pe
  have bad : ∀ w, PI X tg it (tI (Z.wB B) W (evI T C (.e (bad1 w)))) := fun w => i_e c.hK (bad_ok (e := it) (w := w)).pe
  unfold cIt
  split
  · rename_i x p as q
    split
    · rename_i h
      simp only [Bool.and_eq_true] at h
      obtain ⟨⟨h1, h2⟩, h3⟩ := h
      have R : RgN X x := ⟨c.gl h1, c.g.free x h2⟩
      split
      · rename_i hx
        subst hx
        split
        · rename_i a
          rw [List.all_cons, Bool.and_eq_true] at h3
          exact i_rg1 R (cAs_ok F c [a]) h3.1
        · rename_i a b
          simp only [List.all_cons, Bool.and_eq_true, List.all_nil] at h3
          exact i_rg2 R (cAs_ok F c [a, b]) h3.1 h3.2.1
        · rename_i a b d
          rw [List.all_cons, Bool.and_eq_true] at h3
          exact i_rg3 R (cAs_ok F c [a, b, d]) h3.1 h3.2
        · exact bad _
      · split
        · rename_i hx
          subst hx
          split
          · rename_i a
            rw [List.all_cons, Bool.and_eq_true] at h3
            split
            · rename_i ht
              cases tg <;> first | exact i_en c.hK R (cAs_ok F c [a]) h3.1 | cases ht
            · exact bad _
          · exact bad _
        · split
          · rename_i hx
            subst hx
            split
            · rename_i a b
              simp only [List.all_cons, Bool.and_eq_true, List.all_nil] at h3
              split
              · rename_i ht
                cases tg <;> first | exact i_zp c.hK R (cAs_ok F c [a, b]) h3.1 h3.2.1 | cases ht
              · exact bad _
            · exact bad _
          · exact dflt
    · exact dflt
  · exact dflt
/-- within a comprehension -/
theorem Ctx.blk (c : Ctx G N T C Z CX k W X sc) (s : Shared) (H : Hp) (scope : Scope) (L : Addr) (cl : List (Str × Addr)) (fp : List Addr) : Ctx G N T C Z CX k WF (X.blk s H scope (compEnvC scope cl L X.env) fp) (relS scope sc) where
  ok := ⟨c.ok.hK, c.ok.hu, c.ok.calm, c.ok.cls, c.ok.kit1, c.ok.kit2, c.ok.kit3⟩
  nd := c.nd
  hN := c.hN
  sc := by
    show relS scope X.env.scope = relS scope sc
    rw [c.sc]
  gd := c.gd
  room := c.room
  own := PassesOwn.never
  px := ⟨fun _ _ _ => False, c.pn _, fun _ _ _ _ => rfl⟩
  pn := c.pn
  g := ⟨c.g.con, c.g.cls, c.g.free, c.g.fn, c.g.ini, c.g.mth, ⟨c.g.pr.pr⟩, ⟨c.g.fds.na⟩, c.g.dct, c.g.st⟩
/-- where nothing may be raised -/
theorem Ctx.noX (c : Ctx G N T C Z CX k W X sc) : Ctx G N T C Z CX k WF X.nox sc where
  ok := ⟨c.ok.hK, c.ok.hu, c.ok.calm, c.ok.cls, c.ok.kit1, c.ok.kit2, c.ok.kit3⟩
  nd := c.nd
  hN := c.hN
  sc := c.sc
  gd := c.gd
  room := c.room
  own := PassesOwn.never
  px := ⟨fun _ _ _ => False, c.pn _, fun _ _ _ _ => rfl⟩
  pn := c.pn
  g := ⟨c.g.con, c.g.cls, c.g.free, c.g.fn, c.g.ini, c.g.mth, ⟨c.g.pr.pr⟩, ⟨c.g.fds.na⟩, c.g.dct, c.g.st⟩
theorem cIfs_ok (F : Fok G N T C Z B CX k f) {cs : List Expr} {ics : Ia} {W : WX} {X : Cx} {sc : Scope} (c : Ctx G N T C Z CX k W X sc) (h : cIfs f sc cs = some ics) : PTs X cs (tT (Z.wB B) W (fun s => evCs T C ics s)) := by
  unfold cIfs at h
  split at h
  · cases h; exact c_nil
  · rename_i e
    cases h
    exact c_one (F W X sc e c).pt
  · cases h
theorem own1_ok {scope : Scope} {e : Expr} {q : Str × Nat} (c : Ctx G N T C Z CX k W X sc) (h : cOwn1 N sc scope e = some q) (s : Shared) (H : Hp) (L : Addr) (cl : List (Str × Addr)) (fp : List Addr) : ∃ p, e = .Name q.1 p ∧ PG (X.blk s H scope (compEnvC scope cl L X.env) fp) e (gName q.2) := by
  unfold cOwn1 at h
  split at h
  · rename_i x p
    split at h
    · rename_i hl
      obtain ⟨i, hi, rfl⟩ := Option.map_eq_some_iff.mp h
      have hloc := isLocal_ok hl
      have cb := c.blk s H scope L cl fp
      have h1 : (X.blk s H scope (compEnvC scope cl L X.env) fp).env.scope.names.lookup x = some .local := by rw [cb.sc]; exact hloc
      exact ⟨p, rfl, pg_name cb.nd (cb.at hi) (.inl h1) (.inr h1)⟩
    · cases h
  · cases h
theorem owns_ok {scope : Scope} (c : Ctx G N T C Z CX k W X sc) (s : Shared) (H : Hp) (L : Addr) (cl : List (Str × Addr)) (fp : List Addr) : ∀ {ts : List Expr} {own : List (Str × Nat)}, cOwns N sc scope ts = some own → ts.all plainT = true ∧ ts.length = own.length ∧ PGs (X.blk s H scope (compEnvC scope cl L X.env) fp) ts (gNs (own.map (·.2)))
  | [], own, h => by cases h; exact ⟨rfl, rfl, pgs_nil⟩
  | e :: r, own, h => by
    unfold cOwns at h
    split at h
    · rename_i q hq
      obtain ⟨l, hl, rfl⟩ := Option.map_eq_some_iff.mp h
      obtain ⟨p, he, hg⟩ := own1_ok c hq s H L cl fp
      obtain ⟨a1, a2, a3⟩ := owns_ok c s H L cl fp hl
      subst he
      exact ⟨by rw [List.all_cons, a1]; rfl, by simp [a2], pgs_cons hg a3 rfl⟩
    · cases h
theorem own_ok {scope : Scope} {tg : Expr} {own : List (Str × Nat)} (c : Ctx G N T C Z CX k W X sc) (h : cOwn N sc scope tg = some own) (s : Shared) (H : Hp) (L : Addr) (cl : List (Str × Addr)) (fp : List Addr) : PG (X.blk s H scope (compEnvC scope cl L X.env) fp) tg (gD X.K (own.map (·.2))) := by
  unfold cOwn at h
  split at h
  · rename_i x p
    obtain ⟨q, hq, rfl⟩ := Option.map_eq_some_iff.mp h
    obtain ⟨p', he, hg⟩ := own1_ok c hq s H L cl fp
    exact hg
  · rename_i ts kk p
    split at h
    · rename_i hl
      obtain ⟨a1, a2, a3⟩ := owns_ok c s H L cl fp h
      have e : gD X.K (own.map (·.2)) = fun v σ H Q => gTup X.K (own.map (·.2)).length (gNs (own.map (·.2))) v σ H Q ∨ gLst X.K (own.map (·.2)).length (gNs (own.map (·.2))) v σ H Q := by
        unfold gD
        split
        · rename_i i he
          have := congrArg List.length he
          rw [List.length_map, ← a2] at this
          exact absurd this hl
        · rfl
      rw [e]
      exact pg_or (pg_tup (X := X.blk s H scope (compEnvC scope cl L X.env) fp) c.ok.calm a3 (by rw [each_len a1, a2]; simp) (each_find a1)) (pg_lst (X := X.blk s H scope (compEnvC scope cl L X.env) fp) c.ok.calm a3 (by rw [each_len a1, a2]; simp) (each_find a1))
    · cases h
  · cases h
theorem cLc_ok (F : Fok G N T C Z B CX k f) (c : Ctx G N T C Z CX k W X sc) {elt : Expr} {gs : List Comprehension} {scope : Scope} {p : Pos} : EOk T C Z B W X (.ListComp elt gs scope p) (cLc G N f sc elt gs scope) := by
  unfold cLc
  split
  · rename_i tg it cs
    split
    · rename_i own ics h1 h2
      split
      · rename_i h3
        rw [Bool.and_eq_true] at h3
        refine .of c.hK (s_lc c.ok.calm c.hK c.nd (cIt_ok F c) (blkOk_by (by rw [c.hN, c.sc]; exact h3.1)) rfl (fun s H L cl fp => own_ok c h1 s H L cl fp) (fun s H L cl fp => cIfs_ok F (c.blk s H scope L cl fp) h2) (fun s H L cl fp => (F _ _ _ elt (c.blk s H scope L cl fp)).pe) fun x => ?_)
        cases it <;> first | rfl | exact absurd h3.2 Bool.false_ne_true
      · exact bad_ok
    · exact bad_ok
  · rename_i tg it cs tg1 it1 cs1
    split
    · rename_i own ics own1 ics1 h1 h2 h3 h4
      split
      · rename_i h5
        rw [Bool.and_eq_true, Bool.and_eq_true] at h5
        refine .of c.hK (s_lc2 c.ok.calm c.hK c.nd (cIt_ok F c) (blkOk_by (by rw [c.hN, c.sc]; exact h5.1)) rfl (fun i h => by rw [List.map_append]; exact List.mem_append_left _ h) (fun i h => by rw [List.map_append]; exact List.mem_append_right _ h) (fun s H L cl fp => own_ok c h1 s H L cl fp) (fun s H L cl fp => cIfs_ok F (c.blk s H scope L cl fp) h2) (fun s H L cl fp => cIt_ok F (c.blk s H scope L cl fp)) (fun s H L cl fp => own_ok c h3 s H L cl fp) (fun s H L cl fp => cIfs_ok F (c.blk s H scope L cl fp) h4) (fun s H L cl fp => (F _ _ _ elt (c.blk s H scope L cl fp)).pe) (fun x => ?_) fun env x => ?_)
        · cases it <;> first | rfl | exact absurd h5.2.1 Bool.false_ne_true
        · cases it1 <;> first | rfl | exact absurd h5.2.2 Bool.false_ne_true
      · exact bad_ok
    · exact bad_ok
  · exact bad_ok
theorem stepE_ok (F : Fok G N T C Z B CX k f) : Fok G N T C Z B CX k (stepE G N f) := fun W X sc e c => by
  unfold stepE
  split
  · rename_i q _ _
    cases h : constOf q with
    | none => exact bad_ok
    | some d => exact .of c.hK (s_con h)
  · exact cName_ok c
  · rename_i a o b _
    cases h : bopOf o with
    | none => exact bad_ok
    | some o' => exact .of c.hK (s_bin c.hK h (F W X sc a c).pe (F W X sc b c).pe)
  · rename_i o a _
    split
    · exact .of c.hK (s_neg (F W X sc a c).pe)
    · exact ⟨s_not c.hK (F W X sc a c).pe, p_not (F W X sc a c).pt⟩
    · exact bad_ok
  · rename_i o es p
    obtain ⟨h1, h2⟩ := cBs_ok F c (o := o) (p := p) es
    exact ⟨h1, h2.pt⟩
  · exact cCmp_ok F c
  · rename_i q a b _
    exact ⟨s_ite (F W X sc q c).pt (F W X sc a c).pe (F W X sc b c).pe, p_ite (F W X sc q c).pt (F W X sc a c).pt (F W X sc b c).pt⟩
  · split
    · exact cCallN_ok F c
    · rename_i o m ap
      cases h0 : stOf G sc o m with
      | some q => exact cCallS_ok F c h0
      | none => exact cCallM_ok F c
    · exact bad_ok
  · rename_i o a _
    split
    · rename_i h
      exact .of c.hK (s_attr c.ok c.g.fds c.gd c.g.pr c.r1 (c.pn _) (F W X sc o c).pe h)
    · exact bad_ok
  · exact cSub_ok F c
  · exact .of c.hK (s_lst (cAs_ok F c _))
  · exact .of c.hK (s_tup (cAs_ok F c _))
  · exact cLc_ok F c
  · split
    · exact .of c.hK s_dct0
    · rename_i k v
      exact .of c.hK (s_dct1 (F W X sc k c).pe (F W X sc v c).pe)
    · exact bad_ok
  · exact bad_ok
theorem cE_ok : ∀ n : Nat, Fok G N T C Z B CX k (cE G N n)
  | 0 => fun W X sc e c => bad_ok
  | n + 1 => stepE_ok (cE_ok n)
end
end Wd
-- WdCt
set_option linter.all false
set_option maxRecDepth 100000
set_option maxHeartbeats 2000000
set_option Elab.async false
/-! What the compile step gives is sound: statements. -/
namespace Wd
open PySem L2 PySem.Spec PyProof.Rows
theorem isFun_ok {sc : Scope} (h : isFun sc = true) : sc.kind = .function := by
  unfold isFun at h
  split at h
  · assumption
  · cases h
theorem bk_fun {env : Env} (h : env.scope.kind = .function) : env.blockKind = .function := by unfold Env.blockKind; rw [h]; rfl
theorem sw_gen {elt : Expr} {gs : List Comprehension} {scope : Scope} {pos py : Pos} {y : Str} {l : Nat} {env : Env} (hk : env.scope.kind = .function) :
    swapsWith (.ListComp elt gs scope pos) (some (.Name y py)) l env = pure (swW env.scope scope y py pos) := by
  unfold swapsWith swW
  simp only [bk_fun hk, Expr.pos, Env.kindOf]
  rfl
theorem swS_ok {ts vs : List Expr} {k k2 : Nat} {p p2 : Pos} {env : Env} {r : Option (List Str)} (hk : env.scope.kind = .function) (h : swS env.scope ts vs = some r) : swappedStores [.Tuple ts k p] (.Tuple vs k2 p2) env = pure r := by
  unfold swS at h
  unfold swappedStores
  have hb := bk_fun hk
  have hp : (vs.any fun e => !plain e) = (vs.any fun | .Starred .. => true | _ => false) := by
    congr 1
    funext e
    cases e <;> rfl
  simp only [hb]
  split at h
  · rename_i h1
    cases h
    rw [if_pos (by simpa using h1)]
  · rename_i h1
    rw [if_neg (by simpa using h1)]
    split at h
    · rename_i h2
      cases h
      refine (if_pos (hp.symm.trans h2)).trans rfl
    · rename_i h2
      refine (if_neg fun z => h2 (hp.trans z)).trans ?_
      simp only at h
      split at h
      · rename_i h3
        cases h
        exact if_pos h3
      · rename_i h3
        refine (if_neg h3).trans ?_
        split at h
        · rename_i h4
          cases h
          exact if_pos h4
        · rename_i h4
          refine (if_neg h4).trans ?_
          split at h
          · cases h
          · rename_i h5
            cases h
            exact if_neg h5
structure CtS (G : GT) (N : List Str) (T : Tab) (C : Str → List Sl → CRes) (Z : Wo) (CX : CXT) (k : Nat) (W : WX) (X : Cx) (sc : Scope) : Prop where
  c : Ctx G N T C Z CX k W X sc
  fn : ∀ x, X.fn x = true
section
variable {G : GT} {N : List Str} {Z : Wo} {B : Nat → Option Addr} {CX : CXT} {k Wh : Nat} {W : WX} {X : Cx} {sc : Scope} {T : Tab} {C : Str → List Sl → CRes} {f : Scope → Expr → Ie} {blk : List Stmt → Ib} {st : Stmt}
theorem bad2_ok {w : String} : PS X st (tS (Z.wB B) W (evS T C Wh (bad2 w))) := s_never fun s => by
  unfold bad2
  refine ⟨"raise " ++ (Str.ofString w).toString, ?_⟩
  rw [evS, evA]; rfl
theorem s_setIx {x : Str} {ei e : Expr} {ik ie : Ie} {i : Nat} {p1 pos' pos : Pos} {Z : Wo} (hu : X.A.units + 64 < cLine) (hN : X.N[i]? = some x) (hv : Vis X.env.scope x) (hd : (x == ("__debug__" : Str)) = false) (hcd : (x == ("__classdict__" : Str)) = false) (hk : PE X ei (tE Z W (evE T C ik))) (he : PE X e (tE Z W (evE T C ie)))
    (hn : notSl ei = true) (hs : okSwap e = true) : PS X (.Assign [.Subscript (.Name x p1) ei pos'] e pos) (tS Z W (evS T C Wh (.set (.ix i ik) ie))) :=
  ps_weak (ps_asg he (g_ix hu hN hv hd hcd hk fun v => by cases ei <;> first | rfl | cases hn) (swapS_ok hs) rfl) fun D σ H h => by
    obtain ⟨Hf, F, s, R, h⟩ := h
    rw [evS] at h
    exact ⟨Hf, F, s, R, h.bind.imp fun r s1 H1 Hf1 e1 R1 h v rv => ⟨Hf1, F, s1, r, R1, rv, h.store⟩⟩
theorem cT1_ok (F : Fok G N T C Z B CX k f) (c : CtS G N T C Z CX k W X sc) {e : Expr} {t : T1} (h : cT1 N sc f e = some t) : PG X e (tG (Z.wB B) W (putT T C t)) ∧ plainT e = true := by
  unfold cT1 at h
  split at h
  · rename_i x p
    split at h
    · rename_i h1
      obtain ⟨i, hi, rfl⟩ := Option.map_eq_some_iff.mp h
      exact ⟨g_nm c.c.nd (c.c.at hi) (c.c.loc h1) (.inl (c.fn x)), rfl⟩
    · cases h
  · rename_i x p i p'
    split at h
    · rename_i h1
      simp only [Bool.and_eq_true] at h1
      obtain ⟨⟨h1, h2⟩, h3⟩ := h1
      obtain ⟨j, hj, rfl⟩ := Option.map_eq_some_iff.mp h
      obtain ⟨d1, d2⟩ := okNm_ok h2
      exact ⟨g_ix c.c.ok.hu (c.c.at hj) (c.c.vis h1) d1 d2 (F W X sc i c.c).pe (fun v => by cases i <;> first | rfl | cases h3), rfl⟩
    · cases h
  · cases h
theorem cT1s_ok (F : Fok G N T C Z B CX k f) (c : CtS G N T C Z CX k W X sc) : ∀ {ts : List Expr} {its : List T1}, cT1s N sc f ts = some its → PGs X ts (tGs (Z.wB B) W (putTs T C its)) ∧ ts.length = its.length
  | [], its, h => by cases h; exact ⟨gs_nil, rfl⟩
  | e :: r, its, h => by
    unfold cT1s at h
    split at h
    · rename_i t ht
      obtain ⟨l, hl, rfl⟩ := Option.map_eq_some_iff.mp h
      obtain ⟨a1, a2⟩ := cT1_ok F c ht
      obtain ⟨b1, b2⟩ := cT1s_ok F c hl
      exact ⟨gs_cons a1 b1 a2, by simp [b2]⟩
    · cases h
theorem cTgs_ok (c : CtS G N T C Z CX k W X sc) : ∀ {ts : List Expr} {is : List Nat}, cTgs N sc ts = some is → PGs X ts (tNs (Z.wB B) W (putNs is)) ∧ ts.length = is.length
  | [], is, h => by cases h; exact ⟨ns_nil, rfl⟩
  | e :: r, is, h => by
    unfold cTgs at h
    split at h
    · rename_i x p
      split at h
      · rename_i h1
        split at h
        · rename_i i hi
          obtain ⟨l, hl, rfl⟩ := Option.map_eq_some_iff.mp h
          obtain ⟨b1, b2⟩ := cTgs_ok c hl
          exact ⟨ns_cons c.c.nd (c.c.at hi) (c.c.loc h1) (.inl (c.fn x)) b1, by simp [b2]⟩
        · cases h
      · cases h
    · cases h
theorem Ctx.isLocal (c : Ctx G N T C Z CX k W X sc) {x : Str} (h : isLocal sc x = true) : X.env.scope.names.lookup x = some .local := by rw [c.sc]; exact isLocal_ok h
theorem cPar_ok (F : Fok G N T C Z B CX k f) (c : CtS G N T C Z CX k W X sc) {ts vs : List Expr} {k1 k2 : Nat} {p p2 pos : Pos} : PS X (.Assign [.Tuple ts k1 p] (.Tuple vs k2 p2) pos) (tS (Z.wB B) W (evS T C Wh (cPar N sc f ts vs))) := by
  unfold cPar
  split
  · rename_i h1
    rw [Bool.and_eq_true] at h1
    obtain ⟨h1, hp⟩ := h1
    have hk : X.env.scope.kind = .function := by rw [c.c.sc]; exact isFun_ok h1
    split
    · exact bad2_ok
    · rename_i h2
      have hw : swappedStores [.Tuple ts k1 p] (.Tuple vs k2 p2) X.env = pure none := swS_ok hk (by rw [c.c.sc]; exact h2)
      split
      · rename_i is his
        obtain ⟨a1, a2⟩ := cTgs_ok (B := B) c his
        exact s_parN c.c.ok.calm c.c.hK (cAs_ok F c.c vs) a1 a2 hp hw
      · split
        · rename_i its hits
          obtain ⟨a1, a2⟩ := cT1s_ok F c hits
          exact s_par c.c.ok.calm c.c.hK (cAs_ok F c.c vs) a1 a2 hp hw
        · exact bad2_ok
    · rename_i ns h2
      have hw : swappedStores [.Tuple ts k1 p] (.Tuple vs k2 p2) X.env = pure (some ns) := swS_ok hk (by rw [c.c.sc]; exact h2)
      split
      · rename_i x px y py a b
        split
        · rename_i i j hi hj
          split
          · rename_i h3
            obtain ⟨h3, h4, h5, rfl⟩ := h3
            exact s_swap2 c.c.ok.calm c.c.nd (c.c.at hi) (c.c.at hj) h3 (c.c.isLocal h4) (c.c.isLocal h5) (cAs_ok F c.c _) hw
          · exact bad2_ok
        · exact bad2_ok
      · rename_i x px y py z pz a b d
        split
        · rename_i i j l hi hj hl
          split
          · rename_i h3
            obtain ⟨h3, h4, h5, h6, h7, h8, rfl⟩ := h3
            exact s_swap3 c.c.ok.calm c.c.nd (c.c.at hi) (c.c.at hj) (c.c.at hl) h3 h4 h5 (c.c.isLocal h6) (c.c.isLocal h7) (c.c.isLocal h8) (cAs_ok F c.c _) hw
          · exact bad2_ok
        · exact bad2_ok
      · exact bad2_ok
  · exact bad2_ok
theorem setBad_ok {w : String} {t : T1} : PS X st (tS (Z.wB B) W (evS T C Wh (.set t (bad1 w)))) := s_never fun s => ⟨"neg", by rw [evS, bad1_ev]; rfl⟩
theorem setLc_ok (F : Fok G N T C Z B CX k f) (c : CtS G N T C Z CX k W X sc) {x : Str} {p' pos p : Pos} {i : Nat} {elt : Expr} {gs : List Comprehension} {scope : Scope} (hi : idx N x = some i) (hl : isLoc sc x = true) (hk : X.env.scope.kind = .function) :
    PS X (.Assign [.Name x p'] (.ListComp elt gs scope p) pos) (tS (Z.wB B) W (evS T C Wh (.set (.nm i) (cLc G N f sc elt gs scope)))) := by
  cases hw : swW X.env.scope scope x p' p with
  | false =>
    have := sw_gen (elt := elt) (gs := gs) (scope := scope) (pos := p) (py := p') (y := x) (l := pos.line) hk
    rw [hw] at this
    exact s_set c.c.nd (c.c.at hi) (c.c.loc hl) (.inl (c.fn x)) (cLc_ok F c.c).pe this
  | true =>
    have hsw := sw_gen (elt := elt) (gs := gs) (scope := scope) (pos := p) (py := p') (y := x) (l := pos.line) hk
    rw [hw] at hsw
    unfold cLc
    split
    · rename_i tg it cs
      split
      · rename_i own ics h1 h2
        split
        · rename_i h3
          rw [Bool.and_eq_true] at h3
          have hloc : X.env.scope.names.lookup x = some .local := by
            unfold swW at hw
            simp only [Bool.and_eq_true] at hw
            exact eq_of_beq hw.1.1
          refine s_setLc c.c.ok.calm c.c.hK c.c.nd (c.c.at hi) hloc hsw (cIt_ok F c.c) (blkOk_by (by rw [c.c.hN, c.c.sc]; exact h3.1)) rfl (fun s H L cl fp => own_ok c.c h1 s H L cl fp) (fun s H L cl fp => cIfs_ok F (c.c.blk s H scope L cl fp) h2) (fun s H L cl fp => (F _ _ _ elt (c.c.blk s H scope L cl fp)).pe) fun x => ?_
          cases it <;> first | rfl | exact absurd h3.2 Bool.false_ne_true
        · exact setBad_ok
      · exact setBad_ok
    · rename_i tg it cs tg1 it1 cs1
      split
      · rename_i own ics own1 ics1 h1 h2 h3 h4
        split
        · rename_i h5
          rw [Bool.and_eq_true, Bool.and_eq_true] at h5
          have hloc : X.env.scope.names.lookup x = some .local := by
            unfold swW at hw
            simp only [Bool.and_eq_true] at hw
            exact eq_of_beq hw.1.1
          refine s_setLc2 c.c.ok.calm c.c.hK c.c.nd (c.c.at hi) hloc hsw (cIt_ok F c.c) (blkOk_by (by rw [c.c.hN, c.c.sc]; exact h5.1)) rfl (fun i h => by rw [List.map_append]; exact List.mem_append_left _ h) (fun i h => by rw [List.map_append]; exact List.mem_append_right _ h) (fun s H L cl fp => own_ok c.c h1 s H L cl fp) (fun s H L cl fp => cIfs_ok F (c.c.blk s H scope L cl fp) h2) (fun s H L cl fp => cIt_ok F (c.c.blk s H scope L cl fp)) (fun s H L cl fp => own_ok c.c h3 s H L cl fp) (fun s H L cl fp => cIfs_ok F (c.c.blk s H scope L cl fp) h4) (fun s H L cl fp => (F _ _ _ elt (c.c.blk s H scope L cl fp)).pe) (fun x => ?_) fun env x => ?_
          · cases it <;> first | rfl | exact absurd h5.2.1 Bool.false_ne_true
          · cases it1 <;> first | rfl | exact absurd h5.2.2 Bool.false_ne_true
        · exact setBad_ok
      · exact setBad_ok
    · exact setBad_ok
theorem cAsg_ok (F : Fok G N T C Z B CX k f) (c : CtS G N T C Z CX k W X sc) {t e : Expr} {pos : Pos} : PS X (.Assign [t] e pos) (tS (Z.wB B) W (evS T C Wh (cAsg G N sc f t e pos))) := by
  unfold cAsg
  split
  · rename_i x p'
    split
    · rename_i h1
      rw [Bool.and_eq_true] at h1
      have hk : X.env.scope.kind = .function := by rw [c.c.sc]; exact isFun_ok h1.2
      split
      · rename_i i hi
        split
        · exact setLc_ok F c hi h1.1 hk
        · split
          · rename_i hs
            exact s_set c.c.nd (c.c.at hi) (c.c.loc h1.1) (.inl (c.fn x)) (F W X sc e c.c).pe (swap_ok hs)
          · exact bad2_ok
      · exact bad2_ok
    · exact bad2_ok
  · rename_i x p i p'
    split
    · rename_i h1
      simp only [Bool.and_eq_true] at h1
      obtain ⟨⟨⟨h1, h2⟩, h3⟩, h4⟩ := h1
      obtain ⟨d1, d2⟩ := okNm_ok h2
      split
      · rename_i j hj
        exact s_setIx c.c.ok.hu (c.c.at hj) (c.c.vis h1) d1 d2 (F W X sc i c.c).pe (F W X sc e c.c).pe h3 h4
      · exact bad2_ok
    · exact bad2_ok
  · rename_i x p a p'
    split
    · rename_i h1
      simp only [Bool.and_eq_true] at h1
      obtain ⟨⟨h1, h2⟩, h4⟩ := h1
      obtain ⟨d1, d2⟩ := okNm_ok h2
      split
      · rename_i j hj
        exact s_fld (c.c.okB) ⟨c.c.g.fds.na⟩ (c.c.at hj) (c.c.vis h1) d1 d2 (F W X sc e c.c).pe h4
      · exact bad2_ok
    · exact bad2_ok
  · rename_i ts k1 p
    split
    · exact cPar_ok F c
    · rename_i hne
      split
      · rename_i h1
        rw [Bool.and_eq_true] at h1
        split
        · rename_i its hits
          obtain ⟨a1, a2⟩ := cT1s_ok F c hits
          exact s_unp c.c.ok.calm c.c.hK (F W X sc e c.c).pe a1 a2 h1.2 h1.1 fun es kk pp z => hne es kk pp z
        · exact bad2_ok
      · exact bad2_ok
  · exact bad2_ok
theorem cAug_ok (F : Fok G N T C Z B CX k f) (c : CtS G N T C Z CX k W X sc) {t e : Expr} {pos : Pos} : PS X (.AugAssign t .Add e pos) (tS (Z.wB B) W (evS T C Wh (cAug N sc f t e))) := by
  unfold cAug
  split
  · rename_i x p
    split
    · rename_i h1
      split
      · rename_i i hi
        exact s_aug c.c.nd (c.c.at hi) (c.c.loc h1) (.inl (c.fn x)) (F W X sc e c.c).pe
      · exact bad2_ok
    · exact bad2_ok
  · rename_i x p i p'
    split
    · rename_i h1
      simp only [Bool.and_eq_true] at h1
      obtain ⟨⟨h1, h2⟩, h3⟩ := h1
      obtain ⟨d1, d2⟩ := okNm_ok h2
      split
      · rename_i j hj
        exact s_augS c.c.ok.hu (c.c.at hj) (c.c.vis h1) d1 d2 (F W X sc i c.c).pe (F W X sc e c.c).pe fun ov iv new => by cases i <;> first | rfl | cases h3
      · exact bad2_ok
    · exact bad2_ok
  · exact bad2_ok
theorem cTg_ok (c : CtS G N T C Z CX k W X sc) {t : Expr} {is : List Nat} (h : cTg N sc t = some is) : PG X t (tD (Z.wB B) W (fun d s => putTg s is d)) := by
  unfold cTg at h
  split at h
  · rename_i x p
    unfold cTgs at h
    simp only at h
    split at h
    · rename_i h1
      split at h
      · rename_i i hi
        obtain ⟨l, hl, rfl⟩ := Option.map_eq_some_iff.mp h
        have : l = [] := (Option.some.inj hl).symm
        subst this
        exact d_nm c.c.nd (c.c.at hi) (c.c.loc h1) (.inl (c.fn x))
      · cases h
    · cases h
  · rename_i ts kk p
    split at h
    · rename_i h1
      obtain ⟨a1, a2⟩ := cTgs_ok (B := B) (W := W) c h
      exact d_tup c.c.ok.calm c.c.hK a1 a2 h1.2 (by rw [← a2]; exact h1.1)
    · cases h
  · cases h
theorem s_try {b : List Stmt} {h0 : ExceptHandler} {hs : List ExceptHandler} {pos : Pos} {ib : Ib} {ih : Ih} (h : PSs X.nox b (tS (Z.wB B) WF (evB T C Wh ib))) : PS X (.Try b (h0 :: hs) [] [] pos) (tS (Z.wB B) W (evS T C Wh (.tr ib ih))) := by
  refine ⟨fun pins s σ H D I q => (ps_try_thru0 h).run pins s σ H D I ?_⟩
  obtain ⟨Hf, F, st, R, q⟩ := q
  refine ⟨Hf, F, st, R, ?_⟩
  rw [evS] at q
  revert q
  cases evB T C Wh ib st with
  | ok a s1 => cases a <;> exact fun q => q
  | ex a s1 => exact fun q => q.elim
  | bad w => exact fun q => q
theorem stepS_ok (F : Fok G N T C Z B CX k f) (c : CtS G N T C Z CX k W X sc) (hb0 : ∀ (W : WX) (X : Cx), CtS G N T C Z CX k W X sc → ∀ b, PSs X b (tS (Z.wB B) W (evB T C Wh (blk b)))) : ∀ st : Stmt, PS X st (tS (Z.wB B) W (evS T C Wh (stepS G N sc f blk st))) := fun st => by
  have hb := hb0 W X c
  unfold stepS
  split
  · split
    · exact s_retN
    · exact s_ret (F W X sc _ c.c).pe
  · split
    · exact cAsg_ok F c
    · exact bad2_ok
  · split
    · exact cAug_ok F c
    · exact bad2_ok
  · rename_i t it b els p
    split
    · split
      · rename_i is his
        split
        · rename_i h1
          refine ⟨fun pins s σ H D I h => (s_for c.c.own c.c.ok.calm (cIt_ok F c.c) (cTg_ok (B := B) c his) (hb b) (fun x => ?_) (D := D)).run pins s σ H D I h⟩
          cases it <;> first | rfl | exact absurd h1 Bool.false_ne_true
        · exact bad2_ok
      · exact bad2_ok
    · exact bad2_ok
  · split
    · exact s_while c.c.own (F W X sc _ c.c).pt (hb _)
    · exact bad2_ok
  · exact s_if (F W X sc _ c.c).pt (hb _) (hb _)
  · split
    · rename_i h
      exact s_ex (F W X sc _ c.c).pe h
    · exact bad2_ok
  · exact s_pass
  · exact s_brk
  · exact bad2_ok
  · split
    · exact s_try (hb0 WF X.nox ⟨c.c.noX, c.fn⟩ _)
    · exact bad2_ok
  · exact bad2_ok
theorem cBl_ok {g : Stmt → Is} (h : ∀ st, PS X st (tS (Z.wB B) W (evS T C Wh (g st)))) : ∀ b : List Stmt, PSs X b (tS (Z.wB B) W (evB T C Wh (cBl g b)))
  | [] => s_nil
  | s :: r => s_cons (h s) (cBl_ok h r)
theorem cS_ok {n : Nat} : ∀ (m : Nat) {W : WX} {X : Cx}, CtS G N T C Z CX k W X sc → ∀ st : Stmt, PS X st (tS (Z.wB B) W (evS T C Wh (cS G N sc n m st)))
  | 0, _, _, _ => fun st => bad2_ok
  | m + 1, _, _, c => stepS_ok (cE_ok n) c fun _ _ c' => cBl_ok (cS_ok m c')
theorem cB_ok (c : CtS G N T C Z CX k W X sc) {n m : Nat} (b : List Stmt) : PSs X b (tS (Z.wB B) W (evB T C Wh (cB G N sc n m b))) := cBl_ok (cS_ok m c) b
end
end Wd
-- WdFn
set_option linter.all false
set_option maxRecDepth 100000
set_option maxHeartbeats 2000000
set_option Elab.async false
/-! All defs of a law at once. -/
namespace Wd
open PySem L2 PySem.Spec PyProof.Rows
/-- a def of the text: 0 of the module, 1 an __init__, 2 a method, 3 a property's getter -/
structure Ent where
  kind : Nat
  cl : Option Str
  nm : Str
  qual : Str
  params : Arguments
  body : List Stmt
  scope : Scope
  N : List Str
  ds : List D
  io : List Bool
def Ent.ps (e : Ent) : List Str := e.params.args.map (·.arg)
def Ent.f (e : Ent) : Str := match e.cl with | none => e.nm | some c => c ++ "." ++ e.nm
/-- a property's getter -/
def propG (K : PySem.W.Frag) (p : Addr) : Addr := match PySem.W.recIn K p "property" with
  | some (.ref g :: _) => g
  | _ => 0
def Ent.ad (K : PySem.W.Frag) (e : Ent) : Addr := match e.cl with
  | none => He.ga K e.nm
  | some c => if e.kind = 3 then propG K (He.ma K (He.ga K c) e.nm) else if e.kind = 4 then He5.wf K (He.ga K c) "staticmethod" e.nm else He.ma K (He.ga K c) e.nm
abbrev FW : Type := Option (Arguments × FuncBody × Scope × Str × Str × List (Str × Addr) × Addr × Addr)
def fW (K : PySem.W.Frag) (a : Addr) : FW := match K.lookup a with
  | some o => (match o.data with | .func fd => some (fd.params, fd.body, fd.scope, fd.name, fd.qualname, fd.closure, fd.globals, fd.builtins) | _ => none)
  | none => none
def Ent.val (e : Ent) : FW := some (e.params, .stmts e.body, e.scope, e.nm, e.qual, [], mainGlobals, builtinsNs)
def Ent.chkF (K : PySem.W.Frag) (e : Ent) : Bool := PySem.W.keepIn K (.ref (e.ad K)) && match K.lookup (e.ad K) with
  | some o => (match o.data with | .func fd => PySem.W.codeIn K fd.code e.qual && He.dflB K fd.defaults (e.ds.map toV) | _ => false)
  | none => false
theorem Ent.funD {K : PySem.W.Frag} {e : Ent} (h : fW K (e.ad K) = e.val) (c : e.chkF K = true) : ∃ fd, FunD K e.nm e.qual e.params e.body e.scope (e.ds.map toV) [] (e.ad K) fd := by
  obtain ⟨kp, c⟩ := He.ba c
  unfold fW at h
  cases q : K.lookup (e.ad K) with
  | none => rw [q] at h; cases h
  | some o =>
    rw [q] at h c
    obtain ⟨oc, od, dt, osl⟩ := o
    cases dt with
    | func fd =>
      obtain ⟨n1, n2, n3, n4, n5, n6, n7, n8, n9, n10, n11, n12, n13, n14, n15⟩ := fd
      have h : (some (n3, n4, n5, n1, n2, n7, n6, n15) : FW) = some (e.params, .stmts e.body, e.scope, e.nm, e.qual, [], mainGlobals, builtinsNs) := h
      simp only [Option.some.injEq, Prod.mk.injEq] at h
      obtain ⟨rfl, rfl, rfl, rfl, rfl, rfl, rfl, rfl⟩ := h
      have c : (PySem.W.codeIn K n13 e.qual && He.dflB K n8 (e.ds.map toV)) = true := c
      obtain ⟨c1, c2⟩ := He.ba c
      exact ⟨_, ⟨oc, od, n8, n9, n10, n11, n12, n13, n14, osl, rfl, q, c1, He.dflB_ok c2, .inl rfl⟩, kp⟩
    | _ => cases h
/-! ### what a law's text is -/
structure LT where
  ents : List Ent
  consts : List (Str × D)
  cls : List Str
  fds : List (Str × Str)
  free : List Str
  dcts : List (Str × D)
def sigOf (kd : Nat) (key : Ent → Str) (e : Ent) : Option (Str × Sg) := if e.kind = kd then some (key e, (e.ps, e.ds)) else none
def clOf (e : Ent) : Str := e.cl.getD ""
def LT.G (L : LT) : GT := ⟨L.consts, L.ents.filterMap (sigOf 0 Ent.nm), L.ents.filterMap (sigOf 1 clOf), L.ents.filterMap (sigOf 2 Ent.nm), L.cls, L.free, L.dcts, L.ents.filterMap (sigOf 4 Ent.f)⟩
def Ent.fd (G : GT) (e : Ent) : FD := ⟨e.ps, e.io, e.N.length, cB G e.N e.scope 100 100 e.body⟩
def LT.T (L : LT) : Tab := ⟨L.ents.map fun e => (e.f, e.fd L.G), L.cls, L.ents.filterMap fun e => if e.kind = 3 then some (clOf e, e.nm) else none, L.fds, []⟩
/-! ### checks that need the text alone -/
def fsC (N P : List Str) (sc : Scope) : Bool := isFun sc && !sc.isCoroutine && !sc.isGenerator && decide N.Nodup && decide (N.take P.length = P) && (P.all fun x => isLoc sc x) && sc.names.all fun y => match y.2 with | .free => false | _ => true
theorem fsC_ok {N P : List Str} {sc : Scope} (h : fsC N P sc = true) : FnScope N P sc := by
  unfold fsC at h
  simp only [Bool.and_eq_true, decide_eq_true_eq, List.all_eq_true, Bool.not_eq_true'] at h
  obtain ⟨⟨⟨⟨⟨⟨h1, h2⟩, h3⟩, h4⟩, h5⟩, h6⟩, h7⟩ := h
  refine ⟨isFun_ok h1, h2, h3, h4, h5, fun x hx => ?_, fun y hy e => ?_⟩
  · have := h6 x hx
    unfold isLoc at this
    split at this
    · exact .inl (by assumption)
    · exact .inr (by assumption)
    · cases this
  · have := h7 y hy
    rw [e] at this
    cases this
theorem nd_ps {N P : List Str} {sc : Scope} (h : FnScope N P sc) : P.Nodup := by
  rw [← h.pre]
  exact h.nd.sublist (List.take_sublist _ _)
def spC (p : Arguments) : Bool := p.posonlyargs.isEmpty && p.kwonlyargs.isEmpty && p.vararg.isNone && p.kwarg.isNone
theorem spC_ok {p : Arguments} (h : spC p = true) : SimpleP p (p.args.map (·.arg)) := by
  unfold spC at h
  simp only [Bool.and_eq_true, List.isEmpty_iff, Option.isNone_iff_eq_none] at h
  exact ⟨h.1.1.1, rfl, h.1.1.2, h.1.2, h.2⟩
def Ent.stC (L : LT) (e : Ent) : Bool := fsC e.N e.ps e.scope && spC e.params && (match e.kind with
  | 0 => e.cl.isNone
  | 1 => (match e.cl with | some c => L.cls.contains c && decide (e.nm = "__init__") && (L.G.mths.lookup e.nm).isNone | none => false)
  | 2 => (match e.cl with | some c => L.cls.contains c && e.ds.isEmpty && (match L.G.mths.lookup e.nm with | some sg => decide (sg.1 = e.ps) && sg.2.isEmpty | none => false) | none => false)
  | 3 => (match e.cl with | some c => L.cls.contains c && e.ds.isEmpty && decide (e.ps.length = 1) && (L.G.mths.lookup e.nm).isNone | none => false)
  | 4 => (match e.cl with | some c => L.cls.contains c && (L.G.mths.lookup e.nm).isNone | none => false)
  | _ => false)
def noDot (s : Str) : Bool := s.cps.toList.all fun c => c != 46
def LT.stC (L : LT) : Bool := L.ents.all (Ent.stC L) && decide (L.ents.map Ent.f).Nodup && L.ents.all (fun e => noDot e.nm) && L.cls.all noDot && L.G.mths.all fun q => noDot q.1
theorem dot_inj {c c' m m' : Str} (h1 : noDot c = true) (h2 : noDot c' = true) (h : c ++ "." ++ m = c' ++ "." ++ m') : c = c' ∧ m = m' := by
  have e : c.cps.toList ++ 46 :: m.cps.toList = c'.cps.toList ++ 46 :: m'.cps.toList := by
    have := congrArg (fun s : Str => s.cps.toList) h
    simp only [Str.cps_append, Array.toList_append] at this
    rw [show (Str.ofString ".").cps.toList = [46] from by decide +kernel] at this
    simpa using this
  unfold noDot at h1 h2
  have key : ∀ {a b x y : List Nat}, (a.all fun c => c != 46) = true → (b.all fun c => c != 46) = true → a ++ 46 :: x = b ++ 46 :: y → a = b ∧ x = y := fun {a} => by
    induction a with
    | nil =>
      intro b x y _ hb z
      cases b with
      | nil => exact ⟨rfl, by simpa using z⟩
      | cons q b =>
        simp only [List.nil_append, List.cons_append, List.cons.injEq] at z
        rw [List.all_cons, ← z.1] at hb
        simp at hb
    | cons p a ih =>
      intro b x y ha hb z
      cases b with
      | nil =>
        simp only [List.nil_append, List.cons_append, List.cons.injEq] at z
        rw [List.all_cons, z.1] at ha
        simp at ha
      | cons q b =>
        simp only [List.cons_append, List.cons.injEq] at z
        rw [List.all_cons, Bool.and_eq_true] at ha hb
        obtain ⟨i1, i2⟩ := ih ha.2 hb.2 z.2
        exact ⟨by rw [z.1, i1], i2⟩
  obtain ⟨q1, q2⟩ := key h1 h2 e
  exact ⟨Str.ext' (Array.ext' q1), Str.ext' (Array.ext' q2)⟩
theorem dot_no {c m n : Str} (h : noDot n = true) (e : n = c ++ "." ++ m) : False := by
  subst e
  unfold noDot at h
  simp only [Str.cps_append, Array.toList_append, List.all_append, Bool.and_eq_true] at h
  exact absurd h.1.2 (by decide +kernel)
/-! ### checks on the written part -/
def propB (K : PySem.W.Frag) (c f : Str) : Bool :=
  let p := He.ma K (He.ga K c) f
  He.eqO (PySem.W.findIn K (.ref (He.ga K c)) f) (some (some (.ref p))) && decide (PySem.W.specialIn K (.ref p) "__get__" = some (some (.builtin "property.__get__"))) && decide (PySem.W.takesIn K (.ref p) = some true) &&
    match PySem.W.recIn K p "property" with | some (.ref _ :: _) => true | _ => false
theorem propB_ok {K : PySem.W.Frag} {c f : Str} (h : propB K c f = true) : PropOf K (He.ga K c) f (He.ma K (He.ga K c) f) (propG K (He.ma K (He.ga K c) f)) := by
  unfold propB at h
  simp only [Bool.and_eq_true, decide_eq_true_eq] at h
  obtain ⟨⟨⟨h1, h2⟩, h3⟩, h4⟩ := h
  refine ⟨He.eqO_ok h1, h2, h3, ?_⟩
  unfold propG
  split at h4
  · rename_i g r hg
    rw [hg]
    exact ⟨r, rfl⟩
  · cases h4
/-- a static method -/
def smB (K : PySem.W.Frag) (c m : Str) : Bool := PySem.W.readsIn K (He.ga K c) (.type "type") && decide (PySem.W.specialIn K (.ref (He.ga K c)) "__getattribute__" = some (some (.builtin "type.__getattribute__"))) && He5.wrapB K (He.ga K c) "staticmethod" "staticmethod.__get__" m
theorem smB_ok {K : PySem.W.Frag} {c m : Str} (h : smB K c m = true) (hk : PySem.W.keepIn K (.ref (He5.wf K (He.ga K c) "staticmethod" m)) = true) : SmOk K (He.ga K c) m (He.ma K (He.ga K c) m) (He5.wf K (He.ga K c) "staticmethod" m) := by
  unfold smB at h
  simp only [Bool.and_eq_true, decide_eq_true_eq] at h
  obtain ⟨h1, h2⟩ := He5.wrapB_ok h.2
  exact ⟨h.1.1, h.1.2, h1, h2, hk⟩
def clsB (K : PySem.W.Frag) (L : LT) (c : Str) : Bool :=
  let C := He.ga K c
  (He.Fa.glo c).ok K && (He.Fa.cls c).ok K && He.eqO (PySem.W.findIn K (.ref C) "__class__") (some (some (.builtin "object.__class__"))) && decide (PySem.W.specialIn K (.builtin "object.__class__") "__get__" = some (some (.builtin "getset_descriptor.__get__"))) &&
    decide (PySem.W.takesIn K (.builtin "object.__class__") = some true) && decide (PySem.W.mroIn K C (.type "object") = some true) && (tynames.all fun T => decide (PySem.W.kitOne K (.ref C) (.type T) = some false)) &&
    (alln.all fun T => decide (PySem.W.kitOne K (.type T) (.ref C) = some false)) && L.cls.all fun d => decide (PySem.W.kitOne K (.ref C) (.ref (He.ga K d)) = some (c == d))
def Ent.chkK (K : PySem.W.Frag) (e : Ent) : Bool := e.chkF K && match e.kind with
  | 0 => (He.Fa.glo e.nm).ok K
  | 1 => (He.Fa.mkr (clOf e)).ok K
  | 2 => (He.Fa.meth (clOf e) e.nm).ok K
  | 3 => propB K (clOf e) e.nm
  | _ => smB K (clOf e) e.nm
/-- a key that is a string -/
def keyStr (v : Value) : Option Str := match v with | .str z _ => some z | _ => none
def valD (v : Value) : Option D := match v with | .int i _ => some (.int i) | .str z _ => some (.str z) | .bool b => some (.bl b) | .none => some .non | _ => none
abbrev DW : Type := Option (List (Option Str × Int × Option D))
/-- what a dict of the module holds, as written in the heap; as told -/
def dW (K : PySem.W.Frag) (x : Str) : DW := match K.lookup (He.ga K x) with
  | some o => (match o.data with | .dict es _ => some (es.toList.map fun e => (keyStr e.key, e.hash, valD e.val)) | _ => none)
  | none => none
def dV (P : Params) (d : D) : DW := match d with
  | .dct ks l => some ((ks.zip l).map fun q => ((match q.1 with | .inr z => some z | .inl _ => none), (match q.1 with | .inr z => PyData.keyHash P z | .inl _ => 0), some q.2))
  | _ => none
def dcB (K : PySem.W.Frag) (q : Str × D) : Bool := (He.Fa.glo q.1).ok K && (match K.lookup (He.ga K q.1) with
    | some o => (match o.cls with | .type T => decide (T = "dict") | _ => false) && o.dict.isNone && o.slots.isEmpty
    | none => false) && !(He.ga K q.1 == sysModules) && (match q.2 with | .dct ks l => (ks.all fun k => match k with | .inr _ => true | .inl _ => false) && l.all Scalar | _ => false)
def conB (K : PySem.W.Frag) (q : Str × D) : Bool := Scalar q.2 && match PySem.W.nsIn K mainGlobals q.1 with | some (some u) => He.relB (toV q.2) u | _ => false
def LT.chkK (L : LT) (K : PySem.W.Frag) : Bool := L.dcts.all (dcB K) && (L.consts.all (conB K) && (L.free.all fun x => (He.Fa.free x).ok K) && L.cls.all (clsB K L) && (L.fds.all fun q => (He.Fa.noat q.1 q.2).ok K) && L.ents.all (Ent.chkK K))
structure Holds (L : LT) (w : World) (K : PySem.W.Frag) : Prop where
  chk : L.chkK K = true
  dct : ∀ q ∈ L.dcts, dW K q.1 = dV w.params q.2
  fn : ∀ e ∈ L.ents, fW K (e.ad K) = e.val
/-! ### the facts -/
section
variable {L : LT} {P : Program} {w : World} {K : PySem.W.Frag} {mg : Str → Option Value} {base : Heap} {Wh : Nat}
def zOf (L : LT) (K : PySem.W.Frag) : Wo := ⟨K, He.ga K, fun c => L.cls.contains c = true, fun _ => none⟩
theorem mem_cls {c : Str} (h : L.cls.contains c = true) : c ∈ L.cls := by simpa using h
theorem LT.fdOf_ent (hs : L.stC = true) {e : Ent} (he : e ∈ L.ents) : fdOf L.T e.f = some (e.fd L.G) := by
  unfold LT.stC at hs
  simp only [Bool.and_eq_true, decide_eq_true_eq] at hs
  have hs := hs.1.1.1
  have key : ∀ {l : List Ent}, (l.map Ent.f).Nodup → e ∈ l → (l.map fun e => (e.f, e.fd L.G)).lookup e.f = some (e.fd L.G) := fun {l} => by
    induction l with
    | nil => intro _ h; cases h
    | cons a l ih =>
      intro nd h
      rw [List.map_cons, List.nodup_cons] at nd
      rw [List.map_cons, List.lookup_cons]
      rcases List.mem_cons.mp h with rfl | h
      · simp
      · have : (e.f == a.f) = false := by
          rw [beq_eq_false_iff_ne]
          intro z
          exact nd.1 (z ▸ List.mem_map.mpr ⟨e, h, rfl⟩)
        rw [this]
        exact ih nd.2 h
  exact key hs.2 he
theorem LT.ent_of_fd {f : Str} {fd : FD} (h : fdOf L.T f = some fd) : ∃ e ∈ L.ents, e.f = f ∧ fd = e.fd L.G := by
  have m := PySem.mem_of_lookup (show (L.ents.map fun e => (e.f, e.fd L.G)).lookup f = some fd from h)
  obtain ⟨e, he, q⟩ := List.mem_map.mp m
  cases q
  exact ⟨e, he, rfl, rfl⟩
theorem ent_of_sig {kd : Nat} {key : Ent → Str} {x : Str} {sg : Sg} (h : (L.ents.filterMap (sigOf kd key)).lookup x = some sg) : ∃ e ∈ L.ents, e.kind = kd ∧ key e = x ∧ sg = (e.ps, e.ds) := by
  obtain ⟨e, he, q⟩ := List.mem_filterMap.mp (PySem.mem_of_lookup h)
  unfold sigOf at q
  split at q
  · rename_i hk
    cases q
    exact ⟨e, he, hk, rfl, rfl⟩
  · cases q
theorem LT.ent_st (hs : L.stC = true) {e : Ent} (he : e ∈ L.ents) : Ent.stC L e = true := by
  unfold LT.stC at hs
  simp only [Bool.and_eq_true] at hs
  exact List.all_eq_true.mp hs.1.1.1.1 e he
theorem LT.dots (hs : L.stC = true) : (∀ e ∈ L.ents, noDot e.nm = true) ∧ (∀ c ∈ L.cls, noDot c = true) ∧ ∀ m sg, L.G.mths.lookup m = some sg → noDot m = true := by
  unfold LT.stC at hs
  simp only [Bool.and_eq_true, List.all_eq_true] at hs
  exact ⟨hs.1.1.2, hs.1.2, fun m sg h => hs.2 (m, sg) (PySem.mem_of_lookup h)⟩
structure Chk (L : LT) (K : PySem.W.Frag) : Prop where
  con : ∀ q ∈ L.consts, conB K q = true
  free : ∀ x ∈ L.free, (He.Fa.free x).ok K = true
  cls : ∀ c ∈ L.cls, clsB K L c = true
  fds : ∀ q ∈ L.fds, (He.Fa.noat q.1 q.2).ok K = true
  ents : ∀ e ∈ L.ents, e.chkK K = true
  dct : ∀ q ∈ L.dcts, dcB K q = true
theorem Holds.get (h : Holds L w K) : Chk L K := by
  have := h.chk
  unfold LT.chkK at this
  simp only [Bool.and_eq_true, List.all_eq_true] at this
  obtain ⟨h0, ⟨⟨⟨h1, h2⟩, h3⟩, h4⟩, h5⟩ := this
  exact ⟨h1, h2, h3, h4, h5, h0⟩
theorem Holds.knC (h : Holds L w K) {c : Str} (hc : L.cls.contains c = true) : KnC K (He.ga K c) ∧ (He.Fa.glo c).ok K = true ∧ (∀ T ∈ tynames, PySem.W.kitOne K (.ref (He.ga K c)) (.type T) = some false) ∧ (∀ T ∈ alln, PySem.W.kitOne K (.type T) (.ref (He.ga K c)) = some false) ∧ ∀ d ∈ L.cls, PySem.W.kitOne K (.ref (He.ga K c)) (.ref (He.ga K d)) = some (c == d) := by
  have q := h.get.cls c (mem_cls hc)
  unfold clsB at q
  simp only [Bool.and_eq_true, decide_eq_true_eq, List.all_eq_true] at q
  obtain ⟨⟨⟨⟨⟨⟨⟨⟨q1, q2⟩, q3⟩, q4⟩, q5⟩, q6⟩, q7⟩, q8⟩, q9⟩ := q
  exact ⟨⟨He.cls_ok q2, He.eqO_ok q3, q4, q5, q6⟩, q1, q7, q8, q9⟩
theorem getD_cl {e : Ent} {c : Str} (h : e.cl = some c) : clOf e = c := by unfold clOf; rw [h]; rfl
/-- what a dict's entries tell -/
theorem dct_rows {P : Params} {name : Str} : ∀ {es : List DictEntry} {ks : List (Sum Int Str)} {l : List D}, (∀ k ∈ ks, ∃ z, k = .inr z) → (∀ d ∈ l, Scalar d = true) →
    es.map (fun e => (keyStr e.key, e.hash, valD e.val)) = (ks.zip l).map (fun q => ((match q.1 with | .inr z => some z | .inl _ => none), (match q.1 with | .inr z => PyData.keyHash P z | .inl _ => 0), some q.2)) →
    PySem.W.KeysLit P es ∧ (es.any (·.refKey)) = false ∧ (∀ e, kget ks l (.inr name) = some e → Scalar e = true ∧ ∃ u, (es.find? (·.key.isStr name)) = some u ∧ RelV (toV e) u.val) ∧ (kget ks l (.inr name) = none → es.find? (·.key.isStr name) = none)
  | [], ks, l, hk, hl, e => by
    have hz : ks.zip l = [] := by
      cases hq : ks.zip l with
      | nil => rfl
      | cons a r => rw [hq] at e; cases e
    have kn : kget ks l (.inr name) = none := by
      cases ks with
      | nil => rfl
      | cons a r =>
        cases l with
        | nil => rfl
        | cons b l => cases hz
    refine ⟨trivial, rfl, fun e he => ?_, fun _ => rfl⟩
    rw [kn] at he; cases he
  | x :: es, [], l, hk, hl, e => by cases e
  | x :: es, k :: ks, [], hk, hl, e => by cases e
  | x :: es, k :: ks, d :: l, hk, hl, e => by
    obtain ⟨z, rfl⟩ := hk k (by simp)
    rw [List.zip_cons_cons, List.map_cons, List.map_cons, List.cons.injEq] at e
    obtain ⟨e1, e2⟩ := e
    obtain ⟨i1, i2, i3, i4⟩ := dct_rows (name := name) (fun k hk' => hk k (by simp [hk'])) (fun d hd => hl d (by simp [hd])) e2
    obtain ⟨xh, xk, xv⟩ := x
    simp only [Prod.mk.injEq] at e1
    obtain ⟨a1, a2, a3⟩ := e1
    have hxk : ∃ t, xk = .str z t := by
      cases xk <;> first | (cases a1; done) | (cases a1; exact ⟨_, rfl⟩)
    obtain ⟨t, rfl⟩ := hxk
    have sd : Scalar d = true := hl d (by simp)
    have rel : RelV (toV d) xv := by
      cases xv <;> first | (cases a3; done) | (cases a3; exact rfl) | (cases a3; exact ⟨_, rfl⟩)
    refine ⟨⟨⟨z, t, rfl, a2⟩, i1⟩, by rw [List.any_cons, i2]; rfl, ?_, ?_⟩
    · intro e he
      have he : (if (Sum.inr z : Sum Int Str) = .inr name then some d else kget ks l (.inr name)) = some e := he
      by_cases q : z = name
      · subst q
        rw [if_pos rfl] at he
        obtain rfl := Option.some.inj he
        refine ⟨sd, ⟨xh, .str z t, xv⟩, ?_, rel⟩
        rw [List.find?_cons]
        have : (Value.str z t).isStr z = true := by simp [Value.isStr]
        rw [this]
      · rw [if_neg fun zz => q (Sum.inr.inj zz)] at he
        obtain ⟨j1, u, j2, j3⟩ := i3 e he
        refine ⟨j1, u, ?_, j3⟩
        rw [List.find?_cons]
        have : (Value.str z t).isStr name = false := by simp [Value.isStr, q]
        rw [this]
        exact j2
    · intro he
      have he : (if (Sum.inr z : Sum Int Str) = .inr name then some d else kget ks l (.inr name)) = none := he
      by_cases q : z = name
      · subst q
        rw [if_pos rfl] at he
        cases he
      · rw [if_neg fun zz => q (Sum.inr.inj zz)] at he
        rw [List.find?_cons]
        have : (Value.str z t).isStr name = false := by simp [Value.isStr, q]
        rw [this]
        exact i4 he
theorem Holds.dcAt (h : Holds L w K) (hK : K.In base) (hg : base.Ns mainGlobals mg) {X : Cx} (eK : X.K = K) (em : X.mg = mg) (ew : X.w = w) {x : Str} {d : D} (hd : L.dcts.lookup x = some d) : DcAt X x d := by
  have hm := PySem.mem_of_lookup hd
  have c := h.get.dct (x, d) hm
  have e := h.dct (x, d) hm
  unfold dcB at c
  simp only [Bool.and_eq_true] at c
  obtain ⟨⟨⟨c1, c2⟩, c3⟩, c4⟩ := c
  cases hl : K.lookup (He.ga K x) with
  | none => rw [hl] at c2; cases c2
  | some o =>
    rw [hl] at c2
    simp only [Bool.and_eq_true] at c2
    obtain ⟨⟨c5, c6⟩, c7⟩ := c2
    unfold dW at e
    simp only [hl] at e
    obtain ⟨ocls, odict, odata, oslots⟩ := o
    simp only at c5 c6 c7 e
    have hc : ocls = .type "dict" := by
      split at c5
      · rw [of_decide_eq_true c5]
      · cases c5
    have hdn : odict = none := Option.isNone_iff_eq_none.mp c6
    have hsl : oslots = #[] := by simpa using c7
    subst hc hdn hsl
    cases d with
    | dct ks l =>
      cases odata with
      | dict es n =>
        simp only [List.all_eq_true, Bool.and_eq_true] at c4
        have hk : ∀ k ∈ ks, ∃ z, k = (.inr z : Sum Int Str) := fun k hk => by
          have := c4.1 k hk
          cases k with
          | inl _ => cases this
          | inr z => exact ⟨z, rfl⟩
        have e : es.toList.map _ = _ := Option.some.inj e
        refine ⟨He.ga K x, es, n, ks, l, rfl, by rw [em]; exact He.glo_ok hK hg c1, ⟨by rw [eK]; exact hl, ?_, by simpa using c3⟩, fun z => ?_⟩
        · rw [ew]
          exact (dct_rows (name := x) hk c4.2 e).1
        · obtain ⟨_, r2, r3, r4⟩ := dct_rows (name := z) hk c4.2 e
          have ns : PySem.W.nsIn X.K (He.ga K x) z = some ((es.toList.find? (·.key.isStr z)).map (·.val)) := by
            rw [eK]
            unfold PySem.W.nsIn
            rw [hl]
            simp only
            cases es.toList.find? (·.key.isStr z) with
            | none => simp only [r2]; rfl
            | some u => rfl
          refine ⟨_, ns, fun e he => ?_, fun he => by rw [r4 he]; rfl⟩
          obtain ⟨j1, u, j2, j3⟩ := r3 e he
          exact ⟨j1, u.val, by rw [j2]; rfl, j3⟩
      | _ => cases e
    | _ => cases c4
theorem Holds.all (h : Holds L w K) (hst : L.stC = true) (hK : K.In base) (hg : base.Ns mainGlobals mg) (X : Cx) (eK : X.K = K) (em : X.mg = mg) (ep : X.prog = P) (ew : X.w = w) (eb : X.base = base) {C : Str → List Sl → CRes} {k : Nat}
    (fns : ∀ e ∈ L.ents, ∀ fdt, FunD K e.nm e.qual e.params e.body e.scope (e.ds.map toV) [] (e.ad K) fdt → FnG P w K mg base (L2.CX P w) k (e.ad K) fdt e.ps (spF (zOf L K) (C e.f) e.ps.length)) : GOk L.G L.T C (zOf L K) (L2.CX P w) k X := by
  subst eK em ep ew eb
  have ck := h.get
  have stO : ∀ e ∈ L.ents, FnScope e.N e.ps e.scope ∧ SimpleP e.params e.ps := fun e he => by
    have := L.ent_st hst he
    unfold Ent.stC at this
    simp only [Bool.and_eq_true] at this
    exact ⟨fsC_ok this.1.1, spC_ok this.1.2⟩
  have fun_ : ∀ e ∈ L.ents, ∃ fdt, FunD X.K e.nm e.qual e.params e.body e.scope (e.ds.map toV) [] (e.ad X.K) fdt := fun e he => by
    have := ck.ents e he
    unfold Ent.chkK at this
    rw [Bool.and_eq_true] at this
    exact Ent.funD (h.fn e he) this.1
  have bnd_ : ∀ e ∈ L.ents, ∀ fdt, FunD X.K e.nm e.qual e.params e.body e.scope (e.ds.map toV) [] (e.ad X.K) fdt → ∀ pm n ks, pmF (e.ps, e.ds) n ks = some pm → BindOk X.K fdt e.ps pm n ks := fun e he fdt F pm n ks hp => by
    unfold pmF at hp
    split at hp
    · rename_i hc
      rw [Bool.and_eq_true] at hc
      exact kbn_of F (stO e he).2 hc.1 hp
    · cases hp
  have kd : ∀ e ∈ L.ents, (match e.kind with
      | 0 => (He.Fa.glo e.nm).ok X.K
      | 1 => (He.Fa.mkr (clOf e)).ok X.K
      | 2 => (He.Fa.meth (clOf e) e.nm).ok X.K
      | 3 => propB X.K (clOf e) e.nm
      | _ => smB X.K (clOf e) e.nm) = true := fun e he => by
    have := ck.ents e he
    unfold Ent.chkK at this
    rw [Bool.and_eq_true] at this
    exact this.2
  have sk : ∀ e ∈ L.ents, (match e.kind with
      | 0 => e.cl.isNone
      | 1 => (match e.cl with | some c => L.cls.contains c && decide (e.nm = "__init__") && (L.G.mths.lookup e.nm).isNone | none => false)
      | 2 => (match e.cl with | some c => L.cls.contains c && e.ds.isEmpty && (match L.G.mths.lookup e.nm with | some sg => decide (sg.1 = e.ps) && sg.2.isEmpty | none => false) | none => false)
      | 3 => (match e.cl with | some c => L.cls.contains c && e.ds.isEmpty && decide (e.ps.length = 1) && (L.G.mths.lookup e.nm).isNone | none => false)
      | 4 => (match e.cl with | some c => L.cls.contains c && (L.G.mths.lookup e.nm).isNone | none => false)
      | _ => false) = true := fun e he => by
    have := L.ent_st hst he
    unfold Ent.stC at this
    rw [Bool.and_eq_true] at this
    exact this.2
  refine ⟨fun x d hd => ?_, fun c hc => ?_, fun x hx => ?_, fun f sg hf => ?_, fun c sg hc => ?_, fun m sg pm n ks hm hp => ?_, ⟨fun c f hc hp => ?_⟩, ⟨fun c f hc hf => ?_⟩, fun x d hd => ?_, fun c m sg hc hs => ?_⟩
  · have q := ck.con (x, d) (PySem.mem_of_lookup hd)
    unfold conB at q
    rw [Bool.and_eq_true] at q
    obtain ⟨q1, q2⟩ := q
    cases e : PySem.W.nsIn X.K mainGlobals x with
    | none => rw [e] at q2; cases q2
    | some o =>
      cases o with
      | none => rw [e] at q2; cases q2
      | some u =>
        rw [e] at q2
        exact ⟨u, toV d, PySem.W.mg_of hK hg e, He.relB_ok q2, fun Hf => isd_toV q1⟩
  · exact ⟨He.glo_ok hK hg (h.knC hc).2.1, hc⟩
  · exact He.free_ok hK hg (ck.free x (by simpa [LT.G] using hx))
  · obtain ⟨e, he, hk, rfl, rfl⟩ := ent_of_sig hf
    obtain ⟨fdt, F⟩ := fun_ e he
    have k1 := kd e he
    have k2 := sk e he
    rw [hk] at k1 k2
    have hcl : e.cl = none := Option.isNone_iff_eq_none.mp k2
    have ead : e.ad X.K = He.ga X.K e.nm := by unfold Ent.ad; rw [hcl]
    have ef : e.f = e.nm := by unfold Ent.f; rw [hcl]
    have fo := L.fdOf_ent hst he
    rw [ef] at fo
    have fn := fns e he fdt F
    rw [ef] at fn
    exact ⟨e.ad X.K, fdt, _, by rw [ead]; exact He.glo_ok hK hg k1, F.kp, fn, fo, rfl, bnd_ e he fdt F⟩
  · obtain ⟨e, he, hk, ec, rfl⟩ := ent_of_sig hc
    obtain ⟨fdt, F⟩ := fun_ e he
    have k1 := kd e he
    have k2 := sk e he
    rw [hk] at k1 k2
    cases hcl : e.cl with
    | none => rw [hcl] at k2; cases k2
    | some c0 =>
      rw [hcl] at k2
      have k2 : (L.cls.contains c0 && decide (e.nm = "__init__") && (L.G.mths.lookup e.nm).isNone) = true := k2
      rw [Bool.and_eq_true, Bool.and_eq_true, decide_eq_true_eq] at k2
      have k2 := k2.1
      have : c0 = c := by rw [← ec]; exact (getD_cl hcl).symm
      subst this
      have k1 : (He.Fa.mkr (clOf e)).ok X.K = true := k1
      rw [ec] at k1
      have ead : e.ad X.K = He.ma X.K (He.ga X.K c0) "__init__" := by
        unfold Ent.ad
        rw [hcl, k2.2]
        show (if e.kind = 3 then _ else _) = _
        rw [if_neg (by rw [hk]; decide), if_neg (by rw [hk]; decide)]
      have ef : e.f = c0 ++ ".__init__" := by
        unfold Ent.f
        rw [hcl, k2.2]
        show c0 ++ "." ++ "__init__" = c0 ++ ".__init__"
        rw [Str.append_assoc]
        congr 1
      have fo := L.fdOf_ent hst he
      rw [ef] at fo
      have fn := fns e he fdt F
      rw [ef] at fn
      have M := He.mkr_ok k1
      rw [← ead] at M
      refine ⟨e.ad X.K, fdt, _, He.glo_ok hK hg (h.knC k2.1).2.1, M, fn, fo, rfl, fun _ => k2.1, fun pm n ks hp => ?_⟩
      obtain ⟨g, hb⟩ := bnd_ e he fdt F _ _ _ (pmM_ok hp)
      exact ⟨g, hb⟩
  · intro c fd hc hfd
    obtain ⟨e, he, ef, rfl⟩ := LT.ent_of_fd hfd
    obtain ⟨fdt, F⟩ := fun_ e he
    have k1 := kd e he
    have k2 := sk e he
    obtain ⟨dn, dc, dm⟩ := L.dots hst
    have hc : L.cls.contains c = true := hc
    cases hcl : e.cl with
    | none =>
      exfalso
      have e1 : e.f = e.nm := by unfold Ent.f; rw [hcl]
      exact dot_no (dn e he) (e1.symm.trans ef)
    | some c0 =>
      have e1 : e.f = c0 ++ "." ++ e.nm := by unfold Ent.f; rw [hcl]
      have hc0 : L.cls.contains c0 = true := by
        match hk : e.kind with
        | 0 => rw [hk, hcl] at k2; cases k2
        | 1 =>
          rw [hk, hcl] at k2
          have k2 : (L.cls.contains c0 && decide (e.nm = "__init__") && (L.G.mths.lookup e.nm).isNone) = true := k2
          simp only [Bool.and_eq_true] at k2
          exact k2.1.1
        | 2 =>
          rw [hk, hcl] at k2
          have k2 := k2
          simp only [Bool.and_eq_true] at k2
          exact k2.1.1
        | 3 =>
          rw [hk, hcl] at k2
          have k2 := k2
          simp only [Bool.and_eq_true] at k2
          exact k2.1.1.1
        | 4 =>
          rw [hk, hcl] at k2
          have k2 : (L.cls.contains c0 && (L.G.mths.lookup e.nm).isNone) = true := k2
          simp only [Bool.and_eq_true] at k2
          exact k2.1
        | n + 5 => rw [hk] at k2; cases k2
      obtain ⟨rfl, rfl⟩ := dot_inj (dc c0 (mem_cls hc0)) (dc c (mem_cls hc)) (e1.symm.trans ef)
      match hk : e.kind with
      | 0 => rw [hk, hcl] at k2; cases k2
      | 1 =>
        rw [hk, hcl] at k2
        have k2 : (L.cls.contains c0 && decide (e.nm = "__init__") && (L.G.mths.lookup e.nm).isNone) = true := k2
        simp only [Bool.and_eq_true] at k2
        rw [hm] at k2
        exact absurd k2.2 (by simp)
      | 3 =>
        rw [hk, hcl] at k2
        have k2 := k2
        simp only [Bool.and_eq_true] at k2
        rw [hm] at k2
        exact absurd k2.2 (by simp)
      | 4 =>
        rw [hk, hcl] at k2
        have k2 : (L.cls.contains c0 && (L.G.mths.lookup e.nm).isNone) = true := k2
        simp only [Bool.and_eq_true] at k2
        rw [hm] at k2
        exact absurd k2.2 (by simp)
      | n + 5 => rw [hk] at k2; cases k2
      | 2 =>
        rw [hk] at k1 k2
        rw [hcl, hm] at k2
        simp only [Bool.and_eq_true, decide_eq_true_eq, List.isEmpty_iff] at k2
        obtain ⟨⟨_, k3⟩, k4, k5⟩ := k2
        have esg : sg = (e.ps, e.ds) := by
          obtain ⟨s1, s2⟩ := sg
          simp only at k4 k5
          rw [k4, k5, k3]
        subst esg
        have k1 : (He.Fa.meth (clOf e) e.nm).ok X.K = true := k1
        rw [getD_cl hcl] at k1
        have ead : e.ad X.K = He.ma X.K (He.ga X.K c0) e.nm := by
          unfold Ent.ad
          rw [hcl]
          show (if e.kind = 3 then _ else _) = _
          rw [if_neg (by rw [hk]; decide), if_neg (by rw [hk]; decide)]
        have M := He.meth_ok k1
        rw [← ead] at M
        have fn := fns e he fdt F
        rw [e1] at fn
        obtain ⟨g, hb⟩ := bnd_ e he fdt F _ _ _ (pmM_ok hp)
        exact ⟨e.ad X.K, fdt, e.ps, M, fn, ⟨g, hb⟩, rfl, pmM_len hp⟩
  · have m : (c, f) ∈ L.T.props := by simpa using hp
    obtain ⟨e, he, q⟩ := List.mem_filterMap.mp m
    split at q
    · rename_i hk
      cases q
      obtain ⟨fdt, F⟩ := fun_ e he
      have k1 := kd e he
      have k2 := sk e he
      rw [hk] at k1 k2
      cases hcl : e.cl with
      | none => rw [hcl] at k2; cases k2
      | some c0 =>
        rw [hcl] at k2
        have k2 := k2
        simp only [Bool.and_eq_true, decide_eq_true_eq, List.isEmpty_iff] at k2
        obtain ⟨⟨⟨_, k3⟩, k4⟩, _⟩ := k2
        have k1 : propB X.K (clOf e) e.nm = true := k1
        have ec := getD_cl hcl
        have pr := propB_ok k1
        have ead : e.ad X.K = propG X.K (He.ma X.K (He.ga X.K (clOf e)) e.nm) := by
          unfold Ent.ad
          rw [hcl]
          show (if e.kind = 3 then _ else _) = _
          rw [if_pos hk, ec]
        have e1 : e.f = clOf e ++ "." ++ e.nm := by
          unfold Ent.f
          rw [hcl, ec]
        have fo := L.fdOf_ent hst he
        have fn := fns e he fdt F
        rw [e1] at fn fo
        rw [← ead] at pr
        have F0 := F
        rw [k3] at F0
        refine ⟨_, e.ad X.K, fdt, e.ps, _, pr, fn, ?_, fo, rfl, k4⟩
        exact FunD.bindsN F0 fun kV doc pm an cdv ct us hl => by
          have := bind_all (fd := PySem.W.fnOf e.nm e.qual e.params e.body e.scope .none kV doc pm an cdv ct) (ps := e.ps) (us := us) (stO e he).2 (nd_ps (stO e he).1) hl.symm
          rw [this]
          rfl
    · cases q
  · exact He.noat_ok (ck.fds (c, f) (by simpa [LT.T] using hf))
  · exact h.dcAt hK hg rfl rfl rfl hd
  · obtain ⟨e, he, hk, ef, rfl⟩ := ent_of_sig hs
    obtain ⟨fdt, F⟩ := fun_ e he
    have k1 := kd e he
    have k2 := sk e he
    obtain ⟨dn, dc, dm⟩ := L.dots hst
    rw [hk] at k1 k2
    cases hcl : e.cl with
    | none => rw [hcl] at k2; cases k2
    | some c0 =>
      rw [hcl] at k2
      have k2 : (L.cls.contains c0 && (L.G.mths.lookup e.nm).isNone) = true := k2
      rw [Bool.and_eq_true] at k2
      have e1 : e.f = c0 ++ "." ++ e.nm := by unfold Ent.f; rw [hcl]
      have ef : e.f = c ++ "." ++ m := ef
      have hc : L.cls.contains c = true := hc
      obtain ⟨rfl, rfl⟩ := dot_inj (dc c0 (mem_cls k2.1)) (dc c (mem_cls hc)) (e1.symm.trans ef)
      have k1 : smB X.K (clOf e) e.nm = true := k1
      rw [getD_cl hcl] at k1
      have ead : e.ad X.K = He5.wf X.K (He.ga X.K c0) "staticmethod" e.nm := by
        unfold Ent.ad
        rw [hcl]
        show (if e.kind = 3 then _ else if e.kind = 4 then _ else _) = _
        rw [if_neg (by rw [hk]; decide), if_pos hk]
      have S := smB_ok k1 (by rw [← ead]; exact F.kp)
      rw [← ead] at S
      have fo := L.fdOf_ent hst he
      rw [e1] at fo
      have fn := fns e he fdt F
      rw [e1] at fn
      exact ⟨_, e.ad X.K, fdt, _, S, fn, fo, rfl, bnd_ e he fdt F⟩
end
end Wd
-- WdFo
set_option linter.all false
set_option maxRecDepth 100000
set_option maxHeartbeats 2000000
set_option Elab.async false
/-! All defs of a law keep their promises; the law's call. -/
namespace Wd
open PySem L2 PySem.Spec PyProof.Rows
section
variable {L : LT} {P : Program} {w : World} {K : PySem.W.Frag} {mg : Str → Option Value} {base : Heap} {Wh : Nat}
theorem Holds.cx (h : Holds L w K) {X : Cx} (eK : X.K = K) (hu : X.A.units + 64 < cLine) (hc : X.calm = true) : CxOk X (zOf L K) where
  hK := eK
  hu := hu
  calm := hc
  cls := fun c q => by rw [eK]; exact (h.knC q).1
  kit1 := fun c T q hT => by rw [eK]; exact (h.knC q).2.2.1 T hT
  kit2 := fun c T q hT => by rw [eK]; exact (h.knC q).2.2.2.1 T hT
  kit3 := fun c d q q' => by rw [eK]; exact (h.knC q).2.2.2.2 d (mem_cls q')
theorem Holds.fns (h : Holds L w K) (hs : L.stC = true) (hK : K.In base) (hg : base.Ns mainGlobals mg) : ∀ n : Nat, ∀ e ∈ L.ents, ∀ fdt, FunD K e.nm e.qual e.params e.body e.scope (e.ds.map toV) [] (e.ad K) fdt →
    FnG P w K mg base (L2.CX P w) (3 * n) (e.ad K) fdt e.ps (spF (zOf L K) (evF L.T Wh n e.f) e.ps.length)
  | 0, e, he, fdt, F => ⟨fun vs H Q E q => q.1, fun A outer s H args us vs Q E g r e0 hb hv q => by
      obtain ⟨_, Hf, F, sl, R, q⟩ := q
      exact q.elim⟩
  | n + 1, e, he, fdt, F => by
    have S : FnScope e.N e.ps e.scope := by
      have := L.ent_st hs he
      unfold Ent.stC at this
      simp only [Bool.and_eq_true] at this
      exact fsC_ok this.1.1
    have ih := Holds.fns h hs hK hg n
    refine fn_ok (k := 3 * n + 2) F S (L.fdOf_ent hs he) rfl rfl fun B cdv A outer s H E gd room => ?_
    refine cB_ok (G := L.G) (N := e.N) (Z := zOf L K) (CX := L2.CX P w) (k := 3 * n) (sc := e.scope) ⟨⟨h.cx rfl room.units rfl, S.nd, rfl, rfl, gd, room, passes_of rfl, ⟨E, ?_, fun _ _ _ _ => rfl⟩, fun Y => ?_, ?_⟩, fun x => rfl⟩ e.body
    · exact passes_call (takes_of rfl rfl rfl rfl) fun _ _ _ _ q => q
    · intro pins σ H s e s' I q
      obtain ⟨_, _, _, _, _, _, _, _, _, _, _, _, q⟩ := q
      exact q.elim
    · exact h.all (P := P) (w := w) (mg := mg) (base := base) hs hK hg _ rfl rfl rfl rfl rfl ih
/-- a script's call -/
theorem sp_law {H : Hp} {a : Addr} {ns : List Int} {c : List Sl → CRes} {outs : List Sl} (hO : Only H) (hS : SqL K H a (ns.map V.int)) (hc : c [.fr (.scr (ns.map .int))] = .ok (.v (.bl true)) outs) : spF (zOf L K) c 1 [.ref a] H (fun v _ => v = .bl true) fun _ _ _ => False := by
  refine ⟨rfl, H, fun _ => none, [.fr (.scr (ns.map .int))], ⟨Same.refl _, (fun p o e => by cases e), rfl, fun i d e => ?_, fun i d e => ?_, fun i j d e hij e1 e2 => ?_, fun i d e => ?_⟩, ?_⟩
  · match i with
    | 0 =>
      cases e
      refine ⟨_, rfl, ?_⟩
      unfold Isd
      exact ⟨a, _, rfl, hS, isl_ints ns⟩
    | i + 1 => simp at e
  · match i with
    | 0 => cases e
    | i + 1 => simp [own?] at e
  · match i with
    | 0 => cases e1
    | i + 1 => simp [own?] at e1
  · match i with
    | 0 => cases e
    | i + 1 => simp at e
  · rw [hc]
    intro H' Hf' v sm A q
    have q : Isd (zOf L K) Hf' (.bl true) v := q
    unfold Isd at q
    exact q
theorem only_call {Pg : Program} {wd : World} {Kw : PySem.W.Frag} {mG mB : Str → Option Value} {lvl : Nat} {fa a : Addr} {fdt : FuncData} {x : Str} {sp : Sp} {t : Shared} {us : List Value} {ns : List Int} (KX : Kw.In t.heap) (gl : t.heap.Ns mainGlobals mG) (bl : t.heap.Ns builtinsNs mB)
    (bb : ∀ y : Str, y ≠ "__name__" → mB y = bootBuiltins y) (lim : t.heap.NoLimit) (gz : t.gens = #[]) (ho : t.heap.get? a = some { cls := .type "list", data := .seq us.toArray }) (hi : IntsAre us ns) (hl : ns.length ≤ sizeLine) (hr : Room lvl callerA)
    (F : ∀ bs : Heap, Kw.In bs → bs.Ns mainGlobals mG → FnG Pg wd Kw mG bs (L2.CX Pg wd) lvl fa fdt [x] sp) (hb : ∀ (s : Shared) (u : Value), BindsTo s fdt ⟨[u], []⟩ [(x, u)]) (hsp : ∀ H : Hp, Only H → SqL Kw H a (ns.map V.int) → sp [.ref a] H (fun v _ => v = .bl true) fun _ _ _ => False) :
    codeAny (model Pg wd) callerA (.call (.ref fa) ⟨[.ref a], []⟩) (fun r t' => r = .ok (.ret (.bool true)) ∧ OldK t.heap t'.heap ∧ t'.os = t.os ∧ AllBare t'.gens) t := by
  have vi := vals_ints hi
  have main : ∀ H : Hp, Only H → SqL Kw H a (ns.map V.int) → HOk Pg wd H t.heap → (∀ b, H b ≠ none → b = a) → (H a ≠ none → Kw.lookup a = none) →
      codeAny (model Pg wd) callerA (.call (.ref fa) ⟨[.ref a], []⟩) (fun r t' => r = .ok (.ret (.bool true)) ∧ OldK t.heap t'.heap ∧ t'.os = t.os ∧ AllBare t'.gens) t := fun H oH sH okH onlyA freeK => by
    -- what stands in the heap and is not tracked
    have none_of : ∀ {b : Addr} {o : Obj}, t.heap.get? b = some o → (b = a → False) → H b = none := fun {b o} e n => by
      cases q : H b with
      | none => rfl
      | some u => exact (n (onlyA b (by rw [q]; simp))).elim
    have dict_of : ∀ {b : Addr} {m : Str → Option Value}, t.heap.Ns b m → (hidT t.heap H).Ns b m := fun {b m} ⟨o, es, ep, e, dd, r⟩ => ⟨o, es, ep, hidT_get e (none_of e fun z => by
      subst z
      rw [ho] at e
      cases e
      have dd : Data.seq us.toArray _ = Data.dict es ep := dd
      cases dd), dd, r⟩
    have kin : Kw.In (hidT t.heap H) := fun b o e => hidT_get (KX b o e) (by
      cases q : H b with
      | none => rfl
      | some u =>
        have z := onlyA b (by rw [q]; simp)
        subst z
        rw [freeK (by rw [q]; simp)] at e
        cases e)
    have env : Env0 Pg wd Kw mG (hidT t.heap H) callerA [] t H := ⟨rfl, ⟨kin, dict_of gl, ⟨mB, dict_of bl, bb⟩, let ⟨mc, l1, l2⟩ := lim; ⟨mc, dict_of l1, l2⟩⟩, fun b o e => of_hidT e, Nat.le_of_eq (hidT_size _ _), trivial, (fun b hm => by cases hm), okH, .of_eq gz⟩
    have run := (F _ kin (dict_of gl)).run callerA [] t H ⟨[.ref a], []⟩ [.ref a] [.ref a] (fun v _ => v = .bl true) (fun _ _ _ => False) rfl hr env (hb t (.ref a)) (.cons rfl .nil) (hsp H oH sH)
    refine codeAny_mono run fun r t' q => ?_
    match r, q with
    | .error e, q =>
      obtain ⟨_, _, _, _, _, _, _, _, _, _, _, _, q⟩ := q
      exact q.elim
    | .ok (.ret u), q =>
      obtain ⟨v, H', os, bare, un, okH', rv, q⟩ := q
      subst q
      obtain rfl : u = Value.bool true := rv
      refine ⟨rfl, OldK.of_keep fun b o e => ?_, os, bare⟩
      rcases oH b with z | ⟨ob, xs, z⟩
      · exact un.keep b o e z (fun m => by cases m) (fun m => by cases m)
      · obtain ⟨e1, _⟩ := okH b _ z
        obtain ⟨e2, _⟩ := okH' b _ (un.frzs b ob _ z)
        rw [e] at e1
        cases e1
        exact e2
  cases hk : Kw.lookup a with
  | some o =>
    have e := (ho.symm.trans (KX a o hk))
    cases e
    exact main (fun _ => none) (fun _ => .inl rfl) (.inr ⟨_, us.toArray, _, hk, rfl, rfl, rfl, (by rw [List.size_toArray, hi.length]; exact hl), (by simpa using vi)⟩) (fun b u z => by cases z) (fun b z => (z rfl).elim) fun z => (z rfl).elim
  | none =>
    let so : Obj := { cls := .type "list", data := .seq us.toArray }
    have at_a : (fun b => if b = a then some (HO.frz so (.lst (ns.map V.int))) else none) a = some (.frz so (.lst (ns.map V.int))) := if_pos rfl
    have off : ∀ {b : Addr}, b ≠ a → (fun b => if b = a then some (HO.frz so (.lst (ns.map V.int))) else none) b = none := fun {b} n => if_neg n
    refine main (fun b => if b = a then some (HO.frz so (.lst (ns.map V.int))) else none) (fun b => ?_) (.inl (.inr ⟨so, at_a⟩)) (fun b u z => ?_) (fun b z => ?_) fun _ => hk
    · by_cases q : b = a
      · exact .inr ⟨so, _, by rw [q]; exact at_a⟩
      · exact .inl (off q)
    · by_cases q : b = a
      · subst q
        rw [at_a] at z
        cases z
        exact ⟨ho, by rw [List.length_map]; exact hl, us, _, vi, ho⟩
      · rw [off q] at z; cases z
    · exact Classical.byContradiction fun q => z (off q)
end
end Wd
-- WdHd
set_option linter.all false
set_option maxRecDepth 100000
set_option maxHeartbeats 2000000
set_option Elab.async false
/-! The head's look at the written part; a law's walk. -/
namespace Wd
open PySem L2 PySem.Spec PyProof.Rows
abbrev AlL : Type := Bool × List FW × List DW
def obsL (L : LT) (K : PySem.W.Frag) : AlL := (L.chkK K, L.ents.map (fun e => fW K (e.ad K)), L.dcts.map fun q => dW K q.1)
def valL (L : LT) (w : World) : AlL := (true, L.ents.map Ent.val, L.dcts.map fun q => dV w.params q.2)
theorem obsL_holds {L : LT} {w : World} {K : PySem.W.Frag} (h : obsL L K = valL L w) : Holds L w K where
  chk := congrArg Prod.fst h
  fn := fun e he => by
    have q : (L.ents.map fun e => fW K (e.ad K)) = L.ents.map Ent.val := congrArg (fun z => z.2.1) h
    exact List.map_inj_left.mp q e he
  dct := fun e he => by
    have q : (L.dcts.map fun q => dW K q.1) = L.dcts.map fun q => dV w.params q.2 := congrArg (fun z => z.2.2) h
    exact List.map_inj_left.mp q e he
/-- what the names reach, and the interpreter's own table -/
def asW (g : Addr → Option Obj) (n : Nat) : List Addr := He.asD g n ++ [cStatics]
def obsLG (n : Nat) (L : LT) (g : Addr → Option Obj) : AlL := obsL L (He.frG g (asW g n))
def hookL (n : Nat) (L : LT) : PySem.W.Hook where
  α := AlL
  obs := fun s => obsLG n L s.heap.get?
  val := fun w => valL L w
  says := fun w h => ∃ K : PySem.W.Frag, K.In h ∧ Holds L w K
  of := fun _ _ e => ⟨He.frG _ (asW _ n), He.frG_in, obsL_holds e⟩
  keeps := fun _ _ _ q k => by
    obtain ⟨K, hK, c⟩ := q
    exact ⟨K, hK.keeps k, c⟩
theorem obsLG_eq {n : Nat} {L : LT} {g : Addr → Option Obj} {s : Shared} (h : ∀ a, g a = s.heap.get? a) : obsLG n L g = (hookL n L).obs s := by
  obtain rfl : g = s.heap.get? := funext h
  rfl
/-- the same at given addresses -/
def obsLA (as : List Addr) (L : LT) (g : Addr → Option Obj) : AlL := obsL L (He.frG g as)
def hookLA (as : List Addr) (L : LT) : PySem.W.Hook where
  α := AlL
  obs := fun s => obsLA as L s.heap.get?
  val := fun w => valL L w
  says := fun w h => ∃ K : PySem.W.Frag, K.In h ∧ Holds L w K
  of := fun _ _ e => ⟨He.frG _ as, He.frG_in, obsL_holds e⟩
  keeps := fun _ _ _ q k => by
    obtain ⟨K, hK, c⟩ := q
    exact ⟨K, hK.keeps k, c⟩
theorem obsLA_eq {as : List Addr} {L : LT} {g : Addr → Option Obj} {s : Shared} (h : ∀ a, g a = s.heap.get? a) : obsLA as L g = (hookLA as L).obs s := by
  obtain rfl : g = s.heap.get? := funext h
  rfl
/-- a law: the evaluator's True at every script is enough -/
theorem walk_L {l : PySem.W.OpenLaw} {q : Program} {loose : List Str} {XP : (Str → Option Value) → Heap → Prop} {d : DefRec} {L : LT} {n Wh : Nat} {x : Str} {e : Ent} (hn : l.most = some 63) (hdf : d.params.defaults = []) (hs : L.stC = true) (he : e ∈ L.ents) (hnm : e.nm = d.name) (hkd : e.kind = 0) (hcl : e.cl = none) (hds : e.ds = []) (hps : e.ps = [x])
    (hr : Room (3 * n) callerA) (ev : ∀ ns : List Int, ns.length ≤ 63 → ∃ outs, evF L.T Wh n e.nm [.fr (.scr (ns.map .int))] = .ok (.v (.bl true)) outs) : PySem.W.WalkO q loose XP (fun w h => ∃ K : PySem.W.Frag, K.In h ∧ Holds L w K) l.row.toRowW d [] (fun f vs => PySem.call f vs) := by
  refine Att.attach_call hn hdf fun w t0 t1 mg mb fa o pm cd doc a vs ns G Y ho hd hcd hmg hobj hints hlen hg => ?_
  obtain ⟨K, KX, h⟩ := Y
  have ck := h.get.ents e he
  unfold Ent.chkK at ck
  rw [hkd] at ck
  obtain ⟨c1, c2⟩ := He.ba ck
  have c2 : (He.Fa.glo e.nm).ok K = true := c2
  obtain ⟨fdt, F⟩ := Ent.funD (h.fn e he) c1
  have ead : e.ad K = He.ga K e.nm := by unfold Ent.ad; rw [hcl]
  have efa : fa = e.ad K := by
    have := He.glo_ok KX G.T.g c2
    rw [hnm, hmg] at this
    rw [ead, hnm]
    cases this
    rfl
  have ef : e.f = e.nm := by unfold Ent.f; rw [hcl]
  have st := L.ent_st hs he
  unfold Ent.stC at st
  simp only [Bool.and_eq_true] at st
  have S := fsC_ok st.1.1
  have SP := spC_ok st.1.2
  have F0 := F
  rw [hds] at F0
  subst efa
  refine only_call (fdt := fdt) (x := x) KX G.T.g G.T.b G.T.builtins G.T.nolimit hg hobj hints (Nat.le_trans hlen (by decide)) hr (sp := spF (zOf L K) (evF L.T Wh n e.nm) 1) (fun bs KB gB => ?_) (fun s u => ?_) fun H hO hS => ?_
  · have := h.fns (P := l.prog) (w := w) (Wh := Wh) hs KB gB n e he fdt F
    rw [ef, hps] at this
    exact this
  · have := FunD.bindsA (ps := e.ps) F0 (fun kV doc pm an cdv ct us hl => by
      rw [bind_all (fd := PySem.W.fnOf e.nm e.qual e.params e.body e.scope .none kV doc pm an cdv ct) (ps := e.ps) (us := us) SP (nd_ps S) hl.symm]
      rfl) s [u] (by rw [hps]; rfl)
    rw [hps] at this
    exact this
  · obtain ⟨outs, q⟩ := ev ns hlen
    exact sp_law hO hS q
end Wd
-- L_k70
set_option linter.all false
set_option maxRecDepth 100000
set_option maxHeartbeats 0
set_option Elab.async false
namespace Wd.k70
open PySem
def top (i : Nat) : Stmt := PySem.Challenge.pw_wordshuffles_k70_claims_of_any_kind.main.body.getD i (.Pass ⟨0, 0, 0, 0⟩)
def inC (s : Stmt) (j : Nat) : Stmt := match s with | .ClassDef _ _ _ b _ _ _ _ _ _ _ => b.getD j (.Pass ⟨0, 0, 0, 0⟩) | _ => .Pass ⟨0, 0, 0, 0⟩
def ent (kd : Nat) (cl : Option Str) (nm q : Str) (s : Stmt) (N : List Str) (ds : List D) (io : List Bool) : Ent := ⟨kd, cl, nm, q, L2.defArgs s, L2.defBody s, L2.defScope s, N, ds, io⟩
def lawE : Ent := ent 0 none "law" "law" (top 80) ["_law_script", "_law_k"] [] [false]
def en0 : List Ent := [ent 0 none "is_integer" "is_integer" (top 11) ["value"] [] [false],
  ent 0 none "is_between" "is_between" (top 12) ["value", "low", "high"] [] [false, false, false],
  ent 0 none "number_in" "number_in" (top 13) ["text", "sign"] [] [false],
  ent 0 none "integer_in" "integer_in" (top 14) ["word", "found"] [] [false],
  ent 0 none "power_of" "power_of" (top 15) ["base", "many", "found", "turn"] [] [false, false],
  ent 0 none "is_number" "is_number" (top 21) ["value"] [] [false],
  ent 0 none "check_numbers" "check_numbers" (top 22) ["values", "index", "value"] [] [false],
  ent 0 none "value_of" "value_of" (top 23) ["numbers", "x", "found", "number"] [] [false, false],
  ent 0 none "size_of" "size_of" (top 24) ["bits"] [] [false],
  ent 0 none "check_bits" "check_bits" (top 25) ["value", "most"] [(.int 64)] [false, false]]
def en1 : List Ent := [ent 0 none "check_word" "check_word" (top 26) ["value", "bits"] [] [false, false],
  ent 1 (some "Rule") "__init__" "Rule.__init__" (inC (top 27) 0) ["self", "numbers"] [] [true, false],
  ent 4 (some "Rule") "read" "Rule.read" (inC (top 27) 1) ["text", "numbers", "rule", "word"] [] [false],
  ent 3 (some "Rule") "numbers" "Rule.numbers" (inC (top 27) 2) ["self"] [] [false],
  ent 2 (some "Rule") "next_of" "Rule.next_of" (inC (top 27) 5) ["self", "bits", "word"] [] [false, false, false],
  ent 2 (some "Rule") "__eq__" "Rule.__eq__" (inC (top 27) 7) ["self", "other"] [] [false, false],
  ent 2 (some "Rule") "__str__" "Rule.__str__" (inC (top 27) 8) ["self", "number"] [] [false],
  ent 2 (some "Rule") "__repr__" "Rule.__repr__" (inC (top 27) 9) ["self"] [] [false],
  ent 0 none "check_rule" "check_rule" (top 28) ["value"] [] [false],
  ent 0 none "is_shuffle_for" "is_shuffle_for" (top 30) ["numbers", "bits", "first"] [] [false, false]]
def en2 : List Ent := [ent 0 none "check_shuffle" "check_shuffle" (top 33) ["rule", "bits"] [] [false, false],
  ent 0 none "check_asked" "check_asked" (top 34) ["rule", "bits", "word"] [] [false, false, false],
  ent 0 none "walked" "walked" (top 35) ["rule", "bits", "word", "found", "here"] [] [false, false, false],
  ent 0 none "is_ring_for" "is_ring_for" (top 36) ["rule", "bits", "few"] [] [false, false],
  ent 0 none "round_by" "round_by" (top 39) ["row", "size", "word", "numbers"] [] [false, false, false],
  ent 0 none "product" "product" (top 40) ["one", "other", "size", "found", "i", "number", "j"] [] [false, false, false],
  ent 0 none "put_into" "put_into" (top 41) ["numbers", "inner", "size", "found", "number", "lifted"] [] [false, false, false],
  ent 0 none "part_of" "part_of" (top 42) ["bits"] [] [false],
  ent 0 none "hop_of" "hop_of" (top 43) ["row", "bits", "low", "rounds", "many", "found", "turn", "size", "part", "numbers", "number", "power"] [] [false, false, false, false],
  ent 0 none "cycle_from" "cycle_from" (top 44) ["row", "bits", "word", "found", "known", "size", "part", "here"] [] [false, false, false]]
def en3 : List Ent := [ent 0 none "hopped" "hopped" (top 45) ["hop", "size", "place", "times"] [] [false, false, false, false],
  ent 0 none "word_after" "word_after" (top 46) ["row", "bits", "word", "rounds", "low", "hop", "here", "turn", "words", "first", "size", "part", "length", "times", "left"] [] [false, false, false, false],
  ent 0 none "ring_size" "ring_size" (top 47) ["row", "bits", "word", "words", "first", "part", "length", "place", "hop", "size", "step"] [] [false, false, false],
  ent 0 none "rounds_between" "rounds_between" (top 48) ["row", "bits", "word", "aim", "spots", "words", "first", "part", "length", "found", "place", "goal", "hop", "size", "step", "moved", "at"] [] [false, false, false, false],
  ent 0 none "check_turns" "check_turns" (top 50) ["value"] [] [false],
  ent 0 none "check_back" "check_back" (top 51) ["rule", "bits", "turns"] [] [false, false, false],
  ent 0 none "reached" "reached" (top 52) ["rule", "bits", "word", "turns", "row"] [] [false, false, false, false],
  ent 0 none "after" "after" (top 53) ["rule", "bits", "word", "turns"] [] [false, false, false, false],
  ent 0 none "turns_to" "turns_to" (top 54) ["rule", "bits", "word", "aim"] [] [false, false, false, false],
  ent 0 none "is_word" "is_word" (top 58) ["value", "bits"] [] [false, false]]
def en4 : List Ent := [ent 0 none "are_bits_and_words" "are_bits_and_words" (top 59) ["bits", "words", "word"] [] [false, false],
  ent 0 none "is_many" "is_many" (top 60) ["value"] [] [false],
  ent 0 none "is_always_ring_rule" "is_always_ring_rule" (top 61) ["rule"] [] [false],
  ent 0 none "is_always_shuffle_rule" "is_always_shuffle_rule" (top 62) ["rule"] [] [false],
  ent 0 none "has_length" "has_length" (top 63) ["rule", "bits", "word", "many"] [] [false, false, false, false],
  ent 0 none "coming" "coming" (top 64) ["rule", "bits", "word", "aim"] [] [false, false, false, false],
  ent 0 none "rule_of" "rule_of" (top 67) ["text", "found"] [] [false],
  ent 0 none "shows_no_ring" "shows_no_ring" (top 68) ["rule", "certificate"] [] [false, false],
  ent 0 none "shows_no_shuffle" "shows_no_shuffle" (top 69) ["rule", "certificate", "bits", "x", "y"] [] [false, false],
  ent 0 none "shows_never" "shows_never" (top 70) ["rule", "claim", "certificate", "size", "bits", "x", "y"] [] [false, false, false]]
def en5 : List Ent := [ent 0 none "is_so" "is_so" (top 71) ["rule", "claim", "word", "bits", "x", "y", "many"] [] [false, false],
  ent 0 none "accepts" "accepts" (top 72) ["claim", "certificate", "rule"] [] [false, false],
  ent 0 none "_law_jar" "_law_jar" (top 74) ["_law_cells", "_law_turn", "_law_cell", "_law_mixed", "_law_each"] [] [false, false],
  ent 0 none "_law_dip" "_law_dip" (top 75) ["_law_jar_here", "_law_top", "_law_digit"] [] [true, false],
  ent 0 none "_law_one_of" "_law_one_of" (top 76) ["_law_jar_here", "_law_some"] [] [true, false],
  ent 0 none "_law_right_claims" "_law_right_claims" (top 77) ["_law_found"] [] [],
  ent 0 none "_law_odd_claims" "_law_odd_claims" (top 78) ["_law_said", "_law_found", "_law_each"] [] [false],
  ent 0 none "_law_right" "_law_right" (top 79) ["_law_jar_here", "_law_claims", "_law_things", "_law_thing", "_law_i", "_law_said", "_law_paper", "_law_odd", "_law_k", "_law_is_let"] [] [true],
  lawE]
def lt : LT := ⟨en0 ++ en1 ++ en2 ++ en3 ++ en4 ++ en5,
  [("DIGITS", (.str "0123456789")), ("MOST_NUMBERS", (.int 13)), ("MOST_NUMBER", (.int 1000000000000000000000000000000)), ("MOST_BITS", (.int 64)), ("MOST_ASKED", (.int 3)), ("LOW", (.int 6)), ("FEW", (.int 2)), ("MANY", (.int 3))],
  ["Rule"], [("Rule", "row")],
  ["abs", "all", "bool", "divmod", "int", "isinstance", "len", "list", "max", "min", "range", "repr", "str", "sum", "tuple", "enumerate"], [("SIZES", (.dct [.inr "ring", .inr "shuffle", .inr "no ring", .inr "no shuffle", .inr "after", .inr "length", .inr "comes", .inr "never"] [(.int 2), (.int 2), (.int 2), (.int 2), (.int 6), (.int 5), (.int 6), (.int 5)]))]⟩
end Wd.k70
-- H_k70
set_option linter.all false
set_option maxRecDepth 100000
set_option maxHeartbeats 0
set_option Elab.async false
namespace Wd.k70
open PySem
abbrev R : PySem.W.OpenRow := PySem.W.OpenLaw.row PySem.Challenge.rw_wordshuffles_k70_claims_of_any_kind
def as0 : List Nat := [3, 6, 4, 24, 44, 63, 82, 101, 120, 132, 145, 154, 161, 166, 173, 180, 187, 194, 201, 208, 216, 223, 304, 315, 322, 329, 336, 343, 350, 357, 362, 367, 374, 379, 386, 393, 400, 407, 412, 419, 426, 433, 440, 447, 454, 459, 466, 473, 480, 487, 494, 495, 502, 509, 516, 523, 530, 537, 544, 551, 558, 565, 570, 577, 582, 0, 23, 43, 62, 81, 100, 119, 131, 144, 153, 160, 165, 172, 179, 186, 193, 200, 207, 215, 209, 222, 303, 314, 321, 328, 335, 342, 349, 356, 361, 366, 373, 378, 385, 392]
def as1 : List Nat := [399, 406, 411, 418, 425, 432, 439, 446, 453, 458, 465, 472, 479, 486, 493, 501, 508, 515, 522, 529, 536, 543, 550, 557, 564, 569, 576, 581, 22, 25, 41, 42, 60, 61, 79, 80, 98, 99, 117, 118, 130, 133, 143, 148, 149, 150, 151, 152, 155, 156, 157, 158, 159, 162, 163, 164, 167, 168, 169, 170, 171, 174, 175, 176, 177, 178, 181, 182, 183, 184, 185, 188, 189, 190, 191, 192, 195, 196, 197, 198, 199, 202, 203, 204, 205, 206, 210, 211, 212, 213, 214, 217, 218, 219, 220, 221, 237, 244, 253, 261]
def as2 : List Nat := [268, 275, 282, 289, 294, 301, 302, 305, 306, 309, 310, 311, 312, 313, 316, 317, 318, 319, 320, 323, 324, 325, 326, 327, 330, 331, 332, 333, 334, 337, 338, 339, 340, 341, 344, 345, 346, 347, 348, 351, 352, 353, 354, 355, 358, 359, 360, 363, 364, 365, 368, 369, 370, 371, 372, 375, 376, 377, 380, 381, 382, 383, 384, 387, 388, 389, 390, 391, 394, 395, 396, 397, 398, 401, 402, 403, 404, 405, 408, 409, 410, 413, 414, 415, 416, 417, 420, 421, 422, 423, 424, 427, 428, 429, 430, 431, 434, 435, 436, 437]
def as3 : List Nat := [438, 441, 442, 443, 444, 445, 448, 449, 450, 451, 452, 455, 456, 457, 460, 461, 462, 463, 464, 467, 468, 469, 470, 471, 474, 475, 476, 477, 478, 481, 482, 483, 484, 485, 488, 489, 490, 491, 492, 496, 497, 498, 499, 500, 503, 504, 505, 506, 507, 510, 511, 512, 513, 514, 517, 518, 519, 520, 521, 524, 525, 526, 527, 528, 531, 532, 533, 534, 535, 538, 539, 540, 541, 542, 545, 546, 547, 548, 549, 552, 553, 554, 555, 556, 559, 560, 561, 562, 563, 566, 567, 568, 571, 572, 573, 574, 575, 578, 579, 580]
def as4 : List Nat := [40, 59, 78, 97, 116, 236, 242, 243, 252, 260, 267, 274, 281, 288, 293, 300, 35, 36, 37, 38, 39, 54, 55, 56, 57, 58, 73, 74, 75, 76, 77, 92, 93, 94, 95, 96, 111, 112, 113, 114, 115, 231, 232, 233, 234, 235, 241, 245, 251, 259, 262, 263, 264, 265, 266, 269, 270, 271, 272, 273, 276, 277, 278, 279, 280, 283, 284, 285, 286, 287, 290, 291, 292, 295, 296, 297, 298, 299, 2]
def as : List Nat := as0 ++ as1 ++ as2 ++ as3 ++ as4
abbrev hk : PySem.W.Hook := hookLA as lt
def ob (s : PySem.W.SharedT) : AlL := obsLA as lt (HandSHeadRun.getT s)
theorem ob_eq (s : PySem.W.SharedT) : ob s = hk.obs s.abs := obsLA_eq (HandSHeadRun.getT_eq s)
def nm0 : List PySem.Str := ["WrongValue", "InvalidText", "InvalidNumber", "InvalidWord", "NotARule", "InvalidNumbers", "NoAnswer", "NoShuffle", "DIGITS", "is_integer", "is_between", "number_in", "integer_in", "power_of", "MOST_NUMBERS", "MOST_NUMBER", "MOST_BITS", "MOST_VALUED", "is_number", "check_numbers", "value_of", "size_of", "check_bits", "check_word", "Rule", "check_rule", "is_shuffle_for", "MOST_ASKED", "check_shuffle", "check_asked"]
def nm1 : List PySem.Str := ["walked", "is_ring_for", "LOW", "round_by", "product", "put_into", "part_of", "hop_of", "cycle_from", "hopped", "word_after", "ring_size", "rounds_between", "check_turns", "check_back", "reached", "after", "turns_to", "FEW", "MANY", "is_word", "are_bits_and_words", "is_many", "is_always_ring_rule", "is_always_shuffle_rule", "has_length", "coming", "SIZES", "rule_of", "shows_no_ring"]
def nm2 : List PySem.Str := ["shows_no_shuffle", "shows_never", "is_so", "accepts", "_law_jar", "_law_dip", "_law_one_of", "_law_right_claims", "_law_odd_claims", "_law_right"]
def nms : List PySem.Str := nm0 ++ nm1 ++ nm2
def setF (b : Bool) (w : World) : World := ⟨w.draws, { w.params with followText := fun r => match decEq r "special-get-raises" with | .isTrue _ => b | .isFalse _ => w.params.followText r }⟩
theorem setF_eq (w : World) : setF (w.params.followText "special-get-raises") w = w := by
  obtain ⟨d, p⟩ := w
  show (⟨d, { p with followText := _ }⟩ : World) = ⟨d, p⟩
  have e : (fun r => match decEq r "special-get-raises" with | .isTrue _ => p.followText "special-get-raises" | .isFalse _ => p.followText r) = p.followText := by
    funext r
    cases decEq r "special-get-raises" with
    | isTrue h => exact congrArg p.followText h.symm
    | isFalse h => rfl
  rw [e]
theorem runT (w : World) : HandSHeadRun.RunEq R (PySem.W.view R.prog [80]) hk ob 20000 nms (setF true w) := by
  intro os
  kernel_rfl
theorem runF (w : World) : HandSHeadRun.RunEq R (PySem.W.view R.prog [80]) hk ob 20000 nms (setF false w) := by
  intro os
  kernel_rfl
theorem run (w : World) : HandSHeadRun.RunEq R (PySem.W.view R.prog [80]) hk ob 20000 nms w := by
  rw [← setF_eq w]
  cases w.params.followText "special-get-raises" with
  | true => exact runT w
  | false => exact runF w
theorem stat : lt.stC = true := by kernel_rfl
end Wd.k70
-- E_k70
set_option linter.all false
set_option maxRecDepth 100000
set_option maxHeartbeats 0
set_option Elab.async false
namespace Wd.k70
open PySem PySem.W PySem.Calls PyProof.Rows
theorem holds_of (n Wh : Nat) (hr : L2.Room (3 * n) callerA) (ev : ∀ ns : List Int, ns.length ≤ 63 → ∃ outs, evF lt.T Wh n "law" [.fr (.scr (ns.map .int))] = .ok (.v (.bl true)) outs) : PySem.Challenge.rw_wordshuffles_k70_claims_of_any_kind.Holds := by
  w_on; o_law
  refine HandSHeadRun.head_any (r := R) (q := view R.prog [80]) (H := hk) (ob := ob) (M := 20000) (loose := nms) (d := HandSHeadRun.topDef R.prog 80) (kwd := []) ob_eq
    (by kernel_rfl) (fun s => by kernel_rfl) run (by kernel_rfl) (by kernel_rfl) (by kernel_rfl) (by rfl) (by first | assumption | decide +kernel) (by decide +kernel) ⟨rfl, rfl, rfl, rfl, rfl, by decide +kernel⟩ ?hw ?hc
  case hw => w_witness2
  case hc => exact walk_L (n := n) (Wh := Wh) (x := "_law_script") (e := lawE) rfl (by kernel_rfl) stat (List.mem_of_getElem? (i := 58) (by kernel_rfl)) (by kernel_rfl) (by kernel_rfl) (by kernel_rfl) (by kernel_rfl) (by kernel_rfl) hr ev
end Wd.k70
-- V0
set_option linter.all false
set_option maxRecDepth 100000
set_option maxHeartbeats 1000000
set_option Elab.async false
/-! How the evaluator runs: rules for symbolic runs. -/
namespace Wd.V
open PySem
/-- what a walk of rules is to leave as it is -/
class Dp {α : Type} (a : α) : Type where
instance dpI {α : Type} (a : α) : Dp a := ⟨⟩
section
variable {α β : Type} {T : Tab} {C : Str → List Sl → CRes} {W n : Nat}
def bnd2 (x : Res α) (f : α → Sto → Res β) [Dp f] : Res β := bnd x f
theorem bnd_is (x : Res α) (f : α → Sto → Res β) : bnd x f = bnd2 x f := rfl
theorem bnd2_ok (a : α) (s : Sto) (f : α → Sto → Res β) : bnd2 (.ok a s) f = f a s := rfl
theorem bnd_ok (a : α) (s : Sto) (f : α → Sto → Res β) : bnd (.ok a s) f = f a s := rfl
theorem opt_some (w : String) (a : α) (s : Sto) : opt w (some a) s = .ok a s := rfl
theorem opt_none (w : String) (s : Sto) : opt w (none : Option α) s = .bad w := rfl
theorem noEx_ok (a : α) (s : Sto) : noEx (.ok a s) = .ok a s := rfl
theorem peek_v (d : D) (s : Sto) : peek (.v d) s = some d := rfl
theorem peek_n (d : D) (s : Sto) : peek (.n d) s = some d := rfl
theorem peek_b (i : Nat) (s : Sto) : peek (.b i) s = (s[i]?).bind Sl.con := rfl
theorem sl_fr (d : D) : Sl.con (.fr d) = some d := rfl
theorem sl_ow (d : D) : Sl.con (.ow d) = some d := rfl
theorem sl_bo (d : D) : Sl.con (.bo d) = some d := rfl
theorem rep0 {x : Sl} : List.replicate 0 x = [] := rfl
theorem repS {x : Sl} {k : Nat} : List.replicate (k + 1) x = x :: List.replicate k x := rfl
theorem rds_nil (s : Sto) : rds [] s = some [] := rfl
theorem rds_cons (r : Rv) (rs : List Rv) (s : Sto) : rds (r :: rs) s = (peek r s).bind fun d => (rds rs s).map fun l => d :: l := by
  unfold rds
  rw [List.mapM_cons]
  cases peek r s with
  | none => rfl
  | some d => cases List.mapM (fun r => peek r s) rs <;> rfl
theorem evF_at {f : Str} {fd : FD} {sl : List Sl} (h : fdOf T f = some fd) (hl : sl.length = fd.ps.length) : evF T W (n + 1) f sl = fin fd.ps.length (evB T (evF T W n) W fd.body (sl ++ List.replicate (fd.n - fd.ps.length) .un)) := by
  rw [evF, h]; simp only [hl, if_true]
theorem fin_v (k : Nat) (d : D) (s : Sto) : fin k (.ok (.rt (.v d)) s) = .ok (.v d) (s.take k) := rfl
theorem fin_n (k : Nat) (d : D) (s : Sto) : fin k (.ok (.rt (.n d)) s) = .ok (.n d) (s.take k) := rfl
theorem fin_nx (k : Nat) (s : Sto) : fin k (.ok .nx s) = .ok (.v .non) (s.take k) := rfl
/-! ### the evaluator's equations, with what is looked at ahead -/
def tst {γ : Type} (o : Option Bool) (a b : γ) (c : γ) [Dp a] [Dp b] [Dp c] : γ := match o with | some true => a | some false => b | none => c
theorem tst_t {γ : Type} (a b c : γ) : tst (some true) a b c = a := rfl
theorem tst_f {γ : Type} (a b c : γ) : tst (some false) a b c = b := rfl
def nxt (f : Fl) (k : Res Fl) [Dp k] (s : Sto) : Res Fl := match f with | .nx => k | f => .ok f s
theorem nxt_nx (k : Res Fl) (s : Sto) : nxt .nx k s = k := rfl
theorem nxt_rt (r : Rv) (k : Res Fl) (s : Sto) : nxt (.rt r) k s = .ok (.rt r) s := rfl
theorem nxt_bk (k : Res Fl) (s : Sto) : nxt .bk k s = .ok .bk s := rfl
def next2 (f : Fl) (s : Sto) (k : Res Fl) [Dp k] : Res Fl := next f s k
theorem next_nx (k : Res Fl) (s : Sto) : next2 .nx s k = k := rfl
theorem next_rt (r : Rv) (k : Res Fl) (s : Sto) : next2 (.rt r) s k = .ok (.rt r) s := rfl
theorem next_bk (k : Res Fl) (s : Sto) : next2 .bk s k = .ok .nx s := rfl
def varR (o : Option Sl) (i : Nat) (s : Sto) : Res Rv := match o with | some (.fr d) => .ok (.v d) s | some (.ow _) => .ok (.b i) s | some (.bo _) => .ok (.b i) s | _ => .bad "unbound"
theorem varR_fr (d : D) (i : Nat) (s : Sto) : varR (some (.fr d)) i s = .ok (.v d) s := rfl
theorem varR_ow (d : D) (i : Nat) (s : Sto) : varR (some (.ow d)) i s = .ok (.b i) s := rfl
theorem varR_bo (d : D) (i : Nat) (s : Sto) : varR (some (.bo d)) i s = .ok (.b i) s := rfl
/-- of a pair, or bad -/
def oS {γ : Type} (w : String) (o : Option (γ × Sto)) (f : γ → Sto → Res β) [Dp f] : Res β := match o with | some (a, s) => f a s | none => .bad w
theorem oS_some {γ : Type} (w : String) (a : γ) (s : Sto) (f : γ → Sto → Res β) : oS w (some (a, s)) f = f a s := rfl
def oT (w : String) (o : Option Sto) (f : Sto → Res β) [Dp f] : Res β := match o with | some s => f s | none => .bad w
theorem oT_some (w : String) (s : Sto) (f : Sto → Res β) : oT w (some s) f = f s := rfl
/-! ### slots -/
def isBo (z : Sl) : Bool := match z with | .bo _ => true | _ => false
theorem isBo_fr (d : D) : isBo (.fr d) = false := rfl
theorem isBo_ow (d : D) : isBo (.ow d) = false := rfl
theorem isBo_un : isBo .un = false := rfl
def newS (d : D) : Sl := match d with | .lst _ | .dct _ _ | .ins _ _ _ => .ow d | _ => .fr d
theorem newS_lst (l : List D) : newS (.lst l) = .ow (.lst l) := rfl
theorem newS_dct (k : List (Sum Int Str)) (l : List D) : newS (.dct k l) = .ow (.dct k l) := rfl
theorem newS_ins (c : Str) (k : List Str) (l : List D) : newS (.ins c k l) = .ow (.ins c k l) := rfl
def frzB (o : Option Sl) (i : Nat) (s : Sto) : Option (D × Sto) := match o with | some (.ow d) => some (d, s.set i (.fr d)) | some (.fr d) => some (d, s) | _ => none
theorem frzB_ow (d : D) (i : Nat) (s : Sto) : frzB (some (.ow d)) i s = some (d, s.set i (.fr d)) := rfl
theorem frzB_fr (d : D) (i : Nat) (s : Sto) : frzB (some (.fr d)) i s = some (d, s) := rfl
theorem frz_v (d : D) (s : Sto) : frz (.v d) s = some (d, s) := rfl
theorem frz_n (d : D) (s : Sto) : frz (.n d) s = some (d, s) := rfl
theorem frz_b (i : Nat) (s : Sto) : frz (.b i) s = frzB s[i]? i s := by
  unfold frz frzB
  simp only []
  all_goals
    cases s[i]? with
    | none => rfl
    | some z => cases z <;> rfl
def oP {γ δ : Type} (o : Option (γ × Sto)) (f : γ → Sto → Option δ) [Dp f] : Option δ := match o with | some (a, s) => f a s | none => none
theorem oP_some {γ δ : Type} (a : γ) (s : Sto) (f : γ → Sto → Option δ) : oP (some (a, s)) f = f a s := rfl
theorem fzs_nil (s : Sto) : fzs [] s = some ([], s) := rfl
theorem fzs_cons (r : Rv) (rs : List Rv) (s : Sto) : fzs (r :: rs) s = oP (frz r s) fun d s => oP (fzs rs s) fun l s => some (d :: l, s) := by
  rw [fzs]
  unfold oP
  cases frz r s with
  | none => rfl
  | some p =>
    obtain ⟨d, s⟩ := p
    simp only []
    cases fzs rs s <;> rfl
theorem settle_nil (s : Sto) : settle [] s = some ([], s) := rfl
theorem settle_b (i : Nat) (rs : List Rv) (s : Sto) : settle (.b i :: rs) s = oP (frz (.b i) s) fun d s => oP (settle rs s) fun l s => some (.v d :: l, s) := by
  rw [settle]
  unfold oP
  simp only []
  cases frz (.b i) s with
  | none => rfl
  | some p =>
    obtain ⟨d, s⟩ := p
    simp only []
    cases settle rs s <;> rfl
theorem settle_v (d : D) (rs : List Rv) (s : Sto) : settle (.v d :: rs) s = oP (settle rs s) fun l s => some (.v d :: l, s) := by
  rw [settle.eq_3 _ _ _ (fun i z => by cases z)]
  unfold oP
  cases settle rs s <;> rfl
theorem settle_n (d : D) (rs : List Rv) (s : Sto) : settle (.n d :: rs) s = oP (settle rs s) fun l s => some (.n d :: l, s) := by
  rw [settle.eq_3 _ _ _ (fun i z => by cases z)]
  unfold oP
  cases settle rs s <;> rfl
def put2 (s : Sto) (i : Nat) (r : Rv) : Res Unit := match r with
  | .v d => .ok () (s.set i (.fr d))
  | .n d => .ok () (s.set i (newS d))
  | .b j => match frz (.b j) s with
    | some (d, s) => .ok () (s.set i (.fr d))
    | none => .bad "alias of borrowed"
theorem put2_v (s : Sto) (i : Nat) (d : D) : put2 s i (.v d) = .ok () (s.set i (.fr d)) := rfl
theorem put2_n (s : Sto) (i : Nat) (d : D) : put2 s i (.n d) = .ok () (s.set i (newS d)) := rfl
theorem put2_b (s : Sto) (i j : Nat) : put2 s i (.b j) = oS "alias of borrowed" (frz (.b j) s) fun d s => .ok () (s.set i (.fr d)) := by
  unfold put2 oS
  simp only []
  cases frz (.b j) s with
  | none => rfl
  | some p => rfl
def putZ (o : Option Sl) (s : Sto) (i : Nat) (r : Rv) : Res Unit := match o with | none => .bad "no slot" | some z => if isBo z = true then .bad "assign borrowed" else put2 s i r
theorem putZ_at {z : Sl} (h : isBo z = false) (s : Sto) (i : Nat) (r : Rv) : putZ (some z) s i r = put2 s i r := by
  unfold putZ
  simp only [h, Bool.false_eq_true, if_false]
theorem putZ_fr (d : D) (s : Sto) (i : Nat) (r : Rv) : putZ (some (.fr d)) s i r = put2 s i r := rfl
theorem putZ_ow (d : D) (s : Sto) (i : Nat) (r : Rv) : putZ (some (.ow d)) s i r = put2 s i r := rfl
theorem putZ_un (s : Sto) (i : Nat) (r : Rv) : putZ (some .un) s i r = put2 s i r := rfl
theorem putR_unf (s : Sto) (i : Nat) (r : Rv) : putR s i r = putZ s[i]? s i r := by
  unfold putR putZ
  cases s[i]? with
  | none => rfl
  | some z => cases z <;> (unfold put2 isBo; cases r <;> rfl)
def upZ (o : Option Sl) (s : Sto) (i : Nat) (d : D) : Option Sto := match o with | some (.ow _) => some (s.set i (.ow d)) | some (.bo _) => some (s.set i (.bo d)) | _ => none
theorem upZ_ow (x : D) (s : Sto) (i : Nat) (d : D) : upZ (some (.ow x)) s i d = some (s.set i (.ow d)) := rfl
theorem upZ_bo (x : D) (s : Sto) (i : Nat) (d : D) : upZ (some (.bo x)) s i d = some (s.set i (.bo d)) := rfl
theorem upS_unf (s : Sto) (i : Nat) (d : D) : upS s i d = upZ s[i]? s i d := by
  unfold upS upZ
  cases s[i]? with
  | none => rfl
  | some z => cases z <;> rfl
def lendB (o : Option Sl) (i : Nat) (s : Sto) : Option (Lk × Sto) := match o with
    | some (.ow _) => some (.sl i, s)
    | some (.bo _) => some (.sl i, s)
    | some (.fr d) => some (.fr d, s)
    | _ => none
theorem lendB_ow (d : D) (i : Nat) (s : Sto) : lendB (some (.ow d)) i s = some (.sl i, s) := rfl
theorem lendB_bo (d : D) (i : Nat) (s : Sto) : lendB (some (.bo d)) i s = some (.sl i, s) := rfl
theorem lendB_fr (d : D) (i : Nat) (s : Sto) : lendB (some (.fr d)) i s = some (.fr d, s) := rfl
theorem lend1_tb (i : Nat) (s : Sto) : lend1 true (.b i) s = lendB s[i]? i s := by
  unfold lend1 lendB
  simp only []
  all_goals
    cases s[i]? with
    | none => rfl
    | some z => cases z <;> rfl
theorem lend1_tn (d : D) (s : Sto) : lend1 true (.n d) s = some (.tm d, s) := rfl
theorem lend1_tv (d : D) (s : Sto) : lend1 true (.v d) s = some (.fr d, s) := rfl
theorem lend1_f (r : Rv) (s : Sto) : lend1 false r s = (frz r s).map fun p => (.fr p.1, p.2) := by cases r <;> rfl
def finZ (o : Option Sl) : Option Sl := match o with | some (.ow d) => some (.bo d) | some (.bo d) => some (.bo d) | _ => none
theorem finZ_ow (d : D) : finZ (some (.ow d)) = some (.bo d) := rfl
theorem finZ_bo (d : D) : finZ (some (.bo d)) = some (.bo d) := rfl
theorem finS_fr (s : Sto) (d : D) : finS s (.fr d) = some (.fr d) := rfl
theorem finS_tm (s : Sto) (d : D) : finS s (.tm d) = some (.bo d) := rfl
theorem finS_sl (s : Sto) (i : Nat) : finS s (.sl i) = finZ s[i]? := by
  unfold finS finZ
  simp only []
  all_goals
    cases s[i]? with
    | none => rfl
    | some z => cases z <;> rfl
def finR (o : Option Sl) (k : Nat) (s : Sto) : CRes := match o with
    | some (.ow d) => .ok (.n d) (s.take k)
    | some (.fr d) => .ok (.v d) (s.take k)
    | _ => .bad "return of what was lent"
theorem finR_ow (d : D) (k : Nat) (s : Sto) : finR (some (.ow d)) k s = .ok (.n d) (s.take k) := rfl
theorem finR_fr (d : D) (k : Nat) (s : Sto) : finR (some (.fr d)) k s = .ok (.v d) (s.take k) := rfl
theorem fin_b (k i : Nat) (s : Sto) : fin k (.ok (.rt (.b i)) s) = finR s[i]? k s := by
  unfold fin finR
  simp only []
  all_goals
    cases s[i]? with
    | none => rfl
    | some z => cases z <;> rfl
def negR (d : D) (s : Sto) : Res Rv := match d with | .int i => .ok (.v (.int (-i))) s | _ => .bad "neg"
theorem negR_int (i : Int) (s : Sto) : negR (.int i) s = .ok (.v (.int (-i))) s := rfl
theorem E_neg (a : Ie) (s : Sto) : evE T C (.neg a) s = bnd (rd (evE T C a s)) fun x s => negR x s := by rw [evE]; rfl
def slkR (d l : D) (k : Nat) (s : Sto) : Res Rv := match l with | .int (.ofNat lo) => opt "slice" (slkD d lo k) s | _ => .bad "slice"
theorem slkR_int (d : D) (lo k : Nat) (s : Sto) : slkR d (.int (lo : Nat)) k s = opt "slice" (slkD d lo k) s := rfl
theorem slkR_1 (d : D) (k : Nat) (s : Sto) : slkR d (.int 1) k s = opt "slice" (slkD d 1 k) s := rfl
theorem slkR_2 (d : D) (k : Nat) (s : Sto) : slkR d (.int 2) k s = opt "slice" (slkD d 2 k) s := rfl
theorem slkR_3 (d : D) (k : Nat) (s : Sto) : slkR d (.int 3) k s = opt "slice" (slkD d 3 k) s := rfl
theorem slkR_4 (d : D) (k : Nat) (s : Sto) : slkR d (.int 4) k s = opt "slice" (slkD d 4 k) s := rfl
theorem slkR_5 (d : D) (k : Nat) (s : Sto) : slkR d (.int 5) k s = opt "slice" (slkD d 5 k) s := rfl
theorem E_slk (a lo : Ie) (k : Nat) (s : Sto) : evE T C (.slk a lo k) s = bnd (evE T C a s) fun x s => bnd (evE T C lo s) fun y s => bnd (opt "peek" (peek x s) s) fun d s => bnd (opt "peek" (peek y s) s) fun l s => slkR d l k s := by rw [evE]; rfl
def flP (T : Tab) (i : Nat) (f : Str) (v : D) (s : Sto) (o : Option D) : Option Sto := match o with
  | some (.ins c ns l) => if T.fds.contains (c, f) && decide (ns.length < 900) then upS s i (.ins c (putN ns f) (putD ns l f v)) else none
  | _ => none
theorem flP_ins (i : Nat) (f : Str) (v : D) (s : Sto) (c : Str) (ns : List Str) (l : List D) : flP T i f v s (some (.ins c ns l)) = if T.fds.contains (c, f) && decide (ns.length < 900) then upS s i (.ins c (putN ns f) (putD ns l f v)) else none := rfl
theorem putFl_unf (i : Nat) (f : Str) (v : D) (s : Sto) : putFl T i f v s = flP T i f v s ((s[i]?).bind Sl.con) := rfl
theorem mulD_def (x y : D) : bop .mul x y = mulD x y := rfl
theorem E_var (i : Nat) (s : Sto) : evE T C (.var i) s = varR s[i]? i s := by
  rw [evE.eq_1]
  unfold varR
  cases s[i]? with
  | none => rfl
  | some z => cases z <;> rfl
theorem m_tst {γ : Type} {o : Option Bool} {a b c : γ} : (match o with | some true => a | some false => b | none => c) = tst o a b c := rfl
theorem E_and (a b : Ie) (s : Sto) : evE T C (.and a b) s = bnd (evE T C a s) fun x s => bnd (opt "peek" (peek x s) s) fun d s => tst (truth d) (evE T C b s) (.ok x s) (.bad "truth") := by rw [evE]; rfl
theorem E_or (a b : Ie) (s : Sto) : evE T C (.or a b) s = bnd (evE T C a s) fun x s => bnd (opt "peek" (peek x s) s) fun d s => tst (truth d) (.ok x s) (evE T C b s) (.bad "truth") := by rw [evE]; rfl
theorem E_ite (c a b : Ie) (s : Sto) : evE T C (.ite c a b) s = bnd (rd (evE T C c s)) fun x s => tst (truth x) (evE T C a s) (evE T C b s) (.bad "truth") := by rw [evE]; rfl
theorem E_lst (as : Ia) (s : Sto) : evE T C (.lst as) s = bnd (evA T C as s) fun rs s => oS "freeze" (fzs rs s) fun l s => if l.length ≤ LIM then .ok (.n (.lst l)) s else .bad "long" := by
  rw [evE]
  congr 1
  funext rs s
  unfold oS
  cases fzs rs s with
  | none => rfl
  | some p => rfl
theorem E_tup (as : Ia) (s : Sto) : evE T C (.tup as) s = bnd (evA T C as s) fun rs s => oS "freeze" (fzs rs s) fun l s => if l.length ≤ LIM then .ok (.v (.tup l)) s else .bad "long" := by
  rw [evE]
  congr 1
  funext rs s
  unfold oS
  cases fzs rs s with
  | none => rfl
  | some p => rfl
/-- methods of built-in types -/
theorem E_mtm (m : Mt) (o : Ie) (as : Ia) (s : Sto) (h : isMut m = true) : evE T C (.mt m o as) s = bnd (evE T C o s) fun x s => bnd (opt "peek" (peek x s) s) fun d s => if mtOk m d = true then bnd (evA T C as s) fun rs s => mutM m x rs s else .bad "method: its type" := by rw [evE, h]
theorem E_mtr (m : Mt) (o : Ie) (as : Ia) (s : Sto) (h : isMut m = false) : evE T C (.mt m o as) s = bnd (evE T C o s) fun x s => bnd (opt "peek" (peek x s) s) fun d s => if mtOk m d = true then bnd (evA T C as s) fun rs s => bnd (opt "peek" (peek x s) s) fun d s => bnd (opt "peek" (rds rs s) s) fun ds s => opt "method" (mt m d ds) s else .bad "method: its type" := by rw [evE, h]
theorem E_app (o : Ie) (as : Ia) (s : Sto) : evE T C (.mt .append o as) s = bnd (evE T C o s) fun x s => bnd (opt "peek" (peek x s) s) fun d s => if mtOk .append d = true then bnd (evA T C as s) fun rs s => mutM .append x rs s else .bad "method: its type" := E_mtm .append o as s rfl
theorem E_pop (o : Ie) (as : Ia) (s : Sto) : evE T C (.mt .pop o as) s = bnd (evE T C o s) fun x s => bnd (opt "peek" (peek x s) s) fun d s => if mtOk .pop d = true then bnd (evA T C as s) fun rs s => mutM .pop x rs s else .bad "method: its type" := E_mtm .pop o as s rfl
theorem E_count (o : Ie) (as : Ia) (s : Sto) : evE T C (.mt .count o as) s = bnd (evE T C o s) fun x s => bnd (opt "peek" (peek x s) s) fun d s => if mtOk .count d = true then bnd (evA T C as s) fun rs s => bnd (opt "peek" (peek x s) s) fun d s => bnd (opt "peek" (rds rs s) s) fun ds s => opt "method" (mt .count d ds) s else .bad "method: its type" := E_mtr .count o as s rfl
theorem E_get (o : Ie) (as : Ia) (s : Sto) : evE T C (.mt .get o as) s = bnd (evE T C o s) fun x s => bnd (opt "peek" (peek x s) s) fun d s => if mtOk .get d = true then bnd (evA T C as s) fun rs s => bnd (opt "peek" (peek x s) s) fun d s => bnd (opt "peek" (rds rs s) s) fun ds s => opt "method" (mt .get d ds) s else .bad "method: its type" := E_mtr .get o as s rfl
theorem E_index (o : Ie) (as : Ia) (s : Sto) : evE T C (.mt .index o as) s = bnd (evE T C o s) fun x s => bnd (opt "peek" (peek x s) s) fun d s => if mtOk .index d = true then bnd (evA T C as s) fun rs s => bnd (opt "peek" (peek x s) s) fun d s => bnd (opt "peek" (rds rs s) s) fun ds s => opt "method" (mt .index d ds) s else .bad "method: its type" := E_mtr .index o as s rfl
theorem E_join (o : Ie) (as : Ia) (s : Sto) : evE T C (.mt .join o as) s = bnd (evE T C o s) fun x s => bnd (opt "peek" (peek x s) s) fun d s => if mtOk .join d = true then bnd (evA T C as s) fun rs s => bnd (opt "peek" (peek x s) s) fun d s => bnd (opt "peek" (rds rs s) s) fun ds s => opt "method" (mt .join d ds) s else .bad "method: its type" := E_mtr .join o as s rfl
theorem E_split (o : Ie) (as : Ia) (s : Sto) : evE T C (.mt .split o as) s = bnd (evE T C o s) fun x s => bnd (opt "peek" (peek x s) s) fun d s => if mtOk .split d = true then bnd (evA T C as s) fun rs s => bnd (opt "peek" (peek x s) s) fun d s => bnd (opt "peek" (rds rs s) s) fun ds s => opt "method" (mt .split d ds) s else .bad "method: its type" := E_mtr .split o as s rfl
def mut3 (i : Nat) (s : Sto) (o : Option (D × D)) : Res Rv := match o with | some (v, d') => (match upS s i d' with | some s => .ok (.v v) s | none => .bad "slot") | none => .bad "method"
theorem mut3_some (i : Nat) (s : Sto) (v d' : D) : mut3 i s (some (v, d')) = oT "slot" (upS s i d') fun s => .ok (.v v) s := by
  unfold mut3 oT
  cases h : upS s i d' <;> simp [h]
theorem mutM_b (m : Mt) (i : Nat) (rs : List Rv) (s : Sto) : mutM m (.b i) rs s = oS "freeze" (fzs rs s) fun ds s => bnd (opt "peek" (peek (.b i) s) s) fun d s => mut3 i s (mtM m d ds) := by
  unfold mutM oS mut3
  cases fzs rs s with
  | none => rfl
  | some p =>
    obtain ⟨ds, s⟩ := p
    show (match peek (.b i) s with | some d => _ | none => Res.bad "peek") = bnd (opt "peek" (peek (.b i) s) s) _
    cases peek (.b i) s <;> rfl
/-- what a for walks -/
def itm (d : D) (s : Sto) : Res (List D) := match d with
    | .tup l => .ok l s
    | .lst l => .ok l s
    | .scr l => .ok l s
    | .str z => .ok (z.cps.toList.map fun c => .str ⟨#[c]⟩) s
    | _ => .bad "iter"
theorem itm_tup (l : List D) (s : Sto) : itm (.tup l) s = .ok l s := rfl
theorem itm_lst (l : List D) (s : Sto) : itm (.lst l) s = .ok l s := rfl
theorem itm_scr (l : List D) (s : Sto) : itm (.scr l) s = .ok l s := rfl
theorem I_e (a : Ie) (s : Sto) : evI T C (.e a) s = bnd (fz (evE T C a s)) fun d s => itm d s := by
  rw [evI.eq_1]
  congr 1
def enm (ds : List D) (s : Sto) : Res (List D) := match ds with | [d] => opt "enumerate" ((items? d).map enumL) s | _ => .bad "enumerate"
theorem enm_1 (d : D) (s : Sto) : enm [d] s = opt "enumerate" ((items? d).map enumL) s := rfl
theorem I_en (as : Ia) (s : Sto) : evI T C (.en as) s = bnd (evA T C as s) fun rs s => oS "enumerate" (fzs rs s) fun ds s => enm ds s := by
  rw [evI.eq_3]
  congr 1
  funext rs s
  unfold oS enm
  cases fzs rs s with
  | none => rfl
  | some p =>
    obtain ⟨ds, s⟩ := p
    match ds with
    | [] => rfl
    | [d] => rfl
    | _ :: _ :: _ => rfl
theorem I_zp (as : Ia) (s : Sto) : evI T C (.zp as) s = bnd (evA T C as s) fun rs s => oS "zip" (fzs rs s) fun ds s => opt "zip" (zipD ds) s := by
  rw [evI.eq_4]
  congr 1
  funext rs s
  unfold oS
  cases fzs rs s with
  | none => rfl
  | some p => rfl
theorem Cs_cons (e : Ie) (r : Ia) (s : Sto) : evCs T C (.cons e r) s = bnd (rd (evE T C e s)) fun d s => tst (truth d) (evCs T C r s) (.ok false s) (.bad "truth") := by rw [evCs]; rfl
theorem S_if (c : Ie) (t e : Ib) (s : Sto) : evS T C W (.iff c t e) s = bnd (rd (evE T C c s)) fun d s => tst (truth d) (evB T C W t s) (evB T C W e s) (.bad "truth") := by rw [evS]; rfl
def unp (T : Tab) (C : Str → List Sl → CRes) (ts : List T1) (d : D) (s : Sto) : Res Fl := match d with | .tup l => if l.length = ts.length then bnd (putTs T C ts l s) fun _ s => .ok .nx s else .bad "unpack" | .lst l => if l.length = ts.length then bnd (putTs T C ts l s) fun _ s => .ok .nx s else .bad "unpack" | _ => .bad "unpack"
theorem unp_tup (ts : List T1) (l : List D) (s : Sto) : unp T C ts (.tup l) s = if l.length = ts.length then bnd (putTs T C ts l s) fun _ s => .ok .nx s else .bad "unpack" := rfl
theorem unp_lst (ts : List T1) (l : List D) (s : Sto) : unp T C ts (.lst l) s = if l.length = ts.length then bnd (putTs T C ts l s) fun _ s => .ok .nx s else .bad "unpack" := rfl
theorem S_tr (b : Ib) (hs : Ih) (s : Sto) : evS T C W (.tr b hs) s = noEx (evB T C W b s) := by rw [evS]
theorem S_unp (ts : List T1) (e : Ie) (s : Sto) : evS T C W (.unp ts e) s = bnd (fz (evE T C e s)) fun d s => unp T C ts d s := by
  rw [evS.eq_2]
  congr 1
theorem S_par (ts : List T1) (as : Ia) (s : Sto) : evS T C W (.par ts as) s = bnd (evA T C as s) fun rs s => oS "freeze" (fzs rs s) fun l s => if l.length = ts.length ∧ l.length ≤ LIM then bnd (putTs T C ts l s) fun _ s => .ok .nx s else .bad "unpack" := by
  rw [evS.eq_3]
  congr 1
  funext rs s
  unfold oS
  cases fzs rs s with
  | none => rfl
  | some p => rfl
theorem S_parN (is : List Nat) (as : Ia) (s : Sto) : evS T C W (.parN is as) s = bnd (evA T C as s) fun rs s => oS "freeze" (settle rs s) fun rs s => if rs.length = is.length ∧ rs.length ≤ LIM then bnd (putNs is rs s) fun _ s => .ok .nx s else .bad "unpack" := by
  rw [evS.eq_4]
  congr 1
  funext rs s
  unfold oS
  cases settle rs s with
  | none => rfl
  | some p => rfl
theorem S_fld (i : Nat) (f : Str) (e : Ie) (s : Sto) : evS T C W (.fld i f e) s = bnd (fz (evE T C e s)) fun v s => oT "field of what is not one's own" (putFl T i f v s) fun s => .ok .nx s := by
  rw [evS.eq_5]
  congr 1
theorem B_cons (x : Is) (b : Ib) (s : Sto) : evB T C W (.cons x b) s = bnd (evS T C W x s) fun f s => nxt f (evB T C W b s) s := by
  rw [evB.eq_2]
  congr 1
theorem putB_unf (i : Nat) (k : D) (r : Rv) (s : Sto) : putB i k r s = oS "freeze" (frz r s) fun v s => oT "store" (putIx i k v s) fun s => .ok () s := by
  unfold putB oS oT
  cases frz r s with
  | none => rfl
  | some p =>
    obtain ⟨v, s⟩ := p
    cases h : putIx i k v s <;> simp [h]
theorem frzR_unf (r : Rv) (s : Sto) : frzR r s = oS "freeze" (frz r s) fun d s => .ok d s := by
  unfold frzR oS
  cases frz r s with
  | none => rfl
  | some p => rfl
theorem putT_nm (i : Nat) (r : Rv) (s : Sto) : putT T C (.nm i) r s = putR s i r := rfl
theorem putT_ix (i : Nat) (e : Ie) (r : Rv) (s : Sto) : putT T C (.ix i e) r s = if isSet s[i]? = true then bnd (evE T C e s) fun k s => bnd (opt "peek" (peek k s) s) fun k s => putB i k r s else .bad "unbound" := rfl
theorem isSet_fr (d : D) : isSet (some (.fr d)) = true := rfl
theorem isSet_ow (d : D) : isSet (some (.ow d)) = true := rfl
theorem isSet_bo (d : D) : isSet (some (.bo d)) = true := rfl
/-! ### calls -/
def bk (ks : List Lk) (s : Sto) (x : CRes) : Res Rv := match x with
      | .bad w => .bad w
      | .ex e outs => (match takeBack ks outs s with | some s => .ex e s | none => .bad "take back")
      | .ok r outs => (match takeBack ks outs s with | some s => .ok r s | none => .bad "take back")
theorem bk_ok (ks : List Lk) (s : Sto) (r : Rv) (outs : List Sl) : bk ks s (.ok r outs) = oT "take back" (takeBack ks outs s) fun s => .ok r s := by
  unfold bk oT
  cases h : takeBack ks outs s <;> simp [h]
def ln (C : Str → List Sl → CRes) (f : Str) (o : Option (List Lk × List Sl × Sto)) : Res Rv := match o with
    | none => .bad ("lend " ++ f.toString)
    | some (ks, sl, s) => bk ks s (C f sl)
theorem ln_some (f : Str) (ks : List Lk) (sl : List Sl) (s : Sto) : ln C f (some (ks, sl, s)) = bk ks s (C f sl) := rfl
def cf (C : Str → List Sl → CRes) (f : Str) (rs : List Rv) (s : Sto) (o : Option FD) : Res Rv := match o with
  | none => .bad ("no function " ++ f.toString)
  | some fd => ln C f (lendAll fd.io rs s)
theorem cf_some (f : Str) (rs : List Rv) (s : Sto) (fd : FD) : cf C f rs s (some fd) = ln C f (lendAll fd.io rs s) := rfl
theorem callF_unf (f : Str) (rs : List Rv) (s : Sto) : callF T C f rs s = cf C f rs s (fdOf T f) := by
  unfold callF cf ln bk
  cases fdOf T f with
  | none => rfl
  | some fd =>
    cases h : lendAll fd.io rs s with
    | none => simp [h]
    | some p =>
      obtain ⟨ks, sl, s'⟩ := p
      simp only [h]
      all_goals cases C f sl <;> rfl
def bkI (ks : List Lk) (s : Sto) (x : CRes) : Res Rv := match x with
      | .bad w => .bad w
      | .ex e (_ :: outs) => (match takeBack ks outs s with | some s => .ex e s | none => .bad "take back")
      | .ok (.v .non) (.bo d :: outs) => (match takeBack ks outs s with | some s => .ok (.n d) s | none => .bad "take back")
      | _ => .bad "init"
theorem bkI_ok (ks : List Lk) (s : Sto) (d : D) (outs : List Sl) : bkI ks s (.ok (.v .non) (.bo d :: outs)) = oT "take back" (takeBack ks outs s) fun s => .ok (.n d) s := by
  unfold bkI oT
  cases h : takeBack ks outs s <;> simp [h]
def lnI (C : Str → List Sl → CRes) (c : Str) (o : Option (List Lk × List Sl × Sto)) : Res Rv := match o with
    | none => .bad "lend"
    | some (ks, sl, s) => bkI ks s (C (c ++ ".__init__") (.bo (.ins c [] []) :: sl))
theorem lnI_some (c : Str) (ks : List Lk) (sl : List Sl) (s : Sto) : lnI C c (some (ks, sl, s)) = bkI ks s (C (c ++ ".__init__") (.bo (.ins c [] []) :: sl)) := rfl
theorem mkI_at {c : Str} {rs : List Rv} {s : Sto} {fd : FD} (h : fdOf T (c ++ ".__init__") = some fd) (hc : T.cls.contains c = true) : mkI T C c rs s = lnI C c (lendAll fd.io.tail rs s) := by
  unfold mkI lnI bkI
  rw [h]
  simp only [hc, if_true]
  all_goals
    cases h2 : lendAll fd.io.tail rs s with
    | none => rfl
    | some p =>
      obtain ⟨ks, sl, s'⟩ := p
      simp only []
      cases C (c ++ ".__init__") (.bo (.ins c [] []) :: sl) <;> rfl
def lA (o : Option (List Lk × Sto)) : Option (List Lk × List Sl × Sto) := match o with
  | some (ks, s) => if nodup (lentIx ks) = true then (finAll s ks).map fun sl => (ks, sl, s) else none
  | none => none
theorem lA_some (ks : List Lk) (s : Sto) : lA (some (ks, s)) = if nodup (lentIx ks) = true then (finAll s ks).map fun sl => (ks, sl, s) else none := rfl
theorem lendAll_unf (io : List Bool) (rs : List Rv) (s : Sto) : lendAll io rs s = lA (lend io rs s) := by
  unfold lendAll lA
  cases lend io rs s <;> rfl
/-! ### numbers -/
theorem addD_int (a b : Int) : addD (.int a) (.int b) = some (.v (.int (a + b))) := rfl
theorem addD_lst (a b : List D) (h : a.length + b.length ≤ LIM) : addD (.lst a) (.lst b) = some (.n (.lst (a ++ b))) := by unfold addD; simp only [h, if_true]
theorem addD_tup (a b : List D) (h : a.length + b.length ≤ LIM) : addD (.tup a) (.tup b) = some (.v (.tup (a ++ b))) := by unfold addD; simp only [h, if_true]
theorem eq_int (a b : Int) : eqD (.int a) (.int b) = some (a == b) := rfl
theorem eq_bl (a b : Bool) : eqD (.bl a) (.bl b) = some (a == b) := rfl
theorem eqT_int (a b : Int) : eqT (.int a) (.int b) = some (a == b) := rfl
theorem eqT_bl (a b : Bool) : eqT (.bl a) (.bl b) = some (a == b) := rfl
theorem eqT_str (a b : Str) : eqT (.str a) (.str b) = some (a == b) := rfl
theorem eqT_tnil (l : List D) : eqT (.tup l) (.tup []) = some l.isEmpty := rfl
theorem bits_lt {x : Int} {k : Nat} (h : x.natAbs < 2 ^ k) (hk : 0 < k) : bits x < k := by
  unfold bits
  by_cases h0 : x.natAbs = 0
  · rw [h0]; simpa using hk
  · exact (Nat.log2_lt h0).mpr h
theorem mul_ok {a b : Int} {k l : Nat} (ha : a.natAbs < 2 ^ k) (hb : b.natAbs < 2 ^ l) (h : k + l < 1000000) : mulD (.int a) (.int b) = some (.v (.int (a * b))) := by
  unfold mulD
  have h1 : bits a ≤ k := by
    by_cases hk : 0 < k
    · exact Nat.le_of_lt (bits_lt ha hk)
    · have : k = 0 := by omega
      subst this
      have : a.natAbs = 0 := by omega
      unfold bits; rw [this]; simp
  have h2 : bits b ≤ l := by
    by_cases hk : 0 < l
    · exact Nat.le_of_lt (bits_lt hb hk)
    · have : l = 0 := by omega
      subst this
      have : b.natAbs = 0 := by omega
      unfold bits; rw [this]; simp
  simp only [show bits a + bits b < 1000000 by omega, if_true]
theorem atIx_nat (l : List D) (i : Int) : atIx l i = if 0 ≤ i then l[i.toNat]? else if 0 ≤ i + l.length then l[(i + l.length).toNat]? else none := rfl
theorem ints_map (l : List Int) : ints? (l.map .int) = some l := by
  induction l with
  | nil => rfl
  | cons a l ih => rw [List.map_cons, ints?, ih]; rfl
/-! ### loops -/
def forL2 (t : List Nat) (body : Sto → Res Fl) [Dp body] (l : List D) (s : Sto) : Res Fl := forL t body l s
theorem forL_is (t : List Nat) (body : Sto → Res Fl) (l : List D) (s : Sto) : forL t body l s = forL2 t body l s := rfl
theorem fl2 {t : List Nat} {body : Sto → Res Fl} {l : List D} {s : Sto} {r : Res Fl} (h : forL t body l s = r) : forL2 t body l s = r := h
def whileN2 (test : Sto → Res D) (body : Sto → Res Fl) [Dp test] [Dp body] (k : Nat) (s : Sto) : Res Fl := whileN test body k s
theorem whileN_is (test : Sto → Res D) (body : Sto → Res Fl) (k : Nat) (s : Sto) : whileN test body k s = whileN2 test body k s := rfl
theorem wl2 {test : Sto → Res D} {body : Sto → Res Fl} {k : Nat} {s : Sto} {r : Res Fl} (h : whileN test body k s = r) : whileN2 test body k s = r := h
def lcL2 (t : List Nat) (cs : Sto → Res Bool) (f : Sto → List D → Res (List D)) [Dp cs] [Dp f] (l : List D) (s : Sto) (a : List D) : Res (List D) := lcL t cs f l s a
theorem lcL_is (t : List Nat) (cs : Sto → Res Bool) (f : Sto → List D → Res (List D)) (l : List D) (s : Sto) (a : List D) : lcL t cs f l s a = lcL2 t cs f l s a := rfl
theorem ll2 {t : List Nat} {cs : Sto → Res Bool} {f : Sto → List D → Res (List D)} {l : List D} {s : Sto} {a : List D} {r : Res (List D)} (h : lcL t cs f l s a = r) : lcL2 t cs f l s a = r := h
theorem forL_ok {t : List Nat} {body : Sto → Res Fl} (I : Nat → Sto → Prop) : ∀ {l : List D} {s : Sto}, I 0 s → (∀ i d s, l[i]? = some d → I i s → ∃ s', (bnd (putTg s t d) fun _ s => body s) = .ok .nx s' ∧ I (i + 1) s') → ∃ s', forL t body l s = .ok .nx s' ∧ I l.length s'
  | [], s, h0, hs => ⟨s, rfl, h0⟩
  | d :: l, s, h0, hs => by
    obtain ⟨s1, e1, h1⟩ := hs 0 d s rfl h0
    obtain ⟨s2, e2, h2⟩ := forL_ok (fun i => I (i + 1)) (l := l) (s := s1) h1 fun i d s hd hi => hs (i + 1) d s (by simpa using hd) hi
    refine ⟨s2, ?_, h2⟩
    unfold forL
    revert e1
    cases putTg s t d with
    | bad w => exact fun z => by cases z
    | ex e s => exact fun z => by cases z
    | ok u s3 =>
      intro e1
      have e1 : body s3 = .ok .nx s1 := e1
      show bnd (body s3) _ = _
      rw [e1]
      exact e2
theorem forL_step {t : List Nat} {body : Sto → Res Fl} {d : D} {l : List D} {s s1 : Sto} (h : (bnd (putTg s t d) fun _ s => body s) = .ok .nx s1) : forL t body (d :: l) s = forL t body l s1 := by
  conv => lhs; unfold forL
  revert h
  cases putTg s t d with
  | bad w => exact fun z => by cases z
  | ex e s => exact fun z => by cases z
  | ok u s3 =>
    intro e1
    have e1 : body s3 = .ok .nx s1 := e1
    show bnd (body s3) _ = _
    rw [e1]
    rfl
theorem forL_nil {t : List Nat} {body : Sto → Res Fl} {s : Sto} : forL t body [] s = .ok .nx s := rfl
theorem rangeD1 (k : Int) (h1 : -(2 ^ 62) ≤ k) (h2 : k < 2 ^ 62) : rangeD 1 [.int k] = some (rangeL 0 1 k.toNat) := by
  unfold rangeD
  simp only [h1, h2, and_self, if_true]
theorem rangeL_nil (a c : Int) : rangeL a c 0 = [] := rfl
theorem rangeL_get {a c : Int} {n i : Nat} {d : D} (h : (rangeL a c n)[i]? = some d) : i < n ∧ d = .int (a + i * c) := by
  unfold rangeL at h
  rw [List.getElem?_map] at h
  obtain ⟨k, hk, rfl⟩ := Option.map_eq_some_iff.mp h
  rw [List.getElem?_eq_some_iff] at hk
  obtain ⟨hl, rfl⟩ := hk
  simp at hl
  exact ⟨hl, by simp⟩
theorem rangeL_len (a c : Int) (n : Nat) : (rangeL a c n).length = n := by simp [rangeL]
theorem whileN_s (test : Sto → Res D) (body : Sto → Res Fl) (k : Nat) (s : Sto) : whileN test body (k + 1) s = bnd (test s) fun d s => tst (truth d) (bnd (body s) fun f s => next2 f s (whileN test body k s)) (.ok .nx s) (.bad "truth") := by rw [whileN]; rfl
/-- a while whose measure falls -/
theorem whileN_ok {test : Sto → Res D} {body : Sto → Res Fl} (I : Sto → Prop) (m : Sto → Nat) (Q : Sto → Prop) : ∀ {k : Nat} {s : Sto}, I s → m s < k → (∀ s, I s → (∃ s', test s = .ok (.bl false) s' ∧ Q s') ∨ ∃ s' s'', test s = .ok (.bl true) s' ∧ body s' = .ok .nx s'' ∧ I s'' ∧ m s'' < m s) → ∃ s', whileN test body k s = .ok .nx s' ∧ Q s'
  | 0, s, _, h, _ => by omega
  | k + 1, s, hi, hm, hs => by
    rcases hs s hi with ⟨s', e1, q⟩ | ⟨s', s'', e1, e2, h2, h3⟩
    · refine ⟨s', ?_, q⟩
      unfold whileN
      rw [e1]
      rfl
    · obtain ⟨s3, e3, q⟩ := whileN_ok I m Q h2 (by omega : m s'' < k) hs
      refine ⟨s3, ?_, q⟩
      unfold whileN
      rw [e1]
      show bnd (body s') _ = _
      rw [e2]
      exact e3
/-- the turns of a comprehension without conditions: the names stay as they were forgotten -/
theorem lcL_ok {t : List Nat} {cs : Sto → Res Bool} {f : Sto → List D → Res (List D)} (I : Nat → Sto → List D → Prop) : ∀ {l : List D} {s : Sto} {acc : List D}, I 0 s acc → (∀ i d s acc, l[i]? = some d → I i s acc → ∃ s1 s2 s' acc', putTg (wipe s t) t d = .ok () s1 ∧ cs s1 = .ok true s2 ∧ f s2 acc = .ok acc' s' ∧ I (i + 1) s' acc') →
    ∃ s' acc', lcL t cs f l s acc = .ok acc' s' ∧ I l.length s' acc'
  | [], s, acc, h0, hs => ⟨s, acc, rfl, h0⟩
  | d :: l, s, acc, h0, hs => by
    obtain ⟨s1, s2, s3, acc3, e1, e2, e3, h1⟩ := hs 0 d s acc rfl h0
    obtain ⟨s4, acc4, e4, h4⟩ := lcL_ok (fun i => I (i + 1)) (l := l) (s := s3) (acc := acc3) h1 fun i d s acc hd hi => hs (i + 1) d s acc (by simpa using hd) hi
    refine ⟨s4, acc4, ?_, h4⟩
    unfold lcL
    rw [e1]
    show bnd (cs s1) _ = _
    rw [e2]
    show (if true = true then bnd (f s2 acc) fun acc s => lcL t cs f l s acc else lcL t cs f l s2 acc) = _
    rw [if_pos rfl, e3]
    exact e4
end
end Wd.V
-- Vb
set_option linter.all false
set_option maxRecDepth 100000
set_option maxHeartbeats 1000000
set_option Elab.async false
/-! The rules, bundled. -/
namespace Wd.V
open PySem
theorem ev0 : type_of% (And.intro @evB.eq_1 (And.intro @B_cons (And.intro @evS.eq_1 (And.intro @S_unp (And.intro @unp_tup (And.intro @S_par (And.intro @S_parN (And.intro @S_fld (And.intro @evS.eq_6 (And.intro @evS.eq_7 (And.intro @evS.eq_8 (And.intro @S_if (And.intro @evS.eq_10 (And.intro @evS.eq_11 (And.intro @evS.eq_12 (And.intro @evS.eq_13 (And.intro @evS.eq_14 (And.intro @evS.eq_15 (And.intro @evS.eq_16 (And.intro @E_var (And.intro @varR_fr (And.intro @varR_ow (And.intro @varR_bo (And.intro @evE.eq_2 (@evE.eq_3))))))))))))))))))))))))) :=
  And.intro @evB.eq_1 (And.intro @B_cons (And.intro @evS.eq_1 (And.intro @S_unp (And.intro @unp_tup (And.intro @S_par (And.intro @S_parN (And.intro @S_fld (And.intro @evS.eq_6 (And.intro @evS.eq_7 (And.intro @evS.eq_8 (And.intro @S_if (And.intro @evS.eq_10 (And.intro @evS.eq_11 (And.intro @evS.eq_12 (And.intro @evS.eq_13 (And.intro @evS.eq_14 (And.intro @evS.eq_15 (And.intro @evS.eq_16 (And.intro @E_var (And.intro @varR_fr (And.intro @varR_ow (And.intro @varR_bo (And.intro @evE.eq_2 (@evE.eq_3))))))))))))))))))))))))
theorem ev1 : type_of% (And.intro @E_neg (And.intro @negR_int (And.intro @evE.eq_5 (And.intro @E_and (And.intro @E_or (And.intro @evE.eq_8 (And.intro @evE.eq_9 (And.intro @E_ite (And.intro @evE.eq_11 (And.intro @evE.eq_12 (And.intro @evE.eq_13 (And.intro @evE.eq_14 (And.intro @evE.eq_15 (And.intro @evE.eq_16 (And.intro @evE.eq_17 (And.intro @E_app (And.intro @E_pop (And.intro @E_count (And.intro @E_get (And.intro @E_index (And.intro @E_join (And.intro @E_split (And.intro @evE.eq_19 (And.intro @evE.eq_20 (@evE.eq_21))))))))))))))))))))))))) :=
  And.intro @E_neg (And.intro @negR_int (And.intro @evE.eq_5 (And.intro @E_and (And.intro @E_or (And.intro @evE.eq_8 (And.intro @evE.eq_9 (And.intro @E_ite (And.intro @evE.eq_11 (And.intro @evE.eq_12 (And.intro @evE.eq_13 (And.intro @evE.eq_14 (And.intro @evE.eq_15 (And.intro @evE.eq_16 (And.intro @evE.eq_17 (And.intro @E_app (And.intro @E_pop (And.intro @E_count (And.intro @E_get (And.intro @E_index (And.intro @E_join (And.intro @E_split (And.intro @evE.eq_19 (And.intro @evE.eq_20 (@evE.eq_21))))))))))))))))))))))))
theorem ev2 : type_of% (And.intro @E_slk (And.intro @slkR_int (And.intro @slkR_1 (And.intro @slkR_2 (And.intro @slkR_3 (And.intro @slkR_4 (And.intro @slkR_5 (And.intro @E_lst (And.intro @E_tup (And.intro @evE.eq_25 (And.intro @evE.eq_26 (And.intro @evE.eq_27 (And.intro @evE.eq_28 (And.intro @evA.eq_1 (And.intro @evA.eq_2 (And.intro @evA.eq_3 (And.intro @I_e (And.intro @itm_tup (And.intro @itm_lst (And.intro @itm_scr (And.intro @evI.eq_2 (And.intro @I_en (And.intro @enm_1 (And.intro @I_zp (@evCs.eq_1))))))))))))))))))))))))) :=
  And.intro @E_slk (And.intro @slkR_int (And.intro @slkR_1 (And.intro @slkR_2 (And.intro @slkR_3 (And.intro @slkR_4 (And.intro @slkR_5 (And.intro @E_lst (And.intro @E_tup (And.intro @evE.eq_25 (And.intro @evE.eq_26 (And.intro @evE.eq_27 (And.intro @evE.eq_28 (And.intro @evA.eq_1 (And.intro @evA.eq_2 (And.intro @evA.eq_3 (And.intro @I_e (And.intro @itm_tup (And.intro @itm_lst (And.intro @itm_scr (And.intro @evI.eq_2 (And.intro @I_en (And.intro @enm_1 (And.intro @I_zp (@evCs.eq_1))))))))))))))))))))))))
theorem ev3 : type_of% (And.intro @Cs_cons (And.intro @bnd2_ok (And.intro @oS_some (And.intro @oT_some (And.intro @tst_t (And.intro @tst_f (And.intro @nxt_nx (And.intro @nxt_rt (And.intro @nxt_bk (And.intro @opt_some (And.intro @opt_none (And.intro @peek_v (And.intro @peek_n (And.intro @peek_b (And.intro @sl_fr (And.intro @sl_ow (And.intro @sl_bo (And.intro @callF_unf (And.intro @cf_some (And.intro @ln_some (And.intro @bk_ok (And.intro @lnI_some (And.intro @bkI_ok (And.intro @powD.eq_1 (@powD.eq_2))))))))))))))))))))))))) :=
  And.intro @Cs_cons (And.intro @bnd2_ok (And.intro @oS_some (And.intro @oT_some (And.intro @tst_t (And.intro @tst_f (And.intro @nxt_nx (And.intro @nxt_rt (And.intro @nxt_bk (And.intro @opt_some (And.intro @opt_none (And.intro @peek_v (And.intro @peek_n (And.intro @peek_b (And.intro @sl_fr (And.intro @sl_ow (And.intro @sl_bo (And.intro @callF_unf (And.intro @cf_some (And.intro @ln_some (And.intro @bk_ok (And.intro @lnI_some (And.intro @bkI_ok (And.intro @powD.eq_1 (@powD.eq_2))))))))))))))))))))))))
theorem ev4 : type_of% (And.intro @rep0 (And.intro @repS (And.intro @pick.eq_1 (And.intro @pickR.eq_1 (And.intro @pickR.eq_2 (And.intro @pickR.eq_3 (And.intro @pmIx.eq_1 (And.intro @pmIx.eq_2 (And.intro @pmIx.eq_3 (And.intro @nodup.eq_1 (And.intro @nodup.eq_2 (And.intro @lendAll_unf (And.intro @lA_some (And.intro @lend.eq_1 (And.intro @lend.eq_2 (And.intro @lend1_tb (And.intro @lend1_tn (And.intro @lend1_tv (And.intro @lend1_f (And.intro @lendB_ow (And.intro @lendB_bo (And.intro @lendB_fr (And.intro @frz_v (And.intro @frz_n (@frz_b))))))))))))))))))))))))) :=
  And.intro @rep0 (And.intro @repS (And.intro @pick.eq_1 (And.intro @pickR.eq_1 (And.intro @pickR.eq_2 (And.intro @pickR.eq_3 (And.intro @pmIx.eq_1 (And.intro @pmIx.eq_2 (And.intro @pmIx.eq_3 (And.intro @nodup.eq_1 (And.intro @nodup.eq_2 (And.intro @lendAll_unf (And.intro @lA_some (And.intro @lend.eq_1 (And.intro @lend.eq_2 (And.intro @lend1_tb (And.intro @lend1_tn (And.intro @lend1_tv (And.intro @lend1_f (And.intro @lendB_ow (And.intro @lendB_bo (And.intro @lendB_fr (And.intro @frz_v (And.intro @frz_n (@frz_b))))))))))))))))))))))))
theorem ev5 : type_of% (And.intro @frzB_ow (And.intro @frzB_fr (And.intro @fz.eq_1 (And.intro @frzR_unf (And.intro @fzs_nil (And.intro @fzs_cons (And.intro @oP_some (And.intro @settle_nil (And.intro @settle_b (And.intro @settle_v (And.intro @settle_n (And.intro @rds_nil (And.intro @rds_cons (And.intro @finAll.eq_1 (And.intro @finAll.eq_2 (And.intro @finS_fr (And.intro @finS_tm (And.intro @finS_sl (And.intro @finZ_ow (And.intro @finZ_bo (And.intro @takeBack.eq_1 (And.intro @takeBack.eq_2 (And.intro @takeBack.eq_3 (And.intro @takeBack.eq_4 (@takeBack.eq_5))))))))))))))))))))))))) :=
  And.intro @frzB_ow (And.intro @frzB_fr (And.intro @fz.eq_1 (And.intro @frzR_unf (And.intro @fzs_nil (And.intro @fzs_cons (And.intro @oP_some (And.intro @settle_nil (And.intro @settle_b (And.intro @settle_v (And.intro @settle_n (And.intro @rds_nil (And.intro @rds_cons (And.intro @finAll.eq_1 (And.intro @finAll.eq_2 (And.intro @finS_fr (And.intro @finS_tm (And.intro @finS_sl (And.intro @finZ_ow (And.intro @finZ_bo (And.intro @takeBack.eq_1 (And.intro @takeBack.eq_2 (And.intro @takeBack.eq_3 (And.intro @takeBack.eq_4 (@takeBack.eq_5))))))))))))))))))))))))
theorem ev6 : type_of% (And.intro @lentIx.eq_1 (And.intro @lentIx.eq_2 (And.intro @lentIx.eq_3 (And.intro @upS_unf (And.intro @upZ_ow (And.intro @upZ_bo (And.intro @truth.eq_1 (And.intro @truth.eq_2 (And.intro @truth.eq_3 (And.intro @truth.eq_4 (And.intro @truth.eq_5 (And.intro @truth.eq_6 (And.intro @truth.eq_7 (And.intro @truth.eq_8 (And.intro @cop.eq_1 (And.intro @cop.eq_2 (And.intro @cop.eq_3 (And.intro @cop.eq_4 (And.intro @cop.eq_5 (And.intro @cop.eq_6 (And.intro @cop.eq_7 (And.intro @cop.eq_8 (And.intro @cop.eq_9 (And.intro @cop.eq_10 (@leI.eq_1))))))))))))))))))))))))) :=
  And.intro @lentIx.eq_1 (And.intro @lentIx.eq_2 (And.intro @lentIx.eq_3 (And.intro @upS_unf (And.intro @upZ_ow (And.intro @upZ_bo (And.intro @truth.eq_1 (And.intro @truth.eq_2 (And.intro @truth.eq_3 (And.intro @truth.eq_4 (And.intro @truth.eq_5 (And.intro @truth.eq_6 (And.intro @truth.eq_7 (And.intro @truth.eq_8 (And.intro @cop.eq_1 (And.intro @cop.eq_2 (And.intro @cop.eq_3 (And.intro @cop.eq_4 (And.intro @cop.eq_5 (And.intro @cop.eq_6 (And.intro @cop.eq_7 (And.intro @cop.eq_8 (And.intro @cop.eq_9 (And.intro @cop.eq_10 (@leI.eq_1))))))))))))))))))))))))
theorem ev7 : type_of% (And.intro @leI.eq_2 (And.intro @ltD.eq_1 (And.intro @ltD.eq_2 (And.intro @ltD.eq_3 (And.intro @ltD.eq_4 (And.intro @cmpE.eq_1 (And.intro @isnD.eq_1 (And.intro @isnD.eq_2 (And.intro @isnD.eq_3 (And.intro @eq_int (And.intro @eq_bl (And.intro @eqT_int (And.intro @eqT_bl (And.intro @eqT_str (And.intro @eqT_tnil (And.intro @bop.eq_1 (And.intro @bop.eq_2 (And.intro @bop.eq_3 (And.intro @bop.eq_4 (And.intro @bop.eq_5 (And.intro @bop.eq_6 (And.intro @addD_int (And.intro @subD.eq_1 (And.intro @subD.eq_2 (@modD.eq_1))))))))))))))))))))))))) :=
  And.intro @leI.eq_2 (And.intro @ltD.eq_1 (And.intro @ltD.eq_2 (And.intro @ltD.eq_3 (And.intro @ltD.eq_4 (And.intro @cmpE.eq_1 (And.intro @isnD.eq_1 (And.intro @isnD.eq_2 (And.intro @isnD.eq_3 (And.intro @eq_int (And.intro @eq_bl (And.intro @eqT_int (And.intro @eqT_bl (And.intro @eqT_str (And.intro @eqT_tnil (And.intro @bop.eq_1 (And.intro @bop.eq_2 (And.intro @bop.eq_3 (And.intro @bop.eq_4 (And.intro @bop.eq_5 (And.intro @bop.eq_6 (And.intro @addD_int (And.intro @subD.eq_1 (And.intro @subD.eq_2 (@modD.eq_1))))))))))))))))))))))))
theorem ev8 : type_of% (And.intro @modD.eq_2 (And.intro @fdivD.eq_1 (And.intro @fdivD.eq_2 (And.intro @addD_lst (And.intro @addD_tup (And.intro @rd.eq_1 (And.intro @fin_v (And.intro @fin_n (And.intro @fin_b (And.intro @finR_ow (And.intro @finR_fr (And.intro @fin_nx (And.intro @putT_nm (And.intro @putT_ix (And.intro @putR_unf (And.intro @put2_v (And.intro @put2_n (And.intro @put2_b (And.intro @putZ_fr (And.intro @putZ_ow (And.intro @putZ_un (And.intro @newS_lst (And.intro @newS_dct (And.intro @newS_ins (@putTs.eq_1))))))))))))))))))))))))) :=
  And.intro @modD.eq_2 (And.intro @fdivD.eq_1 (And.intro @fdivD.eq_2 (And.intro @addD_lst (And.intro @addD_tup (And.intro @rd.eq_1 (And.intro @fin_v (And.intro @fin_n (And.intro @fin_b (And.intro @finR_ow (And.intro @finR_fr (And.intro @fin_nx (And.intro @putT_nm (And.intro @putT_ix (And.intro @putR_unf (And.intro @put2_v (And.intro @put2_n (And.intro @put2_b (And.intro @putZ_fr (And.intro @putZ_ow (And.intro @putZ_un (And.intro @newS_lst (And.intro @newS_dct (And.intro @newS_ins (@putTs.eq_1))))))))))))))))))))))))
theorem ev9 : type_of% (And.intro @putTs.eq_2 (And.intro @putTs.eq_3 (And.intro @putNs.eq_1 (And.intro @putNs.eq_2 (And.intro @putNs.eq_3 (And.intro @putTg.eq_1 (And.intro @putTg.eq_2 (And.intro @putTup.eq_1 (And.intro @putTup.eq_2 (And.intro @putB_unf (And.intro @putIx.eq_1 (And.intro @setixD.eq_1 (And.intro @setixD.eq_2 (And.intro @setixD.eq_3 (And.intro @ixN.eq_1 (And.intro @ixD.eq_1 (And.intro @ixD.eq_2 (And.intro @ixD.eq_3 (And.intro @ixD.eq_4 (And.intro @ixD.eq_5 (And.intro @ixD.eq_6 (And.intro @ixD.eq_7 (And.intro @ixD.eq_8 (And.intro @ixD.eq_9 (@ixD.eq_10))))))))))))))))))))))))) :=
  And.intro @putTs.eq_2 (And.intro @putTs.eq_3 (And.intro @putNs.eq_1 (And.intro @putNs.eq_2 (And.intro @putNs.eq_3 (And.intro @putTg.eq_1 (And.intro @putTg.eq_2 (And.intro @putTup.eq_1 (And.intro @putTup.eq_2 (And.intro @putB_unf (And.intro @putIx.eq_1 (And.intro @setixD.eq_1 (And.intro @setixD.eq_2 (And.intro @setixD.eq_3 (And.intro @ixN.eq_1 (And.intro @ixD.eq_1 (And.intro @ixD.eq_2 (And.intro @ixD.eq_3 (And.intro @ixD.eq_4 (And.intro @ixD.eq_5 (And.intro @ixD.eq_6 (And.intro @ixD.eq_7 (And.intro @ixD.eq_8 (And.intro @ixD.eq_9 (@ixD.eq_10))))))))))))))))))))))))
theorem ev10 : type_of% (And.intro @atIx_nat (And.intro @bi.eq_1 (And.intro @bi.eq_2 (And.intro @bi.eq_3 (And.intro @bi.eq_4 (And.intro @bi.eq_5 (And.intro @bi.eq_6 (And.intro @bi.eq_7 (And.intro @bi.eq_8 (And.intro @bi.eq_9 (And.intro @bi.eq_10 (And.intro @bi.eq_11 (And.intro @bi.eq_12 (And.intro @bi.eq_13 (And.intro @bi.eq_14 (And.intro @bi.eq_15 (And.intro @bi.eq_16 (And.intro @bi.eq_17 (And.intro @bi.eq_18 (And.intro @intB.eq_1 (And.intro @intB.eq_2 (And.intro @intB.eq_3 (And.intro @absB.eq_1 (And.intro @absB.eq_2 (@lenB.eq_1))))))))))))))))))))))))) :=
  And.intro @atIx_nat (And.intro @bi.eq_1 (And.intro @bi.eq_2 (And.intro @bi.eq_3 (And.intro @bi.eq_4 (And.intro @bi.eq_5 (And.intro @bi.eq_6 (And.intro @bi.eq_7 (And.intro @bi.eq_8 (And.intro @bi.eq_9 (And.intro @bi.eq_10 (And.intro @bi.eq_11 (And.intro @bi.eq_12 (And.intro @bi.eq_13 (And.intro @bi.eq_14 (And.intro @bi.eq_15 (And.intro @bi.eq_16 (And.intro @bi.eq_17 (And.intro @bi.eq_18 (And.intro @intB.eq_1 (And.intro @intB.eq_2 (And.intro @intB.eq_3 (And.intro @absB.eq_1 (And.intro @absB.eq_2 (@lenB.eq_1))))))))))))))))))))))))
theorem ev11 : type_of% (And.intro @lenB.eq_2 (And.intro @lenB.eq_3 (And.intro @lenB.eq_4 (And.intro @lenB.eq_5 (And.intro @lenB.eq_6 (And.intro @listB.eq_1 (And.intro @listB.eq_2 (And.intro @listB.eq_3 (And.intro @listB.eq_4 (And.intro @tupleB.eq_1 (And.intro @tupleB.eq_2 (And.intro @tupleB.eq_3 (And.intro @isinstB.eq_1 (And.intro @isinstB.eq_2 (And.intro @isinst.eq_1 (And.intro @isinst.eq_2 (And.intro @isinst.eq_3 (And.intro @isinst.eq_4 (And.intro @isinst.eq_5 (And.intro @isinst.eq_6 (And.intro @isinst.eq_7 (And.intro @isinst.eq_8 (And.intro @isinst.eq_9 (And.intro @maxB.eq_1 (@minB.eq_1))))))))))))))))))))))))) :=
  And.intro @lenB.eq_2 (And.intro @lenB.eq_3 (And.intro @lenB.eq_4 (And.intro @lenB.eq_5 (And.intro @lenB.eq_6 (And.intro @listB.eq_1 (And.intro @listB.eq_2 (And.intro @listB.eq_3 (And.intro @listB.eq_4 (And.intro @tupleB.eq_1 (And.intro @tupleB.eq_2 (And.intro @tupleB.eq_3 (And.intro @isinstB.eq_1 (And.intro @isinstB.eq_2 (And.intro @isinst.eq_1 (And.intro @isinst.eq_2 (And.intro @isinst.eq_3 (And.intro @isinst.eq_4 (And.intro @isinst.eq_5 (And.intro @isinst.eq_6 (And.intro @isinst.eq_7 (And.intro @isinst.eq_8 (And.intro @isinst.eq_9 (And.intro @maxB.eq_1 (@minB.eq_1))))))))))))))))))))))))
theorem ev12 : type_of% (And.intro @allB.eq_1 (And.intro @divmodB.eq_1 (And.intro @divmodB.eq_2 (And.intro @isSet_fr (And.intro @isSet_ow (And.intro @isSet_bo (And.intro @isMut.eq_1 (And.intro @isMut.eq_2 (And.intro @isMut.eq_3 (And.intro @mtOk.eq_1 (And.intro @mtOk.eq_2 (And.intro @mtOk.eq_3 (And.intro @mtOk.eq_4 (And.intro @mtOk.eq_5 (And.intro @mtOk.eq_6 (And.intro @mtOk.eq_7 (And.intro @mtOk.eq_8 (And.intro @mutM_b (And.intro @mut3_some (And.intro @mtM.eq_1 (And.intro @mtM.eq_2 (And.intro @mtM.eq_3 (And.intro @next_nx (And.intro @next_rt (@next_bk))))))))))))))))))))))))) :=
  And.intro @allB.eq_1 (And.intro @divmodB.eq_1 (And.intro @divmodB.eq_2 (And.intro @isSet_fr (And.intro @isSet_ow (And.intro @isSet_bo (And.intro @isMut.eq_1 (And.intro @isMut.eq_2 (And.intro @isMut.eq_3 (And.intro @mtOk.eq_1 (And.intro @mtOk.eq_2 (And.intro @mtOk.eq_3 (And.intro @mtOk.eq_4 (And.intro @mtOk.eq_5 (And.intro @mtOk.eq_6 (And.intro @mtOk.eq_7 (And.intro @mtOk.eq_8 (And.intro @mutM_b (And.intro @mut3_some (And.intro @mtM.eq_1 (And.intro @mtM.eq_2 (And.intro @mtM.eq_3 (And.intro @next_nx (And.intro @next_rt (@next_bk))))))))))))))))))))))))
theorem ev13 : type_of% (And.intro @tyn.eq_1 (And.intro @tyn.eq_2 (And.intro @tyn.eq_3 (And.intro @tyn.eq_4 (And.intro @tyn.eq_5 (And.intro @tyn.eq_6 (And.intro @tyn.eq_7 (And.intro @tyn.eq_8 (And.intro @tyn.eq_9 (And.intro @items?.eq_1 (And.intro @items?.eq_2 (And.intro @items?.eq_3 (And.intro @part.eq_1 (And.intro @part.eq_2 (And.intro @part.eq_3 (And.intro @slD.eq_1 (And.intro @slD.eq_2 (And.intro @slD.eq_3 (And.intro @slD.eq_4 (And.intro @slD.eq_5 (And.intro @noEx_ok (And.intro @mt.eq_1 (And.intro @mt.eq_2 (And.intro @mt.eq_3 (@mt.eq_4))))))))))))))))))))))))) :=
  And.intro @tyn.eq_1 (And.intro @tyn.eq_2 (And.intro @tyn.eq_3 (And.intro @tyn.eq_4 (And.intro @tyn.eq_5 (And.intro @tyn.eq_6 (And.intro @tyn.eq_7 (And.intro @tyn.eq_8 (And.intro @tyn.eq_9 (And.intro @items?.eq_1 (And.intro @items?.eq_2 (And.intro @items?.eq_3 (And.intro @part.eq_1 (And.intro @part.eq_2 (And.intro @part.eq_3 (And.intro @slD.eq_1 (And.intro @slD.eq_2 (And.intro @slD.eq_3 (And.intro @slD.eq_4 (And.intro @slD.eq_5 (And.intro @noEx_ok (And.intro @mt.eq_1 (And.intro @mt.eq_2 (And.intro @mt.eq_3 (@mt.eq_4))))))))))))))))))))))))
theorem ev14 : type_of% (And.intro @mt.eq_5 (And.intro @mt.eq_6 (And.intro @mt.eq_7 (And.intro @strD.eq_1 (And.intro @strD.eq_2 (And.intro @strD.eq_3 (And.intro @attrF.eq_1 (And.intro @attrF.eq_2 (And.intro @putFl_unf (And.intro @flP_ins (And.intro @putN.eq_1 (And.intro @putN.eq_2 (And.intro @putD.eq_1 (And.intro @putD.eq_2 (And.intro @clsOf.eq_1 (@clsOf.eq_2)))))))))))))))) :=
  And.intro @mt.eq_5 (And.intro @mt.eq_6 (And.intro @mt.eq_7 (And.intro @strD.eq_1 (And.intro @strD.eq_2 (And.intro @strD.eq_3 (And.intro @attrF.eq_1 (And.intro @attrF.eq_2 (And.intro @putFl_unf (And.intro @flP_ins (And.intro @putN.eq_1 (And.intro @putN.eq_2 (And.intro @putD.eq_1 (And.intro @putD.eq_2 (And.intro @clsOf.eq_1 (@clsOf.eq_2)))))))))))))))
end Wd.V
-- P_k70
set_option linter.all false
set_option maxRecDepth 100000
set_option maxHeartbeats 1000000
set_option Elab.async false
namespace Wd.V
open PySem
def f_check_rule : FD := ⟨["value"], [false], 1, (.cons (.iff (.nt (.bi .isinst (.cons (.var 0) (.cons (.con (.cls "Rule")) .nil)))) (.cons (.raise "raise" .nil) .nil) .nil) .nil)⟩
section
variable {T : Tab} {W n : Nat}
/-- the value, as the program has it -/
def hv (l : List Int) (x : Int) : Int := l.foldr (fun c acc => acc * x + c) 0
end
end Wd.V
namespace Wd.V
open PySem
/-- what is lent, or given -/
def shr (B : Bool) (d : D) : Sl := match B with | true => .bo d | false => .fr d
theorem shr_t (d : D) : shr true d = .bo d := rfl
theorem shr_f (d : D) : shr false d = .fr d := rfl
abbrev cn (a b c : Int) : D := .lst [.int a, .int b, .int c]
section
variable {T : Tab} {B : Bool} {W n : Nat}
/-- numbers that a rule may have -/
def Bd (l : List Int) : Prop := ∀ x ∈ l, -1000000000000000000000000000000 ≤ x ∧ x ≤ 1000000000000000000000000000000
theorem atIx_map {l : List Int} {i : Nat} (h : i < l.length) : atIx (l.map .int) (i : Int) = some (.int l[i]) := by
  unfold atIx
  rw [if_pos (by omega), Int.toNat_natCast, List.getElem?_map, List.getElem?_eq_getElem h]
  rfl
theorem len_map (l : List Int) : (l.map D.int).length = l.length := List.length_map _
theorem cut_map (l : List Int) (a b : Nat) : cut (l.map D.int) a b = (cut l a b).map .int := by
  unfold cut
  rw [List.map_take, List.map_drop]
theorem Bd.set {l : List Int} (h : Bd l) {i : Nat} {x : Int} (hx : -1000000000000000000000000000000 ≤ x ∧ x ≤ 1000000000000000000000000000000) : Bd (l.set i x) := fun y hy => by
  rcases List.mem_or_eq_of_mem_set hy with q | rfl
  · exact h y q
  · exact hx
theorem Bd.cut {l : List Int} (h : Bd l) (a b : Nat) : Bd (cut l a b) := fun x hx => h x (List.mem_of_mem_drop (List.mem_of_mem_take hx))
end
end Wd.V
namespace Wd.V
open PySem
section
variable {T : Tab} {W n : Nat}
/-- the follower -/
def nx (l : List Int) (w : Nat) (x : Int) : Int := hv l x % 2 ^ w
end
end Wd.V
namespace Wd.V
open PySem
section
variable {T : Tab} {W n : Nat}
theorem bls_true : ∀ k, bls? (List.replicate k (.bl true)) = some (List.replicate k true)
  | 0 => rfl
  | k + 1 => by rw [List.replicate_succ, List.replicate_succ, bls?, bls_true k]; rfl
theorem all_true (k : Nat) : (List.replicate k true).all id = true := by simp
end
end Wd.V
namespace Wd.V
open PySem
theorem hv_cons (c : Int) (l : List Int) (x : Int) : hv (c :: l) x = hv l x * x + c := rfl
/-- n turns -/
def itr (f : Int → Int) : Nat → Int → Int
  | 0, x => x
  | n + 1, x => itr f n (f x)
theorem itr_add (f : Int → Int) : ∀ (m n : Nat) (x : Int), itr f (m + n) x = itr f n (itr f m x)
  | 0, n, x => by rw [Nat.zero_add]; rfl
  | m + 1, n, x => by rw [show m + 1 + n = (m + n) + 1 by omega]; exact itr_add f m n (f x)
end Wd.V
namespace Wd.V
open PySem
theorem hv_nil (x : Int) : hv [] x = 0 := rfl
/-- c times a list, added from an index on, cut off -/
def addS : List Int → Nat → Int → List Int → List Int
  | [], _, _, _ => []
  | f :: fs, 0, c, o :: os => (f + c * o) :: addS fs 0 c os
  | f :: fs, 0, _, [] => f :: fs
  | f :: fs, i + 1, c, os => f :: addS fs i c os
theorem addS_len : ∀ (f : List Int) (i : Nat) (c : Int) (o : List Int), (addS f i c o).length = f.length
  | [], _, _, _ => rfl
  | f :: fs, 0, c, o :: os => by simp [addS, addS_len fs 0 c os]
  | f :: fs, 0, _, [] => rfl
  | f :: fs, i + 1, c, os => by simp [addS, addS_len fs i c os]
/-- each one times a number -/
theorem hv_addS : ∀ (f : List Int) (i : Nat) (c : Int) (o : List Int) (y : Int), hv (addS f i c o) y = hv f y + (if i ≤ f.length then y ^ i * (c * hv (o.take (f.length - i)) y) else 0)
  | [], 0, c, o, y => by simp [addS, hv_nil]
  | [], i + 1, c, o, y => by simp [addS, hv_nil]
  | f :: fs, 0, c, o :: os, y => by
    have := hv_addS fs 0 c os y
    simp only [Nat.zero_le, if_true, Int.pow_zero, Int.one_mul, Nat.sub_zero] at this
    simp only [addS, hv_cons, this, Nat.zero_le, if_true, Int.pow_zero, Int.one_mul, Nat.sub_zero, List.length_cons, List.take_succ_cons]
    grind
  | f :: fs, 0, c, [], y => by simp [addS, hv_nil]
  | f :: fs, i + 1, c, os, y => by
    have := hv_addS fs i c os y
    simp only [addS, hv_cons, this, List.length_cons, Nat.add_sub_add_right, Nat.add_le_add_iff_right, Int.pow_succ]
    split
    · grind
    · simp
theorem hv_split (n : Nat) : ∀ (o : List Int) (y : Int), hv o y = hv (o.take n) y + y ^ n * hv (o.drop n) y := by
  induction n with
  | zero => intro o y; simp [hv_nil]
  | succ n ih =>
    intro o y
    cases o with
    | nil => simp [hv_nil]
    | cons a o =>
      rw [List.take_succ_cons, List.drop_succ_cons, hv_cons, hv_cons, ih o y, Int.pow_succ]
      grind
/-- all are multiples -/
theorem hv_dvd {k : Int} : ∀ (l : List Int) (y : Int), (∀ x ∈ l, k ∣ x) → k ∣ hv l y
  | [], _, _ => Int.dvd_zero _
  | a :: l, y, h => by
    rw [hv_cons]
    exact Int.dvd_add (Int.dvd_mul_of_dvd_left (hv_dvd l y fun x hx => h x (by simp [hx]))) (h a (by simp))
theorem pw2_dvd {a b : Nat} (h : a ≤ b) : (2 : Int) ^ a ∣ 2 ^ b := ⟨2 ^ (b - a), by rw [← Int.pow_add]; congr 1; omega⟩
theorem dvd_mod' {k n a : Int} (h : k ∣ n) (g : k ∣ a) : k ∣ a % n := by
  have := Int.emod_add_mul_ediv a n
  have e : a % n = a - n * (a / n) := by omega
  rw [e]
  exact Int.dvd_sub g (Int.dvd_mul_of_dvd_left h)
/-- 2 ^ k divides it, or the size does -/
def Dw (m k : Nat) (c : Int) : Prop := (2 : Int) ^ (min m k) ∣ c
theorem Dw.le {m k k' : Nat} {c : Int} (h : Dw m k c) (hk : k' ≤ k) : Dw m k' c :=
  Int.dvd_trans (pw2_dvd (by omega)) h
theorem Dw.zero {m k : Nat} : Dw m k 0 := Int.dvd_zero _
theorem Dw.none {m : Nat} {c : Int} : Dw m 0 c := by unfold Dw; simp
theorem Dw.add {m k : Nat} {a b : Int} (h : Dw m k a) (g : Dw m k b) : Dw m k (a + b) := Int.dvd_add h g
theorem Dw.mul {m j k : Nat} {a b : Int} (h : Dw m j a) (g : Dw m k b) : Dw m (j + k) (a * b) :=
  Int.dvd_trans (pw2_dvd (show min m (j + k) ≤ min m j + min m k by omega)) (by rw [Int.pow_add]; exact Int.mul_dvd_mul h g)
theorem Dw.mod {m k : Nat} {a : Int} (h : Dw m k a) : Dw m k (a % 2 ^ m) := by
  unfold Dw at *
  have : (2 : Int) ^ (min m k) ∣ 2 ^ m := pw2_dvd (Nat.min_le_left _ _)
  exact dvd_mod' this h
theorem Dw.all {m k : Nat} {a : Int} (h : Dw m k a) (hk : m ≤ k) : (2 : Int) ^ m ∣ a := by
  unfold Dw at h
  rwa [Nat.min_eq_left hk] at h
/-- weights of a list's items -/
def Ws (m : Nat) (w : Nat → Nat) (l : List Int) : Prop := ∀ (j : Nat) (c : Int), l[j]? = some c → Dw m (w j) c
theorem Ws.tl {m : Nat} {w : Nat → Nat} {a : Int} {l : List Int} (h : Ws m w (a :: l)) : Ws m (fun j => w (j + 1)) l := fun j c hc => h (j + 1) c (by simpa using hc)
theorem Ws.hd {m : Nat} {w : Nat → Nat} {a : Int} {l : List Int} (h : Ws m w (a :: l)) : Dw m (w 0) a := h 0 a rfl
theorem Ws.cons {m : Nat} {w : Nat → Nat} {a : Int} {l : List Int} (h : Dw m (w 0) a) (g : Ws m (fun j => w (j + 1)) l) : Ws m w (a :: l) := fun j c hc => by
  cases j with
  | zero => simp at hc; subst hc; exact h
  | succ j => exact g j c (by simpa using hc)
theorem Ws.nil {m : Nat} {w : Nat → Nat} : Ws m w [] := fun j c hc => by simp at hc
theorem Ws.le {m : Nat} {w w' : Nat → Nat} {l : List Int} (h : Ws m w l) (hw : ∀ j, w' j ≤ w j) : Ws m w' l := fun j c hc => (h j c hc).le (hw j)
theorem Ws.mod {m : Nat} {w : Nat → Nat} {l : List Int} (h : Ws m w l) : Ws m w (l.map (· % 2 ^ m)) := fun j c hc => by
  rw [List.getElem?_map] at hc
  obtain ⟨a, ha, rfl⟩ := Option.map_eq_some_iff.mp hc
  exact (h j a ha).mod
theorem Ws.zeros {m : Nat} {w : Nat → Nat} (n : Nat) : Ws m w (List.replicate n 0) := fun j c hc => by
  rw [List.getElem?_replicate] at hc
  split at hc
  · cases hc; exact Dw.zero
  · cases hc
theorem Ws.addS {m : Nat} {s : Nat → Nat} {c : Int} {a : Nat} (hc : Dw m a c) : ∀ {f : List Int} {i : Nat} {o : List Int} {b : Nat → Nat}, Ws m s f → Ws m b o → (∀ j, s (i + j) ≤ a + b j) → Ws m s (addS f i c o)
  | [], _, _, _, _, _, _ => Ws.nil
  | f :: fs, 0, o :: os, b, h, g, q => by
    refine Ws.cons (h.hd.add ((hc.mul g.hd).le (by simpa using q 0))) ?_
    exact Ws.addS (s := fun j => s (j + 1)) hc h.tl g.tl fun j => by simpa [Nat.add_comm, Nat.add_left_comm, Nat.add_assoc] using q (j + 1)
  | f :: fs, 0, [], b, h, g, q => h
  | f :: fs, i + 1, os, b, h, g, q => by
    refine Ws.cons h.hd ?_
    exact Ws.addS (s := fun j => s (j + 1)) hc h.tl g fun j => by simpa [Nat.add_comm, Nat.add_left_comm, Nat.add_assoc] using q j
/-- the loop of a product, from an index on -/
def prodL : List Int → Nat → List Int → List Int → List Int
  | f, _, [], _ => f
  | f, i, c :: a, o => prodL (addS f i c o) (i + 1) a o
theorem prodL_len : ∀ (a : List Int) (f : List Int) (i : Nat) (o : List Int), (prodL f i a o).length = f.length
  | [], _, _, _ => rfl
  | c :: a, f, i, o => by rw [prodL, prodL_len a, addS_len]
theorem Ws.prodL {m : Nat} {s b : Nat → Nat} {o : List Int} (g : Ws m b o) : ∀ {a : List Int} {f : List Int} {i : Nat} {w : Nat → Nat}, Ws m s f → Ws m w a → (∀ k j, s (i + k + j) ≤ w k + b j) → Ws m s (prodL f i a o)
  | [], _, _, _, h, _, _ => h
  | c :: a, f, i, w, h, ha, q => by
    unfold Wd.V.prodL
    exact Ws.prodL g (h.addS ha.hd g fun j => by simpa using q 0 j) ha.tl fun k j => by
      have := q (k + 1) j
      rwa [show i + (k + 1) + j = i + 1 + k + j by omega] at this
/-- its value, but for the size -/
theorem hv_prodL {m : Nat} {b : Nat → Nat} {o : List Int} (g : Ws m b o) (y : Int) : ∀ {a : List Int} {f : List Int} {i : Nat} {w : Nat → Nat}, Ws m w a → (∀ k j, f.length ≤ i + k + j → m ≤ w k + b j) → a.length + i ≤ f.length → (2 : Int) ^ m ∣ (hv (prodL f i a o) y - (hv f y + y ^ i * (hv a y * hv o y)))
  | [], f, i, _, _, _, _ => by simp [prodL, hv_nil]
  | c :: a, f, i, w, ha, q, hl => by
    rw [List.length_cons] at hl
    have ih := hv_prodL g y (a := a) (f := addS f i c o) (i := i + 1) ha.tl (fun k j h => by
      rw [addS_len] at h
      exact q (k + 1) j (by omega)) (by rw [addS_len]; omega)
    obtain ⟨t, ht⟩ := ih
    have d : (2 : Int) ^ m ∣ c * hv (o.drop (f.length - i)) y := by
      have : ∀ x ∈ (o.drop (f.length - i)).map (c * ·), (2 : Int) ^ m ∣ x := fun x hx => by
        obtain ⟨z, hz, rfl⟩ := List.mem_map.mp hx
        obtain ⟨j, hj, rfl⟩ := List.mem_iff_getElem.mp hz
        rw [List.getElem_drop]
        exact (ha.hd.mul (g (f.length - i + j) _ (List.getElem?_eq_getElem _))).all (q 0 _ (by omega))
      have e : ∀ l : List Int, hv (l.map (c * ·)) y = c * hv l y := fun l => by
        induction l with
        | nil => simp [hv_nil]
        | cons p l ih => rw [List.map_cons, hv_cons, hv_cons, ih]; grind
      rw [← e]
      exact hv_dvd _ _ this
    obtain ⟨u, hu⟩ := d
    refine ⟨t - y ^ f.length * u, ?_⟩
    have e1 := hv_addS f i c o y
    rw [if_pos (by omega)] at e1
    have e2 := hv_split (f.length - i) o y
    have e3 : y ^ f.length = y ^ i * y ^ (f.length - i) := by rw [← Int.pow_add]; congr 1; omega
    rw [prodL, hv_cons]
    rw [e1, Int.pow_succ] at ht
    rw [e2] at ht ⊢
    rw [e3]
    grind
/-- the product of two lists of the same length, cut off -/
def prd (m : Nat) (a o : List Int) : List Int := (prodL (List.replicate a.length 0) 0 a o).map (· % 2 ^ m)
theorem prd_len (m : Nat) (a o : List Int) : (prd m a o).length = a.length := by simp [prd, prodL_len]
theorem hv_zeros (n : Nat) (y : Int) : hv (List.replicate n 0) y = 0 := by
  induction n with
  | zero => rfl
  | succ n ih => rw [List.replicate_succ, hv_cons, ih]; simp
theorem hv_mod (m : Nat) (l : List Int) (y : Int) : (2 : Int) ^ m ∣ hv (l.map (· % 2 ^ m)) y - hv l y := by
  induction l with
  | nil => simp [hv_nil]
  | cons c l ih =>
    obtain ⟨t, ht⟩ := ih
    rw [List.map_cons, hv_cons, hv_cons]
    have := Int.emod_add_mul_ediv c (2 ^ m)
    refine ⟨t * y - c / 2 ^ m, ?_⟩
    have e : hv (List.map (fun x => x % 2 ^ m) l) y = hv l y + 2 ^ m * t := by omega
    rw [e]
    grind
theorem prd_ws {m : Nat} {s b w : Nat → Nat} {a o : List Int} (ha : Ws m w a) (g : Ws m b o) (q : ∀ k j, s (k + j) ≤ w k + b j) : Ws m s (prd m a o) :=
  (Ws.prodL g (Ws.zeros _) ha fun k j => by simpa using q k j).mod
theorem prd_hv {m : Nat} {b w : Nat → Nat} {a o : List Int} (ha : Ws m w a) (g : Ws m b o) (q : ∀ k j, a.length ≤ k + j → m ≤ w k + b j) (y : Int) : (2 : Int) ^ m ∣ hv (prd m a o) y - hv a y * hv o y := by
  obtain ⟨t, ht⟩ := hv_prodL g y (f := List.replicate a.length 0) (i := 0) ha (fun k j h => q k j (by simpa using h)) (by simp)
  obtain ⟨u, hu⟩ := hv_mod m (prodL (List.replicate a.length 0) 0 a o) y
  rw [hv_zeros] at ht
  refine ⟨t + u, ?_⟩
  unfold prd
  simp only [Int.pow_zero] at ht
  grind
/-- the first number greater -/
def addC (m : Nat) (c : Int) : List Int → List Int
  | [] => []
  | a :: l => (a + c) % 2 ^ m :: l
/-- one sum of powers put into another one: by the loop over the numbers from the last one on -/
def putI (m : Nat) : List Int → List Int → List Int
  | [], o => List.replicate o.length 0
  | c :: l, o => addC m c (prd m (putI m l o) o)
theorem addC_len (m : Nat) (c : Int) (l : List Int) : (addC m c l).length = l.length := by cases l <;> rfl
theorem putI_len (m : Nat) : ∀ (l o : List Int), (putI m l o).length = o.length
  | [], o => by simp [putI]
  | c :: l, o => by rw [putI, addC_len, prd_len, putI_len m l]
theorem addC_ws {m : Nat} {w : Nat → Nat} {c : Int} {l : List Int} (h : Ws m w l) (hc : Dw m (w 0) c) : Ws m w (addC m c l) := by
  cases l with
  | nil => exact h
  | cons a l => exact Ws.cons (h.hd.add hc).mod h.tl
theorem addC_hv {m : Nat} {c : Int} {l : List Int} (h : l ≠ []) (y : Int) : (2 : Int) ^ m ∣ hv (addC m c l) y - (hv l y + c) := by
  cases l with
  | nil => exact absurd rfl h
  | cons a l =>
    rw [addC, hv_cons, hv_cons]
    have := Int.emod_add_mul_ediv (a + c) (2 ^ m)
    exact ⟨-((a + c) / 2 ^ m), by grind⟩
/-- s k: the weights where k numbers are left -/
theorem putI_ok {m : Nat} {om b : Nat → Nat} {s : Nat → Nat → Nat} {o : List Int} (ho : o ≠ []) (g : Ws m b o)
    (q1 : ∀ k i j, s k (i + j) ≤ s (k + 1) i + b j) (q2 : ∀ k, s k 0 ≤ om k) (q3 : ∀ k i j, o.length ≤ i + j → m ≤ s (k + 1) i + b j) (y : Int) :
    ∀ (l : List Int) (k : Nat), (∀ (j : Nat) (c : Int), l[j]? = some c → Dw m (om (k + j)) c) → Ws m (s k) (putI m l o) ∧ (2 : Int) ^ m ∣ hv (putI m l o) y - hv l (hv o y)
  | [], k, _ => by
    refine ⟨Ws.zeros _, ?_⟩
    rw [putI, hv_zeros, hv_nil]
    simp
  | c :: l, k, h => by
    obtain ⟨h1, t, ht⟩ := putI_ok ho g q1 q2 q3 y l (k + 1) fun j d hd => by
      have := h (j + 1) d (by simpa using hd)
      rwa [show k + (j + 1) = k + 1 + j by omega] at this
    have hc := h 0 c rfl
    rw [Nat.add_zero] at hc
    refine ⟨addC_ws (prd_ws h1 g (q1 k)) (hc.le (q2 k)), ?_⟩
    obtain ⟨u, hu⟩ := prd_hv h1 g (by rw [putI_len]; exact q3 k) y
    obtain ⟨v, hv'⟩ := addC_hv (m := m) (c := c) (l := prd m (putI m l o) o) (by
      intro z
      have := congrArg List.length z
      rw [prd_len, putI_len] at this
      exact ho (by simpa using this)) y
    refine ⟨t * hv o y + u + v, ?_⟩
    rw [putI, hv_cons]
    have e : hv (putI m l o) y = hv l (hv o y) + 2 ^ m * t := by omega
    rw [e] at hu
    grind
end Wd.V
namespace Wd.V
open PySem
/-- a round, cut off -/
def rnd (m : Nat) : List (List Int) → Int → Int
  | [], x => x
  | l :: row, x => rnd m row (hv l x % 2 ^ m)
theorem hv_cg {k : Int} (l : List Int) {x y : Int} (h : k ∣ x - y) : k ∣ hv l x - hv l y := by
  induction l with
  | nil => simp [hv_nil]
  | cons c l ih =>
    obtain ⟨t, ht⟩ := ih
    obtain ⟨u, hu⟩ := h
    rw [hv_cons, hv_cons]
    refine ⟨t * x + hv l y * u, ?_⟩
    have e1 : hv l x = hv l y + k * t := by omega
    have e2 : x = y + k * u := by omega
    rw [e1]
    grind
theorem mod_dvd (a k : Int) : k ∣ a % k - a := by
  have := Int.emod_add_mul_ediv a k
  exact ⟨-(a / k), by grind⟩
theorem dvd_trans_sub {k a b c : Int} (h : k ∣ a - b) (g : k ∣ b - c) : k ∣ a - c := by
  have := Int.dvd_add h g
  rwa [show a - b + (b - c) = a - c by omega] at this
theorem dvd_symm {k a b : Int} (h : k ∣ a - b) : k ∣ b - a := by
  rw [show b - a = -(a - b) by omega]; exact Int.dvd_neg.mpr h
theorem eq_of_cg {k a b : Int} (h : k ∣ a - b) : a % k = b % k := Int.emod_eq_emod_iff_emod_sub_eq_zero.mpr (Int.emod_eq_zero_of_dvd h)
theorem rnd_cg {k : Int} (m : Nat) (hk : k ∣ 2 ^ m) : ∀ (row : List (List Int)) {x y : Int}, k ∣ x - y → k ∣ rnd m row x - rnd m row y
  | [], _, _, h => h
  | l :: row, x, y, h => by
    unfold rnd
    refine rnd_cg m hk row ?_
    have h1 := hv_cg l h
    have h2 : k ∣ hv l x % 2 ^ m - hv l x := Int.dvd_trans hk (mod_dvd _ _)
    have h3 : k ∣ hv l y - hv l y % 2 ^ m := dvd_symm (Int.dvd_trans hk (mod_dvd _ _))
    exact dvd_trans_sub h2 (dvd_trans_sub h1 h3)
theorem itr_cg {k : Int} {f : Int → Int} (hf : ∀ {x y : Int}, k ∣ x - y → k ∣ f x - f y) : ∀ (n : Nat) {x y : Int}, k ∣ x - y → k ∣ itr f n x - itr f n y
  | 0, _, _, h => h
  | n + 1, _, _, h => itr_cg hf n (hf h)
theorem rnd_bd (m : Nat) : ∀ (row : List (List Int)) {x : Int}, 0 ≤ x ∧ x < 2 ^ m → 0 ≤ rnd m row x ∧ rnd m row x < 2 ^ m
  | [], _, h => h
  | l :: row, _, _ => rnd_bd m row ⟨Int.emod_nonneg _ (by have := Int.pow_pos (n := 2) (m := m) (by decide); omega), Int.emod_lt_of_pos _ (Int.pow_pos (by decide))⟩
theorem itr_bd {f : Int → Int} {P : Int → Prop} (hf : ∀ x, P x → P (f x)) : ∀ (n : Nat) {x : Int}, P x → P (itr f n x)
  | 0, _, h => h
  | n + 1, _, h => itr_bd hf n (hf _ h)
/-- one round more -/
def hopR (m : Nat) : List (List Int) → List Int → List Int
  | [], f => f
  | l :: row, f => hopR m row (putI m l f)
/-- so many rounds more -/
def hopN (m : Nat) (row : List (List Int)) : Nat → List Int → List Int
  | 0, f => f
  | n + 1, f => hopN m row n (hopR m row f)
def hop0 (low q : Int) (many : Nat) : List Int := (low :: q :: List.replicate many 0).take many
/-- the numbers of a hop -/
def hopL (low q : Int) : List Int → List Int
  | [] => []
  | a :: l => (a - low) / q :: l.map (· / q)
def wA (p : Nat) : Nat → Nat := fun j => p * j
def wB (p : Nat) : Nat → Nat := fun j => p * (j - 1)
theorem putA {m p : Nat} {l o : List Int} (ho : o ≠ []) (hn : m ≤ p * o.length) (g : Ws m (wA p) o) (y : Int) : Ws m (wA p) (putI m l o) ∧ (2 : Int) ^ m ∣ hv (putI m l o) y - hv l (hv o y) := by
  refine putI_ok (om := fun _ => 0) (b := wA p) (s := fun _ => wA p) ho g (fun k i j => ?_) (fun k => ?_) (fun k i j h => ?_) y l 0 fun j c hc => Dw.none
  · unfold wA; rw [Nat.mul_add]; exact Nat.le_refl _
  · exact Nat.le_refl _
  · unfold wA; rw [← Nat.mul_add]; exact Nat.le_trans hn (Nat.mul_le_mul_left _ h)
theorem putB {m p : Nat} {l o : List Int} (ho : o ≠ []) (hn : m ≤ p * (o.length - 1)) (h : Ws m (wB p) l) (g : Ws m (wB p) o) (y : Int) : Ws m (wB p) (putI m l o) ∧ (2 : Int) ^ m ∣ hv (putI m l o) y - hv l (hv o y) := by
  refine putI_ok (om := fun k => p * (k - 1)) (b := wB p) (s := fun k j => p * (j + k - 1)) ho g (fun k i j => ?_) (fun k => ?_) (fun k i j h => ?_) y l 0 fun j c hc => ?_
  · unfold wB; rw [← Nat.mul_add]; exact Nat.mul_le_mul_left _ (by omega)
  · rw [Nat.zero_add]; exact Nat.le_refl _
  · unfold wB; rw [← Nat.mul_add]; exact Nat.le_trans hn (Nat.mul_le_mul_left _ (by omega))
  · rw [Nat.zero_add]; exact h j c hc
theorem hopR_ok {m p : Nat} (y : Int) : ∀ (row : List (List Int)) {f : List Int}, f ≠ [] → m ≤ p * f.length → Ws m (wA p) f → Ws m (wA p) (hopR m row f) ∧ (hopR m row f).length = f.length ∧ ∀ x : Int, (2 : Int) ^ m ∣ hv f y - x → (2 : Int) ^ m ∣ hv (hopR m row f) y - rnd m row x
  | [], f, _, _, g => ⟨g, rfl, fun x h => h⟩
  | l :: row, f, hf, hn, g => by
    obtain ⟨g1, g2⟩ := putA (l := l) hf hn g y
    have len := putI_len m l f
    obtain ⟨i1, i2, i3⟩ := hopR_ok (m := m) (p := p) y row (f := putI m l f) (by
      intro z; rw [z] at len; exact hf (by simpa using len.symm)) (by rw [len]; exact hn) g1
    refine ⟨i1, by unfold hopR; rw [i2, len], fun x h => ?_⟩
    unfold hopR rnd
    refine i3 _ ?_
    exact dvd_trans_sub g2 (dvd_trans_sub (hv_cg l h) (dvd_symm (mod_dvd _ _)))
theorem hopN_ok {m p : Nat} (row : List (List Int)) (y : Int) : ∀ (n : Nat) {f : List Int}, f ≠ [] → m ≤ p * f.length → Ws m (wA p) f → Ws m (wA p) (hopN m row n f) ∧ (hopN m row n f).length = f.length ∧ ∀ x : Int, (2 : Int) ^ m ∣ hv f y - x → (2 : Int) ^ m ∣ hv (hopN m row n f) y - itr (rnd m row) n x
  | 0, f, _, _, g => ⟨g, rfl, fun x h => h⟩
  | n + 1, f, hf, hn, g => by
    obtain ⟨g1, g2, g3⟩ := hopR_ok (m := m) (p := p) y row hf hn g
    obtain ⟨i1, i2, i3⟩ := hopN_ok (m := m) (p := p) row y n (f := hopR m row f) (by
      intro z; rw [z] at g2; exact hf (by simpa using g2.symm)) (by rw [g2]; exact hn) g1
    exact ⟨i1, by unfold hopN; rw [i2, g2], fun x h => by unfold hopN itr; exact i3 _ (g3 x h)⟩
theorem hop0_len {low q : Int} {many : Nat} : (hop0 low q many).length = many := by simp [hop0]; omega
theorem hop0_ws {m p : Nat} {low : Int} {many : Nat} : Ws m (wA p) (hop0 low (2 ^ p) many) := fun j c hc => by
  unfold hop0 at hc
  rw [List.getElem?_take] at hc
  split at hc
  · match j with
    | 0 => exact Dw.none
    | 1 =>
      simp at hc; subst hc
      unfold Dw wA
      rw [Nat.mul_one]
      exact pw2_dvd (Nat.min_le_right _ _)
    | j + 2 =>
      simp [List.getElem?_replicate] at hc
      rw [← hc.2]; exact Dw.zero
  · cases hc
theorem hop0_hv {m p : Nat} {low : Int} {many : Nat} (h : m ≤ p * many) (h0 : 0 < many) (y : Int) : (2 : Int) ^ m ∣ hv (hop0 low (2 ^ p) many) y - (low + 2 ^ p * y) := by
  unfold hop0
  match many, h0 with
  | 1, _ =>
    simp only [List.take_succ_cons, List.take_zero, hv_cons, hv_nil]
    rw [Nat.mul_one] at h
    obtain ⟨t, ht⟩ := pw2_dvd h
    exact ⟨-(t * y), by rw [ht]; grind⟩
  | k + 2, _ =>
    simp only [List.take_succ_cons, hv_cons]
    rw [show List.take k (List.replicate (k + 2) (0 : Int)) = List.replicate k 0 by simp [List.take_replicate], hv_zeros]
    exact ⟨0, by grind⟩
/-- a hop's numbers: the value, and the weights -/
theorem hopL_ok {m p : Nat} (hp : p ≤ m) {low : Int} {f : List Int} (hf : f ≠ []) (g : Ws m (wA p) f) (h0 : (2 : Int) ^ p ∣ hv f 0 - low) : Ws (m - p) (wB p) (hopL low (2 ^ p) f) ∧ ∀ y, low + 2 ^ p * hv (hopL low (2 ^ p) f) y = hv f y := by
  cases f with
  | nil => exact absurd rfl hf
  | cons a l =>
    rw [hv_cons, show hv l 0 * 0 + a - low = a - low by simp] at h0
    have key : ∀ {l : List Int} {i : Nat}, (∀ j c, l[j]? = some c → Dw m (p * (i + 1 + j)) c) → Ws (m - p) (fun j => p * (i + j)) (l.map (· / 2 ^ p)) ∧ ∀ y, 2 ^ p * hv (l.map (· / 2 ^ p)) y = hv l y := fun {l} => by
      induction l with
      | nil => intro i _; exact ⟨Ws.nil, fun y => by simp [hv_nil]⟩
      | cons c l ih =>
        intro i h
        obtain ⟨i1, i2⟩ := ih (i := i + 1) fun j d hd => by
          have := h (j + 1) d (by simpa using hd)
          rwa [show i + 1 + (j + 1) = i + 1 + 1 + j by omega] at this
        have hc := h 0 c rfl
        rw [Nat.add_zero] at hc
        have pp : (0 : Int) < 2 ^ p := Int.pow_pos (by decide)
        have d1 : (2 : Int) ^ p ∣ c := Int.dvd_trans (pw2_dvd (by
          rw [Nat.mul_add, Nat.mul_one]; omega)) hc
        obtain ⟨t, rfl⟩ := d1
        have e : (2 : Int) ^ p * t / 2 ^ p = t := Int.mul_ediv_cancel_left _ (by omega)
        constructor
        · rw [List.map_cons, e]
          refine Ws.cons ?_ ?_
          · unfold Dw at hc ⊢
            rw [Nat.add_zero]
            have : min m (p * (i + 1)) = p + min (m - p) (p * i) := by rw [Nat.mul_add, Nat.mul_one]; omega
            rw [this, Int.pow_add] at hc
            exact Int.dvd_of_mul_dvd_mul_left (by omega) hc
          · intro j d hd
            have := i1 j d hd
            show Dw (m - p) (p * (i + (j + 1))) d
            rw [show i + (j + 1) = i + 1 + j by omega]
            exact this
        · intro y
          rw [List.map_cons, hv_cons, hv_cons, e, ← i2 y]
          grind
    obtain ⟨k1, k2⟩ := key (l := l) (i := 0) fun j c hc => by
      have := g (j + 1) c (by simpa using hc)
      unfold wA at this
      rwa [show 0 + 1 + j = j + 1 by omega]
    refine ⟨Ws.cons (by unfold wB; exact Dw.none) fun j d hd => ?_, fun y => ?_⟩
    · have := k1 j d hd
      unfold wB
      show Dw (m - p) (p * (j + 1 - 1)) d
      rw [show j + 1 - 1 = 0 + j by omega]
      exact this
    · unfold hopL
      rw [hv_cons, hv_cons, ← k2 y]
      obtain ⟨t, ht⟩ := h0
      have pp : (0 : Int) < 2 ^ p := Int.pow_pos (by decide)
      rw [ht, Int.mul_ediv_cancel_left _ (by omega)]
      have : a = low + 2 ^ p * t := by omega
      rw [this]
      grind
def hopd (m : Nat) : Nat → List Int → Int → Nat → Int
  | 0, _, x, _ => x
  | k + 1, h, x, t => if t = 0 then x else hopd m k (putI m h h) (if t % 2 = 1 then hv h x % 2 ^ m else x) (t / 2)
theorem itr_two (f : Int → Int) : ∀ (n : Nat) (x : Int), itr (fun y => f (f y)) n x = itr f (2 * n) x
  | 0, _ => rfl
  | n + 1, x => by rw [show 2 * (n + 1) = 2 * n + 1 + 1 by omega]; exact itr_two f n _
theorem itr_ext {f g : Int → Int} (h : ∀ x, f x = g x) : ∀ (n : Nat) (x : Int), itr f n x = itr g n x
  | 0, _ => rfl
  | n + 1, x => by unfold itr; rw [h]; exact itr_ext h n _
theorem hopd_ok {m p : Nat} : ∀ (k : Nat) {h : List Int} (x : Int) (t : Nat), h ≠ [] → m ≤ p * (h.length - 1) → Ws m (wB p) h → t < 2 ^ k → hopd m k h x t = itr (fun y => hv h y % 2 ^ m) t x
  | 0, h, x, t, _, _, _, ht => by
    have : t = 0 := by simpa using ht
    subst this; rfl
  | k + 1, h, x, t, h1, h2, h3, ht => by
    unfold hopd
    by_cases h0 : t = 0
    · rw [if_pos h0, h0]; rfl
    · rw [if_neg h0]
      have g := fun y => putB (m := m) (p := p) (l := h) (o := h) h1 h2 h3 h3 y
      have len := putI_len m h h
      rw [hopd_ok k _ (t / 2) (by intro z; rw [z] at len; exact h1 (by simpa using len.symm)) (by rw [len]; exact h2) (g 0).1 (by rw [Nat.pow_succ] at ht; omega)]
      have e : ∀ y, hv (putI m h h) y % 2 ^ m = (fun z => hv h z % 2 ^ m) ((fun z => hv h z % 2 ^ m) y) := fun y => by
        show _ = hv h (hv h y % 2 ^ m) % 2 ^ m
        exact eq_of_cg (dvd_trans_sub (g y).2 (hv_cg h (dvd_symm (mod_dvd _ _))))
      rw [itr_ext e, itr_two (fun z => hv h z % 2 ^ m)]
      by_cases hb : t % 2 = 1
      · rw [if_pos hb]
        conv => rhs; rw [show t = 2 * (t / 2) + 1 by omega]
        rfl
      · rw [if_neg hb]
        congr 1
        omega
/-- where the lowest bits come again, many rounds at once -/
theorem after_hops {m p many : Nat} (hp : p ≤ m) (hm : m ≤ p * many) (h1 : 0 < many) (row : List (List Int)) {low : Int} {len : Nat} (hl : (2 : Int) ^ p ∣ itr (rnd m row) len low - low) (k : Nat) (t : Nat) (ht : t < 2 ^ k) (x : Int) (x0 : 0 ≤ x) (x1 : x < 2 ^ (m - p)) (l0 : 0 ≤ low) (l1 : low < 2 ^ p) :
    itr (rnd m row) (len * t) (low + 2 ^ p * x) = low + 2 ^ p * hopd (m - p) k (hopL low (2 ^ p) (hopN m row len (hop0 low (2 ^ p) many))) x t := by
  have n0 : hop0 low (2 ^ p) many ≠ [] := by
    intro z
    have := congrArg List.length z
    rw [hop0_len] at this
    simp at this; omega
  obtain ⟨g1, g2, _⟩ := hopN_ok (m := m) (p := p) row 0 len n0 (by rw [hop0_len]; exact hm) hop0_ws
  have g3 := fun y => (hopN_ok (m := m) (p := p) row y len n0 (by rw [hop0_len]; exact hm) hop0_ws).2.2 (low + 2 ^ p * y) (hop0_hv hm h1 y)
  rw [hop0_len] at g2
  have n1 : hopN m row len (hop0 low (2 ^ p) many) ≠ [] := by
    intro z; rw [z] at g2; simp at g2; omega
  have pp : (0 : Int) < 2 ^ p := Int.pow_pos (by decide)
  have hmp : (2 : Int) ^ m = 2 ^ p * 2 ^ (m - p) := by rw [← Int.pow_add]; congr 1; omega
  have z0 := g3 0
  rw [Int.mul_zero, Int.add_zero] at z0
  obtain ⟨k1, k2⟩ := hopL_ok hp n1 g1 (dvd_trans_sub (Int.dvd_trans (pw2_dvd hp) z0) hl)
  have hlen : (hopL low (2 ^ p) (hopN m row len (hop0 low (2 ^ p) many))).length = many := by
    cases e : hopN m row len (hop0 low (2 ^ p) many) with
    | nil => exact absurd e n1
    | cons a l => rw [e] at g2; simpa [hopL] using g2
  rw [hopd_ok (m := m - p) (p := p) k x t (by
    intro z; rw [z] at hlen; simp at hlen; omega) (by
      rw [hlen]
      have : p * many = p * (many - 1) + p := by rw [← Nat.mul_succ]; congr 1; omega
      omega) k1 ht]
  generalize hopL low (2 ^ p) (hopN m row len (hop0 low (2 ^ p) many)) = H at k1 k2 hlen
  have q0 : (0 : Int) < 2 ^ (m - p) := Int.pow_pos (by decide)
  have step : ∀ y : Int, 0 ≤ y ∧ y < 2 ^ (m - p) → itr (rnd m row) len (low + 2 ^ p * y) = low + 2 ^ p * (hv H y % 2 ^ (m - p)) := fun y hy => by
    have b1 : low + 2 ^ p * y < 2 ^ m := by
      have := Int.mul_le_mul_of_nonneg_left (show y + 1 ≤ 2 ^ (m - p) by omega) (Int.le_of_lt pp)
      rw [Int.mul_add, Int.mul_one] at this
      rw [hmp]; omega
    have b0 : 0 ≤ low + 2 ^ p * y := by
      have := Int.mul_nonneg (Int.le_of_lt pp) hy.1
      omega
    have b2 := itr_bd (P := fun x => 0 ≤ x ∧ x < 2 ^ m) (fun x h => rnd_bd m row h) len ⟨b0, b1⟩
    have c0 : 0 ≤ hv H y % 2 ^ (m - p) := Int.emod_nonneg _ (by omega)
    have c1 : hv H y % 2 ^ (m - p) < 2 ^ (m - p) := Int.emod_lt_of_pos _ q0
    have d1 : low + 2 ^ p * (hv H y % 2 ^ (m - p)) < 2 ^ m := by
      have := Int.mul_le_mul_of_nonneg_left (show hv H y % 2 ^ (m - p) + 1 ≤ 2 ^ (m - p) by omega) (Int.le_of_lt pp)
      rw [Int.mul_add, Int.mul_one] at this
      rw [hmp]; omega
    have d0 : 0 ≤ low + 2 ^ p * (hv H y % 2 ^ (m - p)) := by
      have := Int.mul_nonneg (Int.le_of_lt pp) c0
      omega
    rw [← Int.emod_eq_of_lt b2.1 b2.2, ← Int.emod_eq_of_lt d0 d1]
    refine eq_of_cg ?_
    have h1 := dvd_symm (g3 y)
    rw [← k2 y] at h1
    refine dvd_trans_sub h1 ?_
    have := mod_dvd (hv H y) (2 ^ (m - p))
    obtain ⟨u, hu⟩ := this
    exact ⟨-u, by rw [hmp]; grind⟩
  have main : ∀ (t : Nat) (y : Int), 0 ≤ y ∧ y < 2 ^ (m - p) → itr (rnd m row) (len * t) (low + 2 ^ p * y) = low + 2 ^ p * itr (fun y => hv H y % 2 ^ (m - p)) t y := fun t => by
    induction t with
    | zero => intro y _; rfl
    | succ t ih =>
      intro y hy
      rw [show len * (t + 1) = len + len * t by rw [Nat.mul_add, Nat.mul_one]; omega, itr_add, step y hy, ih _ ⟨Int.emod_nonneg _ (by omega), Int.emod_lt_of_pos _ q0⟩]
      rfl
  exact main t x ⟨x0, x1⟩
end Wd.V
namespace Wd.V
open PySem
/-- L: the first that came before; i: where -/
structure Cyc (f : Int → Int) (q : Nat) (x : Int) (L i : Nat) : Prop where
  lt : i < L
  le : L ≤ q
  eq : itr f L x % (q : Int) = itr f i x % (q : Int)
  ne : ∀ a b, a < b → b < L → itr f a x % (q : Int) ≠ itr f b x % (q : Int)
/-- the word after so many rounds -/
theorem word_after {m p many : Nat} (hp : p ≤ m) (hm : m ≤ p * many) (h1 : 0 < many) (row : List (List Int)) {x : Int} (x0 : 0 ≤ x) (x1 : x < 2 ^ m) {L i : Nat} (c : Cyc (rnd m row) (2 ^ p) x L i) {k n : Nat} (hn : L ≤ n) (hk : (n - L) / (L - i) < 2 ^ k) :
    itr (rnd m row) n x = itr (rnd m row) ((n - L) % (L - i)) (itr (rnd m row) L x % 2 ^ p + 2 ^ p * hopd (m - p) k (hopL (itr (rnd m row) L x % 2 ^ p) (2 ^ p) (hopN m row (L - i) (hop0 (itr (rnd m row) L x % 2 ^ p) (2 ^ p) many))) (itr (rnd m row) L x / 2 ^ p) ((n - L) / (L - i))) := by
  have pp : (0 : Int) < 2 ^ p := Int.pow_pos (by decide)
  have hmp : (2 : Int) ^ m = 2 ^ p * 2 ^ (m - p) := by rw [← Int.pow_add]; congr 1; omega
  have ce : ((2 ^ p : Nat) : Int) = 2 ^ p := by simp
  have b := itr_bd (P := fun x => 0 ≤ x ∧ x < 2 ^ m) (fun x h => rnd_bd m row h) L ⟨x0, x1⟩
  obtain ⟨A, hA⟩ : ∃ A, A = itr (rnd m row) L x := ⟨_, rfl⟩
  rw [← hA] at b ⊢
  have dA := Int.emod_add_mul_ediv A (2 ^ p)
  have cg := fun n => @itr_cg (2 ^ p) (rnd m row) (fun h => rnd_cg m (pw2_dvd hp) row h) n
  have lowEq : (2 : Int) ^ p ∣ itr (rnd m row) (L - i) (A % 2 ^ p) - A % 2 ^ p := by
    have e1 : (2 : Int) ^ p ∣ A - itr (rnd m row) i x := by
      have := c.eq
      rw [ce, ← hA] at this
      exact Int.dvd_of_emod_eq_zero (Int.emod_eq_emod_iff_emod_sub_eq_zero.mp this)
    have e2 : (2 : Int) ^ p ∣ itr (rnd m row) (L - i) A - itr (rnd m row) (L - i) (itr (rnd m row) i x) := cg _ e1
    have e3 : itr (rnd m row) (L - i) (itr (rnd m row) i x) = A := by
      have := c.lt
      rw [← itr_add, hA]; congr 1; omega
    rw [e3] at e2
    have e4 := cg (L - i) (mod_dvd A (2 ^ p))
    exact dvd_trans_sub e4 (dvd_trans_sub e2 (dvd_symm (mod_dvd A (2 ^ p))))
  have z := after_hops hp hm h1 row lowEq k _ hk (A / 2 ^ p) (Int.ediv_nonneg b.1 (Int.le_of_lt pp)) (by
    rw [hmp] at b
    exact Int.ediv_lt_of_lt_mul pp (by rw [Int.mul_comm]; exact b.2)) (Int.emod_nonneg _ (by omega)) (Int.emod_lt_of_pos _ pp)
  rw [dA] at z
  rw [← z, ← itr_add, hA, ← itr_add]
  congr 1
  have := Nat.div_add_mod (n - L) (L - i)
  omega
end Wd.V
namespace Wd.V
open PySem
structure Sf (f : Int → Int) (m : Nat) : Prop where
  cg : ∀ {j : Nat} {x y : Int}, j ≤ m → (2 : Int) ^ j ∣ x - y → (2 : Int) ^ j ∣ f x - f y
  inj : ∀ {j : Nat} {x y : Int}, j ≤ m → (2 : Int) ^ j ∣ f x - f y → (2 : Int) ^ j ∣ x - y
theorem Sf.cgN {f : Int → Int} {m : Nat} (S : Sf f m) {j : Nat} (hj : j ≤ m) (n : Nat) {x y : Int} (h : (2 : Int) ^ j ∣ x - y) : (2 : Int) ^ j ∣ itr f n x - itr f n y := itr_cg (fun h => S.cg hj h) n h
theorem Sf.injN {f : Int → Int} {m : Nat} (S : Sf f m) {j : Nat} (hj : j ≤ m) : ∀ (n : Nat) {x y : Int}, (2 : Int) ^ j ∣ itr f n x - itr f n y → (2 : Int) ^ j ∣ x - y
  | 0, _, _, h => h
  | n + 1, _, _, h => S.inj hj (S.injN hj n h)
/-- the least number of turns after which the lowest bits of a word are the same again -/
structure Lst (f : Int → Int) (x : Int) (j l : Nat) : Prop where
  pos : 0 < l
  at_ : (2 : Int) ^ j ∣ itr f l x - x
  no : ∀ n, 0 < n → n < l → ¬ (2 : Int) ^ j ∣ itr f n x - x
theorem itr_mulT {f : Int → Int} {k x : Int} (cg : ∀ n {a b : Int}, k ∣ a - b → k ∣ itr f n a - itr f n b) {l : Nat} (h : k ∣ itr f l x - x) : ∀ q : Nat, k ∣ itr f (l * q) x - x
  | 0 => by rw [Nat.mul_zero]; exact ⟨0, by simp [itr]⟩
  | q + 1 => by
    rw [Nat.mul_succ, Nat.add_comm, itr_add]
    exact dvd_trans_sub (cg _ h) (itr_mulT cg h q)
theorem Lst.iff {f : Int → Int} {m : Nat} (S : Sf f m) {x : Int} {j l : Nat} (hj : j ≤ m) (h : Lst f x j l) (n : Nat) : (2 : Int) ^ j ∣ itr f n x - x ↔ l ∣ n := by
  have cg := fun n => @Sf.cgN f m S j hj n
  constructor
  · intro g
    have e := Nat.div_add_mod n l
    have r := Nat.mod_lt n h.pos
    rw [← e, itr_add] at g
    have g2 := cg (n % l) (itr_mulT (fun n {a b} h => cg n h) h.at_ (n / l))
    have g3 := dvd_trans_sub (dvd_symm g2) g
    by_cases z : n % l = 0
    · exact Nat.dvd_of_mod_eq_zero z
    · exact absurd g3 (h.no _ (by omega) r)
  · rintro ⟨q, rfl⟩
    exact itr_mulT (fun n {a b} h => cg n h) h.at_ q
theorem dvd_down {j k : Nat} (h : j ≤ k) {d : Int} (g : (2 : Int) ^ k ∣ d) : (2 : Int) ^ j ∣ d := Int.dvd_trans (pw2_dvd h) g
/-- the numbers of a hop: len rounds from low + 2 ^ p * y -/
structure Hop (f : Int → Int) (m p many : Nat) (low : Int) (len : Nat) (h : List Int) : Prop where
  length : h.length = many
  ws : Ws (m - p) (wB p) h
  val : ∀ y : Int, 0 ≤ y → y < 2 ^ (m - p) → itr f len (low + 2 ^ p * y) = low + 2 ^ p * (hv h y % 2 ^ (m - p))
/-- a hop and the words that come -/
theorem Hop.cmp {f : Int → Int} {m p many : Nat} {low : Int} {len : Nat} {h : List Int} (H : Hop f m p many low len h) {s : Nat} (hs : p + s ≤ m) {y : Int} (y0 : 0 ≤ y) (y1 : y < 2 ^ (m - p)) : (2 : Int) ^ s ∣ hv h y - y ↔ (2 : Int) ^ (p + s) ∣ itr f len (low + 2 ^ p * y) - (low + 2 ^ p * y) := by
  have pp : (0 : Int) < 2 ^ p := Int.pow_pos (by decide)
  rw [H.val y y0 y1, show low + 2 ^ p * (hv h y % 2 ^ (m - p)) - (low + 2 ^ p * y) = 2 ^ p * (hv h y % 2 ^ (m - p) - y) by grind, Int.pow_add]
  have md : (2 : Int) ^ s ∣ hv h y % 2 ^ (m - p) - hv h y := dvd_down (by omega) (mod_dvd _ _)
  constructor
  · intro g
    exact Int.mul_dvd_mul (Int.dvd_refl _) (dvd_trans_sub md g)
  · intro g
    exact dvd_trans_sub (dvd_symm md) (Int.dvd_of_mul_dvd_mul_left (by omega) g)
/-- the least number of rounds that lead to a word, but for the bits above -/
structure Fst (f : Int → Int) (x aim : Int) (j n : Nat) : Prop where
  at_ : (2 : Int) ^ j ∣ itr f n x - aim
  no : ∀ k, k < n → ¬ (2 : Int) ^ j ∣ itr f k x - aim
theorem Fst.iff {f : Int → Int} {m : Nat} (S : Sf f m) {x aim : Int} {j n l : Nat} (hj : j ≤ m) (h : Fst f x aim j n) (hl : Lst f x j l) (k : Nat) : (2 : Int) ^ j ∣ itr f k x - aim ↔ ∃ q, k = n + l * q := by
  constructor
  · intro g
    have nk : n ≤ k := Classical.byContradiction fun z => h.no k (by omega) g
    have e := dvd_trans_sub g (dvd_symm h.at_)
    rw [show k = (k - n) + n by omega, itr_add] at e
    have e2 := S.injN (x := itr f (k - n) x) (y := x) hj n (by simpa using e)
    obtain ⟨q, hq⟩ := (hl.iff S hj _).mp e2
    exact ⟨q, by omega⟩
  · rintro ⟨q, rfl⟩
    rw [Nat.add_comm, itr_add]
    exact dvd_trans_sub (S.cgN hj n ((hl.iff S hj _).mpr ⟨q, rfl⟩)) h.at_
end Wd.V
namespace Wd.V
open PySem
/-- not assigned, or frozen -/
def Fz (z : Sl) : Prop := z = .un ∨ ∃ d, z = .fr d
theorem Fz.bo {z : Sl} (h : Fz z) : isBo z = false := by
  rcases h with rfl | ⟨d, rfl⟩ <;> rfl
theorem Fz.un : Fz .un := .inl rfl
theorem Fz.fr (d : D) : Fz (.fr d) := .inr ⟨d, rfl⟩
theorem Fz.at {z : Sl} {s : Sto} {k : Nat} (h : Fz z) (e : s[k]? = some z) : s[k]? = some .un ∨ ∃ d, s[k]? = some (.fr d) := by
  rcases h with rfl | ⟨d, rfl⟩
  · exact .inl e
  · exact .inr ⟨d, e⟩
end Wd.V
namespace Wd.V
open PySem
def f_word_after : FD := ⟨["row", "bits", "word", "rounds"], [false, false, false, false], 15, (.cons (.unp [(.nm 8), (.nm 9)] (.call "cycle_from" [.a 0, .a 1, .a 2] 3 0 (.cons (.var 0) (.cons (.var 1) (.cons (.var 2) .nil))) .nil)) (.cons (.iff (.cmp .lt (.var 3) (.bi .len (.cons (.var 8) .nil))) (.cons (.ret (.ix (.var 8) (.var 3))) .nil) .nil) (.cons (.parN [10, 11, 12] (.cons (.call "size_of" [.a 0] 1 0 (.cons (.var 1) .nil) .nil) (.cons (.call "part_of" [.a 0] 1 0 (.cons (.var 1) .nil) .nil) (.cons (.bin .sub (.bin .sub (.bi .len (.cons (.var 8) .nil)) (.con (.int 1))) (.var 9)) .nil)))) (.cons (.parN [13, 14] (.cons (.bin .fdiv (.bin .add (.bin .sub (.var 3) (.bi .len (.cons (.var 8) .nil))) (.con (.int 1))) (.var 12)) (.cons (.bin .mod (.bin .add (.bin .sub (.var 3) (.bi .len (.cons (.var 8) .nil))) (.con (.int 1))) (.var 12)) .nil))) (.cons (.set (.nm 4) (.bin .mod (.ix (.var 8) (.neg (.con (.int 1)))) (.var 11))) (.cons (.set (.nm 5) (.call "hop_of" [.a 0, .a 1, .a 2, .a 3] 4 0 (.cons (.var 0) (.cons (.var 1) (.cons (.var 4) (.cons (.var 12) .nil)))) .nil)) (.cons (.set (.nm 6) (.bin .add (.var 4) (.bin .mul (.var 11) (.call "hopped" [.a 0, .a 1, .a 2, .a 3] 4 0 (.cons (.var 5) (.cons (.bin .fdiv (.var 10) (.var 11)) (.cons (.bin .fdiv (.ix (.var 8) (.neg (.con (.int 1)))) (.var 11)) (.cons (.var 13) .nil)))) .nil)))) (.cons (.for_ [7] (.rg 1 (.cons (.var 14) .nil)) (.cons (.set (.nm 6) (.call "round_by" [.a 0, .a 1, .a 2] 3 0 (.cons (.var 0) (.cons (.var 10) (.cons (.var 6) .nil))) .nil)) .nil)) (.cons (.ret (.var 6)) .nil)))))))))⟩
/-- residues -/
structure Rs (m : Nat) (l : List Int) : Prop where
  len : l.length < 20
  bd : ∀ c ∈ l, 0 ≤ c ∧ c < 2 ^ m
theorem Rs.mod {m : Nat} {l : List Int} (h : l.length < 20) : Rs m (l.map (· % 2 ^ m)) := ⟨by simpa using h, fun c hc => by
  obtain ⟨a, _, rfl⟩ := List.mem_map.mp hc
  have p : (0 : Int) < 2 ^ m := Int.pow_pos (by decide)
  exact ⟨Int.emod_nonneg _ (by omega), Int.emod_lt_of_pos _ p⟩⟩
end Wd.V
namespace Wd.V
open PySem
def f_ring_size : FD := ⟨["row", "bits", "word"], [false, false, false], 11, (.cons (.unp [(.nm 3), (.nm 4)] (.call "cycle_from" [.a 0, .a 1, .a 2] 3 0 (.cons (.var 0) (.cons (.var 1) (.cons (.var 2) .nil))) .nil)) (.cons (.parN [5, 6, 7] (.cons (.call "part_of" [.a 0] 1 0 (.cons (.var 1) .nil) .nil) (.cons (.bin .sub (.bi .len (.cons (.var 3) .nil)) (.con (.int 1))) (.cons (.bin .fdiv (.var 2) (.call "part_of" [.a 0] 1 0 (.cons (.var 1) .nil) .nil)) .nil)))) (.cons (.parN [8, 9, 10] (.cons (.call "hop_of" [.a 0, .a 1, .a 2, .a 3] 4 0 (.cons (.var 0) (.cons (.var 1) (.cons (.bin .mod (.var 2) (.var 5)) (.cons (.var 6) .nil)))) .nil) (.cons (.bin .fdiv (.call "size_of" [.a 0] 1 0 (.cons (.var 1) .nil) .nil) (.var 5)) (.cons (.con (.int 2)) .nil)))) (.cons (.whl (.cmp .le (.var 10) (.var 9)) (.cons (.iff (.cmp .ne (.bin .mod (.bin .sub (.call "value_of" [.a 0, .a 1] 2 0 (.cons (.var 8) (.cons (.var 7) .nil)) .nil) (.var 7)) (.var 10)) (.con (.int 0))) (.cons (.parN [8, 6] (.cons (.call "put_into" [.a 0, .a 1, .a 2] 3 0 (.cons (.var 8) (.cons (.var 8) (.cons (.var 9) .nil))) .nil) (.cons (.bin .mul (.con (.int 2)) (.var 6)) .nil))) .nil) .nil) (.cons (.set (.nm 10) (.bin .mul (.con (.int 2)) (.var 10))) .nil))) (.cons (.ret (.var 6)) .nil)))))⟩
def f_is_shuffle_for : FD := ⟨["numbers", "bits"], [false, false], 3, (.cons (.iff (.cmp .eq (.var 1) (.con (.int 1))) (.cons (.ret (.cmp .eq (.bin .mod (.bi .sum (.cons (.sl (.var 0) (.con (.int 1)) (.con .non)) .nil)) (.con (.int 2))) (.con (.int 1)))) .nil) .nil) (.cons (.set (.nm 2) (.ite (.cmp .gt (.bi .len (.cons (.var 0) .nil)) (.con (.int 1))) (.ix (.var 0) (.con (.int 1))) (.con (.int 0)))) (.cons (.ret (.and (.cmp .eq (.bin .mod (.var 2) (.con (.int 2))) (.con (.int 1))) (.and (.cmp .eq (.bin .mod (.bi .sum (.cons (.slk (.var 0) (.con (.int 2)) 2) .nil)) (.con (.int 2))) (.con (.int 0))) (.cmp .eq (.bin .mod (.bi .sum (.cons (.slk (.var 0) (.con (.int 3)) 2) .nil)) (.con (.int 2))) (.con (.int 0)))))) .nil)))⟩
def f_check_shuffle : FD := ⟨["rule", "bits"], [false, false], 2, (.cons (.iff (.nt (.call "is_shuffle_for" [.a 0, .a 1] 2 0 (.cons (.attr (.var 0) "numbers") (.cons (.var 1) .nil)) .nil)) (.cons (.raise "raise" .nil) .nil) .nil) .nil)⟩
def f_check_asked : FD := ⟨["rule", "bits", "word"], [false, false, false], 3, (.cons (.ex (.call "check_rule" [.a 0] 1 0 (.cons (.var 0) .nil) .nil)) (.cons (.ex (.call "check_bits" [.a 0, .d (.int 64)] 1 0 (.cons (.var 1) .nil) .nil)) (.cons (.ex (.call "check_word" [.a 0, .a 1] 2 0 (.cons (.var 2) (.cons (.var 1) .nil)) .nil)) .nil)))⟩
def f_check_turns : FD := ⟨["value"], [false], 1, (.cons (.iff (.nt (.call "is_between" [.a 0, .a 1, .a 2] 3 0 (.cons (.var 0) (.cons (.neg (.con (.int 1000000000000000000000000000000))) (.cons (.con (.int 1000000000000000000000000000000)) .nil))) .nil)) (.cons (.raise "raise" .nil) .nil) .nil) .nil)⟩
def f_check_back : FD := ⟨["rule", "bits", "turns"], [false, false, false], 3, (.cons (.iff (.cmp .lt (.var 2) (.con (.int 0))) (.cons (.ex (.call "check_shuffle" [.a 0, .a 1] 2 0 (.cons (.var 0) (.cons (.var 1) .nil)) .nil)) .nil) .nil) .nil)⟩
def f_reached : FD := ⟨["rule", "bits", "word", "turns"], [false, false, false, false], 5, (.cons (.set (.nm 4) (.lst (.cons (.attr (.var 0) "numbers") .nil))) (.cons (.iff (.cmp .lt (.var 3) (.con (.int 0))) (.cons (.set (.nm 3) (.bin .mod (.var 3) (.call "ring_size" [.a 0, .a 1, .a 2] 3 0 (.cons (.var 4) (.cons (.var 1) (.cons (.var 2) .nil))) .nil))) .nil) .nil) (.cons (.ret (.call "word_after" [.a 0, .a 1, .a 2, .a 3] 4 0 (.cons (.var 4) (.cons (.var 1) (.cons (.var 2) (.cons (.var 3) .nil)))) .nil)) .nil)))⟩
def f_after : FD := ⟨["rule", "bits", "word", "turns"], [false, false, false, false], 4, (.cons (.ex (.call "check_asked" [.a 0, .a 1, .a 2] 3 0 (.cons (.var 0) (.cons (.var 1) (.cons (.var 2) .nil))) .nil)) (.cons (.ex (.call "check_turns" [.a 0] 1 0 (.cons (.var 3) .nil) .nil)) (.cons (.ex (.call "check_back" [.a 0, .a 1, .a 2] 3 0 (.cons (.var 0) (.cons (.var 1) (.cons (.var 3) .nil))) .nil)) (.cons (.ret (.call "reached" [.a 0, .a 1, .a 2, .a 3] 4 0 (.cons (.var 0) (.cons (.var 1) (.cons (.var 2) (.cons (.var 3) .nil)))) .nil)) .nil))))⟩
def f_rounds_between : FD := ⟨["row", "bits", "word", "aim"], [false, false, false, false], 17, (.cons (.unp [(.nm 5), (.nm 6)] (.call "cycle_from" [.a 0, .a 1, .a 2] 3 0 (.cons (.var 0) (.cons (.var 1) (.cons (.var 2) .nil))) .nil)) (.cons (.parN [7, 8] (.cons (.call "part_of" [.a 0] 1 0 (.cons (.var 1) .nil) .nil) (.cons (.bin .sub (.bi .len (.cons (.var 5) .nil)) (.con (.int 1))) .nil))) (.cons (.set (.nm 4) (.lc (.one [16] (.rg 1 (.cons (.var 8) .nil)) (.cons (.cmp .eq (.bin .mod (.ix (.var 5) (.var 16)) (.var 7)) (.bin .mod (.var 3) (.var 7))) .nil) (.var 16)) [])) (.cons (.iff (.cmp .eq (.var 4) (.lst .nil)) (.cons (.ret (.con .non)) .nil) .nil) (.cons (.parN [9, 10, 11] (.cons (.ix (.var 4) (.con (.int 0))) (.cons (.bin .fdiv (.ix (.var 5) (.ix (.var 4) (.con (.int 0)))) (.var 7)) (.cons (.bin .fdiv (.var 3) (.var 7)) .nil)))) (.cons (.parN [12, 13, 14] (.cons (.call "hop_of" [.a 0, .a 1, .a 2, .a 3] 4 0 (.cons (.var 0) (.cons (.var 1) (.cons (.bin .mod (.var 3) (.var 7)) (.cons (.var 8) .nil)))) .nil) (.cons (.bin .fdiv (.call "size_of" [.a 0] 1 0 (.cons (.var 1) .nil) .nil) (.var 7)) (.cons (.con (.int 2)) .nil)))) (.cons (.whl (.cmp .le (.var 14) (.var 13)) (.cons (.set (.nm 15) (.bin .mod (.call "value_of" [.a 0, .a 1] 2 0 (.cons (.var 12) (.cons (.var 10) .nil)) .nil) (.var 13))) (.cons (.iff (.cmp .ne (.bin .mod (.bin .sub (.var 10) (.var 11)) (.var 14)) (.con (.int 0))) (.cons (.iff (.cmp .eq (.bin .mod (.bin .sub (.var 15) (.var 10)) (.var 14)) (.con (.int 0))) (.cons (.ret (.con .non)) .nil) .nil) (.cons (.parN [10, 9] (.cons (.var 15) (.cons (.bin .add (.var 9) (.var 8)) .nil))) .nil)) .nil) (.cons (.iff (.cmp .ne (.bin .mod (.bin .sub (.call "value_of" [.a 0, .a 1] 2 0 (.cons (.var 12) (.cons (.var 10) .nil)) .nil) (.var 10)) (.var 14)) (.con (.int 0))) (.cons (.parN [12, 8] (.cons (.call "put_into" [.a 0, .a 1, .a 2] 3 0 (.cons (.var 12) (.cons (.var 12) (.cons (.var 13) .nil))) .nil) (.cons (.bin .mul (.con (.int 2)) (.var 8)) .nil))) .nil) .nil) (.cons (.set (.nm 14) (.bin .mul (.con (.int 2)) (.var 14))) .nil))))) (.cons (.ret (.var 9)) .nil))))))))⟩
def f_turns_to : FD := ⟨["rule", "bits", "word", "aim"], [false, false, false, false], 4, (.cons (.ex (.call "check_asked" [.a 0, .a 1, .a 2] 3 0 (.cons (.var 0) (.cons (.var 1) (.cons (.var 2) .nil))) .nil)) (.cons (.ex (.call "check_word" [.a 0, .a 1] 2 0 (.cons (.var 3) (.cons (.var 1) .nil)) .nil)) (.cons (.ex (.call "check_shuffle" [.a 0, .a 1] 2 0 (.cons (.var 0) (.cons (.var 1) .nil)) .nil)) (.cons (.ret (.call "rounds_between" [.a 0, .a 1, .a 2, .a 3] 4 0 (.cons (.lst (.cons (.attr (.var 0) "numbers") .nil)) (.cons (.var 1) (.cons (.var 2) (.cons (.var 3) .nil)))) .nil)) .nil))))⟩
structure HT (T : Tab) : Prop where
  t_ring_size : fdOf T "ring_size" = some f_ring_size
  t_word_after : fdOf T "word_after" = some f_word_after
  t_rounds_between : fdOf T "rounds_between" = some f_rounds_between
  t_is_shuffle_for : fdOf T "is_shuffle_for" = some f_is_shuffle_for
  t_check_shuffle : fdOf T "check_shuffle" = some f_check_shuffle
  t_check_rule : fdOf T "check_rule" = some f_check_rule
  t_check_asked : fdOf T "check_asked" = some f_check_asked
  t_check_turns : fdOf T "check_turns" = some f_check_turns
  t_check_back : fdOf T "check_back" = some f_check_back
  t_reached : fdOf T "reached" = some f_reached
  t_after : fdOf T "after" = some f_after
  t_turns_to : fdOf T "turns_to" = some f_turns_to
  t_pr : T.props.contains ("Rule", "numbers") = true
  t_nf : T.fds.contains ("Rule", "numbers") = false
end Wd.V
set_option maxHeartbeats 0
namespace Wd.V
open PySem
def f__law_jar : FD := ⟨["_law_cells", "_law_turn"], [false, false], 5, (.cons (.set (.nm 2) (.ite (.cmp .lt (.var 1) (.bi .len (.cons (.var 0) .nil))) (.ix (.var 0) (.var 1)) (.bin .add (.bin .mul (.con (.int 31)) (.var 1)) (.con (.int 5))))) (.cons (.set (.nm 3) (.bin .add (.con (.int 50021)) (.bin .mul (.con (.int 8017)) (.var 1)))) (.cons (.for_ [4] (.e (.bin .add (.sl (.var 0) (.con .non) (.con (.int 5))) (.lst (.cons (.var 2) .nil)))) (.cons (.set (.nm 3) (.bin .mod (.bi .int (.cons (.bin .add (.bin .mul (.var 3) (.con (.int 21023))) (.var 4)) .nil)) (.con (.int 2147482819)))) .nil)) (.cons (.ret (.lst (.cons (.ite (.or (.cmp .lt (.var 2) (.con (.int 0))) (.cmp .ge (.var 2) (.bin .pow (.con (.int 10)) (.con (.int 18))))) (.bi .abs (.cons (.var 2) .nil)) (.con (.int 0))) (.cons (.var 3) (.cons (.con (.int 0)) .nil))))) .nil))))⟩
def f__law_dip : FD := ⟨["_law_jar_here", "_law_top"], [true, false], 3, (.cons (.set (.ix 0 (.con (.int 2))) (.bin .add (.ix (.var 0) (.con (.int 2))) (.con (.int 1)))) (.cons (.iff (.cmp .gt (.ix (.var 0) (.con (.int 0))) (.con (.int 0))) (.cons (.unp [(.ix 0 (.con (.int 0))), (.nm 2)] (.bi .divmod (.cons (.ix (.var 0) (.con (.int 0))) (.cons (.var 1) .nil)))) (.cons (.ret (.var 2)) .nil)) .nil) (.cons (.set (.ix 0 (.con (.int 1))) (.bin .mod (.bi .int (.cons (.bin .add (.bin .mul (.ix (.var 0) (.con (.int 1))) (.con (.int 48271))) (.bin .mul (.con (.int 90031)) (.ix (.var 0) (.con (.int 2))))) .nil)) (.con (.int 2147483399)))) (.cons (.ret (.bin .mod (.bi .int (.cons (.bin .fdiv (.ix (.var 0) (.con (.int 1))) (.con (.int 512))) .nil)) (.var 1))) .nil))))⟩
def f__law_one_of (B : Bool) : FD := ⟨["_law_jar_here", "_law_some"], [true, B], 2, (.cons (.ret (.ix (.var 1) (.call "_law_dip" [.a 0, .a 1] 2 0 (.cons (.var 0) (.cons (.bi .len (.cons (.var 1) .nil)) .nil)) .nil))) .nil)⟩
structure HA (T : Tab) (B : Bool) : Prop where
  g_jar : fdOf T "_law_jar" = some f__law_jar
  g_dip : fdOf T "_law_dip" = some f__law_dip
  g_one_of : fdOf T "_law_one_of" = some (f__law_one_of B)
/-- a jar -/
structure Jar (k : Nat) (a b c : Int) : Prop where
  a0 : 0 ≤ a
  b0 : 0 ≤ b
  b1 : b < 2147483399
  c0 : 0 ≤ c
  c1 : c ≤ k
section
variable {T : Tab} {W n : Nat}
section
variable {B : Bool} (R : HA T B)
include R
theorem dip_ok {k : Nat} {a b c top : Int} (h : Jar k a b c) (hk : k < 2 ^ 40) (h0 : 0 < top) (ht : top.natAbs < 2 ^ 200) : ∃ v a' b' c', evF T W (n + 1) "_law_dip" [.bo (cn a b c), .fr (.int top)] = .ok (.v (.int v)) [.bo (cn a' b' c'), .fr (.int top)] ∧ 0 ≤ v ∧ v < top ∧ Jar (k + 1) a' b' c' := by
  obtain ⟨g1, g2, g3, g4, g5⟩ := h
  have hb : bits top < 9000 := Nat.lt_trans (bits_lt ht (by decide)) (by decide)
  by_cases ha : a > 0
  · refine ⟨a % top, a / top, b, c + 1, ?_, Int.emod_nonneg _ (by omega), Int.emod_lt_of_pos _ h0, Int.ediv_nonneg g1 (by omega), g2, g3, by omega, by omega⟩
    rw [evF_at R.g_dip rfl]
    simp (decide := true) (implicitDefEqProofs := false) (dsimp := false) only [cn, f__law_dip, ha, h0, hb, ev0, ev1, ev2, ev3, ev4, ev5, ev6, ev7, ev8, ev9, ev10, ev11, ev12, ev13, ev14, ↓bnd_is, ↓forL_is, ↓whileN_is, ↓lcL_is, List.length_cons, List.length_nil, Nat.reduceSub, Nat.reduceAdd, Nat.zero_add, Int.reduceToNat, Int.reduceBEq, Int.reduceBNe, Int.reduceAdd, Int.reduceSub, Int.reduceMul, Int.reduceNeg, Int.reduceLT, Int.reduceLE, Int.reduceGT, Int.reduceGE, Int.reducePow, Nat.reducePow, Nat.reduceMul, Nat.reduceLT, Nat.reduceLeDiff, List.append_nil, List.cons_append, List.nil_append, List.getElem?_cons_zero, List.getElem?_cons_succ, List.getElem?_nil, List.take_succ_cons, List.take_zero, List.take_nil, List.set_cons_zero, List.set_cons_succ, List.tail_cons, List.headD_cons, List.headD_nil, List.tail_nil, if_true, if_false, reduceIte, Bool.false_eq_true, Option.bind_some, Option.map_some, Option.bind_none, Option.map_none, List.contains_nil, List.contains_cons, beq_self_eq_true, Bool.or_false, Bool.or_true, Bool.true_or, Bool.false_or, Bool.not_true, Bool.not_false, Bool.and_true, Bool.true_and, Bool.and_false, Bool.false_and, Bool.and_self, List.isEmpty_map, List.mem_cons, Bool.not_eq_true', decide_true, decide_false, eq_self, true_and, and_true, not_true_eq_false, not_false_eq_true]
  · have m1 := mul_ok (a := b) (b := 48271) (k := 31) (l := 17) (by omega) (by decide) (by decide)
    have m2 := mul_ok (a := 90031) (b := c + 1) (k := 18) (l := 41) (by decide) (by omega) (by decide)
    refine ⟨(b * 48271 + 90031 * (c + 1)) % 2147483399 / 512 % top, a, (b * 48271 + 90031 * (c + 1)) % 2147483399, c + 1, ?_, Int.emod_nonneg _ (by omega), Int.emod_lt_of_pos _ h0, g1, Int.emod_nonneg _ (by decide), Int.emod_lt_of_pos _ (by decide), by omega, by omega⟩
    rw [evF_at R.g_dip rfl]
    simp (decide := true) (implicitDefEqProofs := false) (dsimp := false) only [cn, f__law_dip, ha, h0, hb, m1, m2, ev0, ev1, ev2, ev3, ev4, ev5, ev6, ev7, ev8, ev9, ev10, ev11, ev12, ev13, ev14, ↓bnd_is, ↓forL_is, ↓whileN_is, ↓lcL_is, List.length_cons, List.length_nil, Nat.reduceSub, Nat.reduceAdd, Nat.zero_add, Int.reduceToNat, Int.reduceBEq, Int.reduceBNe, Int.reduceAdd, Int.reduceSub, Int.reduceMul, Int.reduceNeg, Int.reduceLT, Int.reduceLE, Int.reduceGT, Int.reduceGE, Int.reducePow, Nat.reducePow, Nat.reduceMul, Nat.reduceLT, Nat.reduceLeDiff, List.append_nil, List.cons_append, List.nil_append, List.getElem?_cons_zero, List.getElem?_cons_succ, List.getElem?_nil, List.take_succ_cons, List.take_zero, List.take_nil, List.set_cons_zero, List.set_cons_succ, List.tail_cons, List.headD_cons, List.headD_nil, List.tail_nil, if_true, if_false, reduceIte, Bool.false_eq_true, Option.bind_some, Option.map_some, Option.bind_none, Option.map_none, List.contains_nil, List.contains_cons, beq_self_eq_true, Bool.or_false, Bool.or_true, Bool.true_or, Bool.false_or, Bool.not_true, Bool.not_false, Bool.and_true, Bool.true_and, Bool.and_false, Bool.false_and, Bool.and_self, List.isEmpty_map, List.mem_cons, Bool.not_eq_true', decide_true, decide_false, eq_self, true_and, and_true, not_true_eq_false, not_false_eq_true]
theorem one_of_ok {k : Nat} {a b c : Int} {xs : List D} (h : Jar k a b c) (hk : k < 2 ^ 40) (h0 : 0 < xs.length) (h1 : xs.length < 2 ^ 60) : ∃ d a' b' c', evF T W (n + 2) "_law_one_of" [.bo (cn a b c), shr B (.lst xs)] = .ok (.v d) [.bo (cn a' b' c'), shr B (.lst xs)] ∧ d ∈ xs ∧ Jar (k + 1) a' b' c' := by
  obtain ⟨v, a', b', c', e, v0, v1, hc⟩ := dip_ok R (W := W) (n := n) h hk (show (0 : Int) < (xs.length : Int) by omega) (by rw [Int.natAbs_natCast]; exact Nat.lt_trans h1 (by decide))
  have hv : v.toNat < xs.length := by omega
  refine ⟨xs[v.toNat], a', b', c', ?_, List.getElem_mem hv, hc⟩
  rw [evF_at R.g_one_of rfl]
  cases B <;> simp (decide := true) (implicitDefEqProofs := false) (dsimp := false) only [shr_t, shr_f, cn, f__law_one_of, f__law_dip, R.g_dip, e, v0, List.getElem?_eq_getElem hv, ev0, ev1, ev2, ev3, ev4, ev5, ev6, ev7, ev8, ev9, ev10, ev11, ev12, ev13, ev14, ↓bnd_is, ↓forL_is, ↓whileN_is, ↓lcL_is, List.length_cons, List.length_nil, Nat.reduceSub, Nat.reduceAdd, Nat.zero_add, Int.reduceToNat, Int.reduceBEq, Int.reduceBNe, Int.reduceAdd, Int.reduceSub, Int.reduceMul, Int.reduceNeg, Int.reduceLT, Int.reduceLE, Int.reduceGT, Int.reduceGE, Int.reducePow, Nat.reducePow, Nat.reduceMul, Nat.reduceLT, Nat.reduceLeDiff, List.append_nil, List.cons_append, List.nil_append, List.getElem?_cons_zero, List.getElem?_cons_succ, List.getElem?_nil, List.take_succ_cons, List.take_zero, List.take_nil, List.set_cons_zero, List.set_cons_succ, List.tail_cons, List.headD_cons, List.headD_nil, List.tail_nil, if_true, if_false, reduceIte, Bool.false_eq_true, Option.bind_some, Option.map_some, Option.bind_none, Option.map_none, List.contains_nil, List.contains_cons, beq_self_eq_true, Bool.or_false, Bool.or_true, Bool.true_or, Bool.false_or, Bool.not_true, Bool.not_false, Bool.and_true, Bool.true_and, Bool.and_false, Bool.false_and, Bool.and_self, List.isEmpty_map, List.mem_cons, Bool.not_eq_true', decide_true, decide_false, eq_self, true_and, and_true, not_true_eq_false, not_false_eq_true]
omit R
include R
omit R
include R
theorem jar_ok {l : List Int} {t : Nat} (ht : t < 1000) : ∃ a b, evF T W (n + 1) "_law_jar" [.fr (.scr (l.map .int)), .fr (.int t)] = .ok (.n (cn a b 0)) [.fr (.scr (l.map .int)), .fr (.int t)] ∧ Jar 0 a b 0 := by
  obtain ⟨c, hc⟩ : ∃ c : Int, c = if h : t < l.length then l[t] else 31 * (t : Int) + 5 := ⟨_, rfl⟩
  obtain ⟨q, hq⟩ : ∃ q, q = l.take 5 ++ [c] := ⟨_, rfl⟩
  have s1 : slD (.scr (l.map .int)) none (some 5) = some (.n (.lst ((l.take 5).map .int))) := by
    show some (Rv.n (.lst (cut _ (HT.sIx _ 0 none) (HT.sIx _ _ (some ((5 : Nat) : Int)))))) = _
    rw [HT.sIx_none, HT.sIx_nat, cut_map]
    unfold cut
    rw [List.drop_zero, Nat.sub_zero, len_map, ← List.take_eq_take_min]
  have s2 : ((l.take 5).map D.int).length + [D.int c].length ≤ LIM := by simp [LIM]; omega
  have s3 : (l.take 5).map D.int ++ [D.int c] = q.map .int := by rw [hq, List.map_append]; rfl
  have s4 := addD_lst _ _ s2
  rw [s3] at s4
  have hql : q.length ≤ 6 := by rw [hq]; simp; omega
  have m0 := mul_ok (a := 8017) (b := (t : Int)) (k := 14) (l := 11) (by decide) (by omega) (by decide)
  have m2 := mul_ok (a := 31) (b := (t : Int)) (k := 13) (l := 11) (by decide) (by omega) (by decide)
  have hl1 : ((1 : Nat) ≤ LIM) = True := by simp [LIM]
  obtain ⟨s', el, b, z, rfl, hz, b0, b1⟩ := forL_ok (t := [4]) (body := fun s => evB T (evF T W n) W (.cons (.set (.nm 3) (.bin .mod (.bi .int (.cons (.bin .add (.bin .mul (.var 3) (.con (.int 21023))) (.var 4)) .nil)) (.con (.int 2147482819)))) .nil) s)
    (fun i s => ∃ b z, s = [.fr (.scr (l.map .int)), .fr (.int t), .fr (.int c), .fr (.int b), z] ∧ isBo z = false ∧ 0 ≤ b ∧ b < 2147483399) (l := q.map .int) (s := [.fr (.scr (l.map .int)), .fr (.int t), .fr (.int c), .fr (.int (50021 + 8017 * (t : Int))), .un]) ⟨_, .un, rfl, rfl, by omega, by omega⟩ (by
      rintro i d s hd ⟨b, z, rfl, hz, b0, b1⟩
      rw [List.getElem?_map] at hd
      obtain ⟨x, hx, rfl⟩ := Option.map_eq_some_iff.mp hd
      have m1 := mul_ok (a := b) (b := 21023) (k := 31) (l := 17) (by omega) (by decide) (by decide)
      have q1 := Int.emod_lt_of_pos (b * 21023 + x) (show (0 : Int) < 2147482819 by decide)
      refine ⟨_, ?_, (b * 21023 + x) % 2147482819, .fr (.int x), rfl, rfl, Int.emod_nonneg _ (by decide), by omega⟩
      simp (decide := true) (implicitDefEqProofs := false) (dsimp := false) only [putZ_at hz, m1, ev0, ev1, ev2, ev3, ev4, ev5, ev6, ev7, ev8, ev9, ev10, ev11, ev12, ev13, ev14, ↓bnd_is, ↓forL_is, ↓whileN_is, ↓lcL_is, List.length_cons, List.length_nil, Nat.reduceSub, Nat.reduceAdd, Nat.zero_add, Int.reduceToNat, Int.reduceBEq, Int.reduceBNe, Int.reduceAdd, Int.reduceSub, Int.reduceMul, Int.reduceNeg, Int.reduceLT, Int.reduceLE, Int.reduceGT, Int.reduceGE, Int.reducePow, Nat.reducePow, Nat.reduceMul, Nat.reduceLT, Nat.reduceLeDiff, List.append_nil, List.cons_append, List.nil_append, List.getElem?_cons_zero, List.getElem?_cons_succ, List.getElem?_nil, List.take_succ_cons, List.take_zero, List.take_nil, List.set_cons_zero, List.set_cons_succ, List.tail_cons, List.headD_cons, List.headD_nil, List.tail_nil, if_true, if_false, reduceIte, Bool.false_eq_true, Option.bind_some, Option.map_some, Option.bind_none, Option.map_none, List.contains_nil, List.contains_cons, beq_self_eq_true, Bool.or_false, Bool.or_true, Bool.true_or, Bool.false_or, Bool.not_true, Bool.not_false, Bool.and_true, Bool.true_and, Bool.and_false, Bool.false_and, Bool.and_self, List.isEmpty_map, List.mem_cons, Bool.not_eq_true', decide_true, decide_false, eq_self, true_and, and_true, not_true_eq_false, not_false_eq_true])
  by_cases h1 : t < l.length
  · rw [dif_pos h1] at hc
    have a1 := atIx_map h1
    rw [← hc] at a1
    have g1 : ((t : Int) < ((l.map D.int).length : Nat)) = True := by simp [h1]
    by_cases h2 : c < 0
    · refine ⟨-c, b, ?_, by omega, b0, b1, by decide, by decide⟩
      rw [evF_at R.g_jar rfl]
      simp (decide := true) (implicitDefEqProofs := false) (dsimp := false) only [cn, f__law_jar, g1, a1, m0, s1, s4, hl1, ↓fl2 el, fl2 el, h2, ev0, ev1, ev2, ev3, ev4, ev5, ev6, ev7, ev8, ev9, ev10, ev11, ev12, ev13, ev14, ↓bnd_is, ↓forL_is, ↓whileN_is, ↓lcL_is, List.length_cons, List.length_nil, Nat.reduceSub, Nat.reduceAdd, Nat.zero_add, Int.reduceToNat, Int.reduceBEq, Int.reduceBNe, Int.reduceAdd, Int.reduceSub, Int.reduceMul, Int.reduceNeg, Int.reduceLT, Int.reduceLE, Int.reduceGT, Int.reduceGE, Int.reducePow, Nat.reducePow, Nat.reduceMul, Nat.reduceLT, Nat.reduceLeDiff, List.append_nil, List.cons_append, List.nil_append, List.getElem?_cons_zero, List.getElem?_cons_succ, List.getElem?_nil, List.take_succ_cons, List.take_zero, List.take_nil, List.set_cons_zero, List.set_cons_succ, List.tail_cons, List.headD_cons, List.headD_nil, List.tail_nil, if_true, if_false, reduceIte, Bool.false_eq_true, Option.bind_some, Option.map_some, Option.bind_none, Option.map_none, List.contains_nil, List.contains_cons, beq_self_eq_true, Bool.or_false, Bool.or_true, Bool.true_or, Bool.false_or, Bool.not_true, Bool.not_false, Bool.and_true, Bool.true_and, Bool.and_false, Bool.false_and, Bool.and_self, List.isEmpty_map, List.mem_cons, Bool.not_eq_true', decide_true, decide_false, eq_self, true_and, and_true, not_true_eq_false, not_false_eq_true]
    · by_cases h3 : c ≥ 1000000000000000000
      · refine ⟨c, b, ?_, by omega, b0, b1, by decide, by decide⟩
        rw [evF_at R.g_jar rfl]
        simp (decide := true) (implicitDefEqProofs := false) (dsimp := false) only [cn, f__law_jar, g1, a1, m0, s1, s4, hl1, ↓fl2 el, fl2 el, h2, h3, ev0, ev1, ev2, ev3, ev4, ev5, ev6, ev7, ev8, ev9, ev10, ev11, ev12, ev13, ev14, ↓bnd_is, ↓forL_is, ↓whileN_is, ↓lcL_is, List.length_cons, List.length_nil, Nat.reduceSub, Nat.reduceAdd, Nat.zero_add, Int.reduceToNat, Int.reduceBEq, Int.reduceBNe, Int.reduceAdd, Int.reduceSub, Int.reduceMul, Int.reduceNeg, Int.reduceLT, Int.reduceLE, Int.reduceGT, Int.reduceGE, Int.reducePow, Nat.reducePow, Nat.reduceMul, Nat.reduceLT, Nat.reduceLeDiff, List.append_nil, List.cons_append, List.nil_append, List.getElem?_cons_zero, List.getElem?_cons_succ, List.getElem?_nil, List.take_succ_cons, List.take_zero, List.take_nil, List.set_cons_zero, List.set_cons_succ, List.tail_cons, List.headD_cons, List.headD_nil, List.tail_nil, if_true, if_false, reduceIte, Bool.false_eq_true, Option.bind_some, Option.map_some, Option.bind_none, Option.map_none, List.contains_nil, List.contains_cons, beq_self_eq_true, Bool.or_false, Bool.or_true, Bool.true_or, Bool.false_or, Bool.not_true, Bool.not_false, Bool.and_true, Bool.true_and, Bool.and_false, Bool.false_and, Bool.and_self, List.isEmpty_map, List.mem_cons, Bool.not_eq_true', decide_true, decide_false, eq_self, true_and, and_true, not_true_eq_false, not_false_eq_true]
      · refine ⟨0, b, ?_, by omega, b0, b1, by decide, by decide⟩
        rw [evF_at R.g_jar rfl]
        simp (decide := true) (implicitDefEqProofs := false) (dsimp := false) only [cn, f__law_jar, g1, a1, m0, s1, s4, hl1, ↓fl2 el, fl2 el, h2, h3, ev0, ev1, ev2, ev3, ev4, ev5, ev6, ev7, ev8, ev9, ev10, ev11, ev12, ev13, ev14, ↓bnd_is, ↓forL_is, ↓whileN_is, ↓lcL_is, List.length_cons, List.length_nil, Nat.reduceSub, Nat.reduceAdd, Nat.zero_add, Int.reduceToNat, Int.reduceBEq, Int.reduceBNe, Int.reduceAdd, Int.reduceSub, Int.reduceMul, Int.reduceNeg, Int.reduceLT, Int.reduceLE, Int.reduceGT, Int.reduceGE, Int.reducePow, Nat.reducePow, Nat.reduceMul, Nat.reduceLT, Nat.reduceLeDiff, List.append_nil, List.cons_append, List.nil_append, List.getElem?_cons_zero, List.getElem?_cons_succ, List.getElem?_nil, List.take_succ_cons, List.take_zero, List.take_nil, List.set_cons_zero, List.set_cons_succ, List.tail_cons, List.headD_cons, List.headD_nil, List.tail_nil, if_true, if_false, reduceIte, Bool.false_eq_true, Option.bind_some, Option.map_some, Option.bind_none, Option.map_none, List.contains_nil, List.contains_cons, beq_self_eq_true, Bool.or_false, Bool.or_true, Bool.true_or, Bool.false_or, Bool.not_true, Bool.not_false, Bool.and_true, Bool.true_and, Bool.and_false, Bool.false_and, Bool.and_self, List.isEmpty_map, List.mem_cons, Bool.not_eq_true', decide_true, decide_false, eq_self, true_and, and_true, not_true_eq_false, not_false_eq_true]
  · rw [dif_neg h1] at hc
    have g1 : ((t : Int) < ((l.map D.int).length : Nat)) = False := by simp; omega
    have h2 : (c < 0) = False := by simp; omega
    have h3 : (c ≥ 1000000000000000000) = False := by simp; omega
    refine ⟨0, b, ?_, by omega, b0, b1, by decide, by decide⟩
    rw [evF_at R.g_jar rfl]
    simp (decide := true) (implicitDefEqProofs := false) (dsimp := false) only [cn, f__law_jar, g1, m0, m2, ← hc, s1, s4, hl1, ↓fl2 el, fl2 el, h2, h3, ev0, ev1, ev2, ev3, ev4, ev5, ev6, ev7, ev8, ev9, ev10, ev11, ev12, ev13, ev14, ↓bnd_is, ↓forL_is, ↓whileN_is, ↓lcL_is, List.length_cons, List.length_nil, Nat.reduceSub, Nat.reduceAdd, Nat.zero_add, Int.reduceToNat, Int.reduceBEq, Int.reduceBNe, Int.reduceAdd, Int.reduceSub, Int.reduceMul, Int.reduceNeg, Int.reduceLT, Int.reduceLE, Int.reduceGT, Int.reduceGE, Int.reducePow, Nat.reducePow, Nat.reduceMul, Nat.reduceLT, Nat.reduceLeDiff, List.append_nil, List.cons_append, List.nil_append, List.getElem?_cons_zero, List.getElem?_cons_succ, List.getElem?_nil, List.take_succ_cons, List.take_zero, List.take_nil, List.set_cons_zero, List.set_cons_succ, List.tail_cons, List.headD_cons, List.headD_nil, List.tail_nil, if_true, if_false, reduceIte, Bool.false_eq_true, Option.bind_some, Option.map_some, Option.bind_none, Option.map_none, List.contains_nil, List.contains_cons, beq_self_eq_true, Bool.or_false, Bool.or_true, Bool.true_or, Bool.false_or, Bool.not_true, Bool.not_false, Bool.and_true, Bool.true_and, Bool.and_false, Bool.false_and, Bool.and_self, List.isEmpty_map, List.mem_cons, Bool.not_eq_true', decide_true, decide_false, eq_self, true_and, and_true, not_true_eq_false, not_false_eq_true]
end
end
end Wd.V
namespace Wd.V
open PySem
def f_lawA (M : Int) : FD := ⟨["_law_script"], [false], 2, (.cons (.ret (.bi .all (.cons (.lc (.one [1] (.rg 1 (.cons (.bi .max (.cons (.con (.int 2)) (.cons (.bi .min (.cons (.bi .len (.cons (.var 0) .nil)) (.cons (.con (.int M)) .nil))) .nil))) .nil)) .nil (.call "_law_right" [.a 0] 1 0 (.cons (.call "_law_jar" [.a 0, .a 1] 2 0 (.cons (.var 0) (.cons (.var 1) .nil)) .nil) .nil) .nil)) []) .nil))) .nil)⟩
section
variable {T : Tab} {W n : Nat}
theorem lawA_end {B : Bool} (R : HA T B) {fd : FD} (hio : fd.io = [true]) (hf : fdOf T "_law_right" = some fd) {m : Nat} (hm : m ≤ 100) (hL : fdOf T "law" = some (f_lawA (m : Int)))
    (right : ∀ a b : Int, Jar 0 a b 0 → ∃ a' b' c', evF T W (n + 1) "_law_right" [.bo (cn a b 0)] = .ok (.v (.bl true)) [.bo (cn a' b' c')]) (l : List Int) :
    ∃ outs, evF T W (n + 2) "law" [.fr (.scr (l.map .int))] = .ok (.v (.bl true)) outs := by
  obtain ⟨M, hM, hM4⟩ : ∃ M : Nat, (if (if (m : Int) < (l.length : Int) then (m : Int) else (l.length : Int)) > 2 then if (m : Int) < (l.length : Int) then (m : Int) else (l.length : Int) else 2) = (M : Int) ∧ M ≤ 100 := ⟨(if (if (m : Int) < (l.length : Int) then (m : Int) else (l.length : Int)) > 2 then if (m : Int) < (l.length : Int) then (m : Int) else (l.length : Int) else 2).toNat, by split <;> split <;> omega, by split <;> split <;> omega⟩
  have er : rangeD 1 [.int M] = some (rangeL 0 1 M) := rangeD1 _ (by omega) (by omega)
  obtain ⟨s', acc, el, hs, ha⟩ := lcL_ok (t := [1]) (cs := fun s => noEx (evCs T (evF T W (n + 1)) .nil s)) (f := fun s acc => noEx (bnd (fz (evE T (evF T W (n + 1)) (.call "_law_right" [.a 0] 1 0 (.cons (.call "_law_jar" [.a 0, .a 1] 2 0 (.cons (.var 0) (.cons (.var 1) .nil)) .nil) .nil) .nil) s)) fun x s => grow acc x s))
    (fun i s acc => (∃ z, s = [.fr (.scr (l.map .int)), z] ∧ isBo z = false) ∧ acc = List.replicate i (.bl true)) (l := rangeL 0 1 M) (s := [.fr (.scr (l.map .int)), .un]) (acc := []) ⟨⟨.un, rfl, rfl⟩, rfl⟩ (by
      rintro i d s acc hd ⟨⟨z, rfl, hz⟩, rfl⟩
      obtain ⟨hi, rfl⟩ := rangeL_get hd
      obtain ⟨a, b, e1, hc⟩ := jar_ok R (W := W) (n := n) (l := l) (t := i) (by omega)
      obtain ⟨a', b', c', e2⟩ := right a b hc
      have e1 : evF T W (n + 1) "_law_jar" [.fr (.scr (l.map .int)), .fr (.int (0 + i * 1))] = .ok (.n (cn a b 0)) [.fr (.scr (l.map .int)), .fr (.int (0 + i * 1))] := by
        rw [Int.zero_add, Int.mul_one]; exact e1
      have hlen : (List.replicate i (D.bl true)).length < LIM := by simp [LIM]; omega
      have hrep : List.replicate i (D.bl true) ++ [D.bl true] = List.replicate (i + 1) (D.bl true) := by rw [List.replicate_succ']
      refine ⟨[.fr (.scr (l.map .int)), .fr (.int (0 + i * 1))], [.fr (.scr (l.map .int)), .fr (.int (0 + i * 1))], [.fr (.scr (l.map .int)), .fr (.int (0 + i * 1))], _, ?_, ?_, ?_, ⟨_, rfl, rfl⟩, rfl⟩
      · simp (decide := true) (implicitDefEqProofs := false) (dsimp := false) only [wipe, ev0, ev1, ev2, ev3, ev4, ev5, ev6, ev7, ev8, ev9, ev10, ev11, ev12, ev13, ev14, ↓bnd_is, ↓forL_is, ↓whileN_is, ↓lcL_is, List.length_cons, List.length_nil, Nat.reduceSub, Nat.reduceAdd, Nat.zero_add, Int.reduceToNat, Int.reduceBEq, Int.reduceBNe, Int.reduceAdd, Int.reduceSub, Int.reduceMul, Int.reduceNeg, Int.reduceLT, Int.reduceLE, Int.reduceGT, Int.reduceGE, Int.reducePow, Nat.reducePow, Nat.reduceMul, Nat.reduceLT, Nat.reduceLeDiff, List.append_nil, List.cons_append, List.nil_append, List.getElem?_cons_zero, List.getElem?_cons_succ, List.getElem?_nil, List.take_succ_cons, List.take_zero, List.take_nil, List.set_cons_zero, List.set_cons_succ, List.tail_cons, List.headD_cons, List.headD_nil, List.tail_nil, if_true, if_false, reduceIte, Bool.false_eq_true, Option.bind_some, Option.map_some, Option.bind_none, Option.map_none, List.contains_nil, List.contains_cons, beq_self_eq_true, Bool.or_false, Bool.or_true, Bool.true_or, Bool.false_or, Bool.not_true, Bool.not_false, Bool.and_true, Bool.true_and, Bool.and_false, Bool.false_and, Bool.and_self, List.isEmpty_map, List.mem_cons, Bool.not_eq_true', decide_true, decide_false, eq_self, true_and, and_true, not_true_eq_false, not_false_eq_true]
      · simp (decide := true) (implicitDefEqProofs := false) (dsimp := false) only [ev0, ev1, ev2, ev3, ev4, ev5, ev6, ev7, ev8, ev9, ev10, ev11, ev12, ev13, ev14, ↓bnd_is, ↓forL_is, ↓whileN_is, ↓lcL_is, List.length_cons, List.length_nil, Nat.reduceSub, Nat.reduceAdd, Nat.zero_add, Int.reduceToNat, Int.reduceBEq, Int.reduceBNe, Int.reduceAdd, Int.reduceSub, Int.reduceMul, Int.reduceNeg, Int.reduceLT, Int.reduceLE, Int.reduceGT, Int.reduceGE, Int.reducePow, Nat.reducePow, Nat.reduceMul, Nat.reduceLT, Nat.reduceLeDiff, List.append_nil, List.cons_append, List.nil_append, List.getElem?_cons_zero, List.getElem?_cons_succ, List.getElem?_nil, List.take_succ_cons, List.take_zero, List.take_nil, List.set_cons_zero, List.set_cons_succ, List.tail_cons, List.headD_cons, List.headD_nil, List.tail_nil, if_true, if_false, reduceIte, Bool.false_eq_true, Option.bind_some, Option.map_some, Option.bind_none, Option.map_none, List.contains_nil, List.contains_cons, beq_self_eq_true, Bool.or_false, Bool.or_true, Bool.true_or, Bool.false_or, Bool.not_true, Bool.not_false, Bool.and_true, Bool.true_and, Bool.and_false, Bool.false_and, Bool.and_self, List.isEmpty_map, List.mem_cons, Bool.not_eq_true', decide_true, decide_false, eq_self, true_and, and_true, not_true_eq_false, not_false_eq_true]
      · simp (decide := true) (implicitDefEqProofs := false) (dsimp := false) only [cn, f__law_jar, R.g_jar, hio, hf, e1, e2, grow, hlen, hrep, ev0, ev1, ev2, ev3, ev4, ev5, ev6, ev7, ev8, ev9, ev10, ev11, ev12, ev13, ev14, ↓bnd_is, ↓forL_is, ↓whileN_is, ↓lcL_is, List.length_cons, List.length_nil, Nat.reduceSub, Nat.reduceAdd, Nat.zero_add, Int.reduceToNat, Int.reduceBEq, Int.reduceBNe, Int.reduceAdd, Int.reduceSub, Int.reduceMul, Int.reduceNeg, Int.reduceLT, Int.reduceLE, Int.reduceGT, Int.reduceGE, Int.reducePow, Nat.reducePow, Nat.reduceMul, Nat.reduceLT, Nat.reduceLeDiff, List.append_nil, List.cons_append, List.nil_append, List.getElem?_cons_zero, List.getElem?_cons_succ, List.getElem?_nil, List.take_succ_cons, List.take_zero, List.take_nil, List.set_cons_zero, List.set_cons_succ, List.tail_cons, List.headD_cons, List.headD_nil, List.tail_nil, if_true, if_false, reduceIte, Bool.false_eq_true, Option.bind_some, Option.map_some, Option.bind_none, Option.map_none, List.contains_nil, List.contains_cons, beq_self_eq_true, Bool.or_false, Bool.or_true, Bool.true_or, Bool.false_or, Bool.not_true, Bool.not_false, Bool.and_true, Bool.true_and, Bool.and_false, Bool.false_and, Bool.and_self, List.isEmpty_map, List.mem_cons, Bool.not_eq_true', decide_true, decide_false, eq_self, true_and, and_true, not_true_eq_false, not_false_eq_true])
  rw [rangeL_len] at ha
  obtain ⟨z, rfl, hz⟩ := hs
  subst ha
  refine ⟨[.fr (.scr (l.map .int))], ?_⟩
  rw [evF_at hL rfl]
  simp (decide := true) (implicitDefEqProofs := false) (dsimp := false) only [f_lawA, len_map, hM, er, ↓ll2 el, ll2 el, freeAt, List.all_cons, List.all_nil, back, List.getD_cons_succ, List.getD_cons_zero, bls_true, all_true, ev0, ev1, ev2, ev3, ev4, ev5, ev6, ev7, ev8, ev9, ev10, ev11, ev12, ev13, ev14, ↓bnd_is, ↓forL_is, ↓whileN_is, ↓lcL_is, List.length_cons, List.length_nil, Nat.reduceSub, Nat.reduceAdd, Nat.zero_add, Int.reduceToNat, Int.reduceBEq, Int.reduceBNe, Int.reduceAdd, Int.reduceSub, Int.reduceMul, Int.reduceNeg, Int.reduceLT, Int.reduceLE, Int.reduceGT, Int.reduceGE, Int.reducePow, Nat.reducePow, Nat.reduceMul, Nat.reduceLT, Nat.reduceLeDiff, List.append_nil, List.cons_append, List.nil_append, List.getElem?_cons_zero, List.getElem?_cons_succ, List.getElem?_nil, List.take_succ_cons, List.take_zero, List.take_nil, List.set_cons_zero, List.set_cons_succ, List.tail_cons, List.headD_cons, List.headD_nil, List.tail_nil, if_true, if_false, reduceIte, Bool.false_eq_true, Option.bind_some, Option.map_some, Option.bind_none, Option.map_none, List.contains_nil, List.contains_cons, beq_self_eq_true, Bool.or_false, Bool.or_true, Bool.true_or, Bool.false_or, Bool.not_true, Bool.not_false, Bool.and_true, Bool.true_and, Bool.and_false, Bool.false_and, Bool.and_self, List.isEmpty_map, List.mem_cons, Bool.not_eq_true', decide_true, decide_false, eq_self, true_and, and_true, not_true_eq_false, not_false_eq_true]
end
end Wd.V
namespace Wd.V.k70
open PySem Wd.V
def f_accepts : FD := ⟨["claim", "certificate"], [false, false], 3, (.cons (.iff (.or (.nt (.bi .isinst (.cons (.var 0) (.cons (.con (.ty "tuple")) .nil)))) (.or (.cmp .eq (.var 0) (.tup .nil)) (.nt (.bi .isinst (.cons (.ix (.var 0) (.con (.int 0))) (.cons (.con (.ty "str")) .nil)))))) (.cons (.ret (.con (.bl false))) .nil) .nil) (.cons (.iff (.or (.nt (.bi .indict (.cons (.ix (.var 0) (.con (.int 0))) (.cons (.con (.dct [.inr "ring", .inr "shuffle", .inr "no ring", .inr "no shuffle", .inr "after", .inr "length", .inr "comes", .inr "never"] [(.int 2), (.int 2), (.int 2), (.int 2), (.int 6), (.int 5), (.int 6), (.int 5)])) .nil)))) (.cmp .ne (.bi .len (.cons (.var 0) .nil)) (.bi .ixdict (.cons (.con (.dct [.inr "ring", .inr "shuffle", .inr "no ring", .inr "no shuffle", .inr "after", .inr "length", .inr "comes", .inr "never"] [(.int 2), (.int 2), (.int 2), (.int 2), (.int 6), (.int 5), (.int 6), (.int 5)])) (.cons (.ix (.var 0) (.con (.int 0))) .nil))))) (.cons (.ret (.con (.bl false))) .nil) .nil) (.cons (.set (.nm 2) (.call "rule_of" [.a 0] 1 0 (.cons (.ix (.var 0) (.con (.int 1))) .nil) .nil)) (.cons (.iff (.cmp .isn (.var 2) (.con .non)) (.cons (.ret (.con (.bl false))) .nil) .nil) (.cons (.iff (.cmp .eq (.ix (.var 0) (.con (.int 0))) (.con (.str "no ring"))) (.cons (.ret (.call "shows_no_ring" [.a 0, .a 1] 2 0 (.cons (.var 2) (.cons (.var 1) .nil)) .nil)) .nil) .nil) (.cons (.iff (.cmp .eq (.ix (.var 0) (.con (.int 0))) (.con (.str "no shuffle"))) (.cons (.ret (.call "shows_no_shuffle" [.a 0, .a 1] 2 0 (.cons (.var 2) (.cons (.var 1) .nil)) .nil)) .nil) .nil) (.cons (.iff (.cmp .eq (.ix (.var 0) (.con (.int 0))) (.con (.str "never"))) (.cons (.ret (.call "shows_never" [.a 0, .a 1, .a 2] 3 0 (.cons (.var 2) (.cons (.var 0) (.cons (.var 1) .nil))) .nil)) .nil) .nil) (.cons (.ret (.and (.bi .isinst (.cons (.var 1) (.cons (.con (.ty "tuple")) .nil))) (.and (.cmp .eq (.bi .len (.cons (.var 1) .nil)) (.con (.int 0))) (.call "is_so" [.a 0, .a 1] 2 0 (.cons (.var 2) (.cons (.var 0) .nil)) .nil)))) .nil))))))))⟩
def s__law_right_0 : Is := (.set (.nm 1) (.call "_law_right_claims" [] 0 0 .nil .nil))
def s__law_right_1 : Is := (.for_ [5, 6] (.e (.var 1)) (.cons (.for_ [7] (.e (.call "_law_odd_claims" [.a 0] 1 0 (.cons (.var 5) .nil) .nil)) (.cons (.iff (.nt (.bi .isbl (.cons (.call "accepts" [.a 0, .a 1] 2 0 (.cons (.var 7) (.cons (.var 6) .nil)) .nil) (.cons (.con (.bl false)) .nil)))) (.cons (.ret (.con (.bl false))) .nil) .nil) .nil)) .nil))
def s__law_right_2 : Is := (.set (.nm 2) (.lst (.cons (.con .non) (.cons (.con (.str "")) (.cons (.con (.str "ring")) (.cons (.neg (.con (.int 1))) (.cons (.con (.int 4)) (.cons (.bin .pow (.con (.int 10)) (.con (.int 19))) (.cons (.lst .nil) (.cons (.dct .nil .nil) (.cons (.tup (.cons (.con .non) .nil)) (.cons (.tup (.cons (.lst .nil) .nil)) (.cons (.tup (.cons (.dct .nil .nil) .nil)) (.cons (.tup (.cons (.tup .nil) (.cons (.tup .nil) .nil))) (.cons (.tup (.cons (.con (.int 0)) (.cons (.con (.int 1)) .nil))) (.cons (.tup (.cons (.con (.str "2")) (.cons (.con (.str "0")) (.cons (.con (.str "2")) .nil)))) .nil))))))))))))))))
def s__law_right_3_0 : Is := (.for_ [5, 6] (.e (.var 1)) (.cons (.iff (.or (.nt (.bi .isbl (.cons (.call "accepts" [.a 0, .a 1] 2 0 (.cons (.var 5) (.cons (.var 3) .nil)) .nil) (.cons (.con (.bl false)) .nil)))) (.nt (.bi .isbl (.cons (.call "accepts" [.a 0, .a 1] 2 0 (.cons (.var 3) (.cons (.var 6) .nil)) .nil) (.cons (.con (.bl false)) .nil))))) (.cons (.ret (.con (.bl false))) .nil) .nil) .nil))
def s__law_right_3_1 : Is := (.iff (.nt (.bi .isbl (.cons (.call "accepts" [.a 1, .a 0] 0 2 .nil (.cons (.var 3) (.cons (.call "_law_one_of" [.a 0, .a 1] 2 0 (.cons (.var 0) (.cons (.var 2) .nil)) .nil) .nil))) (.cons (.con (.bl false)) .nil)))) (.cons (.ret (.con (.bl false))) .nil) .nil)
def s__law_right_3_b : Ib := (.cons s__law_right_3_0 (.cons s__law_right_3_1 .nil))
def s__law_right_3 : Is := (.for_ [3] (.e (.bin .add (.var 2) (.lst (.cons (.tup (.cons (.con (.int 2)) (.cons (.con (.int 2)) (.cons (.con (.int 0)) .nil)))) (.cons (.tup (.cons (.con (.int 1)) (.cons (.con (.int 0)) (.cons (.con (.int 1)) .nil)))) (.cons (.dct (.cons (.con (.str "a")) .nil) (.cons (.con (.int 1)) .nil)) (.cons (.tup (.cons (.con (.int 3)) (.cons (.con (.int 0)) (.cons (.con (.int 2)) .nil)))) (.cons (.tup (.cons (.con (.int 2)) (.cons (.con (.int 0)) (.cons (.con (.int 2)) (.cons (.con (.int 2)) .nil))))) .nil)))))))) s__law_right_3_b)
def s__law_right_4 : Is := (.for_ [4] (.rg 1 (.cons (.con (.int 8)) .nil)) (.cons (.for_ [8] (.rg 1 (.cons (.con (.int 8)) .nil)) (.cons (.parN [5, 6] (.cons (.ix (.ix (.var 1) (.var 4)) (.con (.int 0))) (.cons (.ix (.ix (.var 1) (.var 8)) (.con (.int 1))) .nil))) (.cons (.set (.nm 9) (.or (.cmp .eq (.reprc (.ix (.ix (.var 1) (.var 4)) (.con (.int 1)))) (.reprc (.var 6))) (.cmp .eq (.lst (.cons (.ix (.var 5) (.con (.int 0))) (.cons (.var 6) .nil))) (.lst (.cons (.con (.str "never")) (.cons (.con (.int 3)) .nil)))))) (.cons (.iff (.and (.nt (.var 9)) (.nt (.bi .isbl (.cons (.call "accepts" [.a 0, .a 1] 2 0 (.cons (.var 5) (.cons (.var 6) .nil)) .nil) (.cons (.con (.bl false)) .nil))))) (.cons (.ret (.con (.bl false))) .nil) .nil) .nil)))) .nil))
def s__law_right_5 : Is := (.ret (.and (.bi .isbl (.cons (.call "accepts" [.a 0, .a 1] 2 0 (.cons (.tup (.cons (.con (.str "no ring")) (.cons (.con (.str "1 3 0 2")) .nil))) (.cons (.con (.int 2)) .nil)) .nil) (.cons (.con (.bl false)) .nil))) (.bi .isbl (.cons (.call "accepts" [.a 0, .a 1] 2 0 (.cons (.tup (.cons (.con (.str "never")) (.cons (.con (.str "1 3")) (.cons (.con (.int 3)) (.cons (.con (.int 0)) (.cons (.con (.int 2)) .nil)))))) (.cons (.con (.int 3)) .nil)) .nil) (.cons (.con (.bl true)) .nil)))))
def f__law_right : FD := ⟨["_law_jar_here"], [true], 10, (.cons s__law_right_0 (.cons s__law_right_1 (.cons s__law_right_2 (.cons s__law_right_3 (.cons s__law_right_4 (.cons s__law_right_5 .nil))))))⟩
abbrev TT : Tab := Wd.k70.lt.T
def cl8 : List D := [.lst [.tup [.str "ring", .str "1 1 4"], .tup []], .lst [.tup [.str "shuffle", .str "1 5"], .tup []], .lst [.tup [.str "no ring", .str "1 3 0 2"], .int 3], .lst [.tup [.str "no shuffle", .str "0 0 1"], .tup [.int 2, .int 0, .int 2]], .lst [.tup [.str "after", .str "1 5", .int 3, .int 0, .int 3, .int 7], .tup []], .lst [.tup [.str "length", .str "1 3", .int 3, .int 0, .int 4], .tup []], .lst [.tup [.str "comes", .str "1 5", .int 3, .int 0, .int 7, .int 3], .tup []], .lst [.tup [.str "never", .str "1 3", .int 3, .int 0, .int 2], .int 2]]
def claims : D := .lst cl8
def never : D := .tup [.str "never", .str "1 3", .int 3, .int 0, .int 2]
def things14 : List D := [.non, .str "", .str "ring", .int (-1), .int 4, .int 10000000000000000000, .lst [], .dct [] [], .tup [.non], .tup [.lst []], .tup [.dct [] []], .tup [.tup [], .tup []], .tup [.int 0, .int 1], .tup [.str "2", .str "0", .str "2"]]
def more5 : List D := [.tup [.int 2, .int 2, .int 0], .tup [.int 1, .int 0, .int 1], .dct [.inr "a"] [.int 1], .tup [.int 3, .int 0, .int 2], .tup [.int 2, .int 0, .int 2, .int 2]]
theorem s0_ok (z0 z2 z3 z4 z5 z6 z7 z8 z9 : Sl) : evS TT (evF TT 100000 18) 100000 s__law_right_0 [z0, .un, z2, z3, z4, z5, z6, z7, z8, z9] = .ok .nx [z0, .ow claims, z2, z3, z4, z5, z6, z7, z8, z9] := by kernel_rfl
theorem s1_ok (z0 z2 z3 z4 z8 z9 : Sl) : evS TT (evF TT 100000 18) 100000 s__law_right_1 [z0, .ow claims, z2, z3, z4, .un, .un, .un, z8, z9] = .ok .nx [z0, .fr claims, z2, z3, z4, .fr never, .fr (.int 2), .fr (.str "never"), z8, z9] := by kernel_rfl
theorem s2_ok (z0 z1 z3 z4 z5 z6 z7 z8 z9 : Sl) : evS TT (evF TT 100000 18) 100000 s__law_right_2 [z0, z1, .un, z3, z4, z5, z6, z7, z8, z9] = .ok .nx [z0, z1, .ow (.lst things14), z3, z4, z5, z6, z7, z8, z9] := by kernel_rfl
theorem s4_ok (z0 z2 z3 z7 : Sl) : evS TT (evF TT 100000 18) 100000 s__law_right_4 [z0, .fr claims, z2, z3, .un, .fr never, .fr (.int 2), z7, .un, .un] = .ok .nx [z0, .fr claims, z2, z3, .fr (.int 7), .fr never, .fr (.int 2), z7, .fr (.int 7), .fr (.bl true)] := by kernel_rfl
theorem s5_ok (s : Sto) : evS TT (evF TT 100000 18) 100000 s__law_right_5 s = .ok (.rt (.v (.bl true))) s := by kernel_rfl
theorem inner_ok {t : D} (ht : t ∈ things14 ++ more5) (z0 z2 z4 z7 z8 z9 : Sl) : evS TT (evF TT 100000 18) 100000 s__law_right_3_0 [z0, .fr claims, z2, .fr t, z4, .fr never, .fr (.int 2), z7, z8, z9] = .ok .nx [z0, .fr claims, z2, .fr t, z4, .fr never, .fr (.int 2), z7, z8, z9] := by
  simp only [things14, more5, List.cons_append, List.nil_append, List.mem_cons, List.not_mem_nil, or_false] at ht
  rcases ht with rfl | rfl | rfl | rfl | rfl | rfl | rfl | rfl | rfl | rfl | rfl | rfl | rfl | rfl | rfl | rfl | rfl | rfl | rfl
  all_goals kernel_rfl
theorem pairs_ok : (things14.map fun d => (things14 ++ more5).map fun t => evF TT 100000 18 "accepts" [.fr d, .fr t]) = things14.map fun d => (things14 ++ more5).map fun t => CRes.ok (.v (.bl false)) [.fr d, .fr t] := by kernel_rfl
theorem pair_ok {d t : D} (hd : d ∈ things14) (ht : t ∈ things14 ++ more5) : evF TT 100000 18 "accepts" [.fr d, .fr t] = .ok (.v (.bl false)) [.fr d, .fr t] :=
  List.map_inj_left.mp (List.map_inj_left.mp pairs_ok d hd) t ht
structure H (T : Tab) : Prop where
  A : HA T false
  acc : fdOf T "accepts" = some f_accepts
  right : fdOf T "_law_right" = some f__law_right
  law : fdOf T "law" = some (f_lawA 4)
theorem turn_ok (G : H TT) {k : Nat} {a b c : Int} (h : Jar k a b c) (hk : k + 1000 < 2 ^ 40) {t : D} (ht : t ∈ things14 ++ more5) {z2 z3 z4 z7 z8 z9 : Sl} (h2 : z2 = .ow (.lst things14) ∨ z2 = .fr (.lst things14)) (h3 : isBo z3 = false) :
    ∃ a' b' c', Jar (k + 1) a' b' c' ∧ (bnd (putTg [.bo (cn a b c), .fr claims, z2, z3, z4, .fr never, .fr (.int 2), z7, z8, z9] [3] t) fun _ s => evB TT (evF TT 100000 18) 100000 s__law_right_3_b s) = .ok .nx [.bo (cn a' b' c'), .fr claims, .fr (.lst things14), .fr t, z4, .fr never, .fr (.int 2), z7, z8, z9] := by
  obtain ⟨d, a1, b1, c1, e1, hd, hc⟩ := one_of_ok G.A (W := 100000) (n := 16) (xs := things14) h (by omega) (by decide) (by decide)
  have e1 : evF TT 100000 18 "_law_one_of" [.bo (cn a b c), .fr (.lst things14)] = .ok (.v d) [.bo (cn a1 b1 c1), .fr (.lst things14)] := e1
  have e2 := pair_ok hd ht
  have e3 := inner_ok ht (.bo (cn a b c)) z2 z4 z7 z8 z9
  refine ⟨a1, b1, c1, hc, ?_⟩
  have pt : putTg [.bo (cn a b c), .fr claims, z2, z3, z4, .fr never, .fr (.int 2), z7, z8, z9] [3] t = .ok () [.bo (cn a b c), .fr claims, z2, .fr t, z4, .fr never, .fr (.int 2), z7, z8, z9] := by
    generalize claims = x at *
    generalize never = y at *
    simp (decide := true) (implicitDefEqProofs := false) (dsimp := false) only [putZ_at h3, ev0, ev1, ev2, ev3, ev4, ev5, ev6, ev7, ev8, ev9, ev10, ev11, ev12, ev13, ev14, ↓bnd_is, ↓forL_is, ↓whileN_is, ↓lcL_is, List.length_cons, List.length_nil, Nat.reduceSub, Nat.reduceAdd, Nat.zero_add, Int.reduceToNat, Int.reduceBEq, Int.reduceBNe, Int.reduceAdd, Int.reduceSub, Int.reduceMul, Int.reduceNeg, Int.reduceLT, Int.reduceLE, Int.reduceGT, Int.reduceGE, Int.reducePow, Nat.reducePow, Nat.reduceMul, Nat.reduceLT, Nat.reduceLeDiff, List.append_nil, List.cons_append, List.nil_append, List.getElem?_cons_zero, List.getElem?_cons_succ, List.getElem?_nil, List.take_succ_cons, List.take_zero, List.take_nil, List.set_cons_zero, List.set_cons_succ, List.tail_cons, List.headD_cons, List.headD_nil, List.tail_nil, if_true, if_false, reduceIte, Bool.false_eq_true, Option.bind_some, Option.map_some, Option.bind_none, Option.map_none, List.contains_nil, List.contains_cons, beq_self_eq_true, Bool.or_false, Bool.or_true, Bool.true_or, Bool.false_or, Bool.not_true, Bool.not_false, Bool.and_true, Bool.true_and, Bool.and_false, Bool.false_and, Bool.and_self, List.isEmpty_map, List.mem_cons, Bool.not_eq_true', decide_true, decide_false, eq_self, true_and, and_true, not_true_eq_false, not_false_eq_true]
  have ib : bi .isbl [.bl false, .bl false] = some (.v (.bl true)) := rfl
  rw [pt, bnd_ok]
  unfold s__law_right_3_b
  rw [B_cons, e3, bnd_ok, nxt_nx]
  generalize claims = x at *
  generalize never = y at *
  generalize things14 = xs at *
  generalize TT = T at *
  rcases h2 with rfl | rfl <;> simp (decide := true) (implicitDefEqProofs := false) (dsimp := false) only [cn, s__law_right_3_1, f__law_one_of, G.A.g_one_of, e1, f_accepts, G.acc, e2, ib, ev0, ev1, ev2, ev3, ev4, ev5, ev6, ev7, ev8, ev9, ev10, ev11, ev12, ev13, ev14, ↓bnd_is, ↓forL_is, ↓whileN_is, ↓lcL_is, List.length_cons, List.length_nil, Nat.reduceSub, Nat.reduceAdd, Nat.zero_add, Int.reduceToNat, Int.reduceBEq, Int.reduceBNe, Int.reduceAdd, Int.reduceSub, Int.reduceMul, Int.reduceNeg, Int.reduceLT, Int.reduceLE, Int.reduceGT, Int.reduceGE, Int.reducePow, Nat.reducePow, Nat.reduceMul, Nat.reduceLT, Nat.reduceLeDiff, List.append_nil, List.cons_append, List.nil_append, List.getElem?_cons_zero, List.getElem?_cons_succ, List.getElem?_nil, List.take_succ_cons, List.take_zero, List.take_nil, List.set_cons_zero, List.set_cons_succ, List.tail_cons, List.headD_cons, List.headD_nil, List.tail_nil, if_true, if_false, reduceIte, Bool.false_eq_true, Option.bind_some, Option.map_some, Option.bind_none, Option.map_none, List.contains_nil, List.contains_cons, beq_self_eq_true, Bool.or_false, Bool.or_true, Bool.true_or, Bool.false_or, Bool.not_true, Bool.not_false, Bool.and_true, Bool.true_and, Bool.and_false, Bool.false_and, Bool.and_self, List.isEmpty_map, List.mem_cons, Bool.not_eq_true', decide_true, decide_false, eq_self, true_and, and_true, not_true_eq_false, not_false_eq_true]
theorem s3_ok (G : H TT) {k : Nat} {a b c : Int} (h : Jar k a b c) (hk : k + 2000 < 2 ^ 40) :
    ∃ a' b' c' z2 z3, Jar (k + 19) a' b' c' ∧ evS TT (evF TT 100000 18) 100000 s__law_right_3 [.bo (cn a b c), .fr claims, .ow (.lst things14), .un, .un, .fr never, .fr (.int 2), .fr (.str "never"), .un, .un] = .ok .nx [.bo (cn a' b' c'), .fr claims, z2, z3, .un, .fr never, .fr (.int 2), .fr (.str "never"), .un, .un] := by
  obtain ⟨s', el, a', b', c', z2, z3, rfl, hc, h2, h3⟩ := forL_ok (t := [3]) (body := fun s => evB TT (evF TT 100000 18) 100000 s__law_right_3_b s) (fun i s => ∃ a b c z2 z3, s = [.bo (cn a b c), .fr claims, z2, z3, .un, .fr never, .fr (.int 2), .fr (.str "never"), .un, .un] ∧ Jar (k + i) a b c ∧ (z2 = .ow (.lst things14) ∨ z2 = .fr (.lst things14)) ∧ isBo z3 = false) (l := things14 ++ more5) (s := [.bo (cn a b c), .fr claims, .ow (.lst things14), .un, .un, .fr never, .fr (.int 2), .fr (.str "never"), .un, .un]) ⟨a, b, c, _, _, rfl, h, .inl rfl, rfl⟩ (by
    rintro i d s hd ⟨a, b, c, z2, z3, rfl, hc, h2, h3⟩
    have hi : i < 19 := by
      have := (List.getElem?_eq_some_iff.mp hd).1
      simpa [things14, more5] using this
    obtain ⟨a1, b1, c1, hc1, e⟩ := turn_ok G hc (by omega) (List.mem_of_getElem? hd) (z4 := .un) (z7 := .fr (.str "never")) (z8 := .un) (z9 := .un) h2 h3
    exact ⟨_, e, a1, b1, c1, _, _, rfl, hc1, .inr rfl, rfl⟩)
  refine ⟨a', b', c', z2, z3, hc, ?_⟩
  have ei : evI TT (evF TT 100000 18) (.e (.bin .add (.var 2) (.lst (.cons (.tup (.cons (.con (.int 2)) (.cons (.con (.int 2)) (.cons (.con (.int 0)) .nil)))) (.cons (.tup (.cons (.con (.int 1)) (.cons (.con (.int 0)) (.cons (.con (.int 1)) .nil)))) (.cons (.dct (.cons (.con (.str "a")) .nil) (.cons (.con (.int 1)) .nil)) (.cons (.tup (.cons (.con (.int 3)) (.cons (.con (.int 0)) (.cons (.con (.int 2)) .nil)))) (.cons (.tup (.cons (.con (.int 2)) (.cons (.con (.int 0)) (.cons (.con (.int 2)) (.cons (.con (.int 2)) .nil))))) .nil)))))))) [.bo (cn a b c), .fr claims, .ow (.lst things14), .un, .un, .fr never, .fr (.int 2), .fr (.str "never"), .un, .un] = .ok (things14 ++ more5) [.bo (cn a b c), .fr claims, .ow (.lst things14), .un, .un, .fr never, .fr (.int 2), .fr (.str "never"), .un, .un] := by kernel_rfl
  unfold s__law_right_3
  rw [evS, ei, bnd_ok]
  exact el
theorem right_ok (G : H TT) {k : Nat} {a b c : Int} (h : Jar k a b c) (hk : k + 20000 < 2 ^ 40) :
    ∃ a' b' c', evF TT 100000 19 "_law_right" [.bo (cn a b c)] = .ok (.v (.bl true)) [.bo (cn a' b' c')] := by
  obtain ⟨a', b', c', z2, z3, hc, e3⟩ := s3_ok G h (by omega)
  refine ⟨a', b', c', ?_⟩
  have eb : evB TT (evF TT 100000 18) 100000 f__law_right.body [.bo (cn a b c), .un, .un, .un, .un, .un, .un, .un, .un, .un] = .ok (.rt (.v (.bl true))) [.bo (cn a' b' c'), .fr claims, z2, z3, .fr (.int 7), .fr never, .fr (.int 2), .fr (.str "never"), .fr (.int 7), .fr (.bl true)] := by
    show evB TT (evF TT 100000 18) 100000 (.cons s__law_right_0 (.cons s__law_right_1 (.cons s__law_right_2 (.cons s__law_right_3 (.cons s__law_right_4 (.cons s__law_right_5 .nil)))))) _ = _
    rw [B_cons, s0_ok, bnd_ok, nxt_nx, B_cons, s1_ok, bnd_ok, nxt_nx, B_cons, s2_ok, bnd_ok, nxt_nx, B_cons, e3, bnd_ok, nxt_nx, B_cons, s4_ok, bnd_ok, nxt_nx, B_cons, s5_ok]
    rfl
  rw [evF_at G.right rfl]
  show fin 1 (evB TT (evF TT 100000 18) 100000 f__law_right.body [.bo (cn a b c), .un, .un, .un, .un, .un, .un, .un, .un, .un]) = _
  rw [eb]
  rfl
theorem law_ok (G : H TT) (l : List Int) : ∃ outs, evF TT 100000 20 "law" [.fr (.scr (l.map .int))] = .ok (.v (.bl true)) outs :=
  lawA_end G.A (W := 100000) (n := 18) (fd := f__law_right) rfl G.right (m := 4) (by decide) G.law (fun a b hc => right_ok G hc (by decide)) l
end Wd.V.k70
-- F_k70
set_option linter.all false
set_option maxRecDepth 100000
set_option maxHeartbeats 0
set_option Elab.async false
namespace Wd.k70
open PySem PySem.W PySem.Calls PyProof.Rows
theorem hHA : V.HA lt.T false where
  g_jar := by kernel_rfl
  g_dip := by kernel_rfl
  g_one_of := by kernel_rfl
theorem hG : V.k70.H lt.T where
  A := hHA
  acc := by kernel_rfl
  right := by kernel_rfl
  law := by kernel_rfl
end Wd.k70
theorem PySem.Challenge.cw_wordshuffles_k70_claims_of_any_kind_holds : PySem.Challenge.rw_wordshuffles_k70_claims_of_any_kind.Holds := by
  exact Wd.k70.holds_of 20 100000 ⟨rfl, by decide, by decide⟩ fun ns hns => Wd.V.k70.law_ok Wd.k70.hG ns
