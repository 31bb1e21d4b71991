import PyProof.Rows.All
import Wide.All
import OpenK.AllK
import Wide.FinOn
import KE.KStateDown
import Lean
import HandS.Base
import HandS.Call
import HandS.Ends
import HandS.More
import HandS.Words
import HandS.WordsExc
import HandS.Defaults
import HandS.Head0
import HandS.Head1
import HandS.Head2
import HandS.HeadEnd
import HandS.HeadHook1
import HandS.HeadHook2
import HandS.ForMost
import HandS.ForExc
import HandS.TupAny
import HandS.TupMul
import HandS.IsInst
import HandS.Style
import HandS.StrMore
import HandS.Flow
import HandS.Wide
import HandS.Zip
import KE.DataEq
import KE.DataCmp
import KE.SortData
import HandS.Conv
import PyProof.StrLawsIn
import PyProof.ListStr
import HandS.Deep
import HandS.ExcOwn
import HandS.HotCalls
import HandS.Comp
import HandS.ExcInit
import HandS.ExcField
import HandS.ExcIs
import KE.KExcIs
import HandS.TryOnly
import KE.GoesEnum
import KE.GoesZip
import PySem.Challenge.RW_endstied_k07_whole_walks
set_option Elab.async false
set_option linter.all false
section
set_option autoImplicit false
set_option linter.all false
namespace Q
inductive D where
  | non | bl (b : Bool) | int (i : Int) | str (x : List Nat) | tup (ds : List D)
  | lst (o : Bool) (ds : List D) | dct (o : Bool) (ks vs : List D) | st (o : Bool) (ds : List D)
  | ins (o : Bool) (C : Nat) (ds : List D)
  | scr (ds : List D) 
  deriving Inhabited
abbrev Env := List (Option D)
inductive Res (α : Type) where
  | st | ok (a : α) (en : Env) | ex (C : Nat) (ds : List D) (en : Env)
@[reducible] def Res.bind {α β : Type} (r : Res α) (f : α → Env → Res β) : Res β :=
  match r with
  | .st => .st
  | .ok a en => f a en
  | .ex C ds en => .ex C ds en
@[reducible] def Res.calm {α : Type} (r : Res α) : Res α := match r with
  | .ex _ _ _ => .st
  | r => r
@[reducible] def op {α : Type} (o : Option α) (en : Env) : Res α := match o with
  | none => .st
  | some a => .ok a en
def get (en : Env) (i : Nat) : Option D := (en[i]?).join
def own : D → Bool
  | .lst o _ => o | .dct o _ _ => o | .st o _ => o | .ins o _ _ => o | _ => false
mutual
def fz : D → D
  | .lst _ ds => .lst false (fzs ds)
  | .dct _ ks vs => .dct false ks (fzs vs)
  | .st _ ds => .st false ds
  | .ins _ C ds => .ins false C (fzs ds)
  | d => d
def fzs : List D → List D
  | [] => []
  | d :: ds => fz d :: fzs ds
end
def MAXD : Nat := 12
mutual
def plain : Nat → D → Bool
  | _, .non => true | _, .bl _ => true | _, .int _ => true | _, .str _ => true
  | k + 1, .tup ds => plains k ds
  | k + 1, .lst _ ds => plains k ds
  | _, _ => false
def plains : Nat → List D → Bool
  | _, [] => true
  | k, d :: ds => plain k d && plains k ds
end
def b2i (b : Bool) : Int := if b then 1 else 0
mutual
def deq : D → D → Bool
  | .non, .non => true
  | .bl a, .bl b => a == b
  | .int a, .int b => a == b
  | .bl a, .int b => b2i a == b
  | .int a, .bl b => a == b2i b
  | .str x, .str y => x == y
  | .tup xs, .tup ys => deqs xs ys
  | .lst _ xs, .lst _ ys => deqs xs ys
  | _, _ => false
def deqs : List D → List D → Bool
  | [], [] => true
  | x :: xs, y :: ys => deq x y && deqs xs ys
  | _, _ => false
end
mutual
def keyOk : Nat → D → Bool
  | _, .non => true | _, .bl _ => true | _, .int _ => true | _, .str _ => true
  | k + 1, .tup ds => keysOk k ds
  | _, _ => false
def keysOk : Nat → List D → Bool
  | _, [] => true
  | k, d :: ds => keyOk k d && keysOk k ds
end
def ncmp : List Nat → List Nat → Ordering
  | [], [] => .eq
  | [], _ :: _ => .lt
  | _ :: _, [] => .gt
  | x :: xs, y :: ys => if x = y then ncmp xs ys else if x < y then .lt else .gt
mutual
def dcmp : D → D → Option Ordering
  | .int a, .int b => some (compare a b)
  | .str x, .str y => some (ncmp x y)
  | .bl a, .bl b => some (compare (b2i a) (b2i b))
  | .tup xs, .tup ys => dcmps xs ys
  | _, _ => none
def dcmps : List D → List D → Option Ordering
  | [], [] => some .eq
  | [], _ :: _ => some .lt
  | _ :: _, [] => some .gt
  | x :: xs, y :: ys => match dcmp x y with
    | some .eq => dcmps xs ys
    | o => o
end
def dle (a b : D) : Bool := dcmp a b != some .gt
mutual
def alike : D → D → Bool
  | .int _, .int _ => true
  | .str _, .str _ => true
  | .bl _, .bl _ => true
  | .tup xs, .tup ys => alikes xs ys
  | _, _ => false
def alikes : List D → List D → Bool
  | [], _ => true
  | _, [] => true
  | x :: xs, y :: ys => alike x y && alikes xs ys
end
def allAlike : List D → Bool
  | [] => true
  | d :: ds => ds.all (alike d) && alike d d && allAlike ds
inductive Bin where | add | sub | mul | fdiv | mod | pow | shl | band | bor deriving DecidableEq
inductive Cmp where | eq | ne | lt | le | gt | ge | isin | notin | is | isnot deriving DecidableEq
def BIG : Int := 18446744073709551616
def LIM : Nat := 1000000
def smallI (i : Int) : Bool := decide (-BIG < i) && decide (i < BIG)
def rep {α : Type} (n : Nat) (xs : List α) : List α := match n with
  | 0 => []
  | n + 1 => xs ++ rep n xs
def lstOk (ds : List D) : Bool := !ds.any own
def binop (o : Bin) (a b : D) : Option D :=
  match o, a, b with
  | .add, .int i, .int j => some (.int (i + j))
  | .sub, .int i, .int j => some (.int (i - j))
  | .mul, .int i, .int j => if smallI i || smallI j then some (.int (i * j)) else none
  | .fdiv, .int i, .int j => if decide (0 < j) && decide (j < 1073741824) then some (.int (i / j)) else none
  | .mod, .int i, .int j => if 0 < j then some (.int (i % j)) else none
  | .pow, .int i, .int j => if decide (0 ≤ j) && decide (j ≤ 1000) && smallI i then some (.int (i ^ j.toNat)) else none
  | .shl, .int i, .int j => if decide (0 ≤ j) && decide (j ≤ 1000) && smallI i then some (.int (i * 2 ^ j.toNat)) else none
  | .add, .str x, .str y => if x.length + y.length ≤ LIM then some (.str (x ++ y)) else none
  | .add, .tup xs, .tup ys => if xs.length + ys.length ≤ LIM then some (.tup (xs ++ ys)) else none
  | .add, .lst _ xs, .lst _ ys => if decide (xs.length + ys.length ≤ LIM) && lstOk xs && lstOk ys then some (.lst true (xs ++ ys)) else none
  | .mul, .str x, .int j => if decide (-(LIM : Int) < j) && decide (j < LIM) && decide (x.length * j.toNat ≤ LIM) then some (.str (rep j.toNat x)) else none
  | .mul, .tup x, .int j => if decide (2 ≤ j) && decide (j ≤ 1000) && !x.isEmpty && decide (x.length ≤ 1000) then some (.tup (rep j.toNat x)) else none
  | .mul, .lst _ x, .int j => if decide (-(LIM : Int) < j) && decide (j < LIM) && decide (x.length * j.toNat ≤ LIM) && lstOk x then some (.lst true (rep j.toNat x)) else none
  | _, _, _ => none
def isPre : List Nat → List Nat → Bool
  | [], _ => true
  | _ :: _, [] => false
  | a :: as, b :: bs => a == b && isPre as bs
def idxC (c : Nat) : List Nat → Nat → Option Nat
  | [], _ => none
  | a :: as, k => if a == c then some k else idxC c as (k + 1)
def dmem (d : D) (ds : List D) : Bool := ds.any (fun x => deq x d)
def inop (a b : D) : Option Bool :=
  match b with
  | .tup ds => if plain MAXD a && plains MAXD ds then some (dmem a ds) else none
  | .lst _ ds => if plain MAXD a && plains MAXD ds then some (dmem a ds) else none
  | .str y => match a with
    | .str [c] => some (y.contains c)
    | _ => none
  | .dct _ ks _ => if keyOk MAXD a then some (dmem a ks) else none
  | .st _ ds => if keyOk MAXD a then some (dmem a ds) else none
  | _ => none
def isNon : D → Bool
  | .non => true
  | _ => false
def isop (a b : D) : Option Bool :=
  match b with
  | .non => some (isNon a)
  | .bl c => match a with
    | .bl d => some (d == c)
    | _ => none
  | _ => none
def cmpop (o : Cmp) (a b : D) : Option Bool :=
  match o with
  | .eq => if plain MAXD a && plain MAXD b then some (deq a b) else none
  | .ne => if plain MAXD a && plain MAXD b then some (!deq a b) else none
  | .lt => if plain MAXD a && plain MAXD b && alike a b then (dcmp a b).map (· == .lt) else none
  | .le => if plain MAXD a && plain MAXD b && alike a b then (dcmp a b).map (· != .gt) else none
  | .gt => if plain MAXD a && plain MAXD b && alike a b then (dcmp a b).map (· == .gt) else none
  | .ge => if plain MAXD a && plain MAXD b && alike a b then (dcmp a b).map (· != .lt) else none
  | .isin => inop a b
  | .notin => (inop a b).map (!·)
  | .is => isop a b
  | .isnot => (isop a b).map (!·)
def truthy : D → Bool
  | .non => false
  | .bl b => b
  | .int i => i != 0
  | .str x => !x.isEmpty
  | .tup x => !x.isEmpty
  | .scr x => !x.isEmpty
  | .lst _ x => !x.isEmpty
  | .dct _ x _ => !x.isEmpty
  | .st _ x => !x.isEmpty
  | _ => true
def ixQ (n : Nat) (i : Int) : Option Nat :=
  if 0 ≤ i then (if i < n then some i.toNat else none) else (if -i ≤ n then some (n + i).toNat else none)
def findK (d : D) : List D → List D → Option D
  | k :: ks, v :: vs => if deq k d then some v else findK d ks vs
  | _, _ => none
def ixD (a i : D) : Option D :=
  match a, i with
  | .str x, .int i => (ixQ x.length i).bind fun k => (x[k]?).map fun c => .str [c]
  | .tup x, .int i => (ixQ x.length i).bind fun k => x[k]?
  | .scr x, .int i => (ixQ x.length i).bind fun k => x[k]?
  | .lst _ x, .int i => (ixQ x.length i).bind fun k => x[k]?
  | .dct _ ks vs, k => if keyOk MAXD k then findK k ks vs else none
  | _, _ => none
def cut (n : Nat) (dflt : Nat) : Option Int → Nat
  | none => dflt
  | some i => if i < 0 then n - (-i).toNat else min i.toNat n
def sliceL {α : Type} (x : List α) (a b : Nat) : List α := (x.take b).drop a
def slice (d : D) (lo hi : Option Int) : Option D :=
  match d with
  | .str x => some (.str (sliceL x (cut x.length 0 lo) (cut x.length x.length hi)))
  | .tup x => some (.tup (sliceL x (cut x.length 0 lo) (cut x.length x.length hi)))
  | .lst _ x => if lstOk x then some (.lst true (sliceL x (cut x.length 0 lo) (cut x.length x.length hi))) else none
  | _ => none
def revD : D → Option D
  | .lst _ x => if lstOk x then some (.lst true x.reverse) else none
  | _ => none
inductive Blt where | len | int | sorted | max1 | min1 | max2 | min2 | sum | all | any | abs | repr | str | set | tuple | list | dict0 | set0 | gcd
  deriving DecidableEq
inductive Mth where | find | endswith | startswith | count | upper | join | index | isdigit | split | get1 | get2 | keys | items | values deriving DecidableEq
inductive Ty where | int | bool | str | tuple | list | dict | cls (C : Nat) deriving DecidableEq
def dedup : List D → List D → List D
  | acc, [] => acc
  | acc, d :: ds => dedup (if dmem d acc then acc else acc ++ [d]) ds
def items : D → Option (List D)
  | .tup x => some x
  | .scr x => some x
  | .lst _ x => if lstOk x then some x else none
  | .str x => some (x.map fun c => .str [c])
  | .dct _ ks _ => some ks
  | _ => none
def maxBy (le : D → D → Bool) : D → List D → D
  | m, [] => m
  | m, d :: ds => maxBy le (if le d m then m else d) ds
def intsO : List D → Option (List Int)
  | [] => some []
  | .int i :: ds => (intsO ds).map (i :: ·)
  | _ :: _ => none
def blsO : List D → Option (List Bool)
  | [] => some []
  | .bl b :: ds => (blsO ds).map (b :: ·)
  | _ :: _ => none
def strsO : List D → Option (List (List Nat))
  | [] => some []
  | .str x :: ds => (strsO ds).map (x :: ·)
  | _ :: _ => none
def joinL (sep : List Nat) : List (List Nat) → List Nat
  | [] => []
  | [x] => x
  | x :: y :: r => x ++ sep ++ joinL sep (y :: r)
def digits (n : Nat) : List Nat := (Nat.toDigits 10 n).map Char.toNat
def intS (i : Int) : List Nat := if i < 0 then 45 :: digits i.natAbs else digits i.natAbs
def plainCh (c : Nat) : Bool := decide (32 ≤ c) && decide (c < 127) && c != 39 && c != 92
mutual
def reprD : Nat → D → Option (List Nat)
  | _, .non => some [78, 111, 110, 101]
  | _, .bl true => some [84, 114, 117, 101]
  | _, .bl false => some [70, 97, 108, 115, 101]
  | _, .int i => if decide (i.natAbs < 10 ^ 500) then some (intS i) else none
  | _, .str x => if x.all plainCh then some ([39] ++ x ++ [39]) else none
  | k + 1, .tup ds => (reprs k ds).map fun ts => match ts with
    | [t] => [40] ++ t ++ [44, 41]
    | ts => [40] ++ joinL [44, 32] ts ++ [41]
  | k + 1, .lst _ ds => (reprs k ds).map fun ts => [91] ++ joinL [44, 32] ts ++ [93]
  | _, _ => none
def reprs : Nat → List D → Option (List (List Nat))
  | _, [] => some []
  | k, d :: ds => (reprD k d).bind fun t => (reprs k ds).map (t :: ·)
end
def blt (b : Blt) (xs : List D) : Option D :=
  match b, xs with
  | .len, [.str x] => some (.int x.length)
  | .len, [.tup x] => some (.int x.length)
  | .len, [.scr x] => some (.int x.length)
  | .len, [.lst _ x] => some (.int x.length)
  | .len, [.dct _ x _] => some (.int x.length)
  | .len, [.st _ x] => some (.int x.length)
  | .int, [.int i] => some (.int i)
  | .int, [.bl k] => some (.int (b2i k))
  | .abs, [.int i] => some (.int (if i < 0 then -i else i))
  | .max2, [.int i, .int j] => some (.int (if j > i then j else i))
  | .min2, [.int i, .int j] => some (.int (if j < i then j else i))
  | .sorted, [.st _ x] => if allAlike x then some (.lst true (x.mergeSort dle)) else none
  | .sorted, [d] => (items d).bind fun x => if allAlike x then some (.lst true (x.mergeSort dle)) else none
  | .set, [d] => (items d).bind fun x => if keysOk MAXD x then some (.st true (dedup [] x)) else none
  | .tuple, [.tup x] => some (.tup x)
  | .tuple, [.lst _ x] => if lstOk x then some (.tup x) else none
  | .list, [.tup x] => some (.lst true x)
  | .list, [.scr x] => some (.lst true x)
  | .list, [.lst _ x] => if lstOk x then some (.lst true x) else none
  | .list, [.str x] => some (.lst true (x.map fun c => .str [c]))
  | .sum, [.lst _ x] => (intsO x).map fun ns => .int ns.sum
  | .all, [.lst _ x] => (blsO x).map fun bs => .bl (bs.all id)
  | .any, [.lst _ x] => (blsO x).map fun bs => .bl (bs.any id)
  | .max1, [d] => (items d).bind fun x => match x with
    | [] => none
    | m :: r => if allAlike (m :: r) then some (maxBy dle m r) else none
  | .min1, [d] => (items d).bind fun x => match x with
    | [] => none
    | m :: r => if allAlike (m :: r) then some (maxBy (fun a b => dle b a) m r) else none
  | .repr, [d] => (reprD MAXD d).map .str
  | .str, [.int i] => if decide (i.natAbs < 10 ^ 500) && decide ((intS i).length ≤ LIM) then some (.str (intS i)) else none
  | .dict0, [] => some (.dct true [] [])
  | .set0, [] => some (.st true [])
  | .gcd, [.int i, .int j] => some (.int (Int.gcd i j))
  | _, _ => none
def countS (y : List Nat) : Nat → List Nat → Nat
  | 0, _ => 0
  | _ + 1, [] => 0
  | k + 1, a :: as => if isPre y (a :: as) then 1 + countS y k ((a :: as).drop y.length) else countS y k as
def upC (c : Nat) : Nat := if 97 ≤ c ∧ c ≤ 122 then c - 32 else c
def indexD (d : D) : List D → Nat → Option Nat
  | [], _ => none
  | x :: xs, k => if deq x d then some k else indexD d xs (k + 1)
def splitS (s : Nat) : List Nat → List Nat → List (List Nat)
  | acc, [] => [acc.reverse]
  | acc, c :: cs => if c == s then acc.reverse :: splitS s [] cs else splitS s (c :: acc) cs
mutual
def lay : D → Bool
  | .str x => x.all fun c => decide (c < 1114112)
  | .tup ds => lays ds
  | .lst _ ds => lays ds
  | _ => true
def lays : List D → Bool
  | [] => true
  | d :: ds => lay d && lays ds
end
def mth (m : Mth) (o : D) (xs : List D) : Option D :=
  match m, o, xs with
  | .find, .str x, [.str [c]] => some (.int (match idxC c x 0 with | some k => (k : Int) | none => -1))
  | .endswith, .str x, [.str y] => some (.bl (isPre y.reverse x.reverse))
  | .startswith, .str x, [.str y] => some (.bl (isPre y x))
  | .count, .str x, [.str [c]] => some (.int (x.countP fun a => a == c))
  | .upper, .str x, [] => if x.all (fun c => decide (c < 128)) && decide (x.length ≤ LIM) then some (.str (x.map upC)) else none
  | .isdigit, .str x, [] => if x.all (fun c => decide (c < 128)) then some (.bl (!x.isEmpty && x.all fun c => decide (48 ≤ c) && decide (c ≤ 57))) else none
  | .join, .str s, [.lst _ x] => (strsO x).bind fun ts => if decide ((joinL s ts).length ≤ LIM) && decide ((ts.map (·.length)).sum + ts.length * s.length ≤ LIM) then some (.str (joinL s ts)) else none
  | .join, .str s, [.tup x] => (strsO x).bind fun ts => if decide ((joinL s ts).length ≤ LIM) && decide ((ts.map (·.length)).sum + ts.length * s.length ≤ LIM) then some (.str (joinL s ts)) else none
  | .index, .lst _ x, [d] => if plain MAXD d && plains MAXD x && (lay d && lays x) then (indexD d x 0).map fun k => .int k else none
  | .index, .tup x, [d] => if plain MAXD d && plains MAXD x && (lay d && lays x) then (indexD d x 0).map fun k => .int k else none
  | .split, .str x, [.str [c]] => some (.lst true ((splitS c [] x).map .str))
  | .get1, .dct _ ks vs, [k] => if keyOk MAXD k then some ((findK k ks vs).getD .non) else none
  | .get2, .dct _ ks vs, [k, z] => if keyOk MAXD k then some ((findK k ks vs).getD z) else none
  | _, _, _ => none
def mthTy : Mth → D → Bool
  | .index, .lst _ _ => true
  | .index, _ => false
  | .get1, .dct _ _ _ => true | .get2, .dct _ _ _ => true | .keys, .dct _ _ _ => true | .items, .dct _ _ _ => true | .values, .dct _ _ _ => true
  | _, .str _ => true
  | _, _ => false
def typ (sup : Nat → List Nat) (d : D) : Ty → Bool
  | .int => match d with | .int _ => true | .bl _ => true | _ => false
  | .bool => match d with | .bl _ => true | _ => false
  | .str => match d with | .str _ => true | _ => false
  | .tuple => match d with | .tup _ => true | _ => false
  | .list => match d with | .lst _ _ => true | .scr _ => true | _ => false
  | .dict => match d with | .dct _ _ _ => true | _ => false
  | .cls C => match d with
    | .ins _ C' _ => (sup C').contains C
    | _ => false
inductive T where | nm (i : Nat) | tp (ts : List T)
inductive CK where | list | set | dict deriving DecidableEq
mutual
inductive E where
  | c (d : D)
  | v (i : Nat)
  | g (i : Nat)
  | fz (e : E)
  | bin (o : Bin) (a b : E)
  | neg (a : E)
  | not (a : E)
  | and (a b : E)
  | or (a b : E)
  | cmp (o : Cmp) (a b : E)
  | chain (o o' : Cmp) (a b c : E)
  | ite (c a b : E)
  | tup (es : List E)
  | lst (es : List E)
  | set (es : List E)
  | dct (kvs : List E)
  | ix (a i : E)
  | ixv (j : Nat) (i : E)
  | va (i : Nat)
  | sl (a lo hi : E)
  | rev (a : E)
  | call (f : Nat) (es : List E)
  | callk (f : Nat) (js : List Nat) (es : List E)
  | blt (b : Blt) (es : List E)
  | of (b : Blt) (it : It)
  | mth (m : Mth) (o : E) (es : List E)
  | sortk (e : E) (i : Nat) (key : E)
  | pop (i : Nat) (path : List E)
  | comp (k : CK) (key : E) (elt : E) (gs : List Gen) (ow : List Nat)
  | isi (e : E) (ts : List Ty)
  | attr (e : E) (f : Nat)
  | xattr (f : Nat)
  | xisi (ts : List Nat)
  | mv (i : Nat)
  | callh (f : Nat) (es : List E)
inductive It where
  | val (e : E)
  | vr (i : Nat)
  | rng (es : List E)
  | enm (it : It)
  | zip (a b : It)
  | its (e : E)
inductive Gen where
  | mk (t : T) (it : It) (cs : List E)
end
inductive S where
  | asg (t : T) (e : E)
  | aug (i : Nat) (o : Bin) (e : E)
  | sset (i : Nat) (path : List E) (k : E) (e : E)
  | saug (i : Nat) (path : List E) (k : E) (o : Bin) (e : E)
  | app (i : Nat) (path : List E) (e : E)
  | ext (i : Nat) (path : List E) (e : E)
  | sadd (i : Nat) (path : List E) (e : E)
  | expr (e : E)
  | ifs (c : E) (a b : List S)
  | for (t : T) (it : It) (body : List S)
  | while (c : E) (body : List S)
  | ret (e : E)
  | brk | cont | pass
  | raise (C : Nat) (es : List E)
  | try (body : List S) (Cs : List Nat) (i : Option Nat) (h : List S)
  | stk
mutual
def simpE : E → Bool
  | .c _ => true | .v _ => true | .g _ => true
  | .fz e => simpE e
  | .bin _ a b => simpE a && simpE b
  | .neg a => simpE a
  | .not a => simpE a
  | .and a b => simpE a && simpE b
  | .or a b => simpE a && simpE b
  | .cmp _ a b => simpE a && simpE b
  | .ite c a b => simpE c && simpE a && simpE b
  | .tup es => simpEs es
  | .ix a i => simpE a && simpE i
  | .ixv _ i => simpE i
  | .sl a l h => simpE a && simpE l && simpE h
  | .rev a => simpE a
  | .blt _ es => simpEs es
  | .mth _ o es => simpE o && simpEs es
  | .isi e _ => simpE e
  | .xattr _ => true | .xisi _ => true
  | _ => false
def simpEs : List E → Bool
  | [] => true
  | e :: es => simpE e && simpEs es
end
mutual
def slotsT : T → List Nat
  | .nm i => [i]
  | .tp ts => slotsTs ts
def slotsTs : List T → List Nat
  | [] => []
  | t :: ts => slotsT t ++ slotsTs ts
end
def slotsG : List Gen → List Nat
  | [] => []
  | .mk t _ _ :: gs => slotsT t ++ slotsG gs
structure Fn where
  np : Nat
  ns : Nat
  fx : List Bool
  body : List S
structure Prog where
  fns : List Fn
  gl : List D
  sup : Nat → List Nat
  fnm : Nat → List Nat
def partE : E → D → Option (Option Int)
  | .c .non, _ => some none
  | _, .int i => some (some i)
  | _, _ => none
inductive CR where | st | ok (d : D) (ps : Env) | ex (C : Nat) (ds : List D) (ps : Env)
abbrev CF := Nat → List D → CR
def W : Nat := 1000000
mutual
def bindT : T → D → Env → Option Env
  | .nm i, d, en => if i < en.length then some (en.set i (some d)) else none
  | .tp ts, d, en => match d with
    | .tup ds => bindTs ts ds en
    | _ => none
def bindTs : List T → List D → Env → Option Env
  | [], [], en => some en
  | t :: ts, d :: ds, en => match bindT t d en with
    | some en1 => bindTs ts ds en1
    | none => none
  | _, _, _ => none
end
inductive Pit where | lst (ds : List D) | vr (i : Nat) | enm (p : Pit) | zip (p q : Pit)
inductive Nx where | st | done | item (d : D)
def nextP : Pit → Nat → Env → Nx
  | .lst ds, t, _ => match ds[t]? with
    | some d => .item d
    | none => .done
  | .vr i, t, en => match get en i with
    | some d => match (match d with | .lst _ x => some x | .tup x => some x | .str x => some (x.map fun c => D.str [c]) | _ => none) with
      | some x => match x[t]? with
        | some y => if own y then .st else .item y
        | none => .done
      | none => .st
    | none => .st
  | .enm p, t, en => match nextP p t en with
    | .item d => .item (.tup [.int t, d])
    | r => r
  | .zip p q, t, en => match nextP p t en with
    | .item d => match nextP q t en with
      | .item e => .item (.tup [d, e])
      | r => r
    | r => r
def enmL : Nat → List D → List D
  | _, [] => []
  | k, d :: ds => .tup [.int k, d] :: enmL (k + 1) ds
def zipL : List D → List D → List D
  | x :: xs, y :: ys => .tup [x, y] :: zipL xs ys
  | _, _ => []
def mkEnm : Pit → Pit
  | .lst ds => .lst (enmL 0 ds)
  | p => .enm p
def mkZip : Pit → Pit → Pit
  | .lst a, .lst b => .lst (zipL a b)
  | p, q => .zip p q
def rangeL (lo : Int) : Nat → List D
  | 0 => []
  | n + 1 => .int lo :: rangeL (lo + 1) n
def rangeS (lo st : Int) : Nat → List D
  | 0 => []
  | n + 1 => .int lo :: rangeS (lo + st) st n
def smR (i : Int) : Bool := decide (-4611686018427387904 ≤ i) && decide (i < 4611686018427387904)
def rngD : List D → Option (List D)
  | [.int n] => if smR n && decide (n < LIM) then some (rangeL 0 n.toNat) else none
  | [.int a, .int b] => if smR a && smR b && decide (b - a < LIM) then some (rangeL a (b - a).toNat) else none
  | [.int a, .int b, .int c] => if smR a && smR b then
      (if decide (c = -1) && decide (a - b < LIM) then some (rangeS a (-1) (a - b).toNat) else none)
    else none
  | _ => none
inductive Fl where | nx | rt (d : D) | bk | ct
def forL (bd : D → Env → Option Env) (body : Env → Res Fl) : List D → Env → Res Fl
  | [], en => .ok .nx en
  | d :: ds, en => match bd d en with
    | none => .st
    | some en1 => match body en1 with
      | .ok .nx en2 => forL bd body ds en2
      | .ok .ct en2 => forL bd body ds en2
      | .ok .bk en2 => .ok .nx en2
      | r => r
def forD (p : Pit) (bd : D → Env → Option Env) (body : Env → Res Fl) : Nat → Nat → Env → Res Fl
  | 0, _, _ => .st
  | n + 1, t, en => match nextP p t en with
    | .st => .st
    | .done => .ok .nx en
    | .item d => match bd d en with
      | none => .st
      | some en1 => match body en1 with
        | .ok .nx en2 => forD p bd body n (t + 1) en2
        | .ok .ct en2 => forD p bd body n (t + 1) en2
        | .ok .bk en2 => .ok .nx en2
        | r => r
def forP (p : Pit) (bd : D → Env → Option Env) (body : Env → Res Fl) (en : Env) : Res Fl :=
  match p with
  | .lst ds => forL bd body ds en
  | p => forD p bd body W 0 en
def whileL (c : Env → Res D) (body : Env → Res Fl) : Nat → Env → Res Fl
  | 0, _ => .st
  | n + 1, en => match c en with
    | .st => .st
    | .ex C ds en1 => .ex C ds en1
    | .ok d en1 => if truthy d then
        match body en1 with
        | .ok .nx en2 => whileL c body n en2
        | .ok .ct en2 => whileL c body n en2
        | .ok .bk en2 => .ok .nx en2
        | r => r
      else .ok .nx en1
def compL {α : Type} (bd : D → Env → Option Env) (turn : α → Env → Res α) : List D → α → Env → Res α
  | [], acc, en => .ok acc en
  | d :: ds, acc, en => match bd d en with
    | none => .st
    | some en1 => match turn acc en1 with
      | .ok acc2 en2 => compL bd turn ds acc2 en2
      | r => r
def compD {α : Type} (p : Pit) (bd : D → Env → Option Env) (turn : α → Env → Res α) : Nat → Nat → α → Env → Res α
  | 0, _, _, _ => .st
  | n + 1, t, acc, en => match nextP p t en with
    | .st => .st
    | .done => .ok acc en
    | .item d => match bd d en with
      | none => .st
      | some en1 => match turn acc en1 with
        | .ok acc2 en2 => compD p bd turn n (t + 1) acc2 en2
        | r => r
def compP {α : Type} (p : Pit) (bd : D → Env → Option Env) (turn : α → Env → Res α) (acc : α) (en : Env) : Res α :=
  match p with
  | .lst ds => compL bd turn ds acc en
  | p => compD p bd turn W 0 acc en
def updAt (f : D → Option D) : List D → D → Option D
  | [], d => f d
  | k :: ks, .lst true xs => match k with
    | .int i => (ixQ xs.length i).bind fun n => (xs[n]?).bind fun x => (updAt f ks x).map fun y => .lst true (xs.set n y)
    | _ => none
  | k :: ks, .dct true kk vs => (findIdxK k kk 0).bind fun n => (vs[n]?).bind fun x => (updAt f ks x).map fun y => .dct true kk (vs.set n y)
  | _, _ => none
where findIdxK (k : D) : List D → Nat → Option Nat
  | [], _ => none
  | x :: xs, n => if deq x k then some n else findIdxK k xs (n + 1)
def putD (k v : D) : D → Option D
  | .lst true xs => match k with
    | .int i => (ixQ xs.length i).map fun n => .lst true (xs.set n v)
    | _ => none
  | .dct true ks vs => if keyOk MAXD k then (match updAt.findIdxK k ks 0 with
    | some n => some (.dct true ks (vs.set n v))
    | none => if ks.length < LIM then some (.dct true (ks ++ [k]) (vs ++ [v])) else none) else none
  | _ => none
def putAll : List D → D → Option D
  | [], d => some d
  | k :: v :: r, d => (putD k v d).bind (putAll r)
  | _, _ => none
def appD (v : D) : D → Option D
  | .lst true xs => if xs.length < LIM then some (.lst true (xs ++ [v])) else none
  | _ => none
def extD (vs : List D) : D → Option D
  | .lst true xs => if xs.length + vs.length ≤ LIM then some (.lst true (xs ++ vs)) else none
  | _ => none
def addD (v : D) : D → Option D
  | .st true xs => if keyOk MAXD v && decide (xs.length < LIM) then some (.st true (if dmem v xs then xs else xs ++ [v])) else none
  | _ => none
def getAt : List D → D → Option D
  | [], d => some d
  | k :: ks, .lst true xs => (ixD (.lst true xs) k).bind (getAt ks)
  | k :: ks, .dct true a b => (ixD (.dct true a b) k).bind (getAt ks)
  | _, _ => none
def isL (en : Env) (i : Nat) (ks : List D) : Bool := match (get en i).bind (getAt ks) with
  | some (.lst true _) => true
  | _ => false
def lstIt : D → Option (List D)
  | .lst o x => items (fz (.lst o x))
  | _ => none
def augD : Bin → D → D → Option D
  | .add, .int i, .int j => some (.int (i + j))
  | _, _, _ => none
def hasR {α : Type} (i : Nat) (en : Env) (r : Res α) : Res α := match get en i with
  | none => .st
  | some _ => r
def upSlot (en : Env) (i : Nat) (f : D → Option D) : Option Env := (get en i).bind fun d => (f d).map fun d' => en.set i (some d')
def wipeE (en : Env) : List Nat → Env
  | [] => en
  | i :: is => (wipeE en is).set i none
def restore (old en : Env) : List Nat → Env
  | [] => en
  | i :: is => (restore old en is).set i ((old[i]?).join)
def okOwn (en : Env) (ow : List Nat) : Bool := ow.all fun i => match get en i with
  | some d => !own d
  | none => true
section
variable (P : Prog) (cf : CF) (xc : Option (Nat × List D))
def fillA (fx : List Bool) : List E → List D → Env → Option (List D × List (Option Nat) × Env)
  | [], [], en => some ([], [], en)
  | e :: es, d0 :: ds, en => match e with
    | .va i => match get en i with
      | none => none
      | some d => if own d then
          if fx.headD false then (fillA fx.tail es ds (en.set i none)).map fun (a, m, en') => (d :: a, some i :: m, en')
          else (fillA fx.tail es ds (en.set i (some (fz d)))).map fun (a, m, en') => (fz d :: a, none :: m, en')
        else (fillA fx.tail es ds en).map fun (a, m, en') => (d :: a, none :: m, en')
    | _ => (fillA fx.tail es ds en).map fun (a, m, en') => (d0 :: a, none :: m, en')
  | _, _, _ => none
def backA : List (Option Nat) → Env → Env → Env
  | some i :: ms, p :: ps, en => backA ms ps (en.set i p)
  | none :: ms, _ :: ps, en => backA ms ps en
  | _, _, en => en
def permL {α : Type} (js : List Nat) (xs : List α) : List (Option α) := js.map fun j => xs[j]?
def allSome {α : Type} : List (Option α) → Option (List α)
  | [] => some []
  | some a :: r => (allSome r).map (a :: ·)
  | none :: _ => none
def doCall (f : Nat) (ds : List D) (ms : List (Option Nat)) (en : Env) : Res D :=
  match cf f ds with
  | .st => .st
  | .ok d ps => .ok d (backA ms ps en)
  | .ex C xs ps => .ex C xs (backA ms ps en)
def fxOf (f : Nat) : List Bool := match P.fns[f]? with
  | some fn => fn.fx
  | none => []
def getB (i : Nat) (en : Env) : Res D := match get en i with
  | none => .st
  | some d => .ok d en
def finish (k : CK) (acc : List D) (en : Env) : Res D := match k with
  | .list => .ok (.lst true acc) en
  | .set => if keysOk MAXD acc then .ok (.st true (dedup [] acc)) en else .st
  | .dict => op (putAll acc (.dct true [] [])) en
def fieldOf (f : Nat) : List Nat → List D → Option D
  | n :: ns, d :: ds => if n = f then some d else fieldOf f ns ds
  | _, _ => none
def ixR (b : Bool) (x k : D) (en : Env) : Res D := match ixD x k with
  | some y => if own y && !b then .st else .ok y en
  | none => .st
mutual
def ev (b : Bool) : E → Env → Res D
  | .c d, en => .ok d en
  | .v i, en => match get en i with
    | none => .st
    | some d => if own d && !b then .ok (fz d) (en.set i (some (fz d))) else .ok d en
  | .g i, en => op (P.gl[i]?) en
  | .fz e, en => (ev false e en).bind fun d en => .ok (fz d) en
  | .bin o a b, en => (ev (simpE b) a en).bind fun x en => (ev true b en).bind fun y en => op (binop o x y) en
  | .neg a, en => (ev true a en).bind fun x en => match x with
    | .int i => .ok (.int (-i)) en
    | _ => .st
  | .not a, en => (ev true a en).bind fun x en => .ok (.bl (!truthy x)) en
  | .and a b, en => (ev false a en).bind fun x en => if truthy x then ev false b en else .ok x en
  | .or a b, en => (ev false a en).bind fun x en => if truthy x then .ok x en else ev false b en
  | .cmp o a b, en => (ev (simpE b) a en).bind fun x en => (ev true b en).bind fun y en => op ((cmpop o x y).map .bl) en
  | .chain o o' a b c, en => (ev false a en).bind fun x en => (ev false b en).bind fun y en => match cmpop o x y with
    | none => .st
    | some false => .ok (.bl false) en
    | some true => (ev true c en).bind fun z en => op ((cmpop o' y z).map .bl) en
  | .ite c a b, en => (ev true c en).bind fun x en => if truthy x then ev false a en else ev false b en
  | .tup es, en => (evs es en).bind fun ds en => .ok (.tup (fzs ds)) en
  | .lst es, en => (evs es en).bind fun ds en => .ok (.lst true ds) en
  | .set es, en => (evs es en).bind fun ds en => if keysOk MAXD ds then .ok (.st true (dedup [] ds)) en else .st
  | .dct kvs, en => (evs kvs en).bind fun ds en => op (putAll ds (.dct true [] [])) en
  | .ix a i, en => (ev (simpE i) a en).bind fun x en => (ev false i en).bind fun k en => ixR b x k en
  | .ixv j i, en => match get en j with
    | none => .st
    | some _ => (ev false i en).bind fun k en => (getB j en).bind fun x en => ixR b x k en
  | .va i, en => match get en i with
    | none => .st
    | some _ => .ok .non en
  | .sl a lo hi, en => (ev (simpE lo && simpE hi) a en).bind fun x en => (ev false lo en).bind fun l en => (op (partE lo l) en).bind fun i en => (ev false hi en).bind fun h en => (op (partE hi h) en).bind fun j en => op (slice x i j) en
  | .rev a, en => (ev true a en).bind fun x en => op (revD x) en
  | .call f es, en => (evs es en).bind fun ds en => match fillA (fxOf P f) es ds en with
    | none => .st
    | some (as, ms, en) => doCall cf f as ms en
  | .callk f js es, en => (evs es en).bind fun ds en => match allSome (permL js ds) with
    | none => .st
    | some as => doCall cf f (fzs as) [] en
  | .blt b es, en => (evsB es en).bind fun ds en => op (blt b ds) en
  | .of b it, en => (evIt it en).bind fun p en => match p with
    | .lst ds => op (blt b [.tup ds]) en
    | _ => .st
  | .mth m o es, en => (ev (simpEs es) o en).bind fun x en => if mthTy m x then (evsB es en).bind fun ds en => op (mth m x ds) en else .st
  | .sortk e i key, en => (ev true e en).bind fun x en => match items x with
    | none => .st
    | some ds => (Res.calm (compL (fun d en => if i < en.length then some (en.set i (some d)) else none) (fun acc en => (ev true key en).bind fun k en => .ok (acc ++ [k]) en) ds [] en)).bind fun ks en' =>
        if allAlike ks then .ok (.lst true (((ks.zip ds).mergeSort (fun a b => dle a.1 b.1)).map (·.2))) (restore en en' [i]) else .st
  | .pop i path, en => (hasR i en (evs path en)).bind fun ks en => match (get en i).bind (getAt ks) with
    | some (.lst true xs) => match xs.getLast? with
      | some y => match upSlot en i (updAt (fun _ => some (.lst true xs.dropLast)) ks) with
        | some en' => .ok y en'
        | none => .st
      | none => .st
    | _ => .st
  | .comp k key elt gs ow, en => if okOwn en ow then
      ((Res.calm (evGo (fun acc en => match k with
        | .dict => (ev false key en).bind fun x en => (ev false elt en).bind fun y en => if acc.length < LIM then .ok (acc ++ [x, y]) en else .st
        | _ => (ev false elt en).bind fun d en => if acc.length < LIM then .ok (acc ++ [d]) en else .st) gs [] (wipeE en ow))).bind (finish k)).bind fun d en' => .ok d (restore en (wipeE en' ow) ow)
      else .st
  | .xattr f, en => match xc with
    | some (C, ds) => op (fieldOf f (P.fnm C) ds) en
    | none => .st
  | .xisi ts, en => match xc with
    | some (C, _) => .ok (.bl (ts.any fun C' => (P.sup C).contains C')) en
    | none => .st
  | .mv i, en => match get en i with
    | none => .st
    | some d => .ok d (en.set i none)
  | .callh f es, en => (evs es en).bind fun ds en => match cf f (fzs ds) with
    | .ok d _ => .ok d en
    | _ => .st
  | .isi e ts, en => (ev true e en).bind fun x en => .ok (.bl (ts.any (typ P.sup x))) en
  | .attr e f, en => (ev true e en).bind fun x en => match x with
    | .ins _ _ ds => match ds[f]? with
      | some y => if own y && !b then .st else .ok y en
      | none => .st
    | _ => .st
def evs : List E → Env → Res (List D)
  | [], en => .ok [] en
  | e :: es, en => (ev false e en).bind fun d en => (evs es en).bind fun ds en => .ok (d :: ds) en
def evsB : List E → Env → Res (List D)
  | [], en => .ok [] en
  | e :: es, en => (ev (simpEs es) e en).bind fun d en => (evsB es en).bind fun ds en => .ok (d :: ds) en
def evIt : It → Env → Res Pit
  | .val e, en => (ev false e en).bind fun d en => match items (fz d) with
    | some ds => .ok (.lst ds) en
    | none => .st
  | .vr i, en => .ok (.vr i) en
  | .rng es, en => (evs es en).bind fun ds en => match rngD ds with
    | some r => .ok (.lst r) en
    | none => .st
  | .enm it, en => (evIt it en).bind fun p en => .ok (mkEnm p) en
  | .zip a b, en => (evIt a en).bind fun p en => (evIt b en).bind fun q en => .ok (mkZip p q) en
  | .its e, en => (ev false e en).bind fun d en => match d with
    | .dct _ ks vs => .ok (.lst (zipL ks (fzs vs))) en
    | _ => .st
def evConds : List E → Env → Res Bool
  | [], en => .ok true en
  | c :: cs, en => (ev true c en).bind fun d en => if truthy d then evConds cs en else .ok false en
def evGo (f : List D → Env → Res (List D)) : List Gen → List D → Env → Res (List D)
  | [], acc, en => f acc en
  | .mk t it cs :: gs, acc, en => (evIt it en).bind fun p en =>
      compP p (fun d en => bindT t d (wipeE en (slotsG (.mk t it cs :: gs)))) (fun acc en => (evConds cs en).bind fun b en => if b then evGo f gs acc en else .ok acc en) acc en
end
end
def clr (i : Option Nat) (en : Env) : Env := match i with
  | some i => en.set i none
  | none => en
section
variable (P : Prog) (cf : CF)
mutual
def ex (xc : Option (Nat × List D)) : S → Env → Res Fl
  | .asg t e, en => (ev P cf xc false e en).bind fun d en => match bindT t (match t with | .tp _ => fz d | _ => d) en with
    | some en => .ok .nx en
    | none => .st
  | .aug i o e, en => (hasR i en (ev P cf xc false e en)).bind fun y en => match get en i with
    | some x => match augD o x y with
      | some z => .ok .nx (en.set i (some z))
      | none => .st
    | none => .st
  | .sset i path k e, en => (ev P cf xc false e en).bind fun y en => (hasR i en (evs P cf xc path en)).bind fun ks en => if isL en i ks then (ev P cf xc false k en).bind fun kk en => match upSlot en i (updAt (putD kk y) ks) with
      | some en => .ok .nx en
      | none => .st
    else .st
  | .saug i path k o e, en => (hasR i en (evs P cf xc path en)).bind fun ks en => if isL en i ks then (ev P cf xc false k en).bind fun kk en => (ev P cf xc false e en).bind fun y en =>
      match upSlot en i (updAt (fun d => (ixD d kk).bind fun x => (binop o x y).bind fun z => putD kk z d) ks) with
      | some en => .ok .nx en
      | none => .st
    else .st
  | .app i path e, en => (hasR i en (evs P cf xc path en)).bind fun ks en => if isL en i ks then (ev P cf xc false e en).bind fun y en => match upSlot en i (updAt (appD y) ks) with
      | some en => .ok .nx en
      | none => .st
    else .st
  | .ext i path e, en => (hasR i en (evs P cf xc path en)).bind fun ks en => if isL en i ks then (ev P cf xc false e en).bind fun y en => match lstIt y with
      | some ys => match upSlot en i (updAt (extD ys) ks) with
        | some en => .ok .nx en
        | none => .st
      | none => .st
    else .st
  | .sadd i path e, en => (hasR i en (evs P cf xc path en)).bind fun ks en => if isL en i ks then (ev P cf xc false e en).bind fun y en => match upSlot en i (updAt (addD y) ks) with
      | some en => .ok .nx en
      | none => .st
    else .st
  | .expr e, en => (ev P cf xc false e en).bind fun _ en => .ok .nx en
  | .ifs c a b, en => (ev P cf xc true c en).bind fun d en => if truthy d then exs xc a en else exs xc b en
  | .for t it body, en => (evIt P cf xc it en).bind fun p en => forP p (bindT t) (exs xc body) en
  | .while c body, en => whileL (ev P cf xc true c) (exs xc body) W en
  | .ret e, en => (ev P cf xc false e en).bind fun d en => .ok (.rt d) en
  | .brk, en => .ok .bk en
  | .cont, en => .ok .ct en
  | .pass, en => .ok .nx en
  | .raise C es, en => (evs P cf xc es en).bind fun ds en => .ex C (fzs ds) en
  | .try body Cs i h, en => match exs none body en with
    | .ex C ds en1 => if (P.sup C).any Cs.contains then
        match exs (some (C, ds)) h (clr i en1) with
          | .ok f en2 => .ok f (clr i en2)
          | _ => .st
      else .ex C ds en1
    | r => r
  | .stk, _ => .st
def exs (xc : Option (Nat × List D)) : List S → Env → Res Fl
  | [], en => .ok .nx en
  | s :: ss, en => match ex xc s en with
    | .ok .nx en1 => exs xc ss en1
    | r => r
end
end
def startE (fn : Fn) (ds : List D) : Env := ds.map some ++ List.replicate (fn.ns - fn.np) none
def maskP : List Bool → Env → Env
  | b :: bs, o :: en => (if b then o else none) :: maskP bs en
  | _, _ => []
def callF (P : Prog) : Nat → CF
  | 0 => fun _ _ => .st
  | k + 1 => fun f ds => match P.fns[f]? with
    | none => .st
    | some fn => if ds.length = fn.np then
        match exs P (callF P k) none fn.body (startE fn ds) with
        | .ok (.rt d) en => .ok d (maskP fn.fx (en.take fn.np))
        | .ok .nx en => .ok .non (maskP fn.fx (en.take fn.np))
        | .ex C xs en => .ex C xs (maskP fn.fx (en.take fn.np))
        | _ => .st
      else .st
end Q
end
section
set_option Elab.async false
set_option linter.all false
set_option autoImplicit false
set_option maxRecDepth 100000
namespace Q
open PySem PySem.Spec PyProof.Rows L2
structure Xc where
  C : Nat
  ds : List D
  i : Option Nat
  a : Addr
  cls : Value
  dd : Option Addr
structure Ga where
  K : PySem.W.Frag
  cA : Nat → Addr
  fN : Nat → List Str
  xc : Option Xc
def ScL (K : PySem.W.Frag) (H : Hp) (a : Addr) (vs : List V) : Prop :=
  (∃ o, H a = some (.frz o (.lst vs))) ∨ ∃ (o : Obj) (its : Array Value) (n : Nat), K.lookup a = some o ∧ o.cls = .type "list" ∧ o.dict = none ∧ o.data = .seq its n ∧ its.size ≤ sizeLine ∧ Vals vs its.toList
theorem ScL.sq {K : PySem.W.Frag} {H : Hp} {a : Addr} {vs : List V} (h : ScL K H a vs) : SqL K H a vs := by
  rcases h with h | h
  · exact .inl (.inr h)
  · exact .inr h
mutual
def RO (Γ : Ga) (H : Hp) (N : Addr → Prop) : D → V → List Addr → Prop
  | .non, v, fp => v = .non ∧ fp = []
  | .bl b, v, fp => v = .bl b ∧ fp = []
  | .int i, v, fp => v = .int i ∧ fp = []
  | .str x, v, fp => v = .str ⟨x.toArray⟩ ∧ x.length ≤ sizeLine ∧ fp = []
  | .tup ds, v, fp => ∃ a vs fps, v = .ref a ∧ SqT Γ.K H a vs ∧ ROs Γ H N ds vs fps ∧ (∀ p ∈ fps, p = []) ∧ fp = []
  | .lst false ds, v, fp => ∃ a vs fps, v = .ref a ∧ (H a = some (.lst vs) ∧ ¬ N a) ∧ ROs Γ H N ds vs fps ∧ (∀ p ∈ fps, p = []) ∧ fp = []
  | .scr ds, v, fp => ∃ a vs fps, v = .ref a ∧ ScL Γ.K H a vs ∧ ROs Γ H N ds vs fps ∧ (∀ p ∈ fps, p = []) ∧ fp = []
  | .lst true ds, v, fp => ∃ a vs fps, v = .ref a ∧ H a = some (.lst vs) ∧ ROs Γ H N ds vs fps ∧ fp = a :: fps.flatten
  | .dct _ _ _, _, _ => False
  | .st _ _, _, _ => False
  | .ins _ _ _, _, _ => False
def ROs (Γ : Ga) (H : Hp) (N : Addr → Prop) : List D → List V → List (List Addr) → Prop
  | [], [], [] => True
  | d :: ds, v :: vs, fp :: fps => RO Γ H N d v fp ∧ ROs Γ H N ds vs fps
  | _, _, _ => False
end
section
variable {Γ : Ga} {H H' : Hp} {N N' M : Addr → Prop}
def OwnO (H : Hp) (a : Addr) : Prop := ∃ xs, H a = some (.lst xs)
mutual
theorem RO.ownd : ∀ {d : D} {v : V} {fp : List Addr}, RO Γ H N d v fp → ∀ a ∈ fp, OwnO H a
  | .non, _, _, ⟨_, e⟩, a, h => by subst e; cases h
  | .bl _, _, _, ⟨_, e⟩, a, h => by subst e; cases h
  | .int _, _, _, ⟨_, e⟩, a, h => by subst e; cases h
  | .str _, _, _, ⟨_, _, e⟩, a, h => by subst e; cases h
  | .tup _, _, _, ⟨_, _, _, _, _, _, _, e⟩, a, h => by subst e; cases h
  | .lst false _, _, _, ⟨_, _, _, _, _, _, _, e⟩, a, h => by subst e; cases h
  | .scr _, _, _, ⟨_, _, _, _, _, _, _, e⟩, a, h => by subst e; cases h
  | .lst true ds, _, _, ⟨b, vs, fps, _, hb, hs, e⟩, a, h => by
    subst e
    rcases List.mem_cons.mp h with rfl | h
    · exact ⟨_, hb⟩
    · exact ROs.ownd hs a h
  | .dct _ _ _, _, _, z, _, _ => z.elim
  | .st _ _, _, _, z, _, _ => z.elim
  | .ins _ _ _, _, _, z, _, _ => z.elim
theorem ROs.ownd : ∀ {ds : List D} {vs : List V} {fps : List (List Addr)}, ROs Γ H N ds vs fps → ∀ a ∈ fps.flatten, OwnO H a
  | [], [], [], _, a, h => by cases h
  | d :: ds, v :: vs, fp :: fps, ⟨h1, h2⟩, a, h => by
    rcases List.mem_append.mp (show a ∈ fp ++ fps.flatten from h) with h | h
    · exact RO.ownd h1 a h
    · exact ROs.ownd h2 a h
  | [], [], _ :: _, z, _, _ => z.elim
  | [], _ :: _, _, z, _, _ => z.elim
  | _ :: _, [], _, z, _, _ => z.elim
  | _ :: _, _ :: _, [], z, _, _ => z.elim
end
theorem ROs.length : ∀ {ds : List D} {vs : List V} {fps : List (List Addr)}, ROs Γ H N ds vs fps → vs.length = ds.length ∧ fps.length = ds.length
  | [], [], [], _ => ⟨rfl, rfl⟩
  | d :: ds, v :: vs, fp :: fps, ⟨_, h2⟩ => by
    obtain ⟨a, b⟩ := ROs.length h2
    exact ⟨by rw [List.length_cons, List.length_cons, a], by rw [List.length_cons, List.length_cons, b]⟩
  | [], [], _ :: _, z => z.elim
  | [], _ :: _, _, z => z.elim
  | _ :: _, [], _, z => z.elim
  | _ :: _, _ :: _, [], z => z.elim
theorem OwnO.ntup {a : Addr} {vs : List V} (h : OwnO H a) : H a ≠ some (.tup vs) := fun z => by
  obtain ⟨xs, e⟩ := h; rw [e] at z; cases z
theorem OwnO.nfrz {a : Addr} {o : Obj} {u : HO} (h : OwnO H a) : H a ≠ some (.frz o u) := fun z => by
  obtain ⟨xs, e⟩ := h; rw [e] at z; cases z
structure Kp (H H' : Hp) (M N N' : Addr → Prop) : Prop where
  keep : ∀ a o, H a = some o → ¬ M a → H' a = some o
  ownM : ∀ a, M a → OwnO H a
  inN : ∀ a, M a → N a
  grow : ∀ a, N' a → N a ∨ H a = none
theorem SqT.keep {K : PySem.W.Frag} {a : Addr} {vs : List V} (k : Kp H H' M N N') (h : SqT K H a vs) : SqT K H' a vs := by
  rcases h with (h | ⟨o, h⟩) | h
  · exact .inl (.inl (k.keep _ _ h fun m => (k.ownM _ m).ntup h))
  · exact .inl (.inr ⟨o, k.keep _ _ h fun m => (k.ownM _ m).nfrz h⟩)
  · exact .inr h
theorem ScL.keep {K : PySem.W.Frag} {a : Addr} {vs : List V} (k : Kp H H' M N N') (h : ScL K H a vs) : ScL K H' a vs := by
  rcases h with ⟨o, h⟩ | h
  · exact .inl ⟨o, k.keep _ _ h fun m => (k.ownM _ m).nfrz h⟩
  · exact .inr h
theorem Kp.lst {a : Addr} {vs : List V} (k : Kp H H' M N N') (h : H a = some (.lst vs) ∧ ¬ N a) : H' a = some (.lst vs) ∧ ¬ N' a := by
  obtain ⟨h, hn⟩ := h
  refine ⟨k.keep _ _ h fun m => hn (k.inN _ m), fun z => ?_⟩
  rcases k.grow a z with z | z
  · exact hn z
  · rw [h] at z; cases z
mutual
theorem RO.keep (k : Kp H H' M N N') : ∀ {d : D} {v : V} {fp : List Addr}, RO Γ H N d v fp → (∀ a ∈ fp, ¬ M a) → RO Γ H' N' d v fp
  | .non, _, _, h, _ => h
  | .bl _, _, _, h, _ => h
  | .int _, _, _, h, _ => h
  | .str _, _, _, h, _ => h
  | .tup ds, _, _, ⟨a, vs, fps, e, ht, hs, hf, ef⟩, _ => ⟨a, vs, fps, e, SqT.keep k ht, ROs.keep k hs (fun a ha => by
      obtain ⟨p, hp, hap⟩ := List.mem_flatten.mp ha
      rw [hf p hp] at hap; cases hap), hf, ef⟩
  | .lst false ds, _, _, ⟨a, vs, fps, e, ht, hs, hf, ef⟩, _ => ⟨a, vs, fps, e, k.lst ht, ROs.keep k hs (fun a ha => by
      obtain ⟨p, hp, hap⟩ := List.mem_flatten.mp ha
      rw [hf p hp] at hap; cases hap), hf, ef⟩
  | .scr ds, _, _, ⟨a, vs, fps, e, ht, hs, hf, ef⟩, _ => ⟨a, vs, fps, e, ScL.keep k ht, ROs.keep k hs (fun a ha => by
      obtain ⟨p, hp, hap⟩ := List.mem_flatten.mp ha
      rw [hf p hp] at hap; cases hap), hf, ef⟩
  | .lst true ds, _, _, ⟨a, vs, fps, e, ha, hs, ef⟩, hm => by
    subst ef
    exact ⟨a, vs, fps, e, k.keep _ _ ha (hm a List.mem_cons_self), ROs.keep k hs (fun b hb => hm b (List.mem_cons_of_mem _ hb)), rfl⟩
  | .dct _ _ _, _, _, z, _ => z.elim
  | .st _ _, _, _, z, _ => z.elim
  | .ins _ _ _, _, _, z, _ => z.elim
theorem ROs.keep (k : Kp H H' M N N') : ∀ {ds : List D} {vs : List V} {fps : List (List Addr)}, ROs Γ H N ds vs fps → (∀ a ∈ fps.flatten, ¬ M a) → ROs Γ H' N' ds vs fps
  | [], [], [], _, _ => True.intro
  | d :: ds, v :: vs, fp :: fps, ⟨h1, h2⟩, hm => ⟨RO.keep k h1 fun a ha => hm a (List.mem_append_left _ ha), ROs.keep k h2 fun a ha => hm a (List.mem_append_right fp ha)⟩
  | [], [], _ :: _, z, _ => z.elim
  | [], _ :: _, _, z, _ => z.elim
  | _ :: _, [], _, z, _ => z.elim
  | _ :: _, _ :: _, [], z, _ => z.elim
end
theorem Kp.id (h : ∀ a, N' a → N a) : Kp H H (fun _ => False) N N' := ⟨fun _ _ h _ => h, fun _ z => z.elim, fun _ z => z.elim, fun a z => .inl (h a z)⟩
theorem RO.weak {d : D} {v : V} {fp : List Addr} (r : RO Γ H N d v fp) (h : ∀ a, N' a → N a) : RO Γ H N' d v fp := r.keep (Kp.id h) fun _ _ z => z
theorem ROs.weak {ds : List D} {vs : List V} {fps : List (List Addr)} (r : ROs Γ H N ds vs fps) (h : ∀ a, N' a → N a) : ROs Γ H N' ds vs fps := r.keep (Kp.id h) fun _ _ z => z
theorem RO.noOwn : ∀ {d : D} {v : V} {fp : List Addr}, RO Γ H N d v fp → own d = false → fp = []
  | .non, _, _, h, _ => h.2
  | .bl _, _, _, h, _ => h.2
  | .int _, _, _, h, _ => h.2
  | .str _, _, _, h, _ => h.2.2
  | .tup _, _, _, ⟨_, _, _, _, _, _, _, e⟩, _ => e
  | .lst false _, _, _, ⟨_, _, _, _, _, _, _, e⟩, _ => e
  | .scr _, _, _, ⟨_, _, _, _, _, _, _, e⟩, _ => e
  | .lst true _, _, _, _, z => by cases z
  | .dct _ _ _, _, _, z, _ => z.elim
  | .st _ _, _, _, z, _ => z.elim
  | .ins _ _ _, _, _, z, _ => z.elim
theorem ROs.noOwn : ∀ {ds : List D} {vs : List V} {fps : List (List Addr)}, ROs Γ H N ds vs fps → ds.any own = false → ∀ p ∈ fps, p = []
  | [], [], [], _, _, p, hp => by cases hp
  | d :: ds, v :: vs, fp :: fps, ⟨h1, h2⟩, ho, p, hp => by
    rw [List.any_cons, Bool.or_eq_false_iff] at ho
    rcases List.mem_cons.mp hp with rfl | hp
    · exact h1.noOwn ho.1
    · exact ROs.noOwn h2 ho.2 p hp
  | [], [], _ :: _, z, _, _, _ => z.elim
  | [], _ :: _, _, z, _, _, _ => z.elim
  | _ :: _, [], _, z, _, _, _ => z.elim
  | _ :: _, _ :: _, [], z, _, _, _ => z.elim
theorem flat_nil {fps : List (List Addr)} (h : ∀ p ∈ fps, p = []) : fps.flatten = [] := by
  induction fps with
  | nil => rfl
  | cons p ps ih =>
    rw [List.flatten_cons, h p List.mem_cons_self, ih fun q hq => h q (List.mem_cons_of_mem _ hq)]
    rfl
theorem nil_flat {fps : List (List Addr)} (h : fps.flatten = []) : ∀ p ∈ fps, p = [] := fun p hp => by
  cases p with
  | nil => rfl
  | cons a r =>
    have : a ∈ fps.flatten := List.mem_flatten.mpr ⟨_, hp, List.mem_cons_self⟩
    rw [h] at this; cases this
mutual
theorem RO.fz : ∀ {d : D} {v : V} {fp : List Addr}, RO Γ H N d v fp → (∀ a, N' a → N a) → (∀ a ∈ fp, ¬ N' a) → RO Γ H N' (fz d) v []
  | .non, _, _, h, _, _ => ⟨h.1, rfl⟩
  | .bl _, _, _, h, _, _ => ⟨h.1, rfl⟩
  | .int _, _, _, h, _, _ => ⟨h.1, rfl⟩
  | .str _, _, _, h, _, _ => ⟨h.1, h.2.1, rfl⟩
  | .tup ds, _, _, h, hn, _ => by
    obtain ⟨a, vs, fps, e, ht, hs, hf, ef⟩ := RO.weak h hn
    exact ⟨a, vs, fps, e, ht, hs, hf, rfl⟩
  | .lst false ds, _, _, ⟨a, vs, fps, e, ht, hs, hf, ef⟩, hn, _ => by
    obtain ⟨fps', hs', hf'⟩ := ROs.fz hs hn fun b hb => by rw [flat_nil hf] at hb; cases hb
    exact ⟨a, vs, fps', e, ⟨ht.1, fun z => ht.2 (hn _ z)⟩, hs', hf', rfl⟩
  | .scr ds, _, _, h, hn, _ => by
    obtain ⟨a, vs, fps, e, ht, hs, hf, ef⟩ := RO.weak h hn
    exact ⟨a, vs, fps, e, ht, hs, hf, rfl⟩
  | .lst true ds, _, _, ⟨a, vs, fps, e, ha, hs, ef⟩, hn, hf => by
    subst ef
    obtain ⟨fps', hs', hf'⟩ := ROs.fz hs hn fun b hb => hf b (List.mem_cons_of_mem _ hb)
    exact ⟨a, vs, fps', e, ⟨ha, hf a List.mem_cons_self⟩, hs', hf', rfl⟩
  | .dct _ _ _, _, _, z, _, _ => z.elim
  | .st _ _, _, _, z, _, _ => z.elim
  | .ins _ _ _, _, _, z, _, _ => z.elim
theorem ROs.fz : ∀ {ds : List D} {vs : List V} {fps : List (List Addr)}, ROs Γ H N ds vs fps → (∀ a, N' a → N a) → (∀ a ∈ fps.flatten, ¬ N' a) → ∃ fps', ROs Γ H N' (fzs ds) vs fps' ∧ ∀ p ∈ fps', p = []
  | [], [], [], _, _, _ => ⟨[], True.intro, fun _ h => by cases h⟩
  | d :: ds, v :: vs, fp :: fps, ⟨h1, h2⟩, hn, hf => by
    have a := RO.fz h1 hn fun b hb => hf b (List.mem_append_left _ hb)
    obtain ⟨fps', b, c⟩ := ROs.fz h2 hn fun b hb => hf b (List.mem_append_right fp hb)
    refine ⟨[] :: fps', ⟨a, b⟩, fun p hp => ?_⟩
    rcases List.mem_cons.mp hp with rfl | hp
    · rfl
    · exact c p hp
  | [], [], _ :: _, z, _, _ => z.elim
  | [], _ :: _, _, z, _, _ => z.elim
  | _ :: _, [], _, z, _, _ => z.elim
  | _ :: _, _ :: _, [], z, _, _ => z.elim
end
def RS (Γ : Ga) (H : Hp) (N : Addr → Prop) : Option D → Option V → List Addr → Prop
  | none, _, fp => fp = []
  | some d, w, fp => ∃ v, w = some v ∧ RO Γ H N d v fp
def RSs (Γ : Ga) (H : Hp) (N : Addr → Prop) : Env → L2.St → List (List Addr) → Prop
  | [], [], [] => True
  | o :: en, w :: σ, fp :: fps => RS Γ H N o w fp ∧ RSs Γ H N en σ fps
  | _, _, _ => False
theorem RS.keep {M : Addr → Prop} (k : Kp H H' M N N') {o : Option D} {w : Option V} {fp : List Addr} (r : RS Γ H N o w fp) (hm : ∀ a ∈ fp, ¬ M a) : RS Γ H' N' o w fp := by
  cases o with
  | none => exact r
  | some d =>
    obtain ⟨v, e, r⟩ := r
    exact ⟨v, e, r.keep k hm⟩
theorem RSs.keep (k : Kp H H' M N N') : ∀ {en : Env} {σ : L2.St} {fps : List (List Addr)}, RSs Γ H N en σ fps → (∀ a ∈ fps.flatten, ¬ M a) → RSs Γ H' N' en σ fps
  | [], [], [], _, _ => True.intro
  | d :: ds, v :: vs, fp :: fps, ⟨h1, h2⟩, hm => ⟨RS.keep k h1 fun a ha => hm a (List.mem_append_left _ ha), RSs.keep k h2 fun a ha => hm a (List.mem_append_right fp ha)⟩
  | [], [], _ :: _, z, _ => z.elim
  | [], _ :: _, _, z, _ => z.elim
  | _ :: _, [], _, z, _ => z.elim
  | _ :: _, _ :: _, [], z, _ => z.elim
theorem RSs.weak {en : Env} {σ : L2.St} {fps : List (List Addr)} (r : RSs Γ H N en σ fps) (h : ∀ a, N' a → N a) : RSs Γ H N' en σ fps := r.keep (Kp.id h) fun _ _ z => z
theorem RS.ownd {o : Option D} {w : Option V} {fp : List Addr} (r : RS Γ H N o w fp) : ∀ a ∈ fp, OwnO H a := fun a ha => by
  cases o with
  | none =>
    rw [show fp = [] from r] at ha; cases ha
  | some d =>
    obtain ⟨v, _, r⟩ := r
    exact r.ownd a ha
theorem RSs.ownd : ∀ {en : Env} {σ : L2.St} {fps : List (List Addr)}, RSs Γ H N en σ fps → ∀ a ∈ fps.flatten, OwnO H a
  | [], [], [], _, a, h => by cases h
  | d :: ds, v :: vs, fp :: fps, ⟨h1, h2⟩, a, h => by
    rcases List.mem_append.mp (show a ∈ fp ++ fps.flatten from h) with h | h
    · exact RS.ownd h1 a h
    · exact RSs.ownd h2 a h
  | [], [], _ :: _, z, _, _ => z.elim
  | [], _ :: _, _, z, _, _ => z.elim
  | _ :: _, [], _, z, _, _ => z.elim
  | _ :: _, _ :: _, [], z, _, _ => z.elim
theorem RSs.length : ∀ {en : Env} {σ : L2.St} {fps : List (List Addr)}, RSs Γ H N en σ fps → σ.length = en.length ∧ fps.length = en.length
  | [], [], [], _ => ⟨rfl, rfl⟩
  | d :: ds, v :: vs, fp :: fps, ⟨_, h2⟩ => by
    obtain ⟨a, b⟩ := RSs.length h2
    exact ⟨by rw [List.length_cons, List.length_cons, a], by rw [List.length_cons, List.length_cons, b]⟩
  | [], [], _ :: _, z => z.elim
  | [], _ :: _, _, z => z.elim
  | _ :: _, [], _, z => z.elim
  | _ :: _, _ :: _, [], z => z.elim
theorem RSs.at : ∀ {en : Env} {σ : L2.St} {fps : List (List Addr)} {i : Nat} {d : D}, RSs Γ H N en σ fps → get en i = some d → ∃ v fp, σ[i]? = some (some v) ∧ fps[i]? = some fp ∧ RO Γ H N d v fp
  | [], [], [], i, d, _, h => by simp [get] at h
  | o :: en, w :: σ, fp :: fps, 0, d, ⟨h1, _⟩, h => by
    have h : o = some d := by simpa [get] using h
    subst h
    obtain ⟨v, e, r⟩ := h1
    exact ⟨v, fp, by rw [e]; rfl, rfl, r⟩
  | o :: en, w :: σ, fp :: fps, i + 1, d, ⟨_, h2⟩, h => by
    obtain ⟨v, fp', a, b, c⟩ := RSs.at (i := i) h2 (by simpa [get] using h)
    exact ⟨v, fp', by simpa using a, by simpa using b, c⟩
  | [], [], _ :: _, _, _, z, _ => z.elim
  | [], _ :: _, _, _, _, z, _ => z.elim
  | _ :: _, [], _, _, _, z, _ => z.elim
  | _ :: _, _ :: _, [], _, _, z, _ => z.elim
theorem RSs.set : ∀ {en : Env} {σ : L2.St} {fps : List (List Addr)} {i : Nat} {o : Option D} {w : Option V} {fp : List Addr}, RSs Γ H N en σ fps → i < en.length → RS Γ H N o w fp → RSs Γ H N (en.set i o) (σ.set i w) (fps.set i fp)
  | [], [], [], i, _, _, _, _, hi, _ => absurd hi (Nat.not_lt_zero _)
  | o :: en, w :: σ, fp :: fps, 0, _, _, _, ⟨_, h2⟩, _, r => ⟨r, h2⟩
  | o :: en, w :: σ, fp :: fps, i + 1, _, _, _, ⟨h1, h2⟩, hi, r => ⟨h1, RSs.set (i := i) h2 (by simpa using hi) r⟩
  | [], [], _ :: _, _, _, _, _, z, _, _ => z.elim
  | [], _ :: _, _, _, _, _, _, z, _, _ => z.elim
  | _ :: _, [], _, _, _, _, _, z, _, _ => z.elim
  | _ :: _, _ :: _, [], _, _, _, _, z, _, _ => z.elim
theorem RSs.setE : ∀ {en : Env} {σ : L2.St} {fps : List (List Addr)} {i : Nat} {o : Option D} {w : Option V} {fp : List Addr}, RSs Γ H N en σ fps → σ[i]? = some w → RS Γ H N o w fp → RSs Γ H N (en.set i o) σ (fps.set i fp)
  | [], [], [], i, _, _, _, _, hi, _ => by simp at hi
  | o :: en, w :: σ, fp :: fps, 0, _, _, _, ⟨_, h2⟩, hi, r => by
    have e : w = _ := Option.some.inj (by simpa using hi)
    subst e
    exact ⟨r, h2⟩
  | o :: en, w :: σ, fp :: fps, i + 1, _, _, _, ⟨h1, h2⟩, hi, r => ⟨h1, RSs.setE (i := i) h2 (by simpa using hi) r⟩
  | [], [], _ :: _, _, _, _, _, z, _, _ => z.elim
  | [], _ :: _, _, _, _, _, _, z, _, _ => z.elim
  | _ :: _, [], _, _, _, _, _, z, _, _ => z.elim
  | _ :: _, _ :: _, [], _, _, _, _, z, _, _ => z.elim
end
end Q
end
section
set_option Elab.async false
set_option linter.all false
set_option autoImplicit false
set_option maxRecDepth 100000
namespace Q
open PySem PySem.Spec PyProof.Rows L2
def Made (Γ : Ga) (H : Hp) (N : Addr → Prop) (d : D) (Q : VK) : Prop :=
  ∀ v H' fp, (∀ a o, H a = some o → H' a = some o) → (∀ a ∈ fp, H a = none) → fp.Nodup → RO Γ H' (fun a => N a ∨ a ∈ fp) d v fp → Q v H'
section
variable {Γ : Ga} {H H' : Hp} {N : Addr → Prop} {Q : VK} {d : D} {v : V}
theorem Kp.grow0 {N' : Addr → Prop} (k : ∀ a o, H a = some o → H' a = some o) (g : ∀ a, N' a → N a ∨ H a = none) : Kp H H' (fun _ => False) N N' :=
  ⟨fun a o h _ => k a o h, fun _ z => z.elim, fun _ z => z.elim, g⟩
theorem Made.same (m : Made Γ H N d Q) (r : RO Γ H N d v []) : Q v H := m v H [] (fun _ _ h => h) (fun _ h => by cases h) List.nodup_nil (r.weak fun a z => by
  rcases z with z | z
  · exact z
  · cases z)
theorem new_keep {p : Addr} {o : HO} (hp : H p = none) : ∀ a u, H a = some u → upd H p o a = some u := fun a u e => by
  rw [upd_ne (ne_of_none e hp)]; exact e
theorem Made.tup {ds : List D} {vs : List V} {fps : List (List Addr)} {p : Addr} (m : Made Γ H N (.tup ds) Q) (r : ROs Γ H N ds vs fps) (hf : ∀ q ∈ fps, q = []) (hp : H p = none) : Q (.ref p) (upd H p (.tup vs)) := by
  refine m (.ref p) _ [] (new_keep hp) (fun _ h => by cases h) List.nodup_nil ⟨p, vs, fps, rfl, .inl (.inl upd_same), ?_, hf, rfl⟩
  refine r.keep (Kp.grow0 (new_keep hp) fun a z => .inl ?_) fun _ _ z => z
  rcases z with z | z
  · exact z
  · cases z
theorem Made.lst {ds : List D} {vs : List V} {fps : List (List Addr)} {p : Addr} (m : Made Γ H N (.lst true ds) Q) (r : ROs Γ H N ds vs fps) (hf : ∀ q ∈ fps, q = []) (hp : H p = none) : Q (.ref p) (upd H p (.lst vs)) := by
  refine m (.ref p) _ [p] (new_keep hp) (fun a h => by rw [List.mem_singleton.mp h]; exact hp) (by simp) ⟨p, vs, fps, rfl, upd_same, ?_, by rw [flat_nil hf]⟩
  refine r.keep (Kp.grow0 (new_keep hp) fun a z => ?_) fun _ _ z => z
  rcases z with z | z
  · exact .inl z
  · rw [List.mem_singleton.mp z]; exact .inr hp
theorem Made.int {i : Int} (m : Made Γ H N (.int i) Q) : Q (.int i) H := m.same ⟨rfl, rfl⟩
theorem Made.bl {b : Bool} (m : Made Γ H N (.bl b) Q) : Q (.bl b) H := m.same ⟨rfl, rfl⟩
theorem Made.str {x : List Nat} (m : Made Γ H N (.str x) Q) (h : x.length ≤ sizeLine) : Q (.str ⟨x.toArray⟩) H := m.same ⟨rfl, h, rfl⟩
theorem Made.strE {x : List Nat} {z : Str} (m : Made Γ H N (.str x) Q) (e : z.cps.toList = x) (h : x.length ≤ sizeLine) : Q (.str z) H := by
  have : z = ⟨x.toArray⟩ := by
    obtain ⟨a⟩ := z
    subst e
    simp
  rw [this]; exact m.str h
theorem LIM_line : LIM ≤ sizeLine := by rw [sizeLine_eq]; decide
theorem RO.tupD {ds : List D} {fp : List Addr} (r : RO Γ H N (.tup ds) v fp) : ∃ a vs fps, v = .ref a ∧ SqT Γ.K H a vs ∧ ROs Γ H N ds vs fps ∧ (∀ p ∈ fps, p = []) := by
  obtain ⟨a, vs, fps, e, h1, h2, h3, _⟩ := r
  exact ⟨a, vs, fps, e, h1, h2, h3⟩
theorem RO.lstD {o : Bool} {ds : List D} {fp : List Addr} (r : RO Γ H N (.lst o ds) v fp) : ∃ a vs fps, v = .ref a ∧ H a = some (.lst vs) ∧ ROs Γ H N ds vs fps := by
  cases o with
  | false =>
    obtain ⟨a, vs, fps, e, h1, h2, h3, _⟩ := r
    exact ⟨a, vs, fps, e, h1.1, h2⟩
  | true =>
    obtain ⟨a, vs, fps, e, h1, h2, h3⟩ := r
    exact ⟨a, vs, fps, e, h1, h2⟩
theorem RO.scrD {ds : List D} {fp : List Addr} (r : RO Γ H N (.scr ds) v fp) : ∃ a vs fps, v = .ref a ∧ SqL Γ.K H a vs ∧ ROs Γ H N ds vs fps ∧ (∀ p ∈ fps, p = []) := by
  obtain ⟨a, vs, fps, e, h1, h2, h3, _⟩ := r
  exact ⟨a, vs, fps, e, h1.sq, h2, h3⟩
theorem ROs.nil {vs : List V} {fps : List (List Addr)} (r : ROs Γ H N [] vs fps) : vs = [] := by
  cases vs with
  | nil => rfl
  | cons _ _ => cases fps <;> exact r.elim
theorem ROs.get : ∀ {ds : List D} {vs : List V} {fps : List (List Addr)} {i : Nat} {d : D}, ROs Γ H N ds vs fps → ds[i]? = some d → ∃ v fp, vs[i]? = some v ∧ fps[i]? = some fp ∧ RO Γ H N d v fp
  | [], [], [], i, d, _, h => by simp at h
  | d :: ds, v :: vs, fp :: fps, 0, x, ⟨h1, _⟩, h => by
    have h : d = x := by simpa using h
    subst h
    exact ⟨v, fp, rfl, rfl, h1⟩
  | d :: ds, v :: vs, fp :: fps, i + 1, x, ⟨_, h2⟩, h => by
    obtain ⟨v', fp', a, b, c⟩ := ROs.get (i := i) h2 (by simpa using h)
    exact ⟨v', fp', by simpa using a, by simpa using b, c⟩
  | [], [], _ :: _, _, _, z, _ => z.elim
  | [], _ :: _, _, _, _, z, _ => z.elim
  | _ :: _, [], _, _, _, z, _ => z.elim
  | _ :: _, _ :: _, [], _, _, z, _ => z.elim
theorem ROs.append : ∀ {ds : List D} {vs : List V} {fps : List (List Addr)} {ds' : List D} {vs' : List V} {fps' : List (List Addr)}, ROs Γ H N ds vs fps → ROs Γ H N ds' vs' fps' → ROs Γ H N (ds ++ ds') (vs ++ vs') (fps ++ fps')
  | [], [], [], _, _, _, _, h => h
  | d :: ds, v :: vs, fp :: fps, _, _, _, ⟨h1, h2⟩, h => ⟨h1, ROs.append h2 h⟩
  | [], [], _ :: _, _, _, _, z, _ => z.elim
  | [], _ :: _, _, _, _, _, z, _ => z.elim
  | _ :: _, [], _, _, _, _, z, _ => z.elim
  | _ :: _, _ :: _, [], _, _, _, z, _ => z.elim
theorem ROs.take : ∀ {ds : List D} {vs : List V} {fps : List (List Addr)} (n : Nat), ROs Γ H N ds vs fps → ROs Γ H N (ds.take n) (vs.take n) (fps.take n)
  | [], [], [], n, _ => by simp [ROs]
  | d :: ds, v :: vs, fp :: fps, 0, _ => True.intro
  | d :: ds, v :: vs, fp :: fps, n + 1, ⟨h1, h2⟩ => ⟨h1, ROs.take n h2⟩
  | [], [], _ :: _, _, z => z.elim
  | [], _ :: _, _, _, z => z.elim
  | _ :: _, [], _, _, z => z.elim
  | _ :: _, _ :: _, [], _, z => z.elim
theorem ROs.drop : ∀ {ds : List D} {vs : List V} {fps : List (List Addr)} (n : Nat), ROs Γ H N ds vs fps → ROs Γ H N (ds.drop n) (vs.drop n) (fps.drop n)
  | [], [], [], n, _ => by simp [ROs]
  | d :: ds, v :: vs, fp :: fps, 0, h => h
  | d :: ds, v :: vs, fp :: fps, n + 1, ⟨_, h2⟩ => ROs.drop n h2
  | [], [], _ :: _, _, z => z.elim
  | [], _ :: _, _, _, z => z.elim
  | _ :: _, [], _, _, z => z.elim
  | _ :: _, _ :: _, [], _, z => z.elim
theorem ROs.rev {ds : List D} {vs : List V} {fps : List (List Addr)} (r : ROs Γ H N ds vs fps) : ROs Γ H N ds.reverse vs.reverse fps.reverse := by
  induction ds generalizing vs fps with
  | nil =>
    cases vs with
    | nil => cases fps with
      | nil => exact True.intro
      | cons _ _ => exact r.elim
    | cons _ _ => cases fps <;> exact r.elim
  | cons d ds ih =>
    cases vs with
    | nil => exact r.elim
    | cons v vs => cases fps with
      | nil => exact r.elim
      | cons p ps =>
        obtain ⟨h1, h2⟩ := r
        rw [List.reverse_cons, List.reverse_cons, List.reverse_cons]
        exact (ih h2).append ⟨h1, True.intro⟩
theorem lstOk_any {ds : List D} (h : lstOk ds = true) : ds.any own = false := by
  unfold lstOk at h; simpa using h
mutual
def toP : D → PyData
  | .non => .none
  | .bl b => .bool b
  | .int i => .int i
  | .str x => .str ⟨x.toArray⟩
  | .tup ds => .tuple (toPs ds)
  | .lst _ ds => .list (toPs ds)
  | _ => .none
def toPs : List D → List PyData
  | [] => []
  | d :: ds => toP d :: toPs ds
end
mutual
theorem RO.dp : ∀ (k : Nat) (d : D) {v : V} {fp : List Addr}, RO Γ H N d v fp → plain k d = true → Dp Γ.K H v (toP d)
  | _, .non, _, _, h, _ => by obtain ⟨e, _⟩ := h; subst e; exact .non
  | _, .bl _, _, _, h, _ => by obtain ⟨e, _⟩ := h; subst e; exact .bl _
  | _, .int _, _, _, h, _ => by obtain ⟨e, _⟩ := h; subst e; exact .int _
  | _, .str _, _, _, h, _ => by obtain ⟨e, _⟩ := h; subst e; exact .str _
  | k + 1, .tup ds, _, _, h, hp => by
    obtain ⟨a, vs, fps, e, ht, hs, _⟩ := h.tupD
    subst e
    exact .tup ht (ROs.dp k ds hs (by simpa [plain] using hp))
  | k + 1, .lst o ds, _, _, h, hp => by
    obtain ⟨a, vs, fps, e, ht, hs⟩ := h.lstD
    subst e
    exact .lst (.inl (.inl ht)) (ROs.dp k ds hs (by simpa [plain] using hp))
  | 0, .tup _, _, _, _, hp => by simp [plain] at hp
  | 0, .lst _ _, _, _, _, hp => by simp [plain] at hp
  | _, .dct _ _ _, _, _, z, _ => z.elim
  | _, .st _ _, _, _, z, _ => z.elim
  | _, .ins _ _ _, _, _, z, _ => z.elim
  | _, .scr _, _, _, _, hp => by simp [plain] at hp
theorem ROs.dp : ∀ (k : Nat) (ds : List D) {vs : List V} {fps : List (List Addr)}, ROs Γ H N ds vs fps → plains k ds = true → DpAll Γ.K H vs (toPs ds)
  | _, [], vs, fps, h, _ => by rw [h.nil]; exact .nil
  | k, d :: ds, v :: vs, fp :: fps, ⟨h1, h2⟩, hp => by
    simp only [plains, Bool.and_eq_true] at hp
    exact .cons (RO.dp k d h1 hp.1) (ROs.dp k ds h2 hp.2)
  | _, _ :: _, [], _, z, _ => z.elim
  | _, _ :: _, _ :: _, [], z, _ => z.elim
end
mutual
theorem toP_plain : ∀ (k : Nat) (d : D), plain k d = true → (toP d).plain = true ∧ (toP d).depth ≤ k
  | k, .non, _ => ⟨rfl, Nat.zero_le _⟩
  | k, .bl _, _ => ⟨rfl, Nat.zero_le _⟩
  | k, .int _, _ => ⟨rfl, Nat.zero_le _⟩
  | k, .str _, _ => ⟨rfl, Nat.zero_le _⟩
  | k + 1, .tup ds, h => by
    obtain ⟨a, b⟩ := toPs_plain k ds (by simpa [plain] using h)
    exact ⟨by simpa [toP, PyData.plain] using a, by simp only [toP, PyData.depth]; omega⟩
  | k + 1, .lst o ds, h => by
    obtain ⟨a, b⟩ := toPs_plain k ds (by simpa [plain] using h)
    exact ⟨by simpa [toP, PyData.plain] using a, by simp only [toP, PyData.depth]; omega⟩
  | 0, .tup _, h => by simp [plain] at h
  | 0, .lst _ _, h => by simp [plain] at h
  | _, .dct _ _ _, h => by simp [plain] at h
  | _, .st _ _, h => by simp [plain] at h
  | _, .ins _ _ _, h => by simp [plain] at h
  | _, .scr _, h => by simp [plain] at h
theorem toPs_plain : ∀ (k : Nat) (ds : List D), plains k ds = true → PyData.plainAll (toPs ds) = true ∧ PyData.depthAll (toPs ds) ≤ k
  | _, [], _ => ⟨rfl, Nat.zero_le _⟩
  | k, d :: ds, h => by
    simp only [plains, Bool.and_eq_true] at h
    obtain ⟨a, b⟩ := toP_plain k d h.1
    obtain ⟨c, e⟩ := toPs_plain k ds h.2
    exact ⟨by simp only [toPs, PyData.plainAll, a, c, Bool.and_self], by simp only [toPs, PyData.depthAll]; omega⟩
end
theorem str_beq (x y : List Nat) : ((⟨x.toArray⟩ : Str) == ⟨y.toArray⟩) = (x == y) := by
  by_cases h : x = y
  · subst h; simp
  · have : ¬ ((⟨x.toArray⟩ : Str) = ⟨y.toArray⟩) := fun e => h (by
      have := congrArg (fun z : Str => z.cps.toList) e
      simpa using this)
    rw [beq_eq_false_iff_ne.mpr h, beq_eq_false_iff_ne.mpr this]
mutual
theorem eqv_deq : ∀ (k : Nat) (d e : D), plain k d = true → PyData.eqv (toP d) (toP e) = deq d e ∨ plain k e = false
  | k, .non, e, _ => by cases e <;> first | exact .inl rfl | (right; cases k <;> rfl)
  | k, .bl b, e, _ => by cases e <;> first | exact .inl rfl | (right; cases k <;> rfl)
  | k, .int i, e, _ => by cases e <;> first | exact .inl rfl | (right; cases k <;> rfl)
  | k, .str x, e, _ => by
    cases e <;> first | exact .inl rfl | (right; cases k <;> rfl) | exact .inl (str_beq _ _)
  | k + 1, .tup ds, e, h => by
    cases e <;> first | exact .inl rfl | (right; rfl) | skip
    rename_i es
    exact eqvs_deqs k ds es (by simpa [plain] using h)
  | k + 1, .lst o ds, e, h => by
    cases e <;> first | exact .inl rfl | (right; rfl) | skip
    rename_i es
    exact eqvs_deqs k ds es (by simpa [plain] using h)
  | 0, .tup _, _, h => by simp [plain] at h
  | 0, .lst _ _, _, h => by simp [plain] at h
  | _, .dct _ _ _, _, h => by simp [plain] at h
  | _, .st _ _, _, h => by simp [plain] at h
  | _, .ins _ _ _, _, h => by simp [plain] at h
  | _, .scr _, _, h => by simp [plain] at h
theorem eqvs_deqs : ∀ (k : Nat) (ds es : List D), plains k ds = true → PyData.eqvAll (toPs ds) (toPs es) = deqs ds es ∨ plains k es = false
  | _, [], [], _ => .inl rfl
  | _, [], _ :: _, _ => .inl rfl
  | _, _ :: _, [], _ => .inl rfl
  | k, d :: ds, e :: es, h => by
    simp only [plains, Bool.and_eq_true] at h
    rcases eqv_deq k d e h.1 with a | a
    · rcases eqvs_deqs k ds es h.2 with b | b
      · left
        show (PyData.eqv (toP d) (toP e) && PyData.eqvAll (toPs ds) (toPs es)) = _
        rw [a, b]; rfl
      · right; simp [plains, b]
    · right; simp [plains, a]
end
theorem eqv_of {d e : D} (hd : plain MAXD d = true) (he : plain MAXD e = true) : PyData.eqv (toP d) (toP e) = deq d e := by
  rcases eqv_deq MAXD d e hd with h | h
  · exact h
  · rw [he] at h; cases h
end
end Q
end
section
set_option Elab.async false
set_option linter.all false
set_option autoImplicit false
set_option maxRecDepth 100000
namespace Q
open PySem PySem.Spec PyProof.Rows L2
def pyBin : Bin → Operator
  | .add => .Add | .sub => .Sub | .mul => .Mult | .fdiv => .FloorDiv | .mod => .Mod | .pow => .Pow | .shl => .LShift | .band => .BitAnd | .bor => .BitOr
section
variable {X : Cx}
def rNever : R2 := fun _ _ _ _ => False
theorem op_never {f : Value → Value → Sem Value} : OpR X f rNever := fun _ _ _ _ _ _ _ _ _ _ _ _ h => h.elim
def rStrAdd : R2 := fun x y H Q => ∃ i j, x = .str i ∧ y = .str j ∧ i.length + j.length ≤ sizeLine ∧ Q (.str (i ++ j)) H
def rStrMul : R2 := fun x y H Q => ∃ z k, x = .str z ∧ y = .int k ∧ MulOk z k ∧ Q (.str (Txt.mul z k)) H
theorem op_strMul : OpR X (binaryOp .Mult) rStrMul := by
  intro pins s σ H x y v u Q I rx ry h
  obtain ⟨z, k, rfl, rfl, hk, q⟩ := h
  obtain ⟨t, rfl⟩ := rx
  obtain ⟨t', rfl⟩ := ry
  exact SB.mul hk fun t' k' => ⟨.str _, H, I.tok _, ⟨_, rfl⟩, q⟩
def rBn (K : PySem.W.Frag) : Bin → R2
  | .add => fun x y H Q => (rI0 fun i j => .int (i + j)) x y H Q ∨ rStrAdd x y H Q ∨ rCatA K x y H Q ∨ rCat x y H Q
  | .sub => rI0 fun i j => .int (i - j)
  | .mul => fun x y H Q => (rI CMul fun i j => .int (i * j)) x y H Q ∨ rStrMul x y H Q ∨ rRep x y H Q ∨ rRepT K x y H Q
  | .fdiv => rI CDiv fun i j => .int (i / j)
  | .mod => rI (fun _ j => 0 < j) fun i j => .int (i % j)
  | .pow => rI CPow fun i j => .int (i ^ j.toNat)
  | .shl => rI CPow fun i j => .int (i * 2 ^ j.toNat)
  | .band => rNever
  | .bor => rNever
theorem op_bn (o : Bin) : OpR X (binaryOp (pyBin o)) (rBn X.K o) := by
  cases o with
  | add => exact op_add.or (op_add_str.or (op_catA.or op_cat))
  | sub => exact op_sub
  | mul => exact op_mul.or (op_strMul.or (op_rep.or op_repT))
  | fdiv => exact op_fdiv
  | mod => exact op_mod
  | pow => exact op_pow
  | shl => exact op_shl
  | band => exact op_never
  | bor => exact op_never
end
section
variable {Γ : Ga} {H H' : Hp} {N : Addr → Prop} {Q : VK} {d x y : D} {v vx vy : V} {fx fy fp : List Addr}
theorem RO.intD {i : Int} (r : RO Γ H N (.int i) v fp) : v = .int i := r.1
theorem RO.strD {z : List Nat} (r : RO Γ H N (.str z) v fp) : v = .str ⟨z.toArray⟩ ∧ z.length ≤ sizeLine := ⟨r.1, r.2.1⟩
theorem str_len (x : List Nat) : (⟨x.toArray⟩ : Str).length = x.length := by simp [Str.length]
theorem str_app (x y : List Nat) : ((⟨x.toArray⟩ : Str) ++ ⟨y.toArray⟩).cps.toList = x ++ y := by
  show ((⟨x.toArray ++ y.toArray⟩ : Str)).cps.toList = _
  simp
theorem smallI_of {i : Int} (h : smallI i = true) : -(2 ^ 64) < i ∧ i < 2 ^ 64 := by
  unfold smallI BIG at h
  simp only [Bool.and_eq_true, decide_eq_true_eq] at h
  omega
theorem rep_flat {α : Type} (n : Nat) (xs : List α) : rep n xs = (List.replicate n xs).flatten := by
  induction n with
  | zero => rfl
  | succ n ih => rw [List.replicate_succ, List.flatten_cons, ← ih]; rfl
theorem rep_len {α : Type} (n : Nat) (xs : List α) : (rep n xs).length = n * xs.length := by
  induction n with
  | zero => simp [rep]
  | succ n ih =>
    show (xs ++ rep n xs).length = _
    rw [List.length_append, ih, Nat.succ_mul, Nat.add_comm]
theorem fold_arr (x : List Nat) : ∀ (n : Nat) (acc : Array Nat), ((List.replicate n x.toArray).foldl (· ++ ·) acc).toList = acc.toList ++ rep n x
  | 0, acc => by simp [rep]
  | n + 1, acc => by
    rw [List.replicate_succ, List.foldl_cons, fold_arr x n]
    show _ = acc.toList ++ (x ++ rep n x)
    simp
theorem mul_txt {x : List Nat} {j : Int} : (Txt.mul ⟨x.toArray⟩ j).cps.toList = rep j.toNat x := by
  unfold Txt.mul
  by_cases h : j < 1
  · rw [if_pos h, show j.toNat = 0 by omega]; rfl
  · rw [if_neg h]
    split
    · rename_i h2
      rw [Bool.or_eq_true] at h2
      rcases h2 with h2 | h2
      · have e : j = 1 := by simpa using h2
        subst e
        show x = x ++ []
        simp
      · have e : x = [] := by
          have : x.length = 0 := by
            have := h2
            rw [str_len] at this
            simpa using this
          exact List.eq_nil_of_length_eq_zero this
        subst e
        have : ∀ n, rep n ([] : List Nat) = [] := fun n => by induction n with
          | zero => rfl
          | succ n ih => show [] ++ rep n [] = []; rw [ih]; rfl
        rw [this]
    · show ((List.replicate j.toNat x.toArray).foldl (· ++ ·) #[]).toList = _
      rw [fold_arr]; simp
theorem ROs.rep {ds : List D} {vs : List V} {fps : List (List Addr)} (r : ROs Γ H N ds vs fps) : ∀ n, ROs Γ H N (rep n ds) (List.replicate n vs).flatten (List.replicate n fps).flatten
  | 0 => True.intro
  | n + 1 => by
    rw [List.replicate_succ, List.flatten_cons, List.replicate_succ, List.flatten_cons]
    exact r.append (ROs.rep r n)
theorem rep_nils {fps : List (List Addr)} (h : ∀ p ∈ fps, p = []) (n : Nat) : ∀ p ∈ (List.replicate n fps).flatten, p = [] := fun p hp => by
  obtain ⟨l, hl, hp⟩ := List.mem_flatten.mp hp
  rw [(List.mem_replicate.mp hl).2] at hp
  exact h p hp
theorem app_nils {fps gps : List (List Addr)} (h : ∀ p ∈ fps, p = []) (h' : ∀ p ∈ gps, p = []) : ∀ p ∈ fps ++ gps, p = [] := fun p hp => by
  rcases List.mem_append.mp hp with hp | hp
  · exact h p hp
  · exact h' p hp
theorem mulOk_of {x : List Nat} {j : Int} (c0 : -(LIM : Int) < j) (c1 : j < (LIM : Int)) (c2 : x.length * j.toNat ≤ LIM) : MulOk ⟨x.toArray⟩ j := by
  have L2 : (LIM : Int) < 2 ^ 62 := by decide
  have L := LIM_line
  refine ⟨?_, fun h1 h2 => ?_, fun h1 h2 => ?_⟩
  · rw [Bool.or_eq_false_iff, decide_eq_false_iff_not, decide_eq_false_iff_not]; omega
  · rw [str_len]
    have hj : 1 ≤ j := by omega
    have h3 : (x.length : Int) * j ≤ LIM := by
      have : ((x.length * j.toNat : Nat) : Int) ≤ (LIM : Nat) := by exact_mod_cast c2
      rw [Int.natCast_mul, Int.toNat_of_nonneg (by omega)] at this
      exact this
    have h4 : (x.length : Int) ≤ (2 ^ 63 - 1) / j := (Int.le_ediv_iff_mul_le (by omega)).mpr (by omega)
    omega
  · rw [str_len]
    have : x.length * j.toNat ≤ sizeLine := by omega
    exact decide_eq_false (Nat.not_lt.mpr this)
theorem ROs.dnil {ds : List D} {vs : List V} {fps : List (List Addr)} (r : ROs Γ H N ds vs fps) (e : vs = []) : ds = [] := by
  have := r.length.1
  rw [e] at this
  exact List.eq_nil_of_length_eq_zero this.symm
theorem bn_ok {o : Bin} (h : binop o x y = some d) (rx : RO Γ H N x vx fx) (ry : RO Γ H N y vy fy) (m : Made Γ H N d Q) : rBn Γ.K o vx vy H Q := by
  have L := LIM_line
  unfold binop at h
  split at h
  · cases h; exact .inl ⟨_, _, rx.intD, ry.intD, m.int⟩
  · cases h; exact ⟨_, _, rx.intD, ry.intD, m.int⟩
  · split at h
    · rename_i c
      cases h
      refine .inl ⟨_, _, rx.intD, ry.intD, ?_, m.int⟩
      rw [Bool.or_eq_true] at c
      rcases c with c | c
      · exact .inl (smallI_of c)
      · exact .inr (smallI_of c)
    · cases h
  · split at h
    · rename_i c
      simp only [Bool.and_eq_true, decide_eq_true_eq] at c
      cases h
      exact ⟨_, _, rx.intD, ry.intD, c, m.int⟩
    · cases h
  · split at h
    · rename_i c
      cases h
      exact ⟨_, _, rx.intD, ry.intD, c, m.int⟩
    · cases h
  · split at h
    · rename_i c
      simp only [Bool.and_eq_true, decide_eq_true_eq] at c
      cases h
      refine ⟨_, _, rx.intD, ry.intD, ⟨c.1.1, by omega, ?_⟩, m.int⟩
      have := smallI_of c.2
      omega
    · cases h
  · split at h
    · rename_i c
      simp only [Bool.and_eq_true, decide_eq_true_eq] at c
      cases h
      refine ⟨_, _, rx.intD, ry.intD, ⟨c.1.1, by omega, ?_⟩, m.int⟩
      have := smallI_of c.2
      omega
    · cases h
  · split at h
    · rename_i c
      cases h
      refine .inr (.inl ⟨_, _, rx.strD.1, ry.strD.1, ?_, m.strE (str_app _ _) ?_⟩)
      · rw [str_len, str_len]; omega
      · rw [List.length_append]; omega
    · cases h
  · split at h
    · rename_i c
      cases h
      obtain ⟨a, vs, fps, rfl, h1, h2, h3⟩ := rx.tupD
      obtain ⟨b, ws, gps, rfl, g1, g2, g3⟩ := ry.tupD
      refine .inr (.inr (.inl ⟨a, b, vs, ws, rfl, rfl, h1, g1, ?_, fun e => ?_, fun e e2 => ?_, fun e e2 p hp => ?_⟩))
      · rw [h2.length.1, g2.length.1]; omega
      · rw [h2.dnil e] at m
        exact m.same ⟨b, ws, gps, rfl, g1, g2, g3, rfl⟩
      · rw [g2.dnil e2, List.append_nil] at m
        exact m.same ⟨a, vs, fps, rfl, h1, h2, h3, rfl⟩
      · exact m.tup (h2.append g2) (app_nils h3 g3) hp
    · cases h
  · split at h
    · rename_i c
      simp only [Bool.and_eq_true, decide_eq_true_eq] at c
      cases h
      obtain ⟨a, vs, fps, rfl, h1, h2⟩ := rx.lstD
      obtain ⟨b, ws, gps, rfl, g1, g2⟩ := ry.lstD
      refine .inr (.inr (.inr ⟨a, b, vs, ws, rfl, rfl, h1, g1, ?_, fun p hp => ?_⟩))
      · rw [h2.length.1, g2.length.1]; omega
      · exact m.lst (h2.append g2) (app_nils (h2.noOwn (lstOk_any c.1.2)) (g2.noOwn (lstOk_any c.2))) hp
    · cases h
  · split at h
    · rename_i c
      simp only [Bool.and_eq_true, decide_eq_true_eq] at c
      cases h
      obtain ⟨⟨c0, c1⟩, c2⟩ := c
      have L2 : (LIM : Int) < 2 ^ 62 := by decide
      refine .inr (.inl ⟨_, _, rx.strD.1, ry.intD, mulOk_of c0 c1 c2, m.strE mul_txt ?_⟩)
      rw [rep_len, Nat.mul_comm]; omega
    · cases h
  · split at h
    · rename_i c
      simp only [Bool.and_eq_true, decide_eq_true_eq, Bool.not_eq_true'] at c
      cases h
      obtain ⟨a, vs, fps, rfl, h1, h2, h3⟩ := rx.tupD
      refine .inr (.inr (.inr ⟨a, _, vs, rfl, ry.intD, h1, fun e => ?_, c.1.1.1, c.1.1.2, ?_, fun p hp => ?_⟩))
      · rw [h2.dnil e] at c
        simp at c
      · rw [h2.length.1]; exact c.2
      · exact m.tup (h2.rep _) (rep_nils h3 _) hp
    · cases h
  · split at h
    · rename_i c
      simp only [Bool.and_eq_true, decide_eq_true_eq] at c
      cases h
      obtain ⟨⟨⟨c0, c1⟩, c2⟩, c3⟩ := c
      obtain ⟨a, vs, fps, rfl, h1, h2⟩ := rx.lstD
      have L2 : (LIM : Int) < 2 ^ 62 := by decide
      refine .inr (.inr (.inl ⟨a, _, vs, rfl, ry.intD, h1, by omega, by omega, ?_, fun p hp => ?_⟩))
      · rw [h2.length.1]; omega
      · exact m.lst (h2.rep _) (rep_nils (h2.noOwn (lstOk_any c3)) _) hp
    · cases h
  · cases h
end
end Q
end
section
set_option Elab.async false
set_option linter.all false
set_option autoImplicit false
set_option maxRecDepth 100000
namespace Q
open PySem PySem.Spec PyProof.Rows L2
theorem ncmp_lt : ∀ x y : List Nat, decide (x < y) = (ncmp x y == .lt)
  | [], [] => by decide
  | [], _ :: _ => by simp [ncmp]
  | _ :: _, [] => by simp [ncmp]
  | a :: x, b :: y => by
    unfold ncmp
    by_cases h : a = b
    · subst h
      rw [if_pos rfl, ← ncmp_lt x y]
      simp [List.cons_lt_cons_iff]
    · rw [if_neg h]
      by_cases h2 : a < b
      · rw [if_pos h2]
        have : a :: x < b :: y := List.cons_lt_cons_iff.mpr (.inl h2)
        rw [decide_eq_true this]; rfl
      · rw [if_neg h2]
        have : ¬ a :: x < b :: y := fun q => by
          rcases List.cons_lt_cons_iff.mp q with q | q
          · exact h2 q
          · exact h q.1
        rw [decide_eq_false this]; rfl
theorem ncmp_eq : ∀ x y : List Nat, (x == y) = (ncmp x y == .eq)
  | [], [] => rfl
  | [], _ :: _ => rfl
  | _ :: _, [] => rfl
  | a :: x, b :: y => by
    unfold ncmp
    by_cases h : a = b
    · subst h
      rw [if_pos rfl, ← ncmp_eq x y]
      simp
    · rw [if_neg h]
      have : ((a :: x) == (b :: y)) = false := beq_eq_false_iff_ne.mpr fun q => h (List.cons.inj q).1
      rw [this]
      by_cases h2 : a < b
      · rw [if_pos h2]; rfl
      · rw [if_neg h2]; rfl
theorem icmp_lt (a b : Int) : decide (a < b) = (compare a b == .lt) := by
  by_cases h : a < b
  · rw [decide_eq_true h, Int.compare_eq_lt.mpr h]; rfl
  · rw [decide_eq_false h]
    cases e : compare a b with
    | lt => exact absurd (Int.compare_eq_lt.mp e) h
    | eq => rfl
    | gt => rfl
theorem icmp_eq (a b : Int) : (a == b) = (compare a b == .eq) := by
  by_cases h : a = b
  · subst h
    rw [Int.compare_eq_eq.mpr rfl]; simp
  · rw [beq_eq_false_iff_ne.mpr h]
    cases e : compare a b with
    | lt => rfl
    | eq => exact absurd (Int.compare_eq_eq.mp e) h
    | gt => rfl
mutual
theorem alike_P : ∀ a b : D, alike a b = true → PySem.W.alike (toP a) (toP b) = true
  | .int _, .int _, _ => by simp [toP, PySem.W.alike]
  | .str _, .str _, _ => by simp [toP, PySem.W.alike]
  | .bl _, .bl _, _ => by simp [toP, PySem.W.alike]
  | .tup xs, .tup ys, h => by
    simp only [toP, PySem.W.alike]
    exact alikes_P xs ys (by simpa [alike] using h)
  | .non, _, h => by simp [alike] at h
  | .int _, .non, h | .int _, .bl _, h | .int _, .str _, h | .int _, .tup _, h | .int _, .lst _ _, h | .int _, .dct _ _ _, h | .int _, .st _ _, h | .int _, .ins _ _ _, h | .int _, .scr _, h => by simp [alike] at h
  | .str _, .non, h | .str _, .bl _, h | .str _, .int _, h | .str _, .tup _, h | .str _, .lst _ _, h | .str _, .dct _ _ _, h | .str _, .st _ _, h | .str _, .ins _ _ _, h | .str _, .scr _, h => by simp [alike] at h
  | .bl _, .non, h | .bl _, .str _, h | .bl _, .int _, h | .bl _, .tup _, h | .bl _, .lst _ _, h | .bl _, .dct _ _ _, h | .bl _, .st _ _, h | .bl _, .ins _ _ _, h | .bl _, .scr _, h => by simp [alike] at h
  | .tup _, .non, h | .tup _, .bl _, h | .tup _, .str _, h | .tup _, .int _, h | .tup _, .lst _ _, h | .tup _, .dct _ _ _, h | .tup _, .st _ _, h | .tup _, .ins _ _ _, h | .tup _, .scr _, h => by simp [alike] at h
  | .lst _ _, _, h => by simp [alike] at h
  | .dct _ _ _, _, h => by simp [alike] at h
  | .st _ _, _, h => by simp [alike] at h
  | .ins _ _ _, _, h => by simp [alike] at h
  | .scr _, _, h => by simp [alike] at h
theorem alikes_P : ∀ xs ys : List D, alikes xs ys = true → PySem.W.alikeAll (toPs xs) (toPs ys) = true
  | [], _, _ => by simp [toPs, PySem.W.alikeAll]
  | _ :: _, [], _ => by simp [toPs, PySem.W.alikeAll]
  | x :: xs, y :: ys, h => by
    simp only [alikes, Bool.and_eq_true] at h
    simp only [toPs, PySem.W.alikeAll, alike_P x y h.1, alikes_P xs ys h.2, Bool.and_self]
end
theorem ord_some {o : Ordering} (k : Ordering) : (some o == some k) = (o == k) := rfl
mutual
theorem cmp_P : ∀ a b : D, alike a b = true → ∃ o, dcmp a b = some o ∧ PySem.W.dataLt (toP a) (toP b) = (o == .lt) ∧ PyData.eqv (toP a) (toP b) = (o == .eq)
  | .int x, .int y, _ => ⟨_, rfl, by show PySem.W.dataLt (.int x) (.int y) = _; rw [PySem.W.dataLt_int, icmp_lt], icmp_eq x y⟩
  | .str x, .str y, _ => ⟨_, rfl, by show PySem.W.dataLt (.str _) (.str _) = _; rw [PySem.W.dataLt_str]; exact ncmp_lt x y, (str_beq x y).trans (ncmp_eq x y)⟩
  | .bl x, .bl y, _ => ⟨_, rfl, by cases x <;> cases y <;> decide +kernel, by cases x <;> cases y <;> rfl⟩
  | .tup xs, .tup ys, h => by
    obtain ⟨o, e, h1, h2⟩ := cmps_P xs ys (by simpa [alike] using h)
    exact ⟨o, e, by show PySem.W.dataLt (.tuple _) (.tuple _) = _; rw [PySem.W.dataLt_tuple]; exact h1, h2⟩
  | .non, _, h => by simp [alike] at h
  | .int _, .non, h | .int _, .bl _, h | .int _, .str _, h | .int _, .tup _, h | .int _, .lst _ _, h | .int _, .dct _ _ _, h | .int _, .st _ _, h | .int _, .ins _ _ _, h | .int _, .scr _, h => by simp [alike] at h
  | .str _, .non, h | .str _, .bl _, h | .str _, .int _, h | .str _, .tup _, h | .str _, .lst _ _, h | .str _, .dct _ _ _, h | .str _, .st _ _, h | .str _, .ins _ _ _, h | .str _, .scr _, h => by simp [alike] at h
  | .bl _, .non, h | .bl _, .str _, h | .bl _, .int _, h | .bl _, .tup _, h | .bl _, .lst _ _, h | .bl _, .dct _ _ _, h | .bl _, .st _ _, h | .bl _, .ins _ _ _, h | .bl _, .scr _, h => by simp [alike] at h
  | .tup _, .non, h | .tup _, .bl _, h | .tup _, .str _, h | .tup _, .int _, h | .tup _, .lst _ _, h | .tup _, .dct _ _ _, h | .tup _, .st _ _, h | .tup _, .ins _ _ _, h | .tup _, .scr _, h => by simp [alike] at h
  | .lst _ _, _, h => by simp [alike] at h
  | .dct _ _ _, _, h => by simp [alike] at h
  | .st _ _, _, h => by simp [alike] at h
  | .ins _ _ _, _, h => by simp [alike] at h
  | .scr _, _, h => by simp [alike] at h
theorem cmps_P : ∀ xs ys : List D, alikes xs ys = true → ∃ o, dcmps xs ys = some o ∧ PyProof.Rows.lexLt itemOrd (PySem.W.keyToksAll (toPs xs)) (PySem.W.keyToksAll (toPs ys)) = (o == .lt) ∧ PyData.eqvAll (toPs xs) (toPs ys) = (o == .eq)
  | [], [], _ => ⟨.eq, rfl, by decide +kernel, rfl⟩
  | [], y :: ys, _ => ⟨.lt, rfl, by
      show PyProof.Rows.lexLt itemOrd (PySem.W.keyToksAll []) (PySem.W.keyToksAll (toP y :: toPs ys)) = true
      rw [PySem.W.toks_all_cons]
      rfl, rfl⟩
  | x :: xs, [], _ => ⟨.gt, rfl, by
      show PyProof.Rows.lexLt itemOrd (PySem.W.keyToksAll (toP x :: toPs xs)) (PySem.W.keyToksAll []) = false
      rw [PySem.W.toks_all_cons]
      rfl, rfl⟩
  | x :: xs, y :: ys, h => by
    simp only [alikes, Bool.and_eq_true] at h
    obtain ⟨o, e, h1, h2⟩ := cmp_P x y h.1
    obtain ⟨o', e', h1', h2'⟩ := cmps_P xs ys h.2
    have d := PySem.W.dataLt_cons (alike_P x y h.1) (toPs xs) (toPs ys)
    have v := PySem.W.eqv_all_cons (toP x) (toP y) (toPs xs) (toPs ys)
    show ∃ o, (match dcmp x y with
      | some .eq => dcmps xs ys
      | o => o) = some o ∧ PyProof.Rows.lexLt itemOrd (PySem.W.keyToksAll (toP x :: toPs xs)) (PySem.W.keyToksAll (toP y :: toPs ys)) = _ ∧ PyData.eqvAll (toP x :: toPs xs) (toP y :: toPs ys) = _
    rw [d, v, e, h2, h1, h2', h1']
    cases o with
    | lt => exact ⟨.lt, rfl, rfl, rfl⟩
    | gt => exact ⟨.gt, rfl, rfl, rfl⟩
    | eq => exact ⟨o', e', rfl, by rw [show (Ordering.eq == Ordering.eq) = true from rfl, Bool.true_and]⟩
end
mutual
theorem cmp_swap : ∀ a b : D, alike a b = true → (dcmp b a) = (dcmp a b).map Ordering.swap
  | .int x, .int y, _ => by
    show some (compare y x) = some ((compare x y).swap)
    rw [← Std.OrientedCmp.eq_swap (cmp := (compare : Int → Int → Ordering))]
  | .str x, .str y, _ => by
    show some (ncmp y x) = some ((ncmp x y).swap)
    rw [ncmp_swap]
  | .bl x, .bl y, _ => by cases x <;> cases y <;> decide +kernel
  | .tup xs, .tup ys, h => cmps_swap xs ys (by simpa [alike] using h)
  | .non, _, h => by simp [alike] at h
  | .int _, .non, h | .int _, .bl _, h | .int _, .str _, h | .int _, .tup _, h | .int _, .lst _ _, h | .int _, .dct _ _ _, h | .int _, .st _ _, h | .int _, .ins _ _ _, h | .int _, .scr _, h => by simp [alike] at h
  | .str _, .non, h | .str _, .bl _, h | .str _, .int _, h | .str _, .tup _, h | .str _, .lst _ _, h | .str _, .dct _ _ _, h | .str _, .st _ _, h | .str _, .ins _ _ _, h | .str _, .scr _, h => by simp [alike] at h
  | .bl _, .non, h | .bl _, .str _, h | .bl _, .int _, h | .bl _, .tup _, h | .bl _, .lst _ _, h | .bl _, .dct _ _ _, h | .bl _, .st _ _, h | .bl _, .ins _ _ _, h | .bl _, .scr _, h => by simp [alike] at h
  | .tup _, .non, h | .tup _, .bl _, h | .tup _, .str _, h | .tup _, .int _, h | .tup _, .lst _ _, h | .tup _, .dct _ _ _, h | .tup _, .st _ _, h | .tup _, .ins _ _ _, h | .tup _, .scr _, h => by simp [alike] at h
  | .lst _ _, _, h => by simp [alike] at h
  | .dct _ _ _, _, h => by simp [alike] at h
  | .st _ _, _, h => by simp [alike] at h
  | .ins _ _ _, _, h => by simp [alike] at h
  | .scr _, _, h => by simp [alike] at h
theorem cmps_swap : ∀ xs ys : List D, alikes xs ys = true → (dcmps ys xs) = (dcmps xs ys).map Ordering.swap
  | [], [], _ => rfl
  | [], _ :: _, _ => rfl
  | _ :: _, [], _ => rfl
  | x :: xs, y :: ys, h => by
    simp only [alikes, Bool.and_eq_true] at h
    have a := cmp_swap x y h.1
    have b := cmps_swap xs ys h.2
    obtain ⟨o, e, _⟩ := cmp_P x y h.1
    show (match dcmp y x with
      | some .eq => dcmps ys xs
      | o => o) = (match dcmp x y with
      | some .eq => dcmps xs ys
      | o => o).map Ordering.swap
    rw [a, e]
    cases o with
    | lt => rfl
    | gt => rfl
    | eq => exact b
theorem ncmp_swap : ∀ x y : List Nat, ncmp y x = (ncmp x y).swap
  | [], [] => rfl
  | [], _ :: _ => rfl
  | _ :: _, [] => rfl
  | a :: x, b :: y => by
    unfold ncmp
    by_cases h : a = b
    · subst h
      rw [if_pos rfl, if_pos rfl, ncmp_swap x y]
    · rw [if_neg h, if_neg (Ne.symm h)]
      by_cases h2 : a < b
      · rw [if_pos h2, if_neg (by omega)]; rfl
      · rw [if_neg h2, if_pos (by omega)]; rfl
end
end Q
end
section
set_option Elab.async false
set_option linter.all false
set_option autoImplicit false
set_option maxRecDepth 100000
namespace Q
open PySem PySem.Spec PyProof.Rows L2
def pyCmp : Cmp → CmpOp
  | .eq => .Eq | .ne => .NotEq | .lt => .Lt | .le => .LtE | .gt => .Gt | .ge => .GtE | .isin => .In | .notin => .NotIn | .is => .Is | .isnot => .IsNot
section
variable {X : Cx}
def rEqP (K : PySem.W.Frag) (n : Bool) : R2 := fun x y H Q => ∃ d e, Dp K H x d ∧ Dp K H y e ∧ d.plain = true ∧ e.plain = true ∧ d.depth ≤ MAXD ∧ Q (.bl (n ^^ PyData.eqv d e)) H
theorem op_eqP (hu : X.A.units + 64 < cLine) : OpR X (compareOp .Eq) (rEqP X.K false) := by
  intro pins s σ H x y v u Q I rx ry h
  obtain ⟨d, e, hd, he, sd, se, hk, q⟩ := h
  obtain ⟨as, r1⟩ := Dp.reads I d x v hd rx
  obtain ⟨bs, r2⟩ := Dp.reads I e y u he ry
  exact SeqAt.eq_plain r1 r2 sd se (by have : min d.depth e.depth ≤ d.depth := Nat.min_le_left _ _; unfold MAXD at hk; omega) ⟨.bl _, H, I, rfl, by simpa using q⟩
theorem op_neP (hu : X.A.units + 64 < cLine) : OpR X (compareOp .NotEq) (rEqP X.K true) := by
  intro pins s σ H x y v u Q I rx ry h
  obtain ⟨d, e, hd, he, sd, se, hk, q⟩ := h
  obtain ⟨as, r1⟩ := Dp.reads I d x v hd rx
  obtain ⟨bs, r2⟩ := Dp.reads I e y u he ry
  exact SeqAt.ne_plain r1 r2 sd se (by have : min d.depth e.depth ≤ d.depth := Nat.min_le_left _ _; unfold MAXD at hk; omega) ⟨.bl _, H, I, rfl, by simpa using q⟩
def ltF (k : Nat) (d e : PyData) : Bool := match k with
  | 0 => PySem.W.dataLt d e
  | 1 => !PySem.W.dataLt e d
  | 2 => PySem.W.dataLt e d
  | _ => !PySem.W.dataLt d e
def rLtP (K : PySem.W.Frag) (k : Nat) : R2 := fun x y H Q => ∃ d e, Dp K H x d ∧ Dp K H y e ∧ PySem.W.alike d e = true ∧ d ≠ .none ∧ d.depth ≤ MAXD ∧ Q (.bl (ltF k d e)) H
theorem op_ltP (hu : X.A.units + 64 < cLine) : OpR X (compareOp .Lt) (rLtP X.K 0) := by
  intro pins s σ H x y v u Q I rx ry h
  obtain ⟨d, e, hd, he, sd, se, hk, q⟩ := h
  obtain ⟨as, r1⟩ := Dp.reads I d x v hd rx
  obtain ⟨bs, r2⟩ := Dp.reads I e y u he ry
  exact PySem.W.lt_data r1 r2 sd se (by have : min d.depth e.depth ≤ d.depth := Nat.min_le_left _ _; unfold MAXD at hk; omega) ⟨.bl _, H, I, rfl, q⟩
theorem op_leP (hu : X.A.units + 64 < cLine) : OpR X (compareOp .LtE) (rLtP X.K 1) := by
  intro pins s σ H x y v u Q I rx ry h
  obtain ⟨d, e, hd, he, sd, se, hk, q⟩ := h
  obtain ⟨as, r1⟩ := Dp.reads I d x v hd rx
  obtain ⟨bs, r2⟩ := Dp.reads I e y u he ry
  exact PySem.W.le_data r1 r2 sd se (by have : min d.depth e.depth ≤ d.depth := Nat.min_le_left _ _; unfold MAXD at hk; omega) ⟨.bl _, H, I, rfl, q⟩
theorem op_gtP (hu : X.A.units + 64 < cLine) : OpR X (compareOp .Gt) (rLtP X.K 2) := by
  intro pins s σ H x y v u Q I rx ry h
  obtain ⟨d, e, hd, he, sd, se, hk, q⟩ := h
  obtain ⟨as, r1⟩ := Dp.reads I d x v hd rx
  obtain ⟨bs, r2⟩ := Dp.reads I e y u he ry
  exact PySem.W.gt_data r1 r2 sd se (by have : min d.depth e.depth ≤ d.depth := Nat.min_le_left _ _; unfold MAXD at hk; omega) ⟨.bl _, H, I, rfl, q⟩
theorem op_geP (hu : X.A.units + 64 < cLine) : OpR X (compareOp .GtE) (rLtP X.K 3) := by
  intro pins s σ H x y v u Q I rx ry h
  obtain ⟨d, e, hd, he, sd, se, hk, q⟩ := h
  obtain ⟨as, r1⟩ := Dp.reads I d x v hd rx
  obtain ⟨bs, r2⟩ := Dp.reads I e y u he ry
  exact PySem.W.ge_data r1 r2 sd se (by have : min d.depth e.depth ≤ d.depth := Nat.min_le_left _ _; unfold MAXD at hk; omega) ⟨.bl _, H, I, rfl, q⟩
def rInP (K : PySem.W.Frag) (n : Bool) : R2 := fun x y H Q => ∃ d ds, Dp K H x d ∧ (Dp K H y (.list ds) ∨ Dp K H y (.tuple ds)) ∧ d.plain = true ∧ PyData.plainAll ds = true ∧ d.depth ≤ MAXD ∧ Q (.bl (n ^^ ds.any fun z => PyData.eqv z d)) H
theorem op_inP (hu : X.A.units + 64 < cLine) : OpR X (compareOp .In) (rInP X.K false) := by
  intro pins s σ H x y v u Q I rx ry h
  obtain ⟨d, ds, hd, he, sd, se, hk, q⟩ := h
  obtain ⟨as, r1⟩ := Dp.reads I d x v hd rx
  have hu2 : X.A.units + 1 + min (PyData.depthAll ds) d.depth < cLine := by have : min (PyData.depthAll ds) d.depth ≤ d.depth := Nat.min_le_right _ _; unfold MAXD at hk; omega
  have q' : EP X pins σ Q (.bool (ds.any fun z => PyData.eqv z d)) s := ⟨.bl _, H, I, rfl, by simpa using q⟩
  rcases he with he | he
  · obtain ⟨bs, r2⟩ := Dp.reads I _ y u he ry
    exact SeqAt.in_list_data r2 r1 se sd hu2 q'
  · obtain ⟨bs, r2⟩ := Dp.reads I _ y u he ry
    exact SeqAt.in_tuple_data r2 r1 se sd hu2 q'
theorem op_notInP (hu : X.A.units + 64 < cLine) : OpR X (compareOp .NotIn) (rInP X.K true) := by
  intro pins s σ H x y v u Q I rx ry h
  obtain ⟨d, ds, hd, he, sd, se, hk, q⟩ := h
  obtain ⟨as, r1⟩ := Dp.reads I d x v hd rx
  have hu2 : X.A.units + 1 + min (PyData.depthAll ds) d.depth < cLine := by have : min (PyData.depthAll ds) d.depth ≤ d.depth := Nat.min_le_right _ _; unfold MAXD at hk; omega
  have q' : EP X pins σ Q (.bool (!ds.any fun z => PyData.eqv z d)) s := ⟨.bl _, H, I, rfl, by simpa using q⟩
  rcases he with he | he
  · obtain ⟨bs, r2⟩ := Dp.reads I _ y u he ry
    exact SeqAt.notIn_list_data r2 r1 se sd hu2 q'
  · obtain ⟨bs, r2⟩ := Dp.reads I _ y u he ry
    exact SeqAt.notIn_tuple_data r2 r1 se sd hu2 q'
def rInS (n : Bool) : R2 := fun x y H Q => ∃ (c : Nat) (z : Str), x = .str ⟨#[c]⟩ ∧ y = .str z ∧ Q (.bl (n ^^ decide (c ∈ z.cps.toList))) H
def rIsQ (n : Bool) : R2 := fun x y H Q => (y = .non ∧ Q (.bl (n ^^ decide (x = .non))) H) ∨ ∃ a b : Bool, x = .bl a ∧ y = .bl b ∧ Q (.bl (n ^^ decide (a = b))) H
def rCm (K : PySem.W.Frag) : Cmp → R2
  | .eq => rEqP K false
  | .ne => rEqP K true
  | .lt => rLtP K 0
  | .le => rLtP K 1
  | .gt => rLtP K 2
  | .ge => rLtP K 3
  | .isin => fun x y H Q => rInP K false x y H Q ∨ rInS false x y H Q
  | .notin => fun x y H Q => rInP K true x y H Q ∨ rInS true x y H Q
  | .is => rIsQ false
  | .isnot => rIsQ true
theorem OpR.imp {f : Value → Value → Sem Value} {r r' : R2} (h : OpR X f r) (i : ∀ x y H Q, r' x y H Q → r x y H Q) : OpR X f r' := fun pins s σ H x y v u Q I rx ry q => h pins s σ H x y v u Q I rx ry (i _ _ _ _ q)
theorem op_cm (hu : X.A.units + 64 < cLine) (o : Cmp) : OpR X (compareOp (pyCmp o)) (rCm X.K o) := by
  cases o with
  | eq => exact op_eqP hu
  | ne => exact op_neP hu
  | lt => exact op_ltP hu
  | le => exact op_leP hu
  | gt => exact op_gtP hu
  | ge => exact op_geP hu
  | isin => exact (op_inP hu).or (OpR.imp op_in_sign fun x y H Q ⟨c, z, a, b, q⟩ => ⟨c, z, a, b, by simpa using q⟩)
  | notin => exact (op_notInP hu).or (OpR.imp op_notIn_sign fun x y H Q ⟨c, z, a, b, q⟩ => ⟨c, z, a, b, by simpa using q⟩)
  | is =>
    refine OpR.imp (op_isN.or op_isBl) fun x y H Q h => ?_
    rcases h with ⟨a, q⟩ | ⟨a, b, e1, e2, q⟩
    · exact .inl ⟨a, by simpa using q⟩
    · exact .inr ⟨a, b, e1, e2, by simpa using q⟩
  | isnot =>
    refine OpR.imp (op_notN.or op_notBl) fun x y H Q h => ?_
    rcases h with ⟨a, q⟩ | ⟨a, b, e1, e2, q⟩
    · exact .inl ⟨a, by simpa using q⟩
    · exact .inr ⟨a, b, e1, e2, by simpa using q⟩
end
section
variable {Γ : Ga} {H H' : Hp} {N : Addr → Prop} {Q : VK} {d x y : D} {v vx vy : V} {fx fy fp : List Addr}
theorem alike_ne {a b : D} (h : alike a b = true) : toP a ≠ .none := by
  cases a <;> cases b <;> simp [alike] at h <;> simp [toP]
mutual
theorem alike_symm : ∀ a b : D, alike a b = true → alike b a = true
  | a, b, h => by
    cases a <;> cases b <;> first | rfl | (simp [alike] at h; done) | skip
    rename_i xs ys
    simp only [alike] at h ⊢
    exact alikes_symm xs ys h
theorem alikes_symm : ∀ xs ys : List D, alikes xs ys = true → alikes ys xs = true
  | [], [], _ => rfl
  | [], _ :: _, _ => rfl
  | _ :: _, [], _ => rfl
  | x :: xs, y :: ys, h => by
    simp only [alikes, Bool.and_eq_true] at h ⊢
    exact ⟨alike_symm x y h.1, alikes_symm xs ys h.2⟩
end
theorem any_P : ∀ (ds : List D), plains MAXD ds = true → plain MAXD x = true → (toPs ds).any (fun z => PyData.eqv z (toP x)) = dmem x ds
  | [], _, _ => rfl
  | d :: ds, h, hx => by
    simp only [plains, Bool.and_eq_true] at h
    show (PyData.eqv (toP d) (toP x) || (toPs ds).any fun z => PyData.eqv z (toP x)) = _
    rw [any_P ds h.2 hx, eqv_of h.1 hx]
    rfl
theorem RO.nonV {v : V} (r : RO Γ H N x v fx) : decide (v = .non) = isNon x := by
  cases x with
  | non => rw [r.1]; rfl
  | bl b => rw [r.1]; rfl
  | int b => rw [r.1]; rfl
  | str b => rw [r.1]; rfl
  | tup ds => obtain ⟨a, _, _, e, _⟩ := r; rw [e]; rfl
  | lst o ds => obtain ⟨a, _, _, e, _⟩ := r.lstD; rw [e]; rfl
  | scr ds => obtain ⟨a, _, _, e, _⟩ := r; rw [e]; rfl
  | dct _ _ _ => exact r.elim
  | st _ _ => exact r.elim
  | ins _ _ _ => exact r.elim
theorem plains_of {k : Nat} {ds : List D} : (plain (k + 1) (.tup ds) = plains k ds) := rfl
mutual
theorem plain_le : ∀ (j k : Nat) (d : D), j ≤ k → plain j d = true → plain k d = true
  | _, k, .non, _, _ => by cases k <;> rfl
  | _, k, .bl _, _, _ => by cases k <;> rfl
  | _, k, .int _, _, _ => by cases k <;> rfl
  | _, k, .str _, _, _ => by cases k <;> rfl
  | 0, _, .tup _, _, h => by simp [plain] at h
  | 0, _, .lst _ _, _, h => by simp [plain] at h
  | j + 1, 0, .tup _, h, _ => by omega
  | j + 1, 0, .lst _ _, h, _ => by omega
  | j + 1, k + 1, .tup ds, h, hp => plains_le j k ds (by omega) (by simpa [plain] using hp)
  | j + 1, k + 1, .lst _ ds, h, hp => plains_le j k ds (by omega) (by simpa [plain] using hp)
  | _, _, .dct _ _ _, _, h => by simp [plain] at h
  | _, _, .st _ _, _, h => by simp [plain] at h
  | _, _, .ins _ _ _, _, h => by simp [plain] at h
  | _, _, .scr _, _, h => by simp [plain] at h
theorem plains_le : ∀ (j k : Nat) (ds : List D), j ≤ k → plains j ds = true → plains k ds = true
  | _, _, [], _, _ => rfl
  | j, k, d :: ds, h, hp => by
    simp only [plains, Bool.and_eq_true] at hp ⊢
    exact ⟨plain_le j k d h hp.1, plains_le j k ds h hp.2⟩
end
theorem sign_in (z : List Nat) (c : Nat) : decide (c ∈ (⟨z.toArray⟩ : Str).cps.toList) = z.contains c := by
  show decide (c ∈ z.toArray.toList) = _
  rw [show z.toArray.toList = z from rfl]
  simp [List.contains_eq_mem]
theorem inP_ok {n : Bool} {kk : Bool} (h : inop x y = some kk) (rx : RO Γ H N x vx fx) (ry : RO Γ H N y vy fy) (m : Q (.bl (n ^^ kk)) H) : rInP Γ.K n vx vy H Q ∨ rInS n vx vy H Q := by
  unfold inop at h
  split at h
  · split at h
    · rename_i c
      rw [Bool.and_eq_true] at c
      cases h
      refine .inl ⟨_, _, rx.dp MAXD x c.1, .inr (ry.dp (MAXD + 1) _ (by simpa [plain] using c.2)), (toP_plain _ _ c.1).1, (toPs_plain _ _ c.2).1, (toP_plain _ _ c.1).2, ?_⟩
      rw [any_P _ c.2 c.1]; exact m
    · cases h
  · split at h
    · rename_i c
      rw [Bool.and_eq_true] at c
      cases h
      refine .inl ⟨_, _, rx.dp MAXD x c.1, .inl (ry.dp (MAXD + 1) _ (by simpa [plain] using c.2)), (toP_plain _ _ c.1).1, (toPs_plain _ _ c.2).1, (toP_plain _ _ c.1).2, ?_⟩
      rw [any_P _ c.2 c.1]; exact m
    · cases h
  · split at h
    · cases h
      refine .inr ⟨_, _, rx.1, ry.1, ?_⟩
      rw [sign_in]; exact m
    · cases h
  · exact ry.elim
  · exact ry.elim
  · cases h
theorem cm_ok {o : Cmp} {k : Bool} (h : cmpop o x y = some k) (rx : RO Γ H N x vx fx) (ry : RO Γ H N y vy fy) (m : Q (.bl k) H) : rCm Γ.K o vx vy H Q := by
  have lt : ∀ (n : Nat) (f : Ordering → Bool), (∀ (o : Ordering) (d e : PyData), PySem.W.dataLt d e = (o == .lt) → PySem.W.dataLt e d = (o == .gt) → ltF n d e = f o) →
      (if (plain MAXD x && plain MAXD y && alike x y) = true then (dcmp x y).map f else none) = some k → rLtP Γ.K n vx vy H Q := by
    intro n f hf h
    split at h
    · rename_i c
      simp only [Bool.and_eq_true] at c
      obtain ⟨oo, e, h1, h2⟩ := cmp_P x y c.2
      obtain ⟨o2, e2, g1, g2⟩ := cmp_P y x (alike_symm _ _ c.2)
      have sw := cmp_swap x y c.2
      rw [e, e2] at sw
      have sw : o2 = oo.swap := Option.some.inj sw
      rw [e] at h
      cases h
      refine ⟨toP x, toP y, rx.dp MAXD x c.1.1, ry.dp MAXD y c.1.2, alike_P x y c.2, alike_ne c.2, (toP_plain MAXD x c.1.1).2, ?_⟩
      rw [hf oo _ _ h1 (by rw [g1, sw]; cases oo <;> rfl)]
      exact m
    · cases h
  have eq : ∀ n : Bool, (if (plain MAXD x && plain MAXD y) = true then some (n ^^ deq x y) else none) = some k → rEqP Γ.K n vx vy H Q := by
    intro n h
    split at h
    · rename_i c
      rw [Bool.and_eq_true] at c
      cases h
      exact ⟨toP x, toP y, rx.dp MAXD x c.1, ry.dp MAXD y c.2, (toP_plain _ _ c.1).1, (toP_plain _ _ c.2).1, (toP_plain _ _ c.1).2, by rw [eqv_of c.1 c.2]; exact m⟩
    · cases h
  have is : ∀ (n : Bool) (kk : Bool), isop x y = some kk → Q (.bl (n ^^ kk)) H → rIsQ n vx vy H Q := by
    intro n kk h m
    unfold isop at h
    split at h
    · cases h
      refine .inl ⟨ry.1, ?_⟩
      rw [rx.nonV]; exact m
    · split at h
      · cases h
        exact .inr ⟨_, _, rx.1, ry.1, by rw [← Bool.beq_eq_decide_eq]; exact m⟩
      · cases h
    · cases h
  unfold cmpop at h
  split at h
  · exact eq false (by simpa using h)
  · exact eq true (by simpa using h)
  · exact lt 0 (· == .lt) (fun o d e h1 h2 => h1) h
  · exact lt 1 (· != .gt) (fun o d e h1 h2 => by show (!PySem.W.dataLt e d) = _; rw [h2]; rfl) h
  · exact lt 2 (· == .gt) (fun o d e h1 h2 => h2) h
  · exact lt 3 (· != .lt) (fun o d e h1 h2 => by show (!PySem.W.dataLt d e) = _; rw [h1]; rfl) h
  · exact inP_ok h rx ry (by simpa using m)
  · cases e : inop x y with
    | none => rw [e] at h; cases h
    | some kk =>
      rw [e] at h
      cases h
      exact inP_ok e rx ry (by simpa using m)
  · exact is false k h (by simpa using m)
  · cases e : isop x y with
    | none => rw [e] at h; cases h
    | some kk =>
      rw [e] at h
      cases h
      exact is true kk e (by simpa using m)
theorem tru_of (r : RO Γ H N x vx fx) : TruV Γ.K vx H (truthy x) := by
  cases x with
  | non => rw [r.1]; rfl
  | bl b => rw [r.1]; rfl
  | int i => rw [r.1]; rfl
  | str z =>
    obtain ⟨e, h, _⟩ := r
    rw [e]
    refine ⟨by rw [str_len]; exact h, ?_⟩
    rw [str_len]
    cases z with
    | nil => rfl
    | cons a b => simp [truthy]; omega
  | tup ds =>
    obtain ⟨a, vs, fps, e, h1, h2, _⟩ := r.tupD
    rw [e]
    refine .inr (.inl ⟨vs, h1, ?_⟩)
    have := h2.length.1
    cases ds <;> cases vs <;> simp at this <;> rfl
  | lst o ds =>
    obtain ⟨a, vs, fps, e, h1, h2⟩ := r.lstD
    rw [e]
    refine .inl ⟨vs, .inl (.inl h1), ?_⟩
    have := h2.length.1
    cases ds <;> cases vs <;> simp at this <;> rfl
  | scr ds =>
    obtain ⟨a, vs, fps, e, h1, h2, _⟩ := r.scrD
    rw [e]
    refine .inl ⟨vs, h1, ?_⟩
    have := h2.length.1
    cases ds <;> cases vs <;> simp at this <;> rfl
  | dct _ _ _ => exact r.elim
  | st _ _ => exact r.elim
  | ins _ _ _ => exact r.elim
end
end Q
end
section
set_option Elab.async false
set_option linter.all false
set_option autoImplicit false
set_option maxRecDepth 100000
namespace Q
open PySem PySem.Spec PyProof.Rows L2
section
variable {Γ : Ga} {H H' : Hp} {N : Addr → Prop} {Q : VK} {d x y : D} {v vx vy : V} {fx fy fp : List Addr}
theorem ixQ_eq (n : Nat) (i : Int) : ixQ n i = L2.ixN n i := by
  unfold ixQ L2.ixN
  split
  · rfl
  · split
    · rw [if_pos (by omega), Int.add_comm]
    · rw [if_neg (by omega)]
theorem ixL {ds : List D} {vs : List V} {fps : List (List Addr)} {i : Int} (r : ROs Γ H N ds vs fps) (h : ((ixQ ds.length i).bind fun k => ds[k]?) = some d) : ∃ v fp, atI vs i = some v ∧ RO Γ H N d v fp := by
  cases e : ixQ ds.length i with
  | none => rw [e] at h; cases h
  | some k =>
    rw [e] at h
    obtain ⟨v, fp, h1, h2, h3⟩ := r.get (i := k) h
    refine ⟨v, fp, ?_, h3⟩
    unfold atI
    rw [r.length.1, ← ixQ_eq, e]
    exact h1
theorem ix_ok (h : ixD x y = some d) (rx : RO Γ H N x vx fx) (ry : RO Γ H N y vy fy) (m : ∀ v fp, RO Γ H N d v fp → Q v H) : rIx Γ.K vx vy H Q := by
  unfold ixD at h
  split at h
  · obtain ⟨e1, e2, e0⟩ := rx
    rename_i z i
    refine .inr (.inr ⟨⟨z.toArray⟩, i, ?_⟩)
    cases e : ixQ z.length i with
    | none => rw [e] at h; cases h
    | some k =>
      rw [e] at h
      have h : (z[k]?).map (fun c => D.str [c]) = some d := h
      cases e3 : z[k]? with
      | none => rw [e3] at h; cases h
      | some c =>
        rw [e3] at h
        cases h
        refine ⟨c, e1, ry.1, by rw [str_len]; exact e2, ?_, m _ [] ⟨rfl, by show 1 ≤ sizeLine; rw [sizeLine_eq]; decide, rfl⟩⟩
        show atI z i = some c
        unfold atI
        rw [← ixQ_eq, e]
        exact e3
  · obtain ⟨a, vs, fps, e1, h1, h2, h3⟩ := rx.tupD
    obtain ⟨v, fp, g1, g2⟩ := ixL h2 h
    exact .inr (.inl ⟨a, vs, _, v, e1, ry.1, h1, g1, m v fp g2⟩)
  · obtain ⟨a, vs, fps, e1, h1, h2, h3⟩ := rx.scrD
    obtain ⟨v, fp, g1, g2⟩ := ixL h2 h
    exact .inl ⟨a, vs, _, v, e1, ry.1, h1, g1, m v fp g2⟩
  · obtain ⟨a, vs, fps, e1, h1, h2⟩ := rx.lstD
    obtain ⟨v, fp, g1, g2⟩ := ixL h2 h
    exact .inl ⟨a, vs, _, v, e1, ry.1, .inl (.inl h1), g1, m v fp g2⟩
  · exact rx.elim
  · cases h
def rSlQ (K : PySem.W.Frag) : V → Option Int → Option Int → Hp → VK → Prop := fun x lo hi H Q => rSlA K x lo hi H Q ∨ rSlL K x lo hi H Q ∨ rSlS x lo hi H Q
theorem sl_q {X : Cx} : SlR X (rSlQ X.K) := sl_tupA.or (sl_list.or sl_str)
theorem cut_eq (n d : Nat) (o : Option Int) : cut n d o = HT.sIx n d o := by
  cases o with
  | none => rfl
  | some i =>
    show (if i < 0 then n - (-i).toNat else min i.toNat n) = (if i < 0 then (i + (n : Int)).toNat else min i.toNat n)
    split
    · omega
    · rfl
theorem sliceL_eq {α : Type} (x : List α) (a b : Nat) : sliceL x a b = (x.drop a).take (b - a) := by
  unfold sliceL; rw [List.drop_take]
theorem sl_ok {lo hi : Option Int} (h : slice x lo hi = some d) (rx : RO Γ H N x vx fx) (m : Made Γ H N d Q) : rSlQ Γ.K vx lo hi H Q := by
  unfold slice at h
  split at h
  · cases h
    obtain ⟨e1, e2, _⟩ := rx
    refine .inr (.inr ⟨_, e1, by rw [str_len]; exact e2, m.strE ?_ ?_⟩)
    · unfold cutS
      rw [str_len, sliceL_eq, cut_eq, cut_eq]
    · rename_i z
      unfold sliceL
      rw [List.length_drop, List.length_take]; omega
  · cases h
    rename_i z
    obtain ⟨a, vs, fps, e1, h1, h2, h3⟩ := rx.tupD
    subst e1
    refine .inl ⟨a, vs, rfl, h1, fun e => ?_, fun _ p hp => ?_⟩
    · have : sliceL z (cut z.length 0 lo) (cut z.length z.length hi) = z := by
        rw [cut_eq, cut_eq, ← h2.length.1, e.1, e.2, h2.length.1]
        unfold sliceL; simp
      rw [this] at m
      exact m.same ⟨a, vs, fps, rfl, h1, h2, h3, rfl⟩
    · have e2 : cutV vs lo hi = sliceL vs (cut z.length 0 lo) (cut z.length z.length hi) := by
        unfold cutV
        rw [sliceL_eq, cut_eq, cut_eq, h2.length.1]
      rw [e2]
      exact m.tup ((h2.take _).drop _) (fun q hq => h3 q (List.mem_of_mem_take (List.mem_of_mem_drop hq))) hp
  · split at h
    · rename_i z c
      cases h
      obtain ⟨a, vs, fps, e1, h1, h2⟩ := rx.lstD
      refine .inr (.inl ⟨a, vs, e1, .inl (.inl h1), fun p hp => ?_⟩)
      have e2 : cutV vs lo hi = sliceL vs (cut z.length 0 lo) (cut z.length z.length hi) := by
        unfold cutV
        rw [sliceL_eq, cut_eq, cut_eq, h2.length.1]
      rw [e2]
      exact m.lst ((h2.take _).drop _) (fun q hq => h2.noOwn (lstOk_any c) q (List.mem_of_mem_take (List.mem_of_mem_drop hq))) hp
    · cases h
  · cases h
theorem strsV : ∀ {ds : List D} {ts : List (List Nat)} {vs : List V} {fps : List (List Addr)}, strsO ds = some ts → ROs Γ H N ds vs fps → vs = (ts.map fun t => (⟨t.toArray⟩ : Str)).map V.str
  | [], ts, vs, fps, h, r => by cases h; exact r.nil
  | .str x :: ds, ts, v :: vs, fp :: fps, h, ⟨h1, h2⟩ => by
    have h : (strsO ds).map (x :: ·) = some ts := h
    cases e : strsO ds with
    | none => rw [e] at h; cases h
    | some t2 =>
      rw [e] at h
      cases h
      rw [strsV e h2, h1.1]
      rfl
  | .str _ :: _, _, [], _, _, z => z.elim
  | .str _ :: _, _, _ :: _, [], _, z => z.elim
  | .non :: _, _, _, _, h, _ | .bl _ :: _, _, _, _, h, _ | .int _ :: _, _, _, _, h, _ | .tup _ :: _, _, _, _, h, _ | .lst _ _ :: _, _, _, _, h, _ | .dct _ _ _ :: _, _, _, _, h, _ | .st _ _ :: _, _, _, _, h, _ | .ins _ _ _ :: _, _, _, _, h, _ | .scr _ :: _, _, _, _, h, _ => by simp [strsO] at h
theorem blsV : ∀ {ds : List D} {bs : List Bool} {vs : List V} {fps : List (List Addr)}, blsO ds = some bs → ROs Γ H N ds vs fps → vs = bs.map V.bl
  | [], ts, vs, fps, h, r => by cases h; exact r.nil
  | .bl x :: ds, ts, v :: vs, fp :: fps, h, ⟨h1, h2⟩ => by
    have h : (blsO ds).map (x :: ·) = some ts := h
    cases e : blsO ds with
    | none => rw [e] at h; cases h
    | some t2 =>
      rw [e] at h
      cases h
      rw [blsV e h2, h1.1]
      rfl
  | .bl _ :: _, _, [], _, _, z => z.elim
  | .bl _ :: _, _, _ :: _, [], _, z => z.elim
  | .non :: _, _, _, _, h, _ | .str _ :: _, _, _, _, h, _ | .int _ :: _, _, _, _, h, _ | .tup _ :: _, _, _, _, h, _ | .lst _ _ :: _, _, _, _, h, _ | .dct _ _ _ :: _, _, _, _, h, _ | .st _ _ :: _, _, _, _, h, _ | .ins _ _ _ :: _, _, _, _, h, _ | .scr _ :: _, _, _, _, h, _ => by simp [blsO] at h
theorem intsV : ∀ {ds : List D} {ns : List Int} {vs : List V} {fps : List (List Addr)}, intsO ds = some ns → ROs Γ H N ds vs fps → vs = ns.map V.int
  | [], ts, vs, fps, h, r => by cases h; exact r.nil
  | .int x :: ds, ts, v :: vs, fp :: fps, h, ⟨h1, h2⟩ => by
    have h : (intsO ds).map (x :: ·) = some ts := h
    cases e : intsO ds with
    | none => rw [e] at h; cases h
    | some t2 =>
      rw [e] at h
      cases h
      rw [intsV e h2, h1.1]
      rfl
  | .int _ :: _, _, [], _, _, z => z.elim
  | .int _ :: _, _, _ :: _, [], _, z => z.elim
  | .non :: _, _, _, _, h, _ | .str _ :: _, _, _, _, h, _ | .bl _ :: _, _, _, _, h, _ | .tup _ :: _, _, _, _, h, _ | .lst _ _ :: _, _, _, _, h, _ | .dct _ _ _ :: _, _, _, _, h, _ | .st _ _ :: _, _, _, _, h, _ | .ins _ _ _ :: _, _, _, _, h, _ | .scr _ :: _, _, _, _, h, _ => by simp [intsO] at h
end
end Q
end
section
set_option Elab.async false
set_option linter.all false
set_option autoImplicit false
set_option maxRecDepth 100000
namespace Q
open PySem PySem.Spec PyProof.Rows L2
section
variable {X : Cx}
theorem call_listS (hc : X.calm = true) : CallR X (.type "list") (fun xs H Q => ∃ z : Str, xs = [.str z] ∧ z.length ≤ sizeLine ∧ ∀ l, H l = none → Q (.ref l) (upd H l (.lst (z.cps.toList.map fun c => V.str ⟨#[c]⟩)))) := by
  intro pins s σ H xs us Q I r h
  obtain ⟨z, rfl, hz, q⟩ := h
  obtain ⟨u, rfl, rx⟩ := vals1 r
  obtain ⟨t, rfl⟩ := rx
  refine call_list_str (I.ok.hd hc) z t (fun h' tk acc c' hk e hi => ?_) (by exact hz)
  have hsz := hi.1
  have hv : Vals (z.cps.toList.map fun c => V.str ⟨#[c]⟩) acc.toList := by
    refine vals_of_at (by simp [hsz]) fun j x u h1 h2 => ?_
    have h3 : acc[j]? = some u := by simpa using h2
    obtain ⟨c, tk', e1, e2⟩ := hi.2 j u h3
    rw [List.getElem?_map, show z.cps.toList[j]? = z.cps[j]? by simp, e1] at h1
    have h1 : V.str ⟨#[c]⟩ = x := Option.some.inj h1
    subst h1
    exact ⟨tk', e2⟩
  exact ⟨.ref s.heap.objs.size, _, I.laid (t' := tk) hk (Nat.le_refl _) (show ObjOk X.prog X.w _ h' _ (.lst _) from ⟨by rw [List.length_map]; exact hz, acc.toList, c', hv, by simpa using e⟩), rfl, q _ (I.hok.fresh (Nat.le_refl _))⟩
def rNeverL : List V → Hp → VK → Prop := fun _ _ _ => False
theorem call_never {f : Value} : CallR X f rNeverL := fun _ _ _ _ _ _ _ _ _ h => h.elim
def rLenQ (K : PySem.W.Frag) : List V → Hp → VK → Prop := fun xs H Q => ∃ x n, xs = [x] ∧ LenV K x H n ∧ Q (.int n) H
def rBl (K : PySem.W.Frag) : Blt → List V → Hp → VK → Prop
  | .len => rLenQ K
  | .int => fun xs H Q => (∃ i, xs = [.int i] ∧ Q (.int i) H) ∨ ∃ k, xs = [.bl k] ∧ Q (.int (if k then 1 else 0)) H
  | .abs => fun xs H Q => ∃ i, xs = [.int i] ∧ Q (.int (if i < 0 then -i else i)) H
  | .max2 => fun xs H Q => ∃ i j, xs = [.int i, .int j] ∧ Q (.int (if j > i then j else i)) H
  | .min2 => fun xs H Q => ∃ i j, xs = [.int i, .int j] ∧ Q (.int (if j < i then j else i)) H
  | .tuple => fun xs H Q => ∃ p ys, xs = [.ref p] ∧ ((SqL K H p ys ∧ ∀ l, H l = none → Q (.ref l) (upd H l (.tup ys))) ∨ (SqT K H p ys ∧ Q (.ref p) H))
  | .list => fun xs H Q => (∃ p ys, xs = [.ref p] ∧ (SqL K H p ys ∨ SqT K H p ys) ∧ ∀ l, H l = none → Q (.ref l) (upd H l (.lst ys))) ∨ ∃ z : Str, xs = [.str z] ∧ z.length ≤ sizeLine ∧ ∀ l, H l = none → Q (.ref l) (upd H l (.lst (z.cps.toList.map fun c => V.str ⟨#[c]⟩)))
  | .sum => rSum K
  | .all => rAll K
  | .any => rAny K
  | .str => fun xs H Q => ∃ i, xs = [.int i] ∧ i.natAbs.log2 < 1920 ∧ Q (.str (toString i)) H
  | _ => rNeverL
def bltV : Blt → Value
  | .len => .builtin "len" | .int => .type "int" | .abs => .builtin "abs" | .max2 => .builtin "max" | .min2 => .builtin "min" | .tuple => .type "tuple" | .list => .type "list" | .sum => .builtin "sum" | .all => .builtin "all" | .any => .builtin "any"
  | .str => .type "str" | _ => .none
def bltN : Blt → Str
  | .len => "len" | .int => "int" | .abs => "abs" | .max2 => "max" | .min2 => "min" | .tuple => "tuple" | .list => "list" | .sum => "sum" | .all => "all" | .any => "any" | .str => "str" | _ => "?"
def bltOk : Blt → Bool
  | .len => true | .int => true | .abs => true | .max2 => true | .min2 => true | .tuple => true | .list => true | .sum => true | .all => true | .any => true | .str => true | _ => false
theorem call_bl (hc : X.calm = true) (b : Blt) : CallR X (bltV b) (rBl X.K b) := by
  cases b with
  | len => exact call_len
  | int => exact call_int1
  | abs => exact call_abs
  | max2 => exact call_max2 hc
  | min2 => exact call_min2 hc
  | tuple => exact call_tuple_of
  | list => exact call_list_of.or (call_listS hc)
  | sum => exact cr_sum hc
  | all => exact cr_all hc
  | any => exact cr_any hc
  | str => exact call_str_int
  | _ => exact call_never
theorem boot_bl {b : Blt} (h : bltOk b = true) : bootBuiltins (bltN b) = some (bltV b) := by
  cases b <;> first | (cases h; done) | decide +kernel
end
section
variable {Γ : Ga} {H H' : Hp} {N : Addr → Prop} {Q : VK} {d x y : D} {v vx vy : V} {fx fy fp : List Addr}
theorem ROs.one {ds : List D} {vs : List V} {fps : List (List Addr)} (r : ROs Γ H N (d :: ds) vs fps) : ∃ v vs' fp fps', vs = v :: vs' ∧ fps = fp :: fps' ∧ RO Γ H N d v fp ∧ ROs Γ H N ds vs' fps' := by
  cases vs with
  | nil => exact r.elim
  | cons v vs => cases fps with
    | nil => exact r.elim
    | cons fp fps => exact ⟨v, vs, fp, fps, rfl, rfl, r.1, r.2⟩
theorem signs_ros : ∀ z : List Nat, ∃ fps, ROs Γ H N (z.map fun c => D.str [c]) (z.map fun c => V.str ⟨#[c]⟩) fps ∧ ∀ p ∈ fps, p = []
  | [] => ⟨[], True.intro, fun _ h => by cases h⟩
  | c :: z => by
    obtain ⟨fps, h1, h2⟩ := signs_ros z
    refine ⟨[] :: fps, ⟨⟨rfl, by show 1 ≤ sizeLine; rw [sizeLine_eq]; decide, rfl⟩, h1⟩, fun p hp => ?_⟩
    rcases List.mem_cons.mp hp with rfl | hp
    · rfl
    · exact h2 p hp
theorem log_small {i : Int} (h : i.natAbs < 10 ^ 500) : i.natAbs.log2 < 1920 := by
  have h2 : (10 : Nat) ^ 500 ≤ 2 ^ 1900 := by decide +kernel
  have h3 : i.natAbs < 2 ^ 1900 := Nat.lt_of_lt_of_le h h2
  have := PySem.Flt.log2_lt_of (n := i.natAbs) (k := 1900) (by decide) h3
  omega
theorem str_int (i : Int) : ((toString i : String) : Str).cps.toList = intS i := by
  show (Str.ofString (toString i)).cps.toList = _
  rw [Str.ofString_eq_toList]
  show ((toString i).toList.map Char.toNat).toArray.toList = _
  rw [show ((toString i).toList.map Char.toNat).toArray.toList = (toString i).toList.map Char.toNat from rfl]
  unfold intS digits
  cases i with
  | ofNat n =>
    rw [if_neg (by show ¬ (Int.ofNat n < 0); exact Int.not_lt.mpr (Int.natCast_nonneg n))]
    show (Nat.repr n).toList.map Char.toNat = (Nat.toDigits 10 n).map Char.toNat
    rw [Nat.repr_eq_ofList_toDigits]
    simp
  | negSucc n =>
    rw [if_pos (Int.negSucc_lt_zero n)]
    show ("-" ++ Nat.repr (n + 1)).toList.map Char.toNat = 45 :: (Nat.toDigits 10 (n + 1)).map Char.toNat
    rw [Nat.repr_eq_ofList_toDigits]
    simp
theorem bl_ok {b : Blt} {ds : List D} {vs : List V} {fps : List (List Addr)} (h : blt b ds = some d) (hb : bltOk b = true) (rs : ROs Γ H N ds vs fps) (m : Made Γ H N d Q) : rBl Γ.K b vs H Q := by
  have L := LIM_line
  unfold blt at h
  split at h
  
  · cases h
    obtain ⟨v, vs', fp, fps', rfl, rfl, r, t⟩ := rs.one
    rw [t.nil]
    exact ⟨v, _, rfl, by rw [r.1]; exact ⟨by rw [str_len]; exact r.2.1, (str_len _).symm⟩, m.int⟩
  · cases h
    obtain ⟨v, vs', fp, fps', rfl, rfl, r, t⟩ := rs.one
    rw [t.nil]
    obtain ⟨a, ws, gps, e, h1, h2, _⟩ := r.tupD
    exact ⟨v, _, rfl, by rw [e]; exact .inr ⟨ws, h1, h2.length.1.symm⟩, m.int⟩
  · cases h
    obtain ⟨v, vs', fp, fps', rfl, rfl, r, t⟩ := rs.one
    rw [t.nil]
    obtain ⟨a, ws, gps, e, h1, h2, _⟩ := r.scrD
    exact ⟨v, _, rfl, by rw [e]; exact .inl ⟨ws, h1, h2.length.1.symm⟩, m.int⟩
  · cases h
    obtain ⟨v, vs', fp, fps', rfl, rfl, r, t⟩ := rs.one
    rw [t.nil]
    obtain ⟨a, ws, gps, e, h1, h2⟩ := r.lstD
    exact ⟨v, _, rfl, by rw [e]; exact .inl ⟨ws, .inl (.inl h1), h2.length.1.symm⟩, m.int⟩
  · obtain ⟨v, vs', fp, fps', rfl, rfl, r, t⟩ := rs.one
    exact r.elim
  · obtain ⟨v, vs', fp, fps', rfl, rfl, r, t⟩ := rs.one
    exact r.elim
  
  · cases h
    obtain ⟨v, vs', fp, fps', rfl, rfl, r, t⟩ := rs.one
    rw [t.nil, r.1]
    exact .inl ⟨_, rfl, m.int⟩
  · cases h
    obtain ⟨v, vs', fp, fps', rfl, rfl, r, t⟩ := rs.one
    rw [t.nil, r.1]
    exact .inr ⟨_, rfl, m.int⟩
  
  · cases h
    obtain ⟨v, vs', fp, fps', rfl, rfl, r, t⟩ := rs.one
    rw [t.nil, r.1]
    exact ⟨_, rfl, m.int⟩
  
  · cases h
    obtain ⟨v, vs', fp, fps', rfl, rfl, r, t⟩ := rs.one
    obtain ⟨v', vs', fp', fps', rfl, rfl, r', t⟩ := t.one
    rw [t.nil, r.1, r'.1]
    exact ⟨_, _, rfl, m.int⟩
  · cases h
    obtain ⟨v, vs', fp, fps', rfl, rfl, r, t⟩ := rs.one
    obtain ⟨v', vs', fp', fps', rfl, rfl, r', t⟩ := t.one
    rw [t.nil, r.1, r'.1]
    exact ⟨_, _, rfl, m.int⟩
  · cases hb
  · cases hb
  · cases hb
  
  · cases h
    obtain ⟨v, vs', fp, fps', rfl, rfl, r, t⟩ := rs.one
    rw [t.nil]
    obtain ⟨a, ws, gps, rfl, h1, h2, h3⟩ := r.tupD
    exact ⟨a, ws, rfl, .inr ⟨h1, m.same ⟨a, ws, gps, rfl, h1, h2, h3, rfl⟩⟩⟩
  · split at h
    · rename_i c
      cases h
      obtain ⟨v, vs', fp, fps', rfl, rfl, r, t⟩ := rs.one
      rw [t.nil]
      obtain ⟨a, ws, gps, rfl, h1, h2⟩ := r.lstD
      exact ⟨a, ws, rfl, .inl ⟨.inl (.inl h1), fun p hp => m.tup h2 (h2.noOwn (lstOk_any c)) hp⟩⟩
    · cases h
  
  · cases h
    obtain ⟨v, vs', fp, fps', rfl, rfl, r, t⟩ := rs.one
    rw [t.nil]
    obtain ⟨a, ws, gps, rfl, h1, h2, h3⟩ := r.tupD
    exact .inl ⟨a, ws, rfl, .inr h1, fun p hp => m.lst h2 h3 hp⟩
  · cases h
    obtain ⟨v, vs', fp, fps', rfl, rfl, r, t⟩ := rs.one
    rw [t.nil]
    obtain ⟨a, ws, gps, rfl, h1, h2, h3⟩ := r.scrD
    exact .inl ⟨a, ws, rfl, .inl h1, fun p hp => m.lst h2 h3 hp⟩
  · split at h
    · rename_i c
      cases h
      obtain ⟨v, vs', fp, fps', rfl, rfl, r, t⟩ := rs.one
      rw [t.nil]
      obtain ⟨a, ws, gps, rfl, h1, h2⟩ := r.lstD
      exact .inl ⟨a, ws, rfl, .inl (.inl (.inl h1)), fun p hp => m.lst h2 (h2.noOwn (lstOk_any c)) hp⟩
    · cases h
  · cases h
    obtain ⟨v, vs', fp, fps', rfl, rfl, r, t⟩ := rs.one
    rw [t.nil, r.1]
    obtain ⟨gps, h2, h3⟩ := signs_ros (Γ := Γ) (H := H) (N := N) _
    exact .inr ⟨_, rfl, by rw [str_len]; exact r.2.1, fun p hp => m.lst h2 h3 hp⟩
  
  · obtain ⟨v, vs', fp, fps', rfl, rfl, r, t⟩ := rs.one
    rename_i z
    cases e : intsO z with
    | none => rw [e] at h; cases h
    | some ns =>
      rw [e] at h
      cases h
      rw [t.nil]
      obtain ⟨a, ws, gps, rfl, h1, h2⟩ := r.lstD
      have := intsV e h2
      subst this
      exact ⟨a, ns, rfl, .inl (.inl h1), m.int⟩
  
  · obtain ⟨v, vs', fp, fps', rfl, rfl, r, t⟩ := rs.one
    rename_i z
    cases e : blsO z with
    | none => rw [e] at h; cases h
    | some ns =>
      rw [e] at h
      cases h
      rw [t.nil]
      obtain ⟨a, ws, gps, rfl, h1, h2⟩ := r.lstD
      have := blsV e h2
      subst this
      exact ⟨a, ns, rfl, .inl (.inl h1), m.bl⟩
  · obtain ⟨v, vs', fp, fps', rfl, rfl, r, t⟩ := rs.one
    rename_i z
    cases e : blsO z with
    | none => rw [e] at h; cases h
    | some ns =>
      rw [e] at h
      cases h
      rw [t.nil]
      obtain ⟨a, ws, gps, rfl, h1, h2⟩ := r.lstD
      have := blsV e h2
      subst this
      exact ⟨a, ns, rfl, .inl (.inl h1), m.bl⟩
  · cases hb
  · cases hb
  · cases hb
  
  · split at h
    · rename_i c
      simp only [Bool.and_eq_true, decide_eq_true_eq] at c
      cases h
      obtain ⟨v, vs', fp, fps', rfl, rfl, r, t⟩ := rs.one
      rw [t.nil, r.1]
      exact ⟨_, rfl, log_small c.1, m.strE (str_int _) (by omega)⟩
    · cases h
  · cases hb
  · cases hb
  · cases hb
  · cases h
def tyN : Ty → Option String
  | .int => some "int" | .bool => some "bool" | .str => some "str" | .tuple => some "tuple" | .list => some "list" | .dict => some "dict" | .cls _ => none
def tyS : Ty → Str
  | .int => "int" | .bool => "bool" | .str => "str" | .tuple => "tuple" | .list => "list" | .dict => "dict" | .cls _ => "?"
def dTy : D → Option String
  | .non => some "NoneType" | .bl _ => some "bool" | .int _ => some "int" | .str _ => some "str" | .tup _ => some "tuple" | .lst _ _ => some "list" | .scr _ => some "list" | _ => none
theorem RO.tyX {v : V} (r : RO Γ H N x v fx) : ∃ n, dTy x = some n ∧ TyX Γ.K H v (.type n) := by
  cases x with
  | non => rw [r.1]; exact ⟨_, rfl, .base .non⟩
  | bl b => rw [r.1]; exact ⟨_, rfl, .base (.bl _)⟩
  | int b => rw [r.1]; exact ⟨_, rfl, .base (.int _)⟩
  | str b => rw [r.1]; exact ⟨_, rfl, .base (.str _)⟩
  | tup ds =>
    obtain ⟨a, _, _, e, h, _⟩ := r
    rw [e]
    refine ⟨_, rfl, ?_⟩
    rcases h with (h | ⟨o, h⟩) | ⟨o, its, n, h, hc, _⟩
    · exact .base (.tup h)
    · exact .fTuple h
    · exact .kTuple h hc
  | lst o ds =>
    obtain ⟨a, _, _, e, h, _⟩ := r.lstD
    rw [e]
    exact ⟨_, rfl, .base (.lst h)⟩
  | scr ds =>
    obtain ⟨a, _, _, e, h, _⟩ := r
    rw [e]
    refine ⟨_, rfl, ?_⟩
    rcases h with ⟨o, h⟩ | ⟨o, its, n, h, hc, _⟩
    · exact .base (.frz h)
    · exact .kList h hc
  | dct _ _ _ => exact r.elim
  | st _ _ => exact r.elim
  | ins _ _ _ => exact r.elim
theorem kitB_typ {sup : Nat → List Nat} {n k : String} {t : Ty} (hd : dTy x = some n) (ht : tyN t = some k) : kitB n k = some (typ sup x t) := by
  cases x <;> first | (cases hd; done) | skip
  all_goals
    cases hd
    cases t <;> first | (cases ht; done) | skip
    all_goals
      cases ht
      first | decide +kernel | rfl
end
end Q
end
section
set_option Elab.async false
set_option linter.all false
set_option autoImplicit false
set_option maxRecDepth 100000
namespace Q
open PySem PySem.Spec PyProof.Rows L2
section
open PySem.StrLaws PySem.Builtin.Str
theorem occ_stay (s sub : Str) (hi : Nat) : ∀ (l : List Nat) (st : Array Nat × Nat), 1 ≤ st.fst.size → (forIn l st (occBody s sub hi 1)).run.fst = st.fst
  | [], st, h => rfl
  | a :: l, st, h => by
    rw [List.forIn_cons]
    unfold occBody
    rw [if_neg (fun z => absurd z.1.1.1 (by omega))]
    exact occ_stay s sub hi l _ h
theorem occ_first (s sub : Str) (hi : Nat) : ∀ (l : List Nat) (free : Nat), (∀ i ∈ l, free ≤ i) →
    (forIn l ((#[] : Array Nat), free) (occBody s sub hi 1)).run.fst.toList = (l.find? fun i => decide (i + sub.length ≤ hi ∧ subAt s sub i = true)).toList
  | [], free, _ => rfl
  | a :: l, free, hf => by
    rw [List.forIn_cons]
    have ha : free ≤ a := hf a List.mem_cons_self
    by_cases hc : a + sub.length ≤ hi ∧ subAt s sub a = true
    · rw [List.find?_cons_of_pos (by simpa using hc)]
      unfold occBody
      rw [if_pos ⟨⟨⟨by simp, ha⟩, hc.1⟩, hc.2⟩]
      show (forIn l (#[].push a, a + sub.length) (occBody s sub hi 1)).run.fst.toList = [a]
      rw [occ_stay s sub hi l _ (by simp)]
      rfl
    · rw [List.find?_cons_of_neg (by simpa using hc)]
      unfold occBody
      rw [if_neg (fun z => hc ⟨z.1.2, z.2⟩)]
      exact occ_first s sub hi l free fun i hi' => hf i (List.mem_cons_of_mem _ hi')
theorem find_range (c : Nat) : ∀ (l pre : List Nat) (k : Nat), pre.length = k → (List.range' k (l.length + 1)).find? (fun i => decide ((pre ++ l)[i]? = some c)) = idxC c l k
  | [], pre, k, h => by
    subst h
    simp [idxC]
  | a :: l, pre, k, h => by
    subst h
    rw [show (a :: l).length + 1 = (l.length + 1) + 1 from rfl, List.range'_succ]
    unfold idxC
    have e : (pre ++ a :: l)[pre.length]? = some a := by simp
    by_cases hc : a = c
    · subst hc
      rw [List.find?_cons_of_pos (by simp)]
      simp
    · rw [List.find?_cons_of_neg (by simp [hc]), if_neg (by simpa using hc)]
      have := find_range c l (pre ++ [a]) (pre.length + 1) (by simp)
      rw [← this]
      congr 1
      funext i
      simp
theorem find_one (z : List Nat) (c : Nat) : Txt.find ⟨z.toArray⟩ ⟨#[c]⟩ = (match idxC c z 0 with | some k => (k : Int) | none => -1) := by
  unfold Txt.find
  have h := occ_first ⟨z.toArray⟩ ⟨#[c]⟩ (⟨z.toArray⟩ : Str).length (List.range' 0 ((⟨z.toArray⟩ : Str).length + 1 - 0)) 0 (fun _ _ => Nat.zero_le _)
  rw [← occ_eq] at h
  have hl : (⟨z.toArray⟩ : Str).length = z.length := str_len z
  have e : (fun i => decide (i + (⟨#[c]⟩ : Str).length ≤ (⟨z.toArray⟩ : Str).length ∧ subAt ⟨z.toArray⟩ ⟨#[c]⟩ i = true)) = fun i => decide (([] ++ z)[i]? = some c) := by
    funext i
    have := subAt_one ⟨z.toArray⟩ c i
    rw [decide_eq_decide]
    exact this.trans (by simp)
  rw [h, e, hl, Nat.sub_zero, find_range c z [] 0 rfl]
  cases idxC c z 0 <;> rfl
theorem occ_many (s : Str) (c hi lim : Nat) : ∀ (n k : Nat) (st : Array Nat × Nat), st.snd ≤ k → st.fst.size + n ≤ lim →
    (forIn (List.range' k n) st (occBody s ⟨#[c]⟩ hi lim)).run.fst.size = st.fst.size + (List.range' k n).countP (fun i => decide (i + (⟨#[c]⟩ : Str).length ≤ hi ∧ subAt s ⟨#[c]⟩ i = true))
  | 0, k, st, _, _ => rfl
  | n + 1, k, (fo, fr), hf, hl => by
    simp only at hf hl
    rw [List.range'_succ, List.forIn_cons]
    by_cases hc : k + (⟨#[c]⟩ : Str).length ≤ hi ∧ subAt s ⟨#[c]⟩ k = true
    · rw [List.countP_cons_of_pos (by simpa using hc)]
      unfold occBody
      rw [if_pos ⟨⟨⟨by show fo.size < lim; omega, hf⟩, hc.1⟩, hc.2⟩]
      show (forIn (List.range' (k + 1) n) (fo.push k, k + (⟨#[c]⟩ : Str).length) (occBody s ⟨#[c]⟩ hi lim)).run.fst.size = _
      rw [occ_many s c hi lim n (k + 1) _ (by show k + 1 ≤ k + 1; omega) (by simp only [Array.size_push]; omega)]
      simp only [Array.size_push]
      omega
    · rw [List.countP_cons_of_neg (by simpa using hc)]
      unfold occBody
      rw [if_neg (fun z => hc ⟨z.1.2, z.2⟩)]
      exact occ_many s c hi lim n (k + 1) _ (by show fr ≤ k + 1; omega) (by show fo.size + n ≤ lim; omega)
theorem countP_range (c : Nat) : ∀ (l pre : List Nat) (k : Nat), pre.length = k → (List.range' k (l.length + 1)).countP (fun i => decide ((pre ++ l)[i]? = some c)) = l.countP (fun a => a == c)
  | [], pre, k, h => by
    subst h
    simp
  | a :: l, pre, k, h => by
    subst h
    rw [show (a :: l).length + 1 = (l.length + 1) + 1 from rfl, List.range'_succ]
    have e : (pre ++ a :: l)[pre.length]? = some a := by simp
    have ih := countP_range c l (pre ++ [a]) (pre.length + 1) (by simp)
    rw [List.append_assoc] at ih
    rw [List.countP_cons, List.countP_cons, e, ← ih]
    simp
theorem count_one (z : List Nat) (c : Nat) : Txt.count ⟨z.toArray⟩ ⟨#[c]⟩ = (z.countP (fun a => a == c) : Nat) := by
  unfold Txt.count
  rw [occ_eq]
  have hl : (⟨z.toArray⟩ : Str).length = z.length := str_len z
  have h := occ_many ⟨z.toArray⟩ c (⟨z.toArray⟩ : Str).length ((⟨z.toArray⟩ : Str).length + 1) ((⟨z.toArray⟩ : Str).length + 1 - 0) 0 (#[], 0) (Nat.le_refl _) (by simp)
  rw [Array.length_toList, h]
  have e : (fun i => decide (i + (⟨#[c]⟩ : Str).length ≤ (⟨z.toArray⟩ : Str).length ∧ subAt ⟨z.toArray⟩ ⟨#[c]⟩ i = true)) = fun i => decide (([] ++ z)[i]? = some c) := by
    funext i
    have := subAt_one ⟨z.toArray⟩ c i
    rw [decide_eq_decide]
    exact this.trans (by simp)
  rw [e, hl, Nat.sub_zero, countP_range c z [] 0 rfl]
  simp
theorem isPre_eq : ∀ (y x : List Nat), isPre y x = (decide (y.length ≤ x.length) && decide (x.take y.length = y))
  | [], x => by simp [isPre]
  | a :: y, [] => by simp [isPre]
  | a :: y, b :: x => by
    rw [isPre, isPre_eq y x]
    by_cases h : a = b
    · subst h; simp
    · simp [h, Ne.symm h]
theorem subAt_cut (x y : List Nat) (i : Nat) : subAt ⟨x.toArray⟩ ⟨y.toArray⟩ i = decide ((x.drop i).take y.length = y) := by
  unfold subAt
  have h1 : (⟨y.toArray⟩ : Str).length = y.length := str_len y
  rw [h1]
  show (x.toArray.extract i (i + y.length) == y.toArray) = _
  have h2 : x.toArray.extract i (i + y.length) = ((x.drop i).take y.length).toArray := by
    apply Array.ext'
    simp [List.extract]
  rw [h2]
  by_cases h : (x.drop i).take y.length = y
  · rw [h]; simp
  · have h3 : ¬ ((x.drop i).take y.length).toArray = y.toArray := fun e => h (by simpa using congrArg Array.toList e)
    rw [decide_eq_false h]
    exact beq_eq_false_iff_ne.mpr h3
theorem starts_eq (x y : List Nat) : Txt.startswith ⟨x.toArray⟩ ⟨y.toArray⟩ = isPre y x := by
  unfold Txt.startswith
  rw [subAt_cut, isPre_eq, str_len, str_len]
  simp
theorem ends_eq (x y : List Nat) : Txt.endswith ⟨x.toArray⟩ ⟨y.toArray⟩ = isPre y.reverse x.reverse := by
  unfold Txt.endswith
  rw [subAt_cut, isPre_eq, str_len, str_len]
  simp only [List.length_reverse, Nat.zero_add]
  by_cases h : y.length ≤ x.length
  · have e : (x.drop (x.length - y.length)).take y.length = x.drop (x.length - y.length) := List.take_of_length_le (by simp; omega)
    have e2 : x.reverse.take y.length = (x.drop (x.length - y.length)).reverse := by rw [List.take_reverse]
    rw [e, e2]
    simp [h]
  · simp [h]
end
section
variable {Γ : Ga} {H H' : Hp} {N : Addr → Prop} {Q : VK} {d x y : D} {v vx vy : V} {fx fy fp : List Addr}
theorem join_fold (s : List Nat) : ∀ (ts : List (List Nat)) (acc : Array Nat), ((ts.map fun t => (⟨t.toArray⟩ : Str)).foldl (fun acc p => acc ++ s.toArray ++ p.cps) acc).toList = acc.toList ++ (ts.map fun t => s ++ t).flatten
  | [], acc => by simp
  | t :: ts, acc => by
    rw [List.map_cons, List.foldl_cons, join_fold s ts]
    simp
theorem joinL_eq (s : List Nat) : ∀ (t : List Nat) (ts : List (List Nat)), joinL s (t :: ts) = t ++ (ts.map fun t => s ++ t).flatten
  | t, [] => by simp [joinL]
  | t, u :: r => by
    show t ++ s ++ joinL s (u :: r) = _
    rw [joinL_eq s u r]
    simp
theorem join_txt (s : List Nat) (ts : List (List Nat)) : (Txt.join ⟨s.toArray⟩ (ts.map fun t => (⟨t.toArray⟩ : Str))).cps.toList = joinL s ts := by
  unfold Txt.join PySem.Builtin.Str.glued
  cases ts with
  | nil => rfl
  | cons t ts =>
    rw [joinL_eq]
    show (((ts.map fun t => (⟨t.toArray⟩ : Str))).foldl (fun acc p => acc ++ s.toArray ++ p.cps) t.toArray).toList = _
    rw [join_fold]
def rMt (K : PySem.W.Frag) : Mth → V → List V → Hp → VK → Prop
  | .find => fun x xs H Q => ∃ a b, x = .str a ∧ xs = [.str b] ∧ Q (.int (Txt.find a b)) H
  | .join => fun x xs H Q => ∃ a p, ∃ ys : List Str, x = .str a ∧ xs = [.ref p] ∧ (SqL K H p (ys.map V.str) ∨ SqT K H p (ys.map V.str)) ∧ (ys.map (·.length)).sum + ys.length * a.length ≤ 16777216 ∧ Q (.str (Txt.join a ys)) H
  | .endswith => fun x xs H Q => ∃ a b, x = .str a ∧ xs = [.str b] ∧ Q (.bl (Txt.endswith a b)) H
  | .count => fun x xs H Q => ∃ a b, x = .str a ∧ xs = [.str b] ∧ Q (.int (Txt.count a b)) H
  | .startswith => fun x xs H Q => ∃ a b, x = .str a ∧ xs = [.str b] ∧ Q (.bl (Txt.startswith a b)) H
  | _ => fun _ _ _ _ => False
def mthOk : Mth → Bool
  | .find => true | .join => true | .endswith => true | .startswith => true | .count => true | _ => false
theorem lenS (ts : List (List Nat)) : ((ts.map fun t => (⟨t.toArray⟩ : Str)).map (·.length)) = ts.map (·.length) := by
  rw [List.map_map]
  apply List.map_congr_left
  intro t _
  exact str_len t
theorem mt_ok {b : Mth} {ds : List D} {vs : List V} {fps : List (List Addr)} (h : mth b x ds = some d) (hb : mthOk b = true) (rx : RO Γ H N x vx fx) (rs : ROs Γ H N ds vs fps) (m : Made Γ H N d Q) : rMt Γ.K b vx vs H Q := by
  have L := LIM_line
  have hL : LIM ≤ 16777216 := by decide
  unfold mth at h
  split at h
  · cases h
    obtain ⟨v, vs', fp, fps', rfl, rfl, r, t⟩ := rs.one
    rw [t.nil, r.1]
    refine ⟨_, _, rx.1, rfl, ?_⟩
    rw [show (⟨[_].toArray⟩ : Str) = ⟨#[_]⟩ from rfl, find_one]
    exact m.int
  all_goals first | (cases hb; done) | (cases h; done) | skip
  · cases h
    obtain ⟨v, vs', fp, fps', rfl, rfl, r, t⟩ := rs.one
    rw [t.nil, r.1]
    refine ⟨_, _, rx.1, rfl, ?_⟩
    rw [ends_eq]
    exact m.bl
  · cases h
    obtain ⟨v, vs', fp, fps', rfl, rfl, r, t⟩ := rs.one
    rw [t.nil, r.1]
    refine ⟨_, _, rx.1, rfl, ?_⟩
    rw [starts_eq]
    exact m.bl
  · cases h
    obtain ⟨v, vs', fp, fps', rfl, rfl, r, t⟩ := rs.one
    rw [t.nil, r.1]
    refine ⟨_, _, rx.1, rfl, ?_⟩
    rw [show (⟨[_].toArray⟩ : Str) = ⟨#[_]⟩ from rfl, count_one]
    exact m.int
  · obtain ⟨v, vs', fp, fps', rfl, rfl, r, t⟩ := rs.one
    rename_i s _ z
    cases e : strsO z with
    | none => rw [e] at h; cases h
    | some ts =>
      rw [e] at h
      have h : (if (decide ((joinL s ts).length ≤ LIM) && decide ((ts.map (·.length)).sum + ts.length * s.length ≤ LIM)) = true then some (D.str (joinL s ts)) else none) = some d := h
      split at h
      · rename_i c
        simp only [Bool.and_eq_true, decide_eq_true_eq] at c
        cases h
        rw [t.nil]
        obtain ⟨a, ws, gps, rfl, h1, h2⟩ := r.lstD
        have := strsV e h2
        subst this
        refine ⟨_, a, _, rx.1, rfl, .inl (.inl (.inl h1)), ?_, m.strE (join_txt _ _) (by omega)⟩
        rw [lenS, List.length_map, str_len]; omega
      · cases h
  · obtain ⟨v, vs', fp, fps', rfl, rfl, r, t⟩ := rs.one
    rename_i s z
    cases e : strsO z with
    | none => rw [e] at h; cases h
    | some ts =>
      rw [e] at h
      have h : (if (decide ((joinL s ts).length ≤ LIM) && decide ((ts.map (·.length)).sum + ts.length * s.length ≤ LIM)) = true then some (D.str (joinL s ts)) else none) = some d := h
      split at h
      · rename_i c
        simp only [Bool.and_eq_true, decide_eq_true_eq] at c
        cases h
        rw [t.nil]
        obtain ⟨a, ws, gps, rfl, h1, h2, _⟩ := r.tupD
        have := strsV e h2
        subst this
        refine ⟨_, a, _, rx.1, rfl, .inr h1, ?_, m.strE (join_txt _ _) (by omega)⟩
        rw [lenS, List.length_map, str_len]; omega
      · cases h
end
end Q
end
section
set_option Elab.async false
set_option linter.all false
set_option autoImplicit false
set_option maxRecDepth 100000
namespace Q
open PySem PySem.Spec PyProof.Rows L2
structure Dj (fps : List (List Addr)) : Prop where
  one : ∀ (i : Nat) (p : List Addr), fps[i]? = some p → p.Nodup
  two : ∀ (i j : Nat) (p q : List Addr), fps[i]? = some p → fps[j]? = some q → i ≠ j → ∀ a ∈ p, a ∉ q
abbrev Own (fps : List (List Addr)) (a : Addr) : Prop := ∃ (i : Nat) (p : List Addr), fps[i]? = some p ∧ a ∈ p
theorem own_flat {fps : List (List Addr)} {a : Addr} : a ∈ fps.flatten ↔ Own fps a := by
  rw [List.mem_flatten]
  constructor
  · rintro ⟨p, hp, ha⟩
    obtain ⟨i, hi⟩ := List.mem_iff_getElem?.mp hp
    exact ⟨i, p, hi, ha⟩
  · rintro ⟨i, p, hi, ha⟩
    exact ⟨p, List.mem_of_getElem? hi, ha⟩
theorem own_nil {a : Addr} : ¬ Own [] a := fun ⟨i, p, h, _⟩ => by simp at h
theorem own_cons {p : List Addr} {fps : List (List Addr)} {a : Addr} : Own (p :: fps) a ↔ a ∈ p ∨ Own fps a := by
  rw [← own_flat, ← own_flat, List.flatten_cons, List.mem_append]
theorem own_app {fps gps : List (List Addr)} {a : Addr} : Own (fps ++ gps) a ↔ Own fps a ∨ Own gps a := by
  rw [← own_flat, ← own_flat, ← own_flat, List.flatten_append, List.mem_append]
theorem own_set {fps : List (List Addr)} {i : Nat} {x : List Addr} {a : Addr} (h : Own (fps.set i x) a) : a ∈ x ∨ ∃ (j : Nat) (p : List Addr), j ≠ i ∧ fps[j]? = some p ∧ a ∈ p := by
  obtain ⟨j, p, hj, ha⟩ := h
  by_cases e : i = j
  · subst e
    by_cases hl : i < fps.length
    · rw [List.getElem?_set_self hl] at hj
      cases hj; exact .inl ha
    · rw [List.getElem?_eq_none (by rw [List.length_set]; omega)] at hj; cases hj
  · rw [List.getElem?_set_ne e] at hj
    exact .inr ⟨j, p, fun z => e z.symm, hj, ha⟩
theorem Dj.set {fps : List (List Addr)} (d : Dj fps) {i : Nat} {x : List Addr} (hx : x.Nodup) (h : ∀ a ∈ x, ∀ (j : Nat) (q : List Addr), j ≠ i → fps[j]? = some q → a ∉ q) : Dj (fps.set i x) := by
  have at_ : ∀ (j : Nat) (p : List Addr), (fps.set i x)[j]? = some p → (j = i ∧ p = x) ∨ (j ≠ i ∧ fps[j]? = some p) := fun j p hj => by
    by_cases e : i = j
    · subst e
      by_cases hl : i < fps.length
      · rw [List.getElem?_set_self hl] at hj
        cases hj; exact .inl ⟨rfl, rfl⟩
      · rw [List.getElem?_eq_none (by rw [List.length_set]; omega)] at hj; cases hj
    · rw [List.getElem?_set_ne e] at hj
      exact .inr ⟨fun z => e z.symm, hj⟩
  refine ⟨fun j p hj => ?_, fun j k p q hj hk hne a ha hq => ?_⟩
  · rcases at_ j p hj with ⟨_, e⟩ | ⟨_, e⟩
    · rw [e]; exact hx
    · exact d.one j p e
  · rcases at_ j p hj with ⟨e1, e2⟩ | ⟨n1, e1⟩
    · rcases at_ k q hk with ⟨f1, f2⟩ | ⟨m1, f1⟩
      · exact hne (e1.trans f1.symm)
      · subst e2; exact h a ha k q m1 f1 hq
    · rcases at_ k q hk with ⟨f1, f2⟩ | ⟨m1, f1⟩
      · subst f2; exact h a hq j p n1 e1 ha
      · exact d.two j k p q e1 f1 hne a ha hq
theorem Dj.nil : Dj [] := ⟨fun i p h => by simp at h, fun i j p q h => by simp at h⟩
theorem Dj.cons {p : List Addr} {fps : List (List Addr)} : Dj (p :: fps) ↔ p.Nodup ∧ (∀ a ∈ p, ¬ Own fps a) ∧ Dj fps := by
  constructor
  · intro d
    exact ⟨d.one 0 p rfl, fun a ha ⟨j, q, hj, hq⟩ => d.two 0 (j + 1) p q rfl (by simpa using hj) (by omega) a ha hq,
      ⟨fun i q h => d.one (i + 1) q (by simpa using h), fun i j q r h1 h2 ne => d.two (i + 1) (j + 1) q r (by simpa using h1) (by simpa using h2) (by omega)⟩⟩
  · rintro ⟨h1, h2, d⟩
    refine ⟨fun i q h => ?_, fun i j q r hi hj ne a ha hr => ?_⟩
    · cases i with
      | zero => cases h; exact h1
      | succ i => exact d.one i q (by simpa using h)
    · cases i with
      | zero =>
        cases hi
        cases j with
        | zero => exact ne rfl
        | succ j => exact h2 a ha ⟨j, r, by simpa using hj, hr⟩
      | succ i =>
        cases j with
        | zero => cases hj; exact h2 a hr ⟨i, q, by simpa using hi, ha⟩
        | succ j => exact d.two i j q r (by simpa using hi) (by simpa using hj) (by omega) a ha hr
theorem Dj.app : ∀ {fps gps : List (List Addr)}, Dj (fps ++ gps) ↔ Dj fps ∧ Dj gps ∧ ∀ a, Own fps a → ¬ Own gps a
  | [], gps => ⟨fun d => ⟨Dj.nil, d, fun a h => absurd h own_nil⟩, fun d => d.2.1⟩
  | p :: fps, gps => by
    rw [List.cons_append, Dj.cons, Dj.cons, Dj.app]
    constructor
    · rintro ⟨h1, h2, h3, h4, h5⟩
      exact ⟨⟨h1, fun a ha z => h2 a ha (own_app.mpr (.inl z)), h3⟩, h4, fun a ha => by
        rcases own_cons.mp ha with ha | ha
        · exact fun z => h2 a ha (own_app.mpr (.inr z))
        · exact h5 a ha⟩
    · rintro ⟨⟨h1, h2, h3⟩, h4, h5⟩
      exact ⟨h1, fun a ha z => by
        rcases own_app.mp z with z | z
        · exact h2 a ha z
        · exact h5 a (own_cons.mpr (.inl ha)) z, h3, h4, fun a ha => h5 a (own_cons.mpr (.inr ha))⟩
def XRep (Γ : Ga) (H : Hp) (N : Addr → Prop) (C : Nat) (ds : List D) (cls : Value) (dd : Option Addr) : Prop :=
  Γ.fN C ≠ [] ∧ ∃ d fs vs fps, cls = .ref (Γ.cA C) ∧ dd = some d ∧ H d = some (.xd fs) ∧ ROs Γ H N ds vs fps ∧ (∀ p ∈ fps, p = []) ∧ ∀ (i : Nat) (f : Str) (v : V), (Γ.fN C)[i]? = some f → vs[i]? = some v → fs.lookup f = some v
theorem OwnO.nxd {H : Hp} {a : Addr} {fs : List (Str × V)} (h : OwnO H a) : H a ≠ some (.xd fs) := fun z => by
  obtain ⟨xs, e⟩ := h; rw [e] at z; cases z
theorem XRep.keep {Γ : Ga} {H H' : Hp} {M N N' : Addr → Prop} {C : Nat} {ds : List D} {cls : Value} {dd : Option Addr} (x : XRep Γ H N C ds cls dd) (k : Kp H H' M N N') : XRep Γ H' N' C ds cls dd := by
  obtain ⟨hn, d, fs, vs, fps, e1, e2, h, r, hf, l⟩ := x
  refine ⟨hn, d, fs, vs, fps, e1, e2, k.keep _ _ h fun m => (k.ownM _ m).nxd h, r.keep k fun a ha => ?_, hf, l⟩
  rw [flat_nil hf] at ha; cases ha
def XO (Γ : Ga) (H : Hp) (N : Addr → Prop) (σ : L2.St) : Prop := ∀ x, Γ.xc = some x → (∀ i, x.i = some i → σ[i]? = some (some (.ref x.a))) ∧ XRep Γ H N x.C x.ds x.cls x.dd
theorem XO.keep {Γ : Ga} {H H' : Hp} {M N N' : Addr → Prop} {σ : L2.St} (x : XO Γ H N σ) (k : Kp H H' M N N') : XO Γ H' N' σ := fun y h => ⟨(x y h).1, (x y h).2.keep k⟩
theorem XO.weak {Γ : Ga} {H : Hp} {N N' : Addr → Prop} {σ : L2.St} (x : XO Γ H N σ) (h : ∀ a, N' a → N a) : XO Γ H N' σ := x.keep (Kp.id h)
theorem XO.cold {Γ : Ga} {H : Hp} {N : Addr → Prop} {σ : L2.St} (h : Γ.xc = none) : XO Γ H N σ := fun y e => by rw [h] at e; cases e
structure Sta (Γ : Ga) (H : Hp) (A : Addr → Prop) (en : Env) (σ : L2.St) (fps : List (List Addr)) : Prop where
  rs : RSs Γ H (fun a => A a ∨ Own fps a) en σ fps
  dj : Dj fps
  ap : ∀ a, Own fps a → ¬ A a
  dom : ∀ a, A a → H a ≠ none
  xo : XO Γ H (fun a => A a ∨ Own fps a) σ
section
variable {Γ : Ga} {H H' : Hp} {A : Addr → Prop} {en en' : Env} {σ σ' : L2.St} {fps gps : List (List Addr)} {o : Option D} {w : Option V} {p : List Addr}
theorem Sta.own (s : Sta Γ H A en σ fps) {a : Addr} (h : Own fps a) : OwnO H a := s.rs.ownd a (own_flat.mpr h)
theorem Sta.dom' (s : Sta Γ H A en σ fps) {a : Addr} (h : A a ∨ Own fps a) : H a ≠ none := by
  rcases h with h | h
  · exact s.dom a h
  · obtain ⟨xs, e⟩ := s.own h
    rw [e]; simp
theorem Sta.rest (hc : Γ.xc = none) (s : Sta Γ H A (o :: en) (w :: σ) (p :: fps)) : Sta Γ H (fun a => A a ∨ a ∈ p) en σ fps := by
  obtain ⟨h1, h2, h3⟩ := Dj.cons.mp s.dj
  refine ⟨s.rs.2.weak fun a z => ?_, h3, fun a ha z => ?_, fun a z => ?_, XO.cold hc⟩
  · rcases z with (z | z) | z
    · exact .inl z
    · exact .inr (own_cons.mpr (.inl z))
    · exact .inr (own_cons.mpr (.inr z))
  · rcases z with z | z
    · exact s.ap a (own_cons.mpr (.inr ha)) z
    · exact h2 a z ha
  · rcases z with z | z
    · exact s.dom a z
    · exact s.dom' (.inr (own_cons.mpr (.inl z)))
theorem Sta.weak {A' : Addr → Prop} (s : Sta Γ H A en σ fps) (h : ∀ a, A' a → A a) : Sta Γ H A' en σ fps :=
  ⟨s.rs.weak fun a z => z.elim (fun z => .inl (h a z)) .inr, s.dj, fun a ha z => s.ap a ha (h a z), fun a z => s.dom a (h a z), s.xo.weak fun a z => z.elim (fun z => .inl (h a z)) .inr⟩
end
structure Fr (s : Bool) (H H' : Hp) (M O O' : Addr → Prop) : Prop where
  keep : ∀ a u, H a = some u → (s = true ∨ ¬ M a) → H' a = some u
  there : ∀ a, H a ≠ none → H' a ≠ none
  new : ∀ a, O' a → O a ∨ H a = none
section
variable {Γ : Ga} {H H' H1 H2 : Hp} {A A1 : Addr → Prop} {en en' en1 en2 : Env} {σ σ' : L2.St} {fps fps' fps1 fps2 gps ps ps1 ps2 : List (List Addr)} {o : Option D} {w : Option V} {p : List Addr} {s s1 s2 : Bool} {M M1 O O1 O2 : Addr → Prop}
theorem Fr.refl : Fr s H H M O O := ⟨fun _ _ h _ => h, fun _ h => h, fun _ h => .inl h⟩
theorem Fr.less {s' : Bool} (f : Fr s H H' M O O1) (h : s' = true → s = true) : Fr s' H H' M O O1 := ⟨fun a u e z => f.keep a u e (z.imp h id), f.there, f.new⟩
theorem Fr.trans (f : Fr s1 H H1 M O O1) (g : Fr s2 H1 H2 M1 O1 O2) (hm : ∀ a, M1 a → M a ∨ H a = none) : Fr (s1 && s2) H H2 M O O2 := by
  refine ⟨fun a u e z => ?_, fun a h => g.there a (f.there a h), fun a z => ?_⟩
  · have z1 : s1 = true ∨ ¬ M a := z.imp (fun h => (Bool.and_eq_true_iff.mp h).1) id
    refine g.keep a u (f.keep a u e z1) ?_
    rcases z with z | z
    · exact .inl (Bool.and_eq_true_iff.mp z).2
    · right
      intro h
      rcases hm a h with h | h
      · exact z h
      · rw [e] at h; cases h
  · rcases g.new a z with z | z
    · exact f.new a z
    · by_cases h : H a = none
      · exact .inr h
      · exact absurd z (f.there a h)
abbrev Nn (A : Addr → Prop) (fps : List (List Addr)) : Addr → Prop := fun a => A a ∨ Own fps a
theorem nn_app : Nn (Nn A ps1) ps2 = Nn A (ps1 ++ ps2) := by
  funext a
  exact propext ⟨fun h => h.elim (fun h => h.elim .inl fun h => .inr (own_app.mpr (.inl h))) fun h => .inr (own_app.mpr (.inr h)), fun h => h.elim (fun h => .inl (.inl h)) fun h => (own_app.mp h).elim (fun h => .inl (.inr h)) .inr⟩
theorem nn_nil : Nn A [] = A := by
  funext a
  exact propext ⟨fun h => h.elim id fun h => absurd h own_nil, .inl⟩
structure Aft (Γ : Ga) (b s : Bool) (H : Hp) (A : Addr → Prop) (fps : List (List Addr)) (σ : L2.St) (ds : List D) (vs : List V) (H' : Hp) (en' : Env) (ps fps' : List (List Addr)) : Prop where
  sta : Sta Γ H' (Nn A ps) en' σ fps'
  ro : ∃ gps, (b = false → gps = ps) ∧ ROs Γ H' (Nn (Nn A ps) fps') ds vs gps
  dj : Dj ps
  ap : ∀ a, Own ps a → ¬ A a
  fr : Fr s H H' (Own fps) (Nn A fps) (Nn (Nn A ps) fps')
variable {ds ds1 ds2 : List D} {vs vs1 vs2 : List V} {b b1 b2 : Bool} {d : D} {v : V}
theorem Sta.kp (st : Sta Γ H A en σ fps) (f : Fr s H H' (Own fps) (Nn A fps) O1) : Kp H H' (Own fps) (Nn A fps) O1 :=
  ⟨fun a u e n => f.keep a u e (.inr n), fun a h => st.own h, fun a h => .inr h, f.new⟩
theorem Sta.kpS (st : Sta Γ H A en σ fps) (f : Fr true H H' (Own fps) (Nn A fps) O1) : Kp H H' (fun _ => False) (Nn A fps) O1 :=
  ⟨fun a u e n => f.keep a u e (.inl rfl), fun a h => h.elim, fun a h => h.elim, f.new⟩
theorem Sta.olds (st1 : Sta Γ H1 (Nn A ps1) en1 σ fps1) (f : Fr s H H1 (Own fps) (Nn A fps) (Nn (Nn A ps1) fps1)) : ∀ a, Own fps1 a → Own fps a ∨ H a = none := fun a h => by
  rcases f.new a (.inr h) with (z | z) | z
  · exact absurd (Or.inl z) (st1.ap a h)
  · exact .inl z
  · exact .inr z
theorem Fr.chain (st1 : Sta Γ H1 (Nn A ps1) en1 σ fps1) (f : Fr s1 H H1 (Own fps) (Nn A fps) (Nn (Nn A ps1) fps1)) (g : Fr s2 H1 H2 (Own fps1) (Nn (Nn A ps1) fps1) O2) : Fr (s1 && s2) H H2 (Own fps) (Nn A fps) O2 :=
  f.trans g (st1.olds f)
theorem Aft.nil (st : Sta Γ H A en σ fps) : Aft Γ b s H A fps σ [] [] H en [] fps :=
  ⟨st.weak fun a z => by rw [nn_nil] at z; exact z, ⟨[], fun _ => rfl, True.intro⟩, Dj.nil, fun a h => absurd h own_nil, ⟨fun _ _ e _ => e, fun _ h => h, fun a h => .inl (by rw [nn_nil] at h; exact h)⟩⟩
theorem Aft.toB (a : Aft Γ false s H A fps σ ds vs H' en' ps fps') : Aft Γ true s H A fps σ ds vs H' en' ps fps' := by
  obtain ⟨gps, e, r⟩ := a.ro
  exact ⟨a.sta, ⟨gps, (fun z => nomatch z), r⟩, a.dj, a.ap, a.fr⟩
theorem Aft.anyB (a : Aft Γ false s H A fps σ ds vs H' en' ps fps') : Aft Γ b s H A fps σ ds vs H' en' ps fps' := by
  cases b with
  | false => exact a
  | true => exact a.toB
theorem Aft.less {s' : Bool} (a : Aft Γ b s H A fps σ ds vs H' en' ps fps') (h : s' = true → s = true) : Aft Γ b s' H A fps σ ds vs H' en' ps fps' := ⟨a.sta, a.ro, a.dj, a.ap, a.fr.less h⟩
theorem Aft.cat (x : Aft Γ b1 s1 H A fps σ ds1 vs1 H1 en1 ps1 fps1) (y : Aft Γ b2 s2 H1 (Nn A ps1) fps1 σ ds2 vs2 H2 en2 ps2 fps2) (h : b1 = true → s2 = true ∧ b = true) (hb : b2 = true → b = true) :
    Aft Γ b (s1 && s2) H A fps σ (ds1 ++ ds2) (vs1 ++ vs2) H2 en2 (ps1 ++ ps2) fps2 := by
  obtain ⟨gps1, e1, r1⟩ := x.ro
  obtain ⟨gps2, e2, r2⟩ := y.ro
  have hr : ROs Γ H2 (Nn (Nn (Nn A ps1) ps2) fps2) ds1 vs1 gps1 := by
    cases b1 with
    | true =>
      obtain ⟨hs, _⟩ := h rfl
      subst hs
      exact r1.keep (x.sta.kpS y.fr) fun _ _ z => z
    | false =>
      refine r1.keep (x.sta.kp y.fr) fun a ha z => ?_
      rw [e1 rfl] at ha
      exact x.sta.ap a z (.inr (own_flat.mp ha))
  refine ⟨by rw [← nn_app]; exact y.sta, ⟨gps1 ++ gps2, fun z => ?_, by rw [← nn_app]; exact hr.append r2⟩, Dj.app.mpr ⟨x.dj, y.dj, fun a h1 h2 => y.ap a h2 (.inr h1)⟩, fun a ha => ?_, ?_⟩
  · have z1 : b1 = false := by cases b1 with
      | false => rfl
      | true => rw [(h rfl).2] at z; cases z
    have z2 : b2 = false := by cases b2 with
      | false => rfl
      | true => rw [hb rfl] at z; cases z
    rw [e1 z1, e2 z2]
  · rcases own_app.mp ha with ha | ha
    · exact x.ap a ha
    · exact fun z => y.ap a ha (.inl z)
  · rw [← nn_app]
    exact Fr.chain x.sta x.fr y.fr
theorem Aft.made {Q : VK} (x : Aft Γ b1 s H A fps σ ds1 vs1 H1 en1 ps1 fps1) (q : ∀ v H' ps, Aft Γ b s H A fps σ [d] [v] H' en1 ps fps1 → Q v H') : Made Γ H1 (Nn (Nn A ps1) fps1) d Q := fun v H' fp k nw nd r => by
  have kk : Kp H1 H' (fun _ => False) (Nn (Nn A ps1) fps1) (Nn (Nn A [fp]) fps1) := Kp.grow0 k fun a z => by
    rcases z with (z | z) | z
    · exact .inl (.inl (.inl z))
    · rcases own_cons.mp z with z | z
      · exact .inr (nw a z)
      · exact absurd z own_nil
    · exact .inl (.inr z)
  have one : ∀ a, Own [fp] a → a ∈ fp := fun a z => (own_cons.mp z).elim id fun z => absurd z own_nil
  have there : ∀ a, H1 a ≠ none → H' a ≠ none := fun a h => by
    obtain ⟨u, e⟩ := Option.ne_none_iff_exists'.mp h
    rw [k a u e]; simp
  refine q v H' [fp] (Aft.anyB ⟨⟨x.sta.rs.keep kk fun _ _ z => z, x.sta.dj, fun a ha z => ?_, fun a z => ?_, x.sta.xo.keep kk⟩, ⟨[fp], fun _ => rfl, r.weak fun a z => ?_, True.intro⟩, Dj.cons.mpr ⟨nd, fun a _ => own_nil, Dj.nil⟩, fun a ha z => ?_, ⟨fun a u e z => k a u (x.fr.keep a u e z), fun a h => there a (x.fr.there a h), fun a z => ?_⟩⟩)
  · rcases z with z | z
    · exact x.sta.ap a ha (.inl z)
    · exact x.sta.dom' (.inr ha) (nw a (one a z))
  · rcases z with z | z
    · exact there a (x.sta.dom a (.inl z))
    · obtain ⟨xs, e⟩ := r.ownd a (one a z)
      rw [e]; simp
  · rcases z with (z | z) | z
    · exact .inl (.inl (.inl z))
    · exact .inr (one a z)
    · exact .inl (.inr z)
  · exact x.sta.dom a (.inl z) (nw a (one a ha))
  · rcases z with (z | z) | z
    · exact x.fr.new a (.inl (.inl z))
    · have hn := nw a (one a z)
      by_cases h : H a = none
      · exact .inr h
      · exact absurd hn (x.fr.there a h)
    · exact x.fr.new a (.inr z)
theorem own_e {a : Addr} : ¬ Own [[]] a := fun h => (own_cons.mp h).elim (fun z => by cases z) own_nil
theorem nn_e : Nn A [[]] = A := by
  funext a
  exact propext ⟨fun h => h.elim id fun h => absurd h own_e, .inl⟩
theorem Aft.part (x : Aft Γ b1 s H A fps σ ds1 vs1 H1 en1 ps1 fps1) {fp : List Addr} (r : RO Γ H1 (Nn (Nn A ps1) fps1) d v fp) (h : own d = true → b = true) : Aft Γ b s H A fps σ [d] [v] H1 en1 [[]] fps1 := by
  have w : ∀ a, Nn (Nn A [[]]) fps1 a → Nn (Nn A ps1) fps1 a := fun a z => by
    rw [nn_e] at z
    exact z.elim (fun z => .inl (.inl z)) .inr
  refine ⟨x.sta.weak fun a z => by rw [nn_e] at z; exact .inl z, ?_, Dj.cons.mpr ⟨List.nodup_nil, (fun a h => nomatch h), Dj.nil⟩, fun a h => absurd h own_e, ⟨x.fr.keep, x.fr.there, fun a z => x.fr.new a (w a z)⟩⟩
  cases ho : own d with
  | true => exact ⟨[fp], fun z => (nomatch ((h ho).symm.trans z)), r.weak w, True.intro⟩
  | false =>
    have e := r.noOwn ho
    subst e
    exact ⟨[[]], fun z => rfl, r.weak w, True.intro⟩
theorem Aft.one (x : Aft Γ b s H A fps σ [d] [v] H1 en1 ps1 fps1) : ∃ fp, RO Γ H1 (Nn (Nn A ps1) fps1) d v fp ∧ (b = false → ps1 = [fp]) := by
  obtain ⟨gps, e, r⟩ := x.ro
  match gps, r with
  | [], r => exact r.elim
  | [fp], r => exact ⟨fp, r.1, fun z => (e z).symm⟩
  | _ :: _ :: _, r => exact r.2.elim
theorem Aft.fz (x : Aft Γ b1 s H A fps σ ds vs H1 en1 ps1 fps1) (hb : b1 = false) : Aft Γ b s H A fps σ (fzs ds) vs H1 en1 (ds.map fun _ => []) fps1 := by
  subst hb
  obtain ⟨gps, e, r⟩ := x.ro
  rw [e rfl] at r
  have w : ∀ a, Nn A fps1 a → Nn (Nn A ps1) fps1 a := fun a z => z.elim (fun z => .inl (.inl z)) .inr
  obtain ⟨qs, rq, hq⟩ := ROs.fz r w fun a ha z => by
    have ho := own_flat.mp ha
    rcases z with z | z
    · exact x.ap a ho z
    · exact x.sta.ap a z (.inr ho)
  have ln := ROs.length rq
  have eq : qs = ds.map fun _ => [] := by
    apply List.ext_getElem?
    intro i
    rw [List.getElem?_map]
    by_cases hi : i < qs.length
    · have l : i < ds.length := by
        rw [ln.2] at hi
        have : (fzs ds).length = ds.length := by
          clear x r rq e ln hi
          induction ds with
          | nil => rfl
          | cons d ds ih => simp [fzs, ih]
        omega
      rw [List.getElem?_eq_getElem hi, List.getElem?_eq_getElem l, hq _ (List.getElem_mem hi)]
      rfl
    · have l : ¬ i < ds.length := by
        rw [ln.2] at hi
        have : (fzs ds).length = ds.length := by
          clear x r rq e ln hi
          induction ds with
          | nil => rfl
          | cons d ds ih => simp [fzs, ih]
        omega
      rw [List.getElem?_eq_none (by omega), List.getElem?_eq_none (by omega)]
      rfl
  have no : ∀ a, ¬ Own (ds.map fun _ => ([] : List Addr)) a := fun a z => by
    have := own_flat.mpr z
    rw [flat_nil (fun p hp => by simp at hp; exact hp.2)] at this
    cases this
  have nA : Nn A (ds.map fun _ => ([] : List Addr)) = A := by
    funext a
    exact propext ⟨fun h => h.elim id fun h => absurd h (no a), .inl⟩
  refine ⟨x.sta.weak fun a z => by rw [nA] at z; exact .inl z, ⟨qs, fun _ => eq, by rw [nA]; exact rq⟩, ?_, fun a h => absurd h (no a), ⟨x.fr.keep, x.fr.there, fun a z => x.fr.new a (by rw [nA] at z; exact w a z)⟩⟩
  exact ⟨fun i p hp => by
    have := List.mem_of_getElem? hp
    simp at this
    rw [this.2]; exact List.nodup_nil, fun i j p q hp hq' ne a ha => by
    have := List.mem_of_getElem? hp
    simp at this
    rw [this.2] at ha; cases ha⟩
variable {i : Nat}
theorem Sta.getB (st : Sta Γ H A en σ fps) (h : get en i = some d) : ∃ v, σ[i]? = some (some v) ∧ Aft Γ true s H A fps σ [d] [v] H en [[]] fps := by
  obtain ⟨v, fp, e, ef, r⟩ := RSs.at st.rs h
  exact ⟨v, e, Aft.part (Aft.nil (b := false) st) (r.weak fun a z => by rw [nn_nil] at z; exact z) fun _ => rfl⟩
theorem get_lt (h : get en i = some d) : i < en.length := by
  by_cases l : i < en.length
  · exact l
  · unfold Q.get at h
    rw [List.getElem?_eq_none (by omega)] at h; cases h
theorem Sta.take (st : Sta Γ H A en σ fps) (h : get en i = some d) : ∃ v fp, σ[i]? = some (some v) ∧ Aft Γ false s H A fps σ [d] [v] H (en.set i none) [fp] (fps.set i []) := by
  obtain ⟨v, fp, e, ef, r⟩ := RSs.at st.rs h
  have sub : ∀ a, Nn (Nn A [fp]) (fps.set i []) a → Nn A fps a := fun a z => by
    rcases z with (z | z) | z
    · exact .inl z
    · rcases own_cons.mp z with z | z
      · exact .inr ⟨i, fp, ef, z⟩
      · exact absurd z own_nil
    · rcases own_set z with z | ⟨j, p, _, hj, ha⟩
      · cases z
      · exact .inr ⟨j, p, hj, ha⟩
  have ofp : ∀ a, Own [fp] a → a ∈ fp := fun a z => (own_cons.mp z).elim id fun z => absurd z own_nil
  refine ⟨v, fp, e, ⟨⟨(RSs.setE (o := none) (fp := []) st.rs e rfl).weak sub, st.dj.set List.nodup_nil (fun a h => nomatch h), fun a ha z => ?_, fun a z => ?_, st.xo.weak sub⟩, ⟨[fp], fun _ => rfl, r.weak sub, True.intro⟩,
    Dj.cons.mpr ⟨st.dj.one i fp ef, fun a _ => own_nil, Dj.nil⟩, fun a ha => st.ap a ⟨i, fp, ef, ofp a ha⟩, ⟨fun _ _ e _ => e, fun _ h => h, fun a z => .inl (sub a z)⟩⟩⟩
  · rcases own_set ha with h | ⟨j, p, hj, hp, ha'⟩
    · cases h
    · rcases z with z | z
      · exact st.ap a ⟨j, p, hp, ha'⟩ z
      · exact st.dj.two j i p fp hp ef hj a ha' (ofp a z)
  · rcases z with z | z
    · exact st.dom a z
    · exact st.dom' (.inr ⟨i, fp, ef, ofp a z⟩)
theorem fz1 : fzs [d] = [Q.fz d] := rfl
theorem Sta.ice (st : Sta Γ H A en σ fps) (h : get en i = some d) : ∃ v, σ[i]? = some (some v) ∧ Aft Γ b s H A fps σ [Q.fz d] [v] H (en.set i (some (Q.fz d))) [[]] (fps.set i []) := by
  obtain ⟨v, fp, e, x⟩ := st.take (s := s) h
  have y := x.fz (b := b) rfl
  refine ⟨v, e, ?_⟩
  obtain ⟨gps, eg, r⟩ := y.ro
  obtain ⟨fp', rr⟩ : ∃ fp', RO Γ H (Nn (Nn A [[]]) (fps.set i [])) (Q.fz d) v fp' := by
    match gps, r with
    | [], r => exact r.elim
    | q :: _, r => exact ⟨q, r.1⟩
  have hn := rr.noOwn (by cases d <;> rfl)
  subst hn
  have rs' := RSs.setE (i := i) (o := some (Q.fz d)) (w := some v) (fp := []) y.sta.rs e ⟨v, rfl, rr⟩
  rw [List.set_set, List.set_set] at rs'
  exact ⟨⟨rs', y.sta.dj, y.sta.ap, y.sta.dom, y.sta.xo⟩, ⟨[[]], fun _ => rfl, rr, True.intro⟩, Dj.cons.mpr ⟨List.nodup_nil, (fun a h => nomatch h), Dj.nil⟩, fun a h => absurd h own_e, y.fr⟩
end
end Q
end
section
set_option Elab.async false
set_option linter.all false
set_option autoImplicit false
set_option maxRecDepth 100000
namespace Q
open PySem PySem.Spec PyProof.Rows L2
def Got {α : Type} (r : Res α) (k : α → Env → Prop) (x : Nat → List D → Env → Prop) : Prop := match r with
  | .st => False
  | .ok a en => k a en
  | .ex C ds en => x C ds en
theorem got_bind {α β : Type} {r : Res α} {f : α → Env → Res β} {k : β → Env → Prop} {x : Nat → List D → Env → Prop} : Got (r.bind f) k x = Got r (fun a en => Got (f a en) k x) x := by
  cases r <;> rfl
theorem Got.imp {α : Type} {r : Res α} {k k' : α → Env → Prop} {x x' : Nat → List D → Env → Prop} (g : Got r k x) (h : ∀ a en, k a en → k' a en) (h' : ∀ C ds en, x C ds en → x' C ds en) : Got r k' x' := by
  cases r with
  | st => exact g
  | ok a en => exact h _ _ g
  | ex C ds en => exact h' _ _ _ g
theorem got_calm {α : Type} {r : Res α} {k : α → Env → Prop} {x x' : Nat → List D → Env → Prop} (g : Got r.calm k x) : Got r k x' := by
  cases r with
  | st => exact g
  | ok a en => exact g
  | ex C ds en => exact g.elim
theorem got_op {α : Type} {o : Option α} {en : Env} {k : α → Env → Prop} {x : Nat → List D → Env → Prop} (g : Got (op o en) k x) : ∃ a, o = some a ∧ k a en := by
  cases o with
  | none => exact g.elim
  | some a => exact ⟨a, rfl, g⟩
structure AftX (Γ : Ga) (H : Hp) (A : Addr → Prop) (fps : List (List Addr)) (σ : L2.St) (C : Nat) (ds : List D) (cls : Value) (dd : Option Addr) (H' : Hp) (en' : Env) (fps' : List (List Addr)) : Prop where
  sta : Sta Γ H' A en' σ fps'
  xr : XRep Γ H' (Nn A fps') C ds cls dd
  fr : Fr false H H' (Own fps) (Nn A fps) (Nn A fps')
theorem Fr.weakNew {s : Bool} {H H' : Hp} {M O O1 O2 : Addr → Prop} (f : Fr s H H' M O O1) (h : ∀ a, O2 a → O1 a) : Fr s H H' M O O2 := ⟨f.keep, f.there, fun a z => f.new a (h a z)⟩
theorem AftX.pre {Γ : Ga} {b s : Bool} {H H1 H2 : Hp} {A : Addr → Prop} {fps ps1 fps1 fps2 : List (List Addr)} {σ : L2.St} {ds1 ds : List D} {vs1 : List V} {en1 en2 : Env} {C : Nat} {cls : Value} {dd : Option Addr}
    (x : Aft Γ b s H A fps σ ds1 vs1 H1 en1 ps1 fps1) (y : AftX Γ H1 (Nn A ps1) fps1 σ C ds cls dd H2 en2 fps2) : AftX Γ H A fps σ C ds cls dd H2 en2 fps2 := by
  have w : ∀ a, Nn A fps2 a → Nn (Nn A ps1) fps2 a := fun a z => z.elim (fun z => .inl (.inl z)) .inr
  exact ⟨y.sta.weak fun a z => .inl z, y.xr.keep (Kp.id w), ((Fr.chain x.sta x.fr y.fr).less (s' := false) fun z => nomatch z).weakNew w⟩
section
variable (P : Prog) (cf : CF) (xc : Option (Nat × List D)) (Γ : Ga) (Wx : WX)
abbrev XW (H : Hp) (A : Addr → Prop) (fps : List (List Addr)) (σ : L2.St) : Nat → List D → Env → Prop := fun C ds en' => ∀ cls dd H' fps', AftX Γ H A fps σ C ds cls dd H' en' fps' → Wx cls dd σ H'
def tA (b : Bool) (e : E) : TE := fun σ H Q => ∃ A en fps, Sta Γ H A en σ fps ∧ Got (ev P cf xc b e en)
  (fun d en' => ∀ v H' ps fps', Aft Γ b (simpE e) H A fps σ [d] [v] H' en' ps fps' → Q v H') (XW Γ Wx H A fps σ)
def tT (b : Bool) (e : E) : TT := fun σ H Q => ∃ A en fps, Sta Γ H A en σ fps ∧ Got (ev P cf xc b e en)
  (fun d en' => ∀ v H' ps fps', Aft Γ b (simpE e) H A fps σ [d] [v] H' en' ps fps' → Q (truthy d) H') (XW Γ Wx H A fps σ)
def tAs (es : List E) : TA := fun σ H Q => ∃ A en fps, Sta Γ H A en σ fps ∧ Got (evs P cf xc es en)
  (fun ds en' => ∀ vs H' ps fps', Aft Γ false (simpEs es) H A fps σ ds vs H' en' ps fps' → Q vs H') (XW Γ Wx H A fps σ)
def tBs (es : List E) : TA := fun σ H Q => ∃ A en fps, Sta Γ H A en σ fps ∧ Got (evsB P cf xc es en)
  (fun ds en' => ∀ vs H' ps fps', Aft Γ true (simpEs es) H A fps σ ds vs H' en' ps fps' → Q vs H') (XW Γ Wx H A fps σ)
def Sel (σ : L2.St) : List E → List V → List V → Prop
  | [], [], [] => True
  | e :: es, v0 :: vs0, v :: vs => (match e with
    | .va i => σ[i]? = some (some v)
    | _ => v = v0) ∧ Sel σ es vs0 vs
  | _, _, _ => False
def tCs (es : List E) : TA := fun σ H Q => ∃ A en fps, Sta Γ H A en σ fps ∧ Got (evs P cf xc es en)
  (fun ds en' => ∀ vs0 vs H' ps fps', Aft Γ false (simpEs es) H A fps σ ds vs0 H' en' ps fps' → Sel σ es vs0 vs → Q vs H') (XW Γ Wx H A fps σ)
end
section
variable {P : Prog} {cf : CF} {xc : Option (Nat × List D)} {Γ : Ga} {Wx : WX} {X : Cx} {pa pb pc : Expr} {a e e' : E} {b : Bool} {pos : Pos}
theorem _root_.L2.PE.imp {p : Expr} {t t' : TE} (h : PE X p t) (i : ∀ σ H Q, t' σ H Q → t σ H Q) : PE X p t' := ⟨fun pins s σ H Q I q => h.run pins s σ H Q I (i _ _ _ q)⟩
theorem _root_.L2.PT.imp {p : Expr} {t t' : TT} (h : PT X p t) (i : ∀ σ H Q, t' σ H Q → t σ H Q) : PT X p t' := ⟨fun pins s σ H Q I q => h.run pins s σ H Q I (i _ _ _ q)⟩
theorem _root_.L2.PA.imp {p : List Expr} {t t' : TA} (h : PA X p t) (i : ∀ σ H Q, t' σ H Q → t σ H Q) : PA X p t' := ⟨fun ps pins s σ H Q I q => h.run ps pins s σ H Q I (i _ _ _ q)⟩
theorem two_ok {o : D → D → Option D} {r : R2} {a e : E} {f : Bool → E}
    (hf : ∀ en, ev P cf xc b (f b) en = (ev P cf xc (simpE e) a en).bind fun x en => (ev P cf xc true e en).bind fun y en => op (o x y) en) (hs : simpE (f b) = (simpE a && simpE e))
    (ok : ∀ {H : Hp} {N : Addr → Prop} {x y d : D} {vx vy : V} {fx fy : List Addr} {Q : VK}, o x y = some d → RO Γ H N x vx fx → RO Γ H N y vy fy → Made Γ H N d Q → r vx vy H Q) :
    ∀ σ H Q, (tA P cf xc Γ Wx) b (f b) σ H Q → tOp r ((tA P cf xc Γ Wx) (simpE e) a) ((tA P cf xc Γ Wx) true e) σ H Q := by
  rintro σ H Q ⟨A, en, fps, st, g⟩
  rw [hf, got_bind] at g
  refine ⟨A, en, fps, st, g.imp (fun x en1 g v1 H1 ps1 fps1 a1 => ?_) fun _ _ _ g => g⟩
  rw [got_bind] at g
  refine ⟨_, en1, fps1, a1.sta, g.imp (fun y en2 g v2 H2 ps2 fps2 a2 => ?_) fun C ds en2 g cls dd H2 fps2 y => g _ _ _ _ (AftX.pre a1 y)⟩
  obtain ⟨d, e', g⟩ := got_op g
  have z := a1.cat (b := true) a2 (fun z => ⟨z, rfl⟩) (fun _ => rfl)
  rw [← hs] at z
  obtain ⟨gps, _, rr⟩ := z.ro
  match gps, rr with
  | [f1, f2], rr => exact ok e' rr.1 rr.2.1 (z.made fun v H' ps a => g v H' ps _ a)
  | [], rr => exact rr.elim
  | [_], rr => exact rr.2.elim
  | _ :: _ :: _ :: _, rr => exact rr.2.2.elim
theorem pe_binQ (hK : X.K = Γ.K) {o : Bin} (ha : ∀ b, PE X pa ((tA P cf xc Γ Wx) b a)) (he : ∀ b, PE X pb ((tA P cf xc Γ Wx) b e)) : PE X (.BinOp pa (pyBin o) pb pos) ((tA P cf xc Γ Wx) b (.bin o a e)) :=
  (pe_op (op_bn o) (ha (simpE e)) (he true)).imp (by rw [hK]; exact two_ok (o := binop o) (f := fun _ => .bin o a e) (fun en => by rw [ev]) rfl bn_ok)
theorem pe_cmpQ (hK : X.K = Γ.K) (hu : X.A.units + 64 < cLine) {o : Cmp} (ha : ∀ b, PE X pa ((tA P cf xc Γ Wx) b a)) (he : ∀ b, PE X pb ((tA P cf xc Γ Wx) b e)) (hm : behindInMarks (pyCmp o) pb = false) : PE X (.Compare pa [pyCmp o] [pb] pos) ((tA P cf xc Γ Wx) b (.cmp o a e)) :=
  (pe_cmpR (op_cm hu o) (ha (simpE e)) (he true) hm).imp (by
    rw [hK]
    refine two_ok (o := fun x y => (cmpop o x y).map .bl) (f := fun _ => .cmp o a e) (fun en => by rw [ev]) rfl fun h rx ry m => ?_
    rename_i x y d vx vy fx fy Q
    cases c : cmpop o x y with
    | none => rw [c] at h; cases h
    | some k =>
      rw [c] at h; cases h
      exact cm_ok c rx ry m.bl)
theorem one_ok {o : D → Option D} {r : V → Hp → VK → Prop} {b1 : Bool} {a : E} {f : E} (hb : b1 = true)
    (hf : ∀ en, ev P cf xc b f en = (ev P cf xc b1 a en).bind fun x en => op (o x) en) (hs : simpE f = simpE a)
    (ok : ∀ {H : Hp} {N : Addr → Prop} {x d : D} {vx : V} {fx : List Addr} {Q : VK}, o x = some d → RO Γ H N x vx fx → Made Γ H N d Q → r vx H Q) :
    ∀ σ H Q, (tA P cf xc Γ Wx) b f σ H Q → tUn r ((tA P cf xc Γ Wx) b1 a) σ H Q := by
  rintro σ H Q ⟨A, en, fps, st, g⟩
  rw [hf, got_bind] at g
  refine ⟨A, en, fps, st, g.imp (fun x en1 g v1 H1 ps1 fps1 a1 => ?_) fun _ _ _ g => g⟩
  obtain ⟨d, e', g⟩ := got_op g
  obtain ⟨fp, rr, _⟩ := a1.one
  rw [hs] at g
  exact ok e' rr (a1.made fun v H' ps a => g v H' ps _ a)
theorem pe_negQ (ha : ∀ b, PE X pa ((tA P cf xc Γ Wx) b a)) : PE X (.UnaryOp .USub pa pos) ((tA P cf xc Γ Wx) b (.neg a)) :=
  (pe_un un_neg (ha true)).imp (one_ok (o := fun x => match x with | .int i => some (.int (-i)) | _ => none) rfl (fun en => by
    rw [ev]; congr 1; funext x en1; cases x <;> rfl) rfl fun {H N x d vx fx Q} h rx m => by
      cases x <;> first | (cases h; done) | skip
      cases h
      exact ⟨_, rx.1, m.int⟩)
theorem pe_notQ (hK : X.K = Γ.K) (ha : ∀ b, PE X pa ((tA P cf xc Γ Wx) b a)) : PE X (.UnaryOp .Not pa pos) ((tA P cf xc Γ Wx) b (.not a)) :=
  (pe_notT (ha true)).imp (by
    rw [hK]
    exact one_ok (r := fun x H1 Q => ∃ k, TruV Γ.K x H1 k ∧ Q (.bl (!k)) H1) (o := fun x => some (.bl (!truthy x))) rfl (fun en => by rw [ev]) rfl fun h rx m => by
      cases h
      exact ⟨_, tru_of rx, m.bl⟩)
theorem pe_revQ (hK : X.K = Γ.K) {k : Nat} {p1 p2 p3 : Pos} (ha : ∀ b, PE X pa ((tA P cf xc Γ Wx) b a)) : PE X (.Subscript pa (.Slice none none (some (.UnaryOp .USub (.Constant (.int 1) k p1) p2)) p3) pos) ((tA P cf xc Γ Wx) b (.rev a)) :=
  (pe_revL (ha true)).imp (by
    rw [hK]
    exact one_ok (r := fun x H1 Q => ∃ a xs, x = .ref a ∧ SqL Γ.K H1 a xs ∧ ∀ p, H1 p = none → Q (.ref p) (upd H1 p (.lst xs.reverse))) (o := revD) rfl (fun en => by rw [ev]) rfl fun {H N x d vx fx Q} h rx m => by
      unfold revD at h
      split at h
      · split at h
        · rename_i c
          cases h
          obtain ⟨a, ws, gps, e, h1, h2⟩ := rx.lstD
          exact ⟨a, ws, e, .inl (.inl h1), fun p hp => m.lst h2.rev (fun q hq => h2.noOwn (lstOk_any c) q (List.mem_reverse.mp hq)) hp⟩
        · cases h
      · cases h)
theorem pe_cQ {d : D} {v : V} (he : PE X pa (tC v)) (r : ∀ H N, RO Γ H N d v []) (ho : own d = false) : PE X pa ((tA P cf xc Γ Wx) b (.c d)) :=
  he.imp fun σ H Q ⟨A, en, fps, st, g⟩ => by
    rw [ev] at g
    exact g v H _ _ (Aft.part (Aft.nil (b := false) st) (r _ _) fun z => by rw [ho] at z; cases z)
theorem pe_gQ {d : D} {i : Nat} {v : V} (hd : P.gl[i]? = some d) (he : PE X pa (tC v)) (r : ∀ H N, RO Γ H N d v []) (ho : own d = false) : PE X pa ((tA P cf xc Γ Wx) b (.g i)) :=
  he.imp fun σ H Q ⟨A, en, fps, st, g⟩ => by
    rw [ev, hd] at g
    exact g v H _ _ (Aft.part (Aft.nil (b := false) st) (r _ _) fun z => by rw [ho] at z; cases z)
theorem pe_vQ {i : Nat} (he : PE X pa (tVar i)) : PE X pa ((tA P cf xc Γ Wx) b (.v i)) :=
  he.imp fun σ H Q ⟨A, en, fps, st, g⟩ => by
    rw [ev] at g
    cases h : get en i with
    | none => rw [h] at g; exact g.elim
    | some d =>
      rw [h] at g
      have g : Got (if (own d && !b) = true then Res.ok (fz d) (en.set i (some (fz d))) else .ok d en) _ _ := g
      split at g
      · obtain ⟨v, e, y⟩ := st.ice h (b := b) (s := simpE (.v i))
        exact ⟨v, e, g v H _ _ y⟩
      · rename_i c
        obtain ⟨v, fp, e, ef, r⟩ := RSs.at st.rs h
        refine ⟨v, e, g v H _ _ (Aft.part (Aft.nil (b := false) st) (r.weak fun a z => by rw [nn_nil] at z; exact z) fun ho => ?_)⟩
        rw [ho] at c
        cases b <;> simp_all
theorem pe_mvQ {i : Nat} (he : PE X pa (tVar i)) : PE X pa ((tA P cf xc Γ Wx) b (.mv i)) :=
  he.imp fun σ H Q ⟨A, en, fps, st, g⟩ => by
    rw [ev] at g
    cases h : get en i with
    | none => rw [h] at g; exact g.elim
    | some d =>
      rw [h] at g
      obtain ⟨v, fp, e, y⟩ := st.take h (s := simpE (.mv i))
      exact ⟨v, e, g v H _ _ y.anyB⟩
theorem pe_fzQ (ha : ∀ b, PE X pa ((tA P cf xc Γ Wx) b a)) : PE X pa ((tA P cf xc Γ Wx) b (.fz a)) :=
  (ha false).imp fun σ H Q ⟨A, en, fps, st, g⟩ => by
    rw [ev, got_bind] at g
    exact ⟨A, en, fps, st, g.imp (fun x en1 g v1 H1 ps1 fps1 a1 => g v1 H1 _ _ (a1.fz rfl)) fun _ _ _ g => g⟩
theorem tT_of {σ : L2.St} {H : Hp} {Q : Bool → Hp → Prop} (h : (tT P cf xc Γ Wx) b a σ H Q) : (tA P cf xc Γ Wx) b a σ H fun x H' => ∃ k, TruV Γ.K x H' k ∧ Q k H' := by
  obtain ⟨A, en, fps, st, g⟩ := h
  refine ⟨A, en, fps, st, g.imp (fun d en' g v H' ps fps' a => ?_) fun _ _ _ g => g⟩
  obtain ⟨fp, r, _⟩ := a.one
  exact ⟨truthy d, tru_of r, g v H' ps fps' a⟩
theorem pt_anyQ (hK : X.K = Γ.K) (ha : PE X pa ((tA P cf xc Γ Wx) b a)) (he : ∀ whole, isTrue pa X.env whole = (do let v ← whole; standAt pa.pos; holding [v] (PySem.truthy v))) : PT X pa ((tT P cf xc Γ Wx) b a) :=
  (pt_truth ha he).imp fun σ H Q h => by rw [hK]; exact tT_of h
theorem pt_notQ (ha : ∀ b, PT X pa ((tT P cf xc Γ Wx) b a)) : PT X (.UnaryOp .Not pa pos) ((tT P cf xc Γ Wx) b (.not a)) :=
  (pt_not (ha true)).imp fun σ H Q ⟨A, en, fps, st, g⟩ => by
    rw [ev, got_bind] at g
    exact ⟨A, en, fps, st, g.imp (fun x en1 g v1 H1 ps1 fps1 a1 => by
      obtain ⟨fp, r, _⟩ := a1.one
      exact a1.made (b := b) (d := .bl (!truthy x)) (fun v H' ps y => g v H' ps _ y) |>.bl (Q := fun _ H' => Q (!truthy x) H')) fun _ _ _ g => g⟩
end
end Q
end
section
set_option Elab.async false
set_option linter.all false
set_option autoImplicit false
set_option maxRecDepth 100000
namespace Q
open PySem PySem.Spec PyProof.Rows L2
section
variable {P : Prog} {cf : CF} {xc : Option (Nat × List D)} {Γ : Ga} {Wx : WX} {X : Cx} {pa pb pc : Expr} {a e e' : E} {b : Bool} {pos : Pos}
theorem Aft.drop1 {s s' : Bool} {H H1 H2 : Hp} {A : Addr → Prop} {fps ps1 fps1 ps2 fps2 : List (List Addr)} {σ : L2.St} {ds1 ds2 : List D} {vs1 vs2 : List V} {en1 en2 : Env} {b1 b2 : Bool}
    (x : Aft Γ b1 s H A fps σ ds1 vs1 H1 en1 ps1 fps1) (y : Aft Γ b2 s' H1 A fps1 σ ds2 vs2 H2 en2 ps2 fps2) : Aft Γ b2 (s && s') H A fps σ ds2 vs2 H2 en2 ps2 fps2 := by
  have st1 : Sta Γ H1 (Nn A []) en1 σ fps1 := x.sta.weak fun a z => by rw [nn_nil] at z; exact .inl z
  have f1 : Fr s H H1 (Own fps) (Nn A fps) (Nn (Nn A []) fps1) := x.fr.weakNew fun a z => by rw [nn_nil] at z; exact z.elim (fun z => .inl (.inl z)) .inr
  exact ⟨y.sta, y.ro, y.dj, y.ap, Fr.chain st1 f1 (by rw [nn_nil]; exact y.fr)⟩
theorem AftX.drop1 {s : Bool} {H H1 H2 : Hp} {A : Addr → Prop} {fps ps1 fps1 fps2 : List (List Addr)} {σ : L2.St} {ds1 ds : List D} {vs1 : List V} {en1 en2 : Env} {b1 : Bool} {C : Nat} {cls : Value} {dd : Option Addr}
    (x : Aft Γ b1 s H A fps σ ds1 vs1 H1 en1 ps1 fps1) (y : AftX Γ H1 A fps1 σ C ds cls dd H2 en2 fps2) : AftX Γ H A fps σ C ds cls dd H2 en2 fps2 := by
  have st1 : Sta Γ H1 (Nn A []) en1 σ fps1 := x.sta.weak fun a z => by rw [nn_nil] at z; exact .inl z
  have f1 : Fr s H H1 (Own fps) (Nn A fps) (Nn (Nn A []) fps1) := x.fr.weakNew fun a z => by rw [nn_nil] at z; exact z.elim (fun z => .inl (.inl z)) .inr
  exact ⟨y.sta, y.xr, (Fr.chain st1 f1 (s2 := false) (by rw [nn_nil]; exact y.fr)).less (s' := false) fun z => nomatch z⟩
theorem Aft.st1 {s : Bool} {H H1 : Hp} {A : Addr → Prop} {fps ps1 fps1 : List (List Addr)} {σ : L2.St} {ds1 : List D} {vs1 : List V} {en1 : Env} {b1 : Bool}
    (x : Aft Γ b1 s H A fps σ ds1 vs1 H1 en1 ps1 fps1) : Sta Γ H1 A en1 σ fps1 := x.sta.weak fun a z => .inl z
theorem and_ok {b : Bool} {σ : L2.St} {H : Hp} {Q : VK} (h : (tA P cf xc Γ Wx) b (.and a e) σ H Q) : tAndT Γ.K ((tA P cf xc Γ Wx) false a) ((tA P cf xc Γ Wx) false e) σ H Q := by
  obtain ⟨A, en, fps, st, g⟩ := h
  rw [ev, got_bind] at g
  refine ⟨A, en, fps, st, g.imp (fun x en1 g v1 H1 ps1 fps1 a1 => ?_) fun _ _ _ g => g⟩
  obtain ⟨fp, r, _⟩ := a1.one
  refine ⟨truthy x, tru_of r, ?_⟩
  split at g
  · rename_i c
    rw [if_pos c]
    refine ⟨A, en1, fps1, a1.st1, g.imp (fun y en2 g v2 H2 ps2 fps2 a2 => g v2 H2 ps2 fps2 (a1.drop1 a2).anyB) fun C ds en2 g cls dd H2 fps2 y => g _ _ _ _ (AftX.drop1 a1 y)⟩
  · rename_i c
    rw [if_neg c]
    exact g v1 H1 ps1 fps1 ((a1.anyB (b := b)).less fun z => (Bool.and_eq_true_iff.mp z).1)
theorem or_ok {b : Bool} {σ : L2.St} {H : Hp} {Q : VK} (h : (tA P cf xc Γ Wx) b (.or a e) σ H Q) : tOrT Γ.K ((tA P cf xc Γ Wx) false a) ((tA P cf xc Γ Wx) false e) σ H Q := by
  obtain ⟨A, en, fps, st, g⟩ := h
  rw [ev, got_bind] at g
  refine ⟨A, en, fps, st, g.imp (fun x en1 g v1 H1 ps1 fps1 a1 => ?_) fun _ _ _ g => g⟩
  obtain ⟨fp, r, _⟩ := a1.one
  refine ⟨truthy x, tru_of r, ?_⟩
  split at g
  · rename_i c
    rw [if_pos c]
    exact g v1 H1 ps1 fps1 ((a1.anyB (b := b)).less fun z => (Bool.and_eq_true_iff.mp z).1)
  · rename_i c
    rw [if_neg c]
    refine ⟨A, en1, fps1, a1.st1, g.imp (fun y en2 g v2 H2 ps2 fps2 a2 => g v2 H2 ps2 fps2 (a1.drop1 a2).anyB) fun C ds en2 g cls dd H2 fps2 y => g _ _ _ _ (AftX.drop1 a1 y)⟩
theorem andT_ok {b : Bool} {σ : L2.St} {H : Hp} {Q : Bool → Hp → Prop} (h : (tT P cf xc Γ Wx) b (.and a e) σ H Q) : tAnd ((tT P cf xc Γ Wx) false a) ((tT P cf xc Γ Wx) false e) σ H Q := by
  obtain ⟨A, en, fps, st, g⟩ := h
  rw [ev, got_bind] at g
  refine ⟨A, en, fps, st, g.imp (fun x en1 g v1 H1 ps1 fps1 a1 => ?_) fun _ _ _ g => g⟩
  split at g
  · rename_i c
    rw [if_pos c]
    refine ⟨A, en1, fps1, a1.st1, g.imp (fun y en2 g v2 H2 ps2 fps2 a2 => g v2 H2 ps2 fps2 (a1.drop1 a2).anyB) fun C ds en2 g cls dd H2 fps2 y => g _ _ _ _ (AftX.drop1 a1 y)⟩
  · rename_i c
    rw [if_neg c]
    have g := g v1 H1 ps1 fps1 ((a1.anyB (b := b)).less fun z => (Bool.and_eq_true_iff.mp z).1)
    rw [show truthy x = false by simpa using c] at g
    exact g
theorem orT_ok {b : Bool} {σ : L2.St} {H : Hp} {Q : Bool → Hp → Prop} (h : (tT P cf xc Γ Wx) b (.or a e) σ H Q) : tOr ((tT P cf xc Γ Wx) false a) ((tT P cf xc Γ Wx) false e) σ H Q := by
  obtain ⟨A, en, fps, st, g⟩ := h
  rw [ev, got_bind] at g
  refine ⟨A, en, fps, st, g.imp (fun x en1 g v1 H1 ps1 fps1 a1 => ?_) fun _ _ _ g => g⟩
  split at g
  · rename_i c
    rw [if_pos c]
    have g := g v1 H1 ps1 fps1 ((a1.anyB (b := b)).less fun z => (Bool.and_eq_true_iff.mp z).1)
    rw [show truthy x = true from c] at g
    exact g
  · rename_i c
    rw [if_neg c]
    refine ⟨A, en1, fps1, a1.st1, g.imp (fun y en2 g v2 H2 ps2 fps2 a2 => g v2 H2 ps2 fps2 (a1.drop1 a2).anyB) fun C ds en2 g cls dd H2 fps2 y => g _ _ _ _ (AftX.drop1 a1 y)⟩
theorem iteQ_ok {b : Bool} {c : E} {σ : L2.St} {H : Hp} {Q : VK} (h : (tA P cf xc Γ Wx) b (.ite c a e) σ H Q) : tIf ((tT P cf xc Γ Wx) true c) ((tA P cf xc Γ Wx) false a) ((tA P cf xc Γ Wx) false e) σ H Q := by
  obtain ⟨A, en, fps, st, g⟩ := h
  rw [ev, got_bind] at g
  refine ⟨A, en, fps, st, g.imp (fun x en1 g v1 H1 ps1 fps1 a1 => ?_) fun _ _ _ g => g⟩
  split at g
  · rename_i c
    rw [if_pos c]
    refine ⟨A, en1, fps1, a1.st1, g.imp (fun y en2 g v2 H2 ps2 fps2 a2 => g v2 H2 ps2 fps2 ((a1.drop1 a2).anyB.less fun z => ?_)) fun C ds en2 g cls dd H2 fps2 y => g _ _ _ _ (AftX.drop1 a1 y)⟩
    simp only [simpE, Bool.and_eq_true] at z ⊢
    exact z.1
  · rename_i c
    rw [if_neg c]
    refine ⟨A, en1, fps1, a1.st1, g.imp (fun y en2 g v2 H2 ps2 fps2 a2 => g v2 H2 ps2 fps2 ((a1.drop1 a2).anyB.less fun z => ?_)) fun C ds en2 g cls dd H2 fps2 y => g _ _ _ _ (AftX.drop1 a1 y)⟩
    simp only [simpE, Bool.and_eq_true] at z ⊢
    exact ⟨z.1.1, z.2⟩
theorem pt_iteQ {b : Bool} {c : E} (hc : PT X pc ((tT P cf xc Γ Wx) true c)) (ha : PT X pa ((tT P cf xc Γ Wx) false a)) (he : PT X pb ((tT P cf xc Γ Wx) false e)) : PT X (.IfExp pc pa pb pos) ((tT P cf xc Γ Wx) b (.ite c a e)) := by
  refine ⟨fun pins s σ H Q I h => ?_⟩
  obtain ⟨A, en, fps, st, g⟩ := h
  rw [ev, got_bind] at g
  have hh : (tT P cf xc Γ Wx) true c σ H (fun k H1 => if k = true then (tT P cf xc Γ Wx) false a σ H1 Q else (tT P cf xc Γ Wx) false e σ H1 Q) := by
    refine ⟨A, en, fps, st, g.imp (fun x en1 g v1 H1 ps1 fps1 a1 => ?_) fun _ _ _ g => g⟩
    split at g
    · rename_i c
      rw [if_pos c]
      refine ⟨A, en1, fps1, a1.st1, g.imp (fun y en2 g v2 H2 ps2 fps2 a2 => g v2 H2 ps2 fps2 ((a1.drop1 a2).anyB.less fun z => ?_)) fun C ds en2 g cls dd H2 fps2 y => g _ _ _ _ (AftX.drop1 a1 y)⟩
      simp only [simpE, Bool.and_eq_true] at z ⊢
      exact z.1
    · rename_i c
      rw [if_neg c]
      refine ⟨A, en1, fps1, a1.st1, g.imp (fun y en2 g v2 H2 ps2 fps2 a2 => g v2 H2 ps2 fps2 ((a1.drop1 a2).anyB.less fun z => ?_)) fun C ds en2 g cls dd H2 fps2 y => g _ _ _ _ (AftX.drop1 a1 y)⟩
      simp only [simpE, Bool.and_eq_true] at z ⊢
      exact ⟨z.1.1, z.2⟩
  unfold PySem.isTrue
  refine wpAny_bind (thn (hc.run pins s σ H _ I hh) fun k s1 ⟨H1, I1, q1⟩ => ?_)
  cases k with
  | true => exact ha.run pins s1 σ H1 Q I1 q1
  | false => exact he.run pins s1 σ H1 Q I1 q1
theorem pw_boolop {op : BoolOp} {es : List Expr} {t : TT} (h : PT X (.BoolOp op es pos) t) : PW X (.BoolOp op es pos) t := by
  refine ⟨fun wh pins s σ H Q I q => ?_⟩
  have := h.run pins s σ H Q I q
  unfold PySem.isTrue at this ⊢
  exact this
theorem pe_andQ (hK : X.K = Γ.K) {rest : List Expr} (ha : ∀ b, PE X pa ((tA P cf xc Γ Wx) b a)) (he : ∀ b, PE X (.BoolOp .And (pb :: rest) pos) ((tA P cf xc Γ Wx) b e)) : PE X (.BoolOp .And (pa :: pb :: rest) pos) ((tA P cf xc Γ Wx) b (.and a e)) :=
  (pe_andT (ha false) (he false)).imp fun σ H Q h => by rw [hK]; exact and_ok h
theorem pe_orQ (hK : X.K = Γ.K) {rest : List Expr} (ha : ∀ b, PE X pa ((tA P cf xc Γ Wx) b a)) (he : ∀ b, PE X (.BoolOp .Or (pb :: rest) pos) ((tA P cf xc Γ Wx) b e)) : PE X (.BoolOp .Or (pa :: pb :: rest) pos) ((tA P cf xc Γ Wx) b (.or a e)) :=
  (pe_orT (ha false) (he false)).imp fun σ H Q h => by rw [hK]; exact or_ok h
theorem pt_andQ {rest : List Expr} (ha : ∀ b, PT X pa ((tT P cf xc Γ Wx) b a)) (he : ∀ b, PT X (.BoolOp .And (pb :: rest) pos) ((tT P cf xc Γ Wx) b e)) : PT X (.BoolOp .And (pa :: pb :: rest) pos) ((tT P cf xc Γ Wx) b (.and a e)) :=
  (pw_and (ha false) (pw_boolop (he false))).pt.imp fun σ H Q h => andT_ok h
theorem pt_orQ {rest : List Expr} (ha : ∀ b, PT X pa ((tT P cf xc Γ Wx) b a)) (he : ∀ b, PT X (.BoolOp .Or (pb :: rest) pos) ((tT P cf xc Γ Wx) b e)) : PT X (.BoolOp .Or (pa :: pb :: rest) pos) ((tT P cf xc Γ Wx) b (.or a e)) :=
  (pw_or (ha false) (pw_boolop (he false))).pt.imp fun σ H Q h => orT_ok h
theorem pe_iteQ {c : E} (hc : PT X pc ((tT P cf xc Γ Wx) true c)) (ha : ∀ b, PE X pa ((tA P cf xc Γ Wx) b a)) (he : ∀ b, PE X pb ((tA P cf xc Γ Wx) b e)) : PE X (.IfExp pc pa pb pos) ((tA P cf xc Γ Wx) b (.ite c a e)) :=
  (pe_ifExp hc (ha false) (he false)).imp fun σ H Q h => iteQ_ok h
theorem chain_ok {b : Bool} {o o' : Cmp} {c : E} {σ : L2.St} {H : Hp} {Q : VK} (h : (tA P cf xc Γ Wx) b (.chain o o' a e c) σ H Q) : tChain (rCm Γ.K o) (rCm Γ.K o') ((tA P cf xc Γ Wx) false a) ((tA P cf xc Γ Wx) false e) ((tA P cf xc Γ Wx) true c) σ H Q := by
    obtain ⟨A, en, fps, st, g⟩ := h
    rw [ev, got_bind] at g
    refine ⟨A, en, fps, st, g.imp (fun x en1 g v1 H1 ps1 fps1 a1 => ?_) fun _ _ _ g => g⟩
    rw [got_bind] at g
    refine ⟨_, en1, fps1, a1.sta, g.imp (fun y en2 g v2 H2 ps2 fps2 a2 => ?_) fun C ds en2 g cls dd H2 fps2 y => g _ _ _ _ (AftX.pre a1 y)⟩
    have z := a1.cat (b := false) a2 (fun z => nomatch z) (fun z => nomatch z)
    obtain ⟨gps, eg, rr⟩ := z.ro
    obtain ⟨f1, f2, rfl⟩ : ∃ f1 f2, gps = [f1, f2] := by
      match gps, rr with
      | [f1, f2], rr => exact ⟨f1, f2, rfl⟩
      | [], rr => exact rr.elim
      | [_], rr => exact rr.2.elim
      | _ :: _ :: _ :: _, rr => exact rr.2.2.elim
    cases e1 : cmpop o x y with
    | none => rw [e1] at g; exact g.elim
    | some k =>
      rw [e1] at g
      refine cm_ok e1 rr.1 rr.2.1 ⟨k, rfl, ?_⟩
      cases k with
      | false =>
        rw [if_neg (by decide)]
        exact ((z.less (s' := false) fun z => nomatch z).made (b := b) (d := .bl false) fun v H' ps y => g v H' ps _ y).bl
      | true =>
        rw [if_pos rfl]
        rw [got_bind] at g
        refine ⟨_, en2, fps2, z.sta, g.imp (fun w en3 g v3 H3 ps3 fps3 a3 => ?_) fun C ds en2 g cls dd H2 fps2 y => g _ _ _ _ (AftX.pre z y)⟩
        obtain ⟨d, e2, g⟩ := got_op g
        cases e3 : cmpop o' y w with
        | none => rw [e3] at e2; cases e2
        | some k' =>
          rw [e3] at e2; cases e2
          have zz := z.cat (b := true) a3 (fun z => nomatch z) (fun z => rfl)
          obtain ⟨gps, _, r3⟩ := zz.ro
          match gps, r3 with
          | [f1, f2, f3], r3 => exact cm_ok e3 r3.2.1 r3.2.2.1 ((zz.less (s' := false) fun z => nomatch z).made (b := b) (d := .bl k') fun v H' ps y => g v H' ps _ y).bl
          | [], r3 => exact r3.elim
          | [_], r3 => exact r3.2.elim
          | [_, _], r3 => exact r3.2.2.elim
          | _ :: _ :: _ :: _ :: _, r3 => exact r3.2.2.2.elim
end
end Q
end
section
set_option Elab.async false
set_option linter.all false
set_option autoImplicit false
set_option maxRecDepth 100000
namespace Q
open PySem PySem.Spec PyProof.Rows L2
section
variable {P : Prog} {cf : CF} {xc : Option (Nat × List D)} {Γ : Ga} {Wx : WX} {X : Cx} {pa pb pc : Expr} {pes : List Expr} {a e e' : E} {es : List E} {b : Bool} {pos : Pos}
theorem star_of (h : ∀ x p, pa ≠ .Starred x p) {es : List Expr} {env : PySem.Env} : starEach (pa :: es) env = (false, eval pa env) :: starEach es env := by
  cases pa <;> first | rfl | exact absurd rfl (h _ _)
theorem pa_nilQ : PA X [] ((tAs P cf xc Γ Wx) []) := pa_nil.imp fun σ H Q ⟨A, en, fps, st, g⟩ => by
  rw [evs] at g
  exact g [] H _ _ (Aft.nil st)
theorem pa_nilB : PA X [] ((tBs P cf xc Γ Wx) []) := pa_nil.imp fun σ H Q ⟨A, en, fps, st, g⟩ => by
  rw [evsB] at g
  exact g [] H _ _ (Aft.nil st)
theorem pa_nilC : PA X [] ((tCs P cf xc Γ Wx) []) := pa_nil.imp fun σ H Q ⟨A, en, fps, st, g⟩ => by
  rw [evs] at g
  exact g [] [] H _ _ (Aft.nil st) True.intro
theorem pa_consQ (h : ∀ x p, pa ≠ .Starred x p) (ha : ∀ b, PE X pa ((tA P cf xc Γ Wx) b e)) (hr : PA X pes ((tAs P cf xc Γ Wx) es)) : PA X (pa :: pes) ((tAs P cf xc Γ Wx) (e :: es)) :=
  (pa_cons (ha false) hr (star_of h)).imp fun σ H Q ⟨A, en, fps, st, g⟩ => by
    rw [evs, got_bind] at g
    refine ⟨A, en, fps, st, g.imp (fun x en1 g v1 H1 ps1 fps1 a1 => ?_) fun _ _ _ g => g⟩
    rw [got_bind] at g
    exact ⟨_, en1, fps1, a1.sta, g.imp (fun ds en2 g vs H2 ps2 fps2 a2 => g (v1 :: vs) H2 _ _ (a1.cat (b := false) a2 (fun z => nomatch z) (fun z => nomatch z))) fun C ds en2 g cls dd H2 fps2 y => g _ _ _ _ (AftX.pre a1 y)⟩
theorem pa_consB (h : ∀ x p, pa ≠ .Starred x p) (ha : ∀ b, PE X pa ((tA P cf xc Γ Wx) b e)) (hr : PA X pes ((tBs P cf xc Γ Wx) es)) : PA X (pa :: pes) ((tBs P cf xc Γ Wx) (e :: es)) :=
  (pa_cons (ha (simpEs es)) hr (star_of h)).imp fun σ H Q ⟨A, en, fps, st, g⟩ => by
    rw [evsB, got_bind] at g
    refine ⟨A, en, fps, st, g.imp (fun x en1 g v1 H1 ps1 fps1 a1 => ?_) fun _ _ _ g => g⟩
    rw [got_bind] at g
    exact ⟨_, en1, fps1, a1.sta, g.imp (fun ds en2 g vs H2 ps2 fps2 a2 => g (v1 :: vs) H2 _ _ (a1.cat (b := true) a2 (fun z => ⟨z, rfl⟩) (fun z => rfl))) fun C ds en2 g cls dd H2 fps2 y => g _ _ _ _ (AftX.pre a1 y)⟩
theorem pa_consC (h : ∀ x p, pa ≠ .Starred x p) (hv : ∀ i, e ≠ .va i) (ha : ∀ b, PE X pa ((tA P cf xc Γ Wx) b e)) (hr : PA X pes ((tCs P cf xc Γ Wx) es)) : PA X (pa :: pes) ((tCs P cf xc Γ Wx) (e :: es)) :=
  (pa_cons (ha false) hr (star_of h)).imp fun σ H Q ⟨A, en, fps, st, g⟩ => by
    rw [evs, got_bind] at g
    refine ⟨A, en, fps, st, g.imp (fun x en1 g v1 H1 ps1 fps1 a1 => ?_) fun _ _ _ g => g⟩
    rw [got_bind] at g
    refine ⟨_, en1, fps1, a1.sta, g.imp (fun ds en2 g vs0 vs H2 ps2 fps2 a2 se => g (v1 :: vs0) (v1 :: vs) H2 _ _ (a1.cat (b := false) a2 (fun z => nomatch z) (fun z => nomatch z)) ⟨?_, se⟩) fun C ds en2 g cls dd H2 fps2 y => g _ _ _ _ (AftX.pre a1 y)⟩
    cases e <;> first | rfl | exact absurd rfl (hv _)
theorem pa_vaC {i : Nat} {x : Str} {p : Pos} (ha : PE X (.Name x p) (tVar i)) (hr : PA X pes ((tCs P cf xc Γ Wx) es)) : PA X (.Name x p :: pes) ((tCs P cf xc Γ Wx) (.va i :: es)) :=
  (pa_cons ha hr (star_of (pa := .Name x p) fun _ _ z => nomatch z)).imp fun σ H Q ⟨A, en, fps, st, g⟩ => by
    rw [evs, got_bind, ev] at g
    cases h : get en i with
    | none => rw [h] at g; exact g.elim
    | some d =>
      rw [h] at g
      have g : Got ((evs P cf xc es en).bind fun ds en => .ok (D.non :: ds) en) _ _ := g
      rw [got_bind] at g
      obtain ⟨v, fp, ev, _, _⟩ := RSs.at st.rs h
      have a1 : Aft Γ false false H A fps σ [.non] [.non] H en [[]] fps := Aft.part (Aft.nil (b := false) st) (d := .non) (v := .non) (fp := []) ⟨rfl, rfl⟩ fun z => nomatch z
      refine ⟨v, ev, _, en, fps, a1.sta, g.imp (fun ds en2 g vs0 vs H2 ps2 fps2 a2 se => g (.non :: vs0) (v :: vs) H2 _ _ ((a1.cat (b := false) a2 (fun z => nomatch z) (fun z => nomatch z)).less (s' := simpEs (.va i :: es)) fun z => ?_) ⟨ev, se⟩) fun C ds en2 g cls dd H2 fps2 y => g _ _ _ _ (AftX.pre a1 y)⟩
      simp [simpEs, simpE] at z
theorem evs_len : ∀ {es : List E} {en en' : Env} {ds : List D}, evs P cf xc es en = .ok ds en' → ds.length = es.length
  | [], en, en', ds, h => by rw [evs] at h; cases h; rfl
  | e :: es, en, en', ds, h => by
    rw [evs] at h
    cases h1 : ev P cf xc false e en with
    | st => rw [h1] at h; cases h
    | ex _ _ _ => rw [h1] at h; cases h
    | ok d en1 =>
      rw [h1] at h
      have h : (evs P cf xc es en1).bind (fun ds en => Res.ok (d :: ds) en) = Res.ok ds en' := h
      cases h2 : evs P cf xc es en1 with
      | st => rw [h2] at h; cases h
      | ex _ _ _ => rw [h2] at h; cases h
      | ok ds2 en2 =>
        rw [h2] at h
        cases h
        rw [List.length_cons, List.length_cons, evs_len h2]
theorem Got.len {k : List D → Env → Prop} {x : Nat → List D → Env → Prop} {en : Env} (g : Got (evs P cf xc es en) k x) : Got (evs P cf xc es en) (fun ds en' => ds.length = es.length ∧ k ds en') x := by
  cases h : evs P cf xc es en with
  | st => rw [h] at g; exact g
  | ex _ _ _ => rw [h] at g; exact g
  | ok ds en' => rw [h] at g; exact ⟨evs_len h, g⟩
theorem Dj.nodup : ∀ {fps : List (List Addr)}, Dj fps → fps.flatten.Nodup
  | [], _ => List.nodup_nil
  | p :: fps, d => by
    obtain ⟨h1, h2, h3⟩ := Dj.cons.mp d
    rw [List.flatten_cons, List.nodup_append]
    exact ⟨h1, Dj.nodup h3, fun a ha b hb e => h2 a ha (by subst e; exact own_flat.mp hb)⟩
theorem own_one {p : List Addr} {a : Addr} : Own [p] a ↔ a ∈ p := ⟨fun z => (own_cons.mp z).elim id fun z => absurd z own_nil, fun z => own_cons.mpr (.inl z)⟩
theorem Aft.mkLst {s : Bool} {H H1 : Hp} {A : Addr → Prop} {fps ps1 fps1 : List (List Addr)} {σ : L2.St} {ds : List D} {vs : List V} {en1 : Env} {p : Addr}
    (x : Aft Γ false s H A fps σ ds vs H1 en1 ps1 fps1) (hp : H1 p = none) : Aft Γ false s H A fps σ [.lst true ds] [.ref p] (upd H1 p (.lst vs)) en1 [p :: ps1.flatten] fps1 := by
  obtain ⟨gps, e, r⟩ := x.ro
  have e := e rfl
  subst e
  have k := new_keep (o := .lst vs) hp
  have ow : ∀ a, Own [p :: gps.flatten] a ↔ a = p ∨ Own gps a := fun a => by rw [own_one, List.mem_cons, own_flat]
  have w : ∀ a, Nn (Nn A [p :: gps.flatten]) fps1 a → Nn (Nn A gps) fps1 a ∨ a = p := fun a z => by
    rcases z with (z | z) | z
    · exact .inl (.inl (.inl z))
    · rcases (ow a).mp z with z | z
      · exact .inr z
      · exact .inl (.inl (.inr z))
    · exact .inl (.inr z)
  have kk : Kp H1 (upd H1 p (.lst vs)) (fun _ => False) (Nn (Nn A gps) fps1) (Nn (Nn A [p :: gps.flatten]) fps1) := Kp.grow0 k fun a z => (w a z).imp id fun z => by rw [z]; exact hp
  have pn : ∀ a, Nn (Nn A gps) fps1 a → a ≠ p := fun a z e => (x.sta.dom' z) (by rw [e]; exact hp)
  have th : ∀ a, H1 a ≠ none → upd H1 p (.lst vs) a ≠ none := fun a h => by
    obtain ⟨u, e⟩ := Option.ne_none_iff_exists'.mp h
    rw [k a u e]; simp
  refine ⟨⟨x.sta.rs.keep kk fun _ _ z => z, x.sta.dj, fun a ha z => ?_, fun a z => ?_, x.sta.xo.keep kk⟩, ⟨_, fun _ => rfl, ⟨p, vs, gps, rfl, upd_same, r.keep kk fun _ _ z => z, rfl⟩, True.intro⟩, Dj.cons.mpr ⟨?_, fun a _ => own_nil, Dj.nil⟩, fun a ha z => ?_, ⟨fun a u e z => k a u (x.fr.keep a u e z), fun a h => th a (x.fr.there a h), fun a z => ?_⟩⟩
  · rcases z with z | z
    · exact x.sta.ap a ha (.inl z)
    · rcases (ow a).mp z with z | z
      · exact pn a (.inr ha) z
      · exact x.sta.ap a ha (.inr z)
  · rcases z with z | z
    · exact th a (x.sta.dom a (.inl z))
    · rcases (ow a).mp z with z | z
      · rw [z, upd_same]; simp
      · exact th a (x.sta.dom a (.inr z))
  · rw [List.nodup_cons]
    exact ⟨fun z => pn p (.inl (.inr (own_flat.mp z))) rfl, x.dj.nodup⟩
  · rcases (ow a).mp ha with h | h
    · exact pn a (.inl (.inl z)) h
    · exact x.ap a h z
  · rcases w a z with z | z
    · exact x.fr.new a z
    · by_cases h : H a = none
      · exact .inr h
      · exact absurd (by rw [z]; exact hp) (x.fr.there a h)
theorem fzs_nil {ds : List D} {p : List Addr} (h : p ∈ ds.map fun _ => ([] : List Addr)) : p = [] := by
  simp at h; exact h.2
theorem pe_lstQ (hl : es.length ≤ 1000) (h : PA X pes ((tAs P cf xc Γ Wx) es)) : PE X (.List pes pos) ((tA P cf xc Γ Wx) b (.lst es)) :=
  (pe_lst h).imp fun σ H Q ⟨A, en, fps, st, g⟩ => by
    rw [ev, got_bind] at g
    refine ⟨A, en, fps, st, g.len.imp (fun ds en1 g vs H1 ps1 fps1 a1 => ?_) fun _ _ _ g => g⟩
    obtain ⟨gl, g⟩ := g
    obtain ⟨gps, _, r⟩ := a1.ro
    refine ⟨by rw [r.length.1, gl, sizeLine_eq]; omega, fun p hp => g _ _ _ _ ((a1.mkLst hp).anyB.less fun z => nomatch z)⟩
theorem pe_tupQ {k : Nat} (hl : es.length ≤ 1000) (h : PA X pes ((tAs P cf xc Γ Wx) es)) : PE X (.Tuple pes k pos) ((tA P cf xc Γ Wx) b (.tup es)) :=
  (pe_tup h).imp fun σ H Q ⟨A, en, fps, st, g⟩ => by
    rw [ev, got_bind] at g
    refine ⟨A, en, fps, st, g.len.imp (fun ds en1 g vs H1 ps1 fps1 a1 => ?_) fun _ _ _ g => g⟩
    obtain ⟨gl, g⟩ := g
    obtain ⟨gps, _, r⟩ := a1.ro
    have z := a1.fz (b := b) rfl
    obtain ⟨qs, _, r'⟩ := z.ro
    refine ⟨by rw [r.length.1, gl, sizeLine_eq]; omega, fun p hp => (z.made (b := b) fun v H' ps y => g v H' ps _ y).tup r' (r'.noOwn ?_) hp⟩
    have : ∀ ds : List D, (fzs ds).any own = false := fun ds => by
      induction ds with
      | nil => rfl
      | cons d ds ih => rw [fzs, List.any_cons, ih]; cases d <;> rfl
    exact this ds
theorem pe_ixQ (hK : X.K = Γ.K) (hi : PlainIx pb) (ha : ∀ b, PE X pa ((tA P cf xc Γ Wx) b a)) (he : ∀ b, PE X pb ((tA P cf xc Γ Wx) b e)) : PE X (.Subscript pa pb pos) ((tA P cf xc Γ Wx) b (.ix a e)) :=
  (pe_ix ix_seq (ha (simpE e)) (he false) hi).imp fun σ H Q ⟨A, en, fps, st, g⟩ => by
    rw [hK]
    rw [ev, got_bind] at g
    refine ⟨A, en, fps, st, g.imp (fun x en1 g v1 H1 ps1 fps1 a1 => ?_) fun _ _ _ g => g⟩
    rw [got_bind] at g
    refine ⟨_, en1, fps1, a1.sta, g.imp (fun y en2 g v2 H2 ps2 fps2 a2 => ?_) fun C ds en2 g cls dd H2 fps2 y => g _ _ _ _ (AftX.pre a1 y)⟩
    have z := a1.cat (b := true) a2 (fun z => ⟨z, rfl⟩) (fun _ => rfl)
    unfold ixR at g
    cases hd : ixD x y with
    | none => rw [hd] at g; exact g.elim
    | some d =>
      rw [hd] at g
      have g : Got (if (own d && !b) = true then Res.st else .ok d en2) _ _ := g
      split at g
      · exact g.elim
      · rename_i c
        obtain ⟨gps, _, rr⟩ := z.ro
        match gps, rr with
        | [f1, f2], rr => exact ix_ok hd rr.1 rr.2.1 fun v fp r => g v H2 _ _ (z.part r fun ho => by rw [ho] at c; cases b <;> simp_all)
        | [], rr => exact rr.elim
        | [_], rr => exact rr.2.elim
        | _ :: _ :: _ :: _, rr => exact rr.2.2.elim
theorem pe_ixvQ (hK : X.K = Γ.K) {j : Nat} (hi : PlainIx pb) (ha : PE X pa (tVar j)) (he : ∀ b, PE X pb ((tA P cf xc Γ Wx) b e)) : PE X (.Subscript pa pb pos) ((tA P cf xc Γ Wx) b (.ixv j e)) :=
  (pe_ix ix_seq ha (he false) hi).imp fun σ H Q ⟨A, en, fps, st, g⟩ => by
    rw [hK]
    rw [ev] at g
    cases h0 : get en j with
    | none => rw [h0] at g; exact g.elim
    | some d0 =>
      rw [h0] at g
      have g : Got ((ev P cf xc false e en).bind fun k en => (getB j en).bind fun x en => ixR b x k en) _ _ := g
      obtain ⟨v0, fp0, e0, _, _⟩ := RSs.at st.rs h0
      rw [got_bind] at g
      refine ⟨v0, e0, A, en, fps, st, g.imp (fun y en2 g v2 H2 ps2 fps2 a2 => ?_) fun _ _ _ g => g⟩
      rw [got_bind] at g
      unfold getB at g
      cases h1 : get en2 j with
      | none => rw [h1] at g; exact g.elim
      | some x =>
        rw [h1] at g
        have g : Got (ixR b x y en2) _ _ := g
        obtain ⟨v1, fp1, e1, _, rx⟩ := RSs.at a2.sta.rs h1
        rw [e0] at e1
        cases e1
        obtain ⟨f2, ry, _⟩ := a2.one
        unfold ixR at g
        cases hd : ixD x y with
        | none => rw [hd] at g; exact g.elim
        | some d =>
          rw [hd] at g
          have g : Got (if (own d && !b) = true then Res.st else .ok d en2) _ _ := g
          split at g
          · exact g.elim
          · rename_i c
            exact ix_ok hd rx ry fun v fp r => g v H2 _ _ ((a2.part r fun ho => by rw [ho] at c; cases b <;> simp_all).less fun z => z)
def tP (P : Prog) (cf : CF) (xc : Option (Nat × List D)) (Γ : Ga) (Wx : WX) (e : E) : TO := match e with
  | .c .non => tNoPart
  | e => tPart (tA P cf xc Γ Wx false e)
theorem part_ok {lo : E} {A : Addr → Prop} {en : Env} {fps : List (List Addr)} {H : Hp} {σ : L2.St} (st : Sta Γ H A en σ fps) {k : Option Int → Hp → Prop}
    (g : Got (ev P cf xc false lo en) (fun l en2 => ∀ v H2 ps fps2, Aft Γ false (simpE lo) H A fps σ [l] [v] H2 en2 ps fps2 → ∃ o, partE lo l = some o ∧ k o H2) (XW Γ Wx H A fps σ)) : tP P cf xc Γ Wx lo σ H k := by
  unfold tP
  split
  · rw [ev] at g
    obtain ⟨o, e, h⟩ := g .non H _ _ (Aft.part (Aft.nil (b := false) st) (d := .non) (v := .non) (fp := []) ⟨rfl, rfl⟩ fun z => nomatch z)
    cases e
    exact h
  · rename_i hn
    refine ⟨A, en, fps, st, g.imp (fun l en2 g v H2 ps fps2 a => ?_) fun _ _ _ g => g⟩
    obtain ⟨o, e, h⟩ := g v H2 ps fps2 a
    unfold partE at e
    split at e
    · exact absurd rfl hn
    · cases e
      obtain ⟨fp, r, _⟩ := a.one
      exact ⟨_, r.1, h⟩
    · cases e
theorem pe_slQ (hK : X.K = Γ.K) {lo hi : E} {plo phi : Option Expr} {p2 : Pos} (ha : ∀ b, PE X pa ((tA P cf xc Γ Wx) b a)) (hl : PO X plo (tP P cf xc Γ Wx lo)) (hh : PO X phi (tP P cf xc Γ Wx hi)) : PE X (.Subscript pa (.Slice plo phi none p2) pos) ((tA P cf xc Γ Wx) b (.sl a lo hi)) :=
  (pe_slice sl_q (ha (simpE lo && simpE hi)) hl hh).imp fun σ H Q ⟨A, en, fps, st, g⟩ => by
    rw [hK]
    rw [ev, got_bind] at g
    refine ⟨A, en, fps, st, g.imp (fun x en1 g v1 H1 ps1 fps1 a1 => ?_) fun _ _ _ g => g⟩
    rw [got_bind] at g
    refine part_ok a1.sta (g.imp (fun l en2 g v2 H2 ps2 fps2 a2 => ?_) fun C ds en2 g cls dd H2 fps2 y => g _ _ _ _ (AftX.pre a1 y))
    rw [got_bind] at g
    obtain ⟨i, ei, g⟩ := got_op g
    refine ⟨i, ei, ?_⟩
    have z := a1.cat (b := simpE lo && simpE hi) a2 (fun z => ⟨(Bool.and_eq_true_iff.mp z).1, z⟩) (fun z => nomatch z)
    rw [got_bind] at g
    refine part_ok z.sta (g.imp (fun h en3 g v3 H3 ps3 fps3 a3 => ?_) fun C ds en2 g cls dd H2 fps2 y => g _ _ _ _ (AftX.pre z y))
    rw [got_bind] at g
    obtain ⟨j, ej, g⟩ := got_op g
    refine ⟨j, ej, ?_⟩
    obtain ⟨d, ed, g⟩ := got_op g
    have zz := z.cat (b := true) a3 (fun z => ⟨(Bool.and_eq_true_iff.mp z).2, rfl⟩) (fun z => rfl)
    obtain ⟨gps, _, rr⟩ := zz.ro
    match gps, rr with
    | [f1, f2, f3], rr => exact sl_ok ed rr.1 (zz.made fun v H' ps y => g v H' ps _ (y.less fun z => by
        simp only [simpE, Bool.and_eq_true] at z ⊢
        exact z))
    | [], rr => exact rr.elim
    | [_], rr => exact rr.2.elim
    | [_, _], rr => exact rr.2.2.elim
    | _ :: _ :: _ :: _ :: _, rr => exact rr.2.2.2.elim
theorem blt_ok' {bl : Blt} (hb : bltOk bl = true) (σ : L2.St) (H : Hp) (Q : VK) (h : (tA P cf xc Γ Wx) b (.blt bl es) σ H Q) : tCB (rBl Γ.K bl) ((tBs P cf xc Γ Wx) es) σ H Q := by
  obtain ⟨A, en, fps, st, g⟩ := h
  rw [ev, got_bind] at g
  refine ⟨A, en, fps, st, g.imp (fun ds en1 g vs H1 ps1 fps1 a1 => ?_) fun _ _ _ g => g⟩
  obtain ⟨d, ed, g⟩ := got_op g
  obtain ⟨gps, _, r⟩ := a1.ro
  exact bl_ok ed hb r (a1.made fun v H' ps y => g v H' ps _ y)
theorem pe_bltQ (hK : X.K = Γ.K) (hc : X.calm = true) {bl : Blt} (hb : bltOk bl = true) {p : Pos} (hg : Gl X (bltN bl)) (hm : X.mg (bltN bl) = none) (hs : ∀ x p, pa ≠ .Starred x p) (hpl : ∀ env, (backTo pos (starEach pes env)).any (·.1) = false)
    (ha : PA X (pa :: pes) ((tBs P cf xc Γ Wx) es)) : PE X (.Call (.Name (bltN bl) p) (pa :: pes) [] pos) ((tA P cf xc Γ Wx) b (.blt bl es)) := by
  have i : ∀ σ H Q, (tA P cf xc Γ Wx) b (.blt bl es) σ H Q → tCB (rBl X.K bl) ((tBs P cf xc Γ Wx) es) σ H Q := by rw [hK]; exact blt_ok' hb
  have hcall := call_bl hc bl
  have hbo := boot_bl hb
  cases bl <;> first | (cases hb; done) | skip
  all_goals first
    | exact (pe_callB hcall hg hm hbo ha (by decide) (by decide) (star_of hs) (hpl _)).imp i
    | exact (pe_callTy hcall hg hm hbo ha (by decide) (by decide) (star_of hs) (hpl _)).imp i
end
end Q
end
section
set_option Elab.async false
set_option linter.all false
set_option autoImplicit false
set_option maxRecDepth 100000
namespace Q
open PySem PySem.Spec PyProof.Rows L2
def At (H : Hp) : V → List D → V → Prop
  | v0, [], v => v0 = v
  | v0, k :: ks, v => ∃ a vs i n w, v0 = .ref a ∧ H a = some (.lst vs) ∧ k = .int i ∧ ixQ vs.length i = some n ∧ vs[n]? = some w ∧ At H w ks v
theorem At.fn {H : Hp} : ∀ {ks : List D} {v0 v v' : V}, At H v0 ks v → At H v0 ks v' → v = v'
  | [], _, _, _, h, h' => h.symm.trans h'
  | k :: ks, _, _, _, ⟨a, vs, i, n, w, e1, e2, e3, e4, e5, e6⟩, ⟨a', vs', i', n', w', f1, f2, f3, f4, f5, f6⟩ => by
    rw [e1] at f1; cases f1
    rw [e2] at f2; cases f2
    rw [e3] at f3; cases f3
    rw [e4] at f4; cases f4
    rw [e5] at f5; cases f5
    exact At.fn e6 f6
theorem At.mono {H H' : Hp} (k : ∀ a u, H a = some u → H' a = some u) : ∀ {ks : List D} {v0 v : V}, At H v0 ks v → At H' v0 ks v
  | [], _, _, h => h
  | _ :: _, _, _, ⟨a, vs, i, n, w, e1, e2, e3, e4, e5, e6⟩ => ⟨a, vs, i, n, w, e1, k _ _ e2, e3, e4, e5, At.mono k e6⟩
section
variable {Γ : Ga} {H H' : Hp} {N N' : Addr → Prop}
theorem ROs.setD : ∀ {ds : List D} {vs : List V} {fps : List (List Addr)} {n : Nat} {d : D} {w : V} {p : List Addr}, ROs Γ H N ds vs fps → vs[n]? = some w → RO Γ H N d w p → ROs Γ H N (ds.set n d) vs (fps.set n p)
  | [], [], [], n, _, _, _, _, h, _ => by simp at h
  | d :: ds, v :: vs, fp :: fps, 0, x, w, p, ⟨_, h2⟩, h, r => by
    have h : v = w := by simpa using h
    subst h
    exact ⟨r, h2⟩
  | d :: ds, v :: vs, fp :: fps, n + 1, x, w, p, ⟨h1, h2⟩, h, r => ⟨h1, ROs.setD (n := n) h2 (by simpa using h) r⟩
  | [], [], _ :: _, _, _, _, _, z, _, _ => z.elim
  | [], _ :: _, _, _, _, _, _, z, _, _ => z.elim
  | _ :: _, [], _, _, _, _, _, z, _, _ => z.elim
  | _ :: _, _ :: _, [], _, _, _, _, z, _, _ => z.elim
theorem ROs.keepBut {M : Addr → Prop} (k : Kp H H' M N N') : ∀ {ds : List D} {vs : List V} {fps : List (List Addr)} {n : Nat} {d : D} {w : V} {p : List Addr}, ROs Γ H N ds vs fps → vs[n]? = some w → RO Γ H' N' d w p →
    (∀ (j : Nat) (q : List Addr), j ≠ n → fps[j]? = some q → ∀ a ∈ q, ¬ M a) → ROs Γ H' N' (ds.set n d) vs (fps.set n p)
  | [], [], [], n, _, _, _, _, h, _, _ => by simp at h
  | d :: ds, v :: vs, fp :: fps, 0, x, w, p, ⟨_, h2⟩, h, r, hm => by
    have h : v = w := by simpa using h
    subst h
    exact ⟨r, h2.keep k fun a ha => by
      obtain ⟨q, hq, haq⟩ := List.mem_flatten.mp ha
      obtain ⟨j, hj⟩ := List.mem_iff_getElem?.mp hq
      exact hm (j + 1) q (by omega) (by simpa using hj) a haq⟩
  | d :: ds, v :: vs, fp :: fps, n + 1, x, w, p, ⟨h1, h2⟩, h, r, hm => ⟨h1.keep k fun a ha => hm 0 fp (by omega) rfl a ha, ROs.keepBut (n := n) k h2 (by simpa using h) r fun j q hj hq => hm (j + 1) q (by omega) (by simpa using hq)⟩
  | [], [], _ :: _, _, _, _, _, z, _, _, _ => z.elim
  | [], _ :: _, _, _, _, _, _, z, _, _, _ => z.elim
  | _ :: _, [], _, _, _, _, _, z, _, _, _ => z.elim
  | _ :: _, _ :: _, [], _, _, _, _, z, _, _, _ => z.elim
theorem ixQ_lt {n k : Nat} {i : Int} (h : ixQ n i = some k) : k < n := by
  unfold ixQ at h
  split at h
  · split at h
    · cases h; omega
    · cases h
  · split at h
    · cases h; omega
    · cases h
theorem dj_of {fps : List (List Addr)} (h : fps.flatten.Nodup) : Dj fps := by
  induction fps with
  | nil => exact Dj.nil
  | cons p ps ih =>
    rw [List.flatten_cons, List.nodup_append] at h
    exact Dj.cons.mpr ⟨h.1, fun a ha z => h.2.2 a ha a (own_flat.mpr z) rfl, ih h.2.1⟩
theorem RO.focus {f : D → Option D} {xs xs' : List D} (hf : f (.lst true xs) = some (.lst true xs')) : ∀ (ks : List D) {d : D} {v : V} {fp : List Addr}, RO Γ H N d v fp → fp.Nodup → getAt ks d = some (.lst true xs) →
    ∃ l ws gps, At H v ks (.ref l) ∧ H l = some (.lst ws) ∧ ROs Γ H N xs ws gps ∧ l ∈ fp ∧ (∀ a ∈ gps.flatten, a ∈ fp) ∧ (l :: gps.flatten).Nodup ∧
      ∀ (H' : Hp) (ws' : List V) (gps' : List (List Addr)), H' l = some (.lst ws') → (l :: gps'.flatten).Nodup → (∀ a ∈ gps'.flatten, a ∈ gps.flatten ∨ a ∉ fp) →
        ∃ d' fp', updAt f ks d = some d' ∧ fp'.Nodup ∧ (∀ a ∈ fp', (a ∈ fp ∧ a ∉ gps.flatten) ∨ a ∈ gps'.flatten) ∧ ∀ N', Kp H H' (· = l) N N' → ROs Γ H' N' xs' ws' gps' → RO Γ H' N' d' v fp'
  | [], d, v, fp, r, nd, h => by
    have h : d = .lst true xs := Option.some.inj h
    subst h
    obtain ⟨l, ws, gps, e, hl, hs, ef⟩ := r
    subst ef
    refine ⟨l, ws, gps, e, hl, hs, List.mem_cons_self, fun a ha => List.mem_cons_of_mem _ ha, nd, fun H' ws' gps' hl' nd' sub => ⟨.lst true xs', l :: gps'.flatten, hf, nd', fun a ha => ?_, fun N' k hs' => ⟨l, ws', gps', e, hl', hs', rfl⟩⟩⟩
    rcases List.mem_cons.mp ha with rfl | ha
    · exact .inl ⟨List.mem_cons_self, (List.nodup_cons.mp nd).1⟩
    · exact .inr ha
  | k :: ks, d, v, fp, r, nd, h => by
    cases d with
    | lst o ys =>
      cases o with
      | false => simp [getAt] at h
      | true =>
        obtain ⟨a, vs, fps, e, ha, hs, ef⟩ := r
        subst ef
        cases hk : ixD (.lst true ys) k with
        | none => simp [getAt, hk] at h
        | some x =>
          have hgx : getAt ks x = some (.lst true xs) := by simpa [getAt, hk] using h
          cases k with
          | int i =>
            have hk : ((ixQ ys.length i).bind fun n => ys[n]?) = some x := hk
            cases hn : ixQ ys.length i with
            | none => rw [hn] at hk; cases hk
            | some n =>
              rw [hn] at hk
              have hx : ys[n]? = some x := hk
              obtain ⟨w, p, hw, hp, rx⟩ := hs.get hx
              rw [List.nodup_cons] at nd
              have dj := dj_of nd.2
              have pin : ∀ b ∈ p, b ∈ fps.flatten := fun b hb => own_flat.mpr ⟨n, p, hp, hb⟩
              obtain ⟨l, ws, gps, at1, hl, hg, lp, gp, nd1, put⟩ := RO.focus hf ks rx (dj.one n p hp) hgx
              refine ⟨l, ws, gps, ⟨a, vs, i, n, w, e, ha, rfl, by rw [hs.length.1]; exact hn, hw, at1⟩, hl, hg, List.mem_cons_of_mem _ (pin l lp), fun b hb => List.mem_cons_of_mem _ (pin b (gp b hb)), nd1, ?_⟩
              intro H' ws' gps' hl' nd' sub
              obtain ⟨x', p', u1, u3, u4, u2⟩ := put H' ws' gps' hl' nd' (fun b hb => (sub b hb).imp id fun z y => z (List.mem_cons_of_mem _ (pin b y)))
              have out : ∀ b ∈ p', b ∈ p ∨ b ∉ a :: fps.flatten := fun b hb => by
                rcases u4 b hb with z | z
                · exact .inl z.1
                · exact (sub b z).imp (gp b) id
              have al : a ≠ l := fun z => nd.1 (by rw [z]; exact pin l lp)
              have ow : ∀ b, b ∈ (fps.set n p').flatten → (b ∈ fps.flatten ∧ b ∉ p) ∨ b ∈ p' := fun b hb => by
                rcases own_set (own_flat.mp hb) with z | ⟨j, q, hne, hj, hbq⟩
                · exact .inr z
                · exact .inl ⟨own_flat.mpr ⟨j, q, hj, hbq⟩, dj.two j n q p hj hp hne b hbq⟩
              refine ⟨.lst true (ys.set n x'), a :: (fps.set n p').flatten, ?_, ?_, fun b hb => ?_, fun N' k hs' => ⟨a, vs, fps.set n p', e, k.keep a _ ha al, hs.keepBut k hw (u2 N' k hs') fun j q hj hq b hb z => ?_, rfl⟩⟩
              · show ((ixQ ys.length i).bind fun n => (ys[n]?).bind fun x => (updAt f ks x).map fun y => D.lst true (ys.set n y)) = _
                rw [hn]
                show ((ys[n]?).bind fun x => (updAt f ks x).map fun y => D.lst true (ys.set n y)) = _
                rw [hx]
                show ((updAt f ks x).map fun y => D.lst true (ys.set n y)) = _
                rw [u1]; rfl
              · rw [List.nodup_cons]
                refine ⟨fun z => ?_, (dj.set u3 fun b hb j q hj hq hbq => ?_).nodup⟩
                · rcases ow a z with z | z
                  · exact nd.1 z.1
                  · rcases out a z with z | z
                    · exact nd.1 (pin a z)
                    · exact z List.mem_cons_self
                · rcases out b hb with z | z
                  · exact dj.two j n q p hq hp hj b hbq z
                  · exact z (List.mem_cons_of_mem _ (own_flat.mpr ⟨j, q, hq, hbq⟩))
              · rcases List.mem_cons.mp hb with rfl | hb
                · exact .inl ⟨List.mem_cons_self, fun z => nd.1 (pin _ (gp _ z))⟩
                · rcases ow b hb with z | z
                  · exact .inl ⟨List.mem_cons_of_mem _ z.1, fun y => z.2 (gp b y)⟩
                  · rcases u4 b z with z | z
                    · exact .inl ⟨List.mem_cons_of_mem _ (pin b z.1), z.2⟩
                    · exact .inr z
              · subst z
                exact dj.two j n q p hq hp hj b hb lp
          | non => cases hk
          | bl _ => cases hk
          | str _ => cases hk
          | tup _ => cases hk
          | lst _ _ => cases hk
          | dct _ _ _ => cases hk
          | st _ _ => cases hk
          | ins _ _ _ => cases hk
          | scr _ => cases hk
    | dct o a b => exact r.elim
    | non => simp [getAt] at h
    | bl _ => simp [getAt] at h
    | int _ => simp [getAt] at h
    | str _ => simp [getAt] at h
    | tup _ => simp [getAt] at h
    | st _ _ => simp [getAt] at h
    | ins _ _ _ => simp [getAt] at h
    | scr _ => simp [getAt] at h
theorem RSs.keepBut {M : Addr → Prop} (k : Kp H H' M N N') : ∀ {ds : Env} {vs : L2.St} {fps : List (List Addr)} {n : Nat} {o : Option D} {w : Option V} {p : List Addr}, RSs Γ H N ds vs fps → vs[n]? = some w → RS Γ H' N' o w p →
    (∀ (j : Nat) (q : List Addr), j ≠ n → fps[j]? = some q → ∀ a ∈ q, ¬ M a) → RSs Γ H' N' (ds.set n o) vs (fps.set n p)
  | [], [], [], n, _, _, _, _, h, _, _ => by simp at h
  | d :: ds, v :: vs, fp :: fps, 0, x, w, p, ⟨_, h2⟩, h, r, hm => by
    have h : v = w := by simpa using h
    subst h
    exact ⟨r, h2.keep k fun a ha => by
      obtain ⟨q, hq, haq⟩ := List.mem_flatten.mp ha
      obtain ⟨j, hj⟩ := List.mem_iff_getElem?.mp hq
      exact hm (j + 1) q (by omega) (by simpa using hj) a haq⟩
  | d :: ds, v :: vs, fp :: fps, n + 1, x, w, p, ⟨h1, h2⟩, h, r, hm => ⟨h1.keep k fun a ha => hm 0 fp (by omega) rfl a ha, RSs.keepBut (n := n) k h2 (by simpa using h) r fun j q hj hq => hm (j + 1) q (by omega) (by simpa using hq)⟩
  | [], [], _ :: _, _, _, _, _, z, _, _, _ => z.elim
  | [], _ :: _, _, _, _, _, _, z, _, _, _ => z.elim
  | _ :: _, [], _, _, _, _, _, z, _, _, _ => z.elim
  | _ :: _, _ :: _, [], _, _, _, _, z, _, _, _ => z.elim
variable {A : Addr → Prop} {en : Env} {σ : L2.St} {fps : List (List Addr)} {d : D} {i : Nat} {xs xs' ks : List D} {f : D → Option D}
theorem Sta.put (st : Sta Γ H A en σ fps) (h : get en i = some d) (hg : getAt ks d = some (.lst true xs)) (hf : f (.lst true xs) = some (.lst true xs')) :
    ∃ v0 l ws gps, σ[i]? = some (some v0) ∧ At H v0 ks (.ref l) ∧ H l = some (.lst ws) ∧ ROs Γ H (Nn A fps) xs ws gps ∧ (l :: gps.flatten).Nodup ∧ Own fps l ∧ (∀ a ∈ gps.flatten, Own fps a) ∧
      ∀ (ws' : List V) (gps' : List (List Addr)) (A' : Addr → Prop), ROs Γ H (Nn A fps) xs' ws' gps' → gps'.flatten.Nodup → (∀ a ∈ gps'.flatten, a ∈ gps.flatten ∨ A a) → (∀ a, A' a → (A a ∨ a ∈ gps.flatten) ∧ a ∉ gps'.flatten) →
        ∃ en' fps', upSlot en i (updAt f ks) = some en' ∧ Sta Γ (upd H l (.lst ws')) A' en' σ fps' ∧ Fr false H (upd H l (.lst ws')) (Own fps) (Nn A fps) (Nn A' fps') := by
  obtain ⟨v, fp, ev, ef, r⟩ := RSs.at st.rs h
  obtain ⟨l, ws, gps, h1, h2, h3, h4, h5, h6, put⟩ := RO.focus hf ks r (st.dj.one i fp ef) hg
  have ol : Own fps l := ⟨i, fp, ef, h4⟩
  have og : ∀ a ∈ gps.flatten, Own fps a := fun a ha => ⟨i, fp, ef, h5 a ha⟩
  refine ⟨v, l, ws, gps, ev, h1, h2, h3, h6, ol, og, fun ws' gps' A' rs nd sub hA => ?_⟩
  have nl : l ∉ gps'.flatten := fun z => by
    rcases sub l z with z | z
    · exact (List.nodup_cons.mp h6).1 z
    · exact st.ap l ol z
  
  have kk : ∀ N', (∀ a, N' a → Nn A fps a) → Kp H (upd H l (.lst ws')) (· = l) (Nn A fps) N' := fun N' hN => ⟨fun a u e n => by rw [upd_ne n]; exact e, fun a e => ⟨ws, by rw [e]; exact h2⟩, fun a e => by rw [e]; exact .inr ol, fun a z => .inl (hN a z)⟩
  have N0 : ∀ a, A' a → Nn A fps a := fun a z => (hA a z).1.elim .inl fun z => .inr (og a z)
  obtain ⟨d1, fp1, u1, u3, u4, u2⟩ := put (upd H l (.lst ws')) ws' gps' upd_same (List.nodup_cons.mpr ⟨nl, nd⟩) (fun a ha => (sub a ha).imp id fun z y => st.ap a ⟨i, fp, ef, y⟩ z)
  have ow : ∀ a, Own (fps.set i fp1) a → (Own fps a ∧ a ∉ gps.flatten) ∨ a ∈ gps'.flatten := fun a ha => by
    rcases own_set ha with z | ⟨j, q, hne, hj, haq⟩
    · rcases u4 a z with z | z
      · exact .inl ⟨⟨i, fp, ef, z.1⟩, z.2⟩
      · exact .inr z
    · exact .inl ⟨⟨j, q, hj, haq⟩, fun z => st.dj.two j i q fp hj ef hne a haq (h5 a z)⟩
  have N1 : ∀ a, Nn A' (fps.set i fp1) a → Nn A fps a := fun a z => by
    rcases z with z | z
    · exact N0 a z
    · rcases ow a z with z | z
      · exact .inr z.1
      · exact (sub a z).elim (fun z => .inr (og a z)) .inl
  have K := kk _ N1
  have rs1 := u2 _ K (rs.keep K fun a ha z => nl (by rw [← z]; exact ha))
  have th : ∀ a, H a ≠ none → upd H l (.lst ws') a ≠ none := fun a h => by
    by_cases e : a = l
    · rw [e, upd_same]; simp
    · rw [upd_ne e]; exact h
  refine ⟨en.set i (some d1), fps.set i fp1, ?_, ⟨st.rs.keepBut K ev ⟨v, rfl, rs1⟩ fun j q hj hq a ha z => ?_, st.dj.set u3 fun a ha j q hj hq haq => ?_, fun a ha z => ?_, fun a z => th a (st.dom' (N0 a z)), st.xo.keep K⟩, ⟨fun a u e z => ?_, th, fun a z => .inl (N1 a z)⟩⟩
  · unfold upSlot
    rw [h]
    show ((updAt f ks d).map fun d' => en.set i (some d')) = _
    rw [u1]; rfl
  · subst z
    exact st.dj.two j i q fp hq ef hj a ha h4
  · rcases u4 a ha with z | z
    · exact st.dj.two j i q fp hq ef hj a haq z.1
    · rcases sub a z with z | z
      · exact st.dj.two j i q fp hq ef hj a haq (h5 a z)
      · exact st.ap a ⟨j, q, hq, haq⟩ z
  · rcases ow a ha with y | y
    · rcases (hA a z).1 with z | z
      · exact st.ap a y.1 z
      · exact y.2 z
    · exact (hA a z).2 y
  · have ne : a ≠ l := fun y => by
      rcases z with z | z
      · cases z
      · exact z (by rw [y]; exact ol)
    rw [upd_ne ne]; exact e
end
end Q
end
section
set_option Elab.async false
set_option linter.all false
set_option autoImplicit false
set_option maxRecDepth 100000
namespace Q
open PySem PySem.Spec PyProof.Rows L2
section
variable {P : Prog} {cf : CF} {xc : Option (Nat × List D)} {Γ : Ga} {Wx : WX} {X : Cx} {pa pb pc : Expr} {pes : List Expr} {a e e' : E} {es : List E} {b : Bool} {pos : Pos}
theorem Aft.grow {s b1 : Bool} {H H1 : Hp} {A : Addr → Prop} {fps ps1 fps1 : List (List Addr)} {σ : L2.St} {ds : List D} {vs : List V} {en1 : Env} {p : Addr} {o : HO}
    (x : Aft Γ b1 s H A fps σ ds vs H1 en1 ps1 fps1) (hp : H1 p = none) : Aft Γ b1 s H A fps σ ds vs (upd H1 p o) en1 ps1 fps1 := by
  have k := new_keep (o := o) hp
  have th : ∀ a, H1 a ≠ none → upd H1 p o a ≠ none := fun a h => by
    obtain ⟨u, e⟩ := Option.ne_none_iff_exists'.mp h
    rw [k a u e]; simp
  obtain ⟨gps, e, r⟩ := x.ro
  exact ⟨⟨x.sta.rs.keep (Kp.grow0 k fun a z => .inl z) fun _ _ z => z, x.sta.dj, x.sta.ap, fun a z => th a (x.sta.dom a z), x.sta.xo.keep (Kp.grow0 k fun a z => .inl z)⟩, ⟨gps, e, r.keep (Kp.grow0 k fun a z => .inl z) fun _ _ z => z⟩, x.dj, x.ap, ⟨fun a u e z => k a u (x.fr.keep a u e z), fun a h => th a (x.fr.there a h), x.fr.new⟩⟩
theorem mt_q (hc : X.calm = true) (m : Mth) (hm : mthOk m = true) : ∃ id, MtR X id (rMt X.K m) ∧ ((m = .find ∧ id = "str.find") ∨ (m = .join ∧ id = "str.join") ∨ (m = .endswith ∧ id = "str.endswith") ∨ (m = .startswith ∧ id = "str.startswith") ∨ (m = .count ∧ id = "str.count")) := by
  cases m <;> first | (cases hm; done) | skip
  · exact ⟨"str.find", mt_find, .inl ⟨rfl, rfl⟩⟩
  · exact ⟨"str.endswith", mt_endswith, .inr (.inr (.inl ⟨rfl, rfl⟩))⟩
  · exact ⟨"str.startswith", mt_startswith, .inr (.inr (.inr (.inl ⟨rfl, rfl⟩)))⟩
  · exact ⟨"str.count", mt_count, .inr (.inr (.inr (.inr ⟨rfl, rfl⟩)))⟩
  · exact ⟨"str.join", mt_join, .inr (.inl ⟨rfl, rfl⟩)⟩
def mthN : Mth → Str
  | .find => "find" | .join => "join" | .endswith => "endswith" | .startswith => "startswith" | .count => "count" | .index => "index" | _ => "?"
theorem pe_mthQ (hK : X.K = Γ.K) (hc : X.calm = true) {m : Mth} (hm : mthOk m = true) {apos : Pos} (ha : ∀ b, PE X pa ((tA P cf xc Γ Wx) b a)) (he : ∀ b, PE X pb ((tA P cf xc Γ Wx) b e)) (hs : starEach [pb] X.env = [(false, eval pb X.env)])
    (hbase : attributeBase pa (mthN m) X.env (eval pa X.env) = eval pa X.env) (hline : (apos.endLine == pos.line) = true) :
    PE X (.Call (.Attribute pa (mthN m) apos) [pb] [] pos) ((tA P cf xc Γ Wx) b (.mth m a [e])) := by
  have i : ∀ σ H Q, (tA P cf xc Γ Wx) b (.mth m a [e]) σ H Q → tM1 (rMt X.K m) ((tA P cf xc Γ Wx) (simpEs [e]) a) ((tA P cf xc Γ Wx) true e) σ H Q := fun σ H Q ⟨A, en, fps, st, g⟩ => by
    rw [hK]
    rw [ev, got_bind] at g
    refine ⟨A, en, fps, st, g.imp (fun x en1 g v1 H1 ps1 fps1 a1 => ?_) fun _ _ _ g => g⟩
    split at g
    · rename_i ty
      obtain ⟨f1, r1, _⟩ := a1.one
      refine ⟨?_, ?_⟩
      · cases m <;> first | (cases hm; done) | skip
        all_goals
          cases x <;> first | (cases ty; done) | skip
          exact ⟨_, r1.1⟩
      · rw [got_bind, evsB, got_bind] at g
        refine ⟨_, en1, fps1, a1.sta, g.imp (fun y en2 g v2 H2 ps2 fps2 a2 => ?_) fun C ds en2 g cls dd H2 fps2 y => g _ _ _ _ (AftX.pre a1 y)⟩
        rw [evsB] at g
        obtain ⟨d, ed, g⟩ := got_op g
        have z := a1.cat (b := true) a2 (fun z => ⟨by simpa [simpEs] using z, rfl⟩) (fun z => rfl)
        obtain ⟨gps, _, rr⟩ := z.ro
        match gps, rr with
        | [f1, f2], rr => exact mt_ok (fps := [f2]) ed hm rr.1 rr.2 (z.made fun v H' ps y => g v H' ps _ (y.less fun z => by
            simp only [simpE, simpEs, Bool.and_eq_true] at z ⊢
            exact ⟨z.1, z.2.1⟩))
        | [], rr => exact rr.elim
        | [_], rr => exact rr.2.elim
        | _ :: _ :: _ :: _, rr => exact rr.2.2.elim
    · exact g.elim
  cases m <;> first | (cases hm; done) | skip
  · exact (pe_m1 PySem.F.slot_str_find PySem.F.type_str_find mt_find (ha (simpEs [e])) (he true) hs hbase hline).imp i
  · exact (pe_m1 PySem.F.slot_str_endswith PySem.F.type_str_endswith mt_endswith (ha (simpEs [e])) (he true) hs hbase hline).imp i
  · exact (pe_m1 PySem.F.slot_str_startswith PySem.F.type_str_startswith mt_startswith (ha (simpEs [e])) (he true) hs hbase hline).imp i
  · exact (pe_m1 PySem.F.slot_str_count PySem.F.type_str_count mt_count (ha (simpEs [e])) (he true) hs hbase hline).imp i
  · exact (pe_m1 PySem.F.slot_str_join PySem.F.type_str_join mt_join (ha (simpEs [e])) (he true) hs hbase hline).imp i
theorem kitO {K : PySem.W.Frag} {sup : Nat → List Nat} {n k : String} {x : D} {t : Ty} (hd : dTy x = some n) (ht : tyN t = some k) : PySem.W.kitOne K (.type n) (.type k) = some (typ sup x t) := kit_ty (kitB_typ hd ht)
theorem pe_isi1 (hK : X.K = Γ.K) (hg : Gl X "isinstance") (hm : X.mg "isinstance" = none) {p : Pos} {t : Ty} {k : String} (ht : tyN t = some k) (ha : ∀ b, PE X pa ((tA P cf xc Γ Wx) b a)) (hT : PE X pb (tC (.ty k))) (h1 : ∀ x p, pa ≠ .Starred x p) (h2 : ∀ x p, pb ≠ .Starred x p) :
    PE X (.Call (.Name "isinstance" p) [pa, pb] [] pos) ((tA P cf xc Γ Wx) b (.isi a [t])) := by
  refine (pe_callB call_isi hg hm (by decide +kernel) (pa_cons (ha true) (pa_cons hT pa_nil (star_of h2)) (star_of h1)) (by decide) (by decide) (star_of h1) (by rw [star_of h2]; rfl)).imp fun σ H Q ⟨A, en, fps, st, g⟩ => ?_
  rw [hK]
  rw [ev, got_bind] at g
  refine ⟨A, en, fps, st, g.imp (fun x en1 g v1 H1 ps1 fps1 a1 => ?_) fun _ _ _ g => g⟩
  obtain ⟨fp, r, _⟩ := a1.one
  obtain ⟨n, hd, ty⟩ := r.tyX
  refine ⟨v1, .ty k, .type n, .type k, typ P.sup x t, rfl, .ty k, ty, kitO hd ht, ?_⟩
  have g : ∀ v H' ps fps', Aft Γ b (simpE (.isi a [t])) H A fps σ [.bl ([t].any (typ P.sup x))] [v] H' en1 ps fps' → Q v H' := g
  rw [show [t].any (typ P.sup x) = typ P.sup x t by simp] at g
  exact (a1.made (b := b) fun v H' ps y => g v H' ps _ y).bl
theorem kitAny_of {K : PySem.W.Frag} {sup : Nat → List Nat} {n : String} {x : D} (hd : dTy x = some n) : ∀ {ts : List Ty} {ks : List String}, ts.map tyN = ks.map some → PySem.W.kitAny K (.type n) (ks.map Value.type) = some (ts.any (typ sup x))
  | [], [], _ => kitAny_nil
  | t :: ts, k :: ks, h => by
    have h1 : tyN t = some k := by simpa using (List.cons.inj h).1
    have h2 : ts.map tyN = ks.map some := by simpa using (List.cons.inj h).2
    exact kitAny_cons (kitO (sup := sup) hd h1) (fun z => by rw [kitAny_of hd h2, List.any_cons, z, Bool.false_or]) (fun z => by rw [List.any_cons, z, Bool.true_or])
  | [], _ :: _, h => by simp at h
  | _ :: _, [], h => by simp at h
theorem paired_ty : ∀ ks : List String, Paired ClsV (ks.map V.ty) (ks.map Value.type)
  | [] => .nil
  | k :: ks => .cons (.ty k) (paired_ty ks)
def tTys (ks : List String) : TA := fun _ H Q => Q (ks.map V.ty) H
theorem pa_tys0 : PA X [] (tTys []) := pa_nil
theorem pa_tysC {k : String} {ks : List String} (h1 : ∀ x p, pa ≠ .Starred x p) (hT : PE X pa (tC (.ty k))) (hr : PA X pes (tTys ks)) : PA X (pa :: pes) (tTys (k :: ks)) := (pa_cons hT hr (star_of h1)).imp fun _ _ _ h => h
theorem pe_isiN (hK : X.K = Γ.K) (hg : Gl X "isinstance") (hm : X.mg "isinstance" = none) {p pp : Pos} {kk : Nat} {ts : List Ty} {ks : List String} (hl : ks.length ≤ 1000) (ht : ts.map tyN = ks.map some) (ha : ∀ b, PE X pa ((tA P cf xc Γ Wx) b a)) (hT : PA X pes (tTys ks)) (h1 : ∀ x p, pa ≠ .Starred x p) :
    PE X (.Call (.Name "isinstance" p) [pa, .Tuple pes kk pp] [] pos) ((tA P cf xc Γ Wx) b (.isi a ts)) := by
  refine (pe_callB call_isiT hg hm (by decide +kernel) (pa_cons (ha true) (pa_cons (pe_tup hT) pa_nil (star_of (pa := .Tuple pes kk pp) fun _ _ z => nomatch z)) (star_of h1)) (by decide) (by decide) (star_of h1) (by rw [star_of (pa := .Tuple pes kk pp) fun _ _ z => nomatch z]; rfl)).imp fun σ H Q ⟨A, en, fps, st, g⟩ => ?_
  rw [hK]
  rw [ev, got_bind] at g
  refine ⟨A, en, fps, st, g.imp (fun x en1 g v1 H1 ps1 fps1 a1 => ?_) fun _ _ _ g => g⟩
  obtain ⟨fp, r, _⟩ := a1.one
  refine ⟨by rw [List.length_map, sizeLine_eq]; omega, fun p hp => ?_⟩
  have a2 := a1.grow (o := .tup (ks.map V.ty)) hp
  obtain ⟨fp, r, _⟩ := a2.one
  obtain ⟨n, hd, ty⟩ := r.tyX
  exact ⟨v1, p, ks.map V.ty, .type n, ks.map Value.type, _, rfl, upd_same, paired_ty ks, ty, kitAny_of hd ht, (a2.made (b := b) fun v H' ps y => g v H' ps _ y).bl⟩
theorem rangeL_ros : ∀ (n : Nat) (lo : Int) {H : Hp} {N : Addr → Prop}, ∃ fps, ROs Γ H N (rangeL lo n) ((List.range n).map fun (i : Nat) => V.int (lo + i)) fps ∧ ∀ p ∈ fps, p = []
  | 0, _, _, _ => ⟨[], True.intro, fun _ h => nomatch h⟩
  | n + 1, lo, H, N => by
    obtain ⟨fps, h, hf⟩ := rangeL_ros n (lo + 1) (H := H) (N := N)
    refine ⟨[] :: fps, ?_, fun p hp => ?_⟩
    · rw [List.range_succ_eq_map, List.map_cons, List.map_map]
      refine ⟨⟨by simp, rfl⟩, ?_⟩
      have : ((fun (i : Nat) => V.int (lo + i)) ∘ Nat.succ) = fun (i : Nat) => V.int (lo + 1 + i) := by
        funext i
        show V.int (lo + ((i + 1 : Nat) : Int)) = _
        congr 1
        omega
      rw [this]
      exact h
    · rcases List.mem_cons.mp hp with rfl | hp
      · rfl
      · exact hf p hp
theorem rg_ros {a c : Int} {n : Nat} {H : Hp} {N : Addr → Prop} (h : n = (c - a).toNat) : ∃ fps, ROs Γ H N (rangeL a n) (rgV a c) fps ∧ ∀ p ∈ fps, p = [] := by
  unfold rgV
  rw [← h]
  exact rangeL_ros n a
theorem lim_lt {n : Int} (h : n < (LIM : Int)) : n < 1000000 := by
  unfold LIM at h; omega
theorem smR_of {i : Int} (h : smR i = true) : -4611686018427387904 ≤ i ∧ i < 4611686018427387904 := by
  unfold smR at h
  simpa using h
theorem pe_lrg1 (hc : X.calm = true) (hgl : Gl X "list") (hml : X.mg "list" = none) (hg : Gl X "range") (hm : X.mg "range" = none) {p p2 pos2 : Pos} (ha : ∀ b, PE X pa ((tA P cf xc Γ Wx) b a)) (h1 : ∀ x p, pa ≠ .Starred x p) :
    PE X (.Call (.Name "list" p) [.Call (.Name "range" p2) [pa] [] pos2] [] pos) ((tA P cf xc Γ Wx) b (.of .list (.rng [a]))) :=
  (pe_listRg hc hgl hml (prg_1 hg hm (ha false) (star_of h1)) rfl).imp fun σ H Q ⟨A, en, fps, st, g⟩ => by
    rw [ev, evIt, got_bind, got_bind, evs, got_bind] at g
    refine ⟨A, en, fps, st, g.imp (fun x en1 g v1 H1 ps1 fps1 a1 => ?_) fun _ _ _ g => g⟩
    rw [evs] at g
    obtain ⟨f1, r1, _⟩ := a1.one
    cases x <;> first | exact g.elim | skip
    rename_i n
    refine ⟨n, r1.1, ?_⟩
    have g : Got (match (if (smR n && decide (n < (LIM : Int))) = true then some (rangeL 0 n.toNat) else none : Option (List D)) with | some r => Res.ok (Pit.lst r) en1 | none => .st) (fun (p : Pit) en => Got (match p with | .lst ds => op (blt .list [.tup ds]) en | _ => .st) (fun d en' => ∀ v H' ps fps', Aft Γ b false H A fps σ [d] [v] H' en' ps fps' → Q v H') (XW Γ Wx H A fps σ)) (XW Γ Wx H A fps σ) := g
    split at g
    · rename_i e
      split at e
      · rename_i hl
        cases e
        simp only [Bool.and_eq_true, decide_eq_true_eq] at hl
        have h2 := lim_lt hl.2
        have h3 := smR_of hl.1
        have g : ∀ v H' ps fps', Aft Γ b false H A fps σ [.lst true (rangeL 0 n.toNat)] [v] H' en1 ps fps' → Q v H' := g
        obtain ⟨gp, rr, hf⟩ := rg_ros (Γ := Γ) (H := H1) (N := Nn (Nn A ps1) fps1) (a := 0) (c := n) (n := n.toNat) (by omega)
        exact ⟨⟨by omega, by omega, by omega, by omega, by omega⟩, fun q hq => ((a1.less (s' := false) fun z => nomatch z).made (b := b) fun v H' ps y => g v H' ps _ y).lst rr hf hq⟩
      · cases e
    · exact g.elim
theorem pe_lrg2 (hc : X.calm = true) (hgl : Gl X "list") (hml : X.mg "list" = none) (hg : Gl X "range") (hm : X.mg "range" = none) {p p2 pos2 : Pos} (ha : ∀ b, PE X pa ((tA P cf xc Γ Wx) b a)) (he : ∀ b, PE X pb ((tA P cf xc Γ Wx) b e)) (h1 : ∀ x p, pa ≠ .Starred x p) (h2 : ∀ x p, pb ≠ .Starred x p) :
    PE X (.Call (.Name "list" p) [.Call (.Name "range" p2) [pa, pb] [] pos2] [] pos) ((tA P cf xc Γ Wx) b (.of .list (.rng [a, e]))) :=
  (pe_listRg hc hgl hml (prg_2 hg hm (ha false) (he false) (star_of h1) (star_of h2) (by rw [star_of h2]; rfl)) rfl).imp fun σ H Q ⟨A, en, fps, st, g⟩ => by
    rw [ev, evIt, got_bind, got_bind, evs, got_bind] at g
    refine ⟨A, en, fps, st, g.imp (fun x en1 g v1 H1 ps1 fps1 a1 => ?_) fun _ _ _ g => g⟩
    rw [got_bind, evs, got_bind] at g
    refine ⟨_, en1, fps1, a1.sta, g.imp (fun y en2 g v2 H2 ps2 fps2 a2 => ?_) fun C ds en2 g cls dd H2 fps2 y => g _ _ _ _ (AftX.pre a1 y)⟩
    rw [evs] at g
    have z := a1.cat (b := false) a2 (fun z => nomatch z) (fun z => nomatch z)
    obtain ⟨f1, r1, _⟩ := a1.one
    obtain ⟨f2, r2, _⟩ := a2.one
    cases y <;> first | (cases x <;> exact g.elim) | skip
    rename_i m
    cases x <;> first | exact g.elim | skip
    rename_i n g0
    refine ⟨n, m, r1.1, r2.1, ?_⟩
    have g : Got (match (if (smR n && smR m && decide (m - n < (LIM : Int))) = true then some (rangeL n (m - n).toNat) else none : Option (List D)) with | some r => Res.ok (Pit.lst r) en2 | none => .st) (fun (p : Pit) en => Got (match p with | .lst ds => op (blt .list [.tup ds]) en | _ => .st) (fun d en' => ∀ v H' ps fps', Aft Γ b false H A fps σ [d] [v] H' en' ps fps' → Q v H') (XW Γ Wx H A fps σ)) (XW Γ Wx H A fps σ) := g
    split at g
    · rename_i e
      split at e
      · rename_i hl
        cases e
        simp only [Bool.and_eq_true, decide_eq_true_eq] at hl
        have h2 := lim_lt hl.2
        have h3 := smR_of hl.1.1
        have h4 := smR_of hl.1.2
        have g : ∀ v H' ps fps', Aft Γ b false H A fps σ [.lst true (rangeL n (m - n).toNat)] [v] H' en2 ps fps' → Q v H' := g
        obtain ⟨gp, rr, hf⟩ := rg_ros (Γ := Γ) (H := H2) (N := Nn (Nn A (ps1 ++ ps2)) fps2) (a := n) (c := m) (n := (m - n).toNat) rfl
        exact ⟨⟨by omega, by omega, by omega, by omega, by omega⟩, fun q hq => ((z.less (s' := false) fun z => nomatch z).made (b := b) fun v H' ps y => g v H' ps _ y).lst rr hf hq⟩
      · cases e
    · exact g.elim
end
end Q
end
section
set_option Elab.async false
set_option linter.all false
set_option autoImplicit false
set_option maxRecDepth 100000
namespace Q
open PySem PySem.Spec PyProof.Rows L2
mutual
theorem lay_P : ∀ (k : Nat) (d : D), plain k d = true → lay d = true → (toP d).canLay0 = true
  | _, .non, _, _ => rfl
  | _, .bl _, _, _ => rfl
  | _, .int _, _, _ => rfl
  | _, .str x, _, h => by
    have h : (x.all fun c => decide (c < 1114112)) = true := h
    simp only [toP, PyData.canLay0, PyData.strOk]
    rw [List.all_eq_true] at h
    rw [Array.all_eq_true]
    intro i hi
    have := h x[i] (List.getElem_mem _)
    simpa using this
  | k + 1, .tup ds, hp, h => by
    simp only [toP, PyData.canLay0]
    exact lays_P k ds (by simpa [plain] using hp) (by simpa [lay] using h)
  | k + 1, .lst o ds, hp, h => by
    simp only [toP, PyData.canLay0]
    exact lays_P k ds (by simpa [plain] using hp) (by simpa [lay] using h)
  | 0, .tup _, h, _ => by simp [plain] at h
  | 0, .lst _ _, h, _ => by simp [plain] at h
  | _, .dct _ _ _, h, _ => by simp [plain] at h
  | _, .st _ _, h, _ => by simp [plain] at h
  | _, .ins _ _ _, h, _ => by simp [plain] at h
  | _, .scr _, h, _ => by simp [plain] at h
theorem lays_P : ∀ (k : Nat) (ds : List D), plains k ds = true → lays ds = true → PyData.canLayAll0 (toPs ds) = true
  | _, [], _, _ => rfl
  | k, d :: ds, hp, h => by
    simp only [plains, Bool.and_eq_true] at hp
    simp only [lays, Bool.and_eq_true] at h
    simp only [toPs, PyData.canLayAll0, lay_P k d hp.1 h.1, lays_P k ds hp.2 h.2, Bool.and_self]
end
theorem toPs_get : ∀ {ds : List D} {i : Nat}, (toPs ds)[i]? = (ds[i]?).map toP
  | [], i => by simp [toPs]
  | d :: ds, 0 => by simp [toPs]
  | d :: ds, i + 1 => by
    show (toP d :: toPs ds)[i + 1]? = _
    rw [List.getElem?_cons_succ, List.getElem?_cons_succ]
    exact toPs_get
theorem indexD_at {d : D} : ∀ {xs : List D} {k j : Nat}, indexD d xs k = some j → ∃ i z, j = k + i ∧ xs[i]? = some z ∧ deq z d = true ∧ ∀ (m : Nat) (z' : D), m < i → xs[m]? = some z' → deq z' d = false
  | [], _, _, h => by simp [indexD] at h
  | x :: xs, k, j, h => by
    rw [indexD] at h
    split at h
    · rename_i e
      cases h
      exact ⟨0, x, rfl, rfl, e, fun m z' hm => by omega⟩
    · rename_i e
      obtain ⟨i, z, h1, h2, h3, h4⟩ := indexD_at h
      refine ⟨i + 1, z, by omega, by simpa using h2, h3, fun m z' hm hz => ?_⟩
      cases m with
      | zero =>
        cases hz
        simpa using e
      | succ m => exact h4 m z' (by omega) (by simpa using hz)
theorem plains_at {k : Nat} : ∀ {ds : List D} {i : Nat} {d : D}, plains k ds = true → ds[i]? = some d → plain k d = true
  | [], i, d, _, h => by simp at h
  | x :: xs, 0, d, hp, h => by
    simp only [plains, Bool.and_eq_true] at hp
    cases h; exact hp.1
  | x :: xs, i + 1, d, hp, h => by
    simp only [plains, Bool.and_eq_true] at hp
    exact plains_at hp.2 (by simpa using h)
section
variable {Γ : Ga} {H : Hp} {N : Addr → Prop} {Q : VK} {d x y : D} {vx vy : V} {fx fy : List Addr}
theorem idx_ok {o : Bool} {xs : List D} (h : mth .index (.lst o xs) [y] = some d) (rx : RO Γ H N (.lst o xs) vx fx) (ry : RO Γ H N y vy fy) (m : Made Γ H N d Q) : rIndexD Γ.K vx [vy] H Q := by
  have h : (if (plain MAXD y && plains MAXD xs && (lay y && lays xs)) = true then (indexD y xs 0).map fun k => D.int k else none) = some d := h
  split at h
  · rename_i c
    simp only [Bool.and_eq_true] at c
    obtain ⟨⟨c1, c2⟩, c3, c4⟩ := c
    cases hi : indexD y xs 0 with
    | none => rw [hi] at h; cases h
    | some j =>
      rw [hi] at h
      cases h
      obtain ⟨i, z, e1, e2, e3, e4⟩ := indexD_at hi
      rw [Nat.zero_add] at e1
      subst e1
      obtain ⟨a, ws, gps, rfl, h1, h2⟩ := rx.lstD
      have hk : (12 : Nat) = MAXD := rfl
      obtain ⟨p1, p2⟩ := toPs_plain MAXD xs c2
      obtain ⟨p3, p4⟩ := toP_plain MAXD y c1
      refine ⟨a, vy, toP y, toPs xs, j, toP z, rfl, rfl, .lst (.inl (.inl h1)) (ROs.dp MAXD xs h2 c2), RO.dp MAXD y ry c1, ?_, ?_, ?_, ?_, ?_, m.int⟩
      · show (PyData.canLay0 (.list (toPs xs)) && decide (PyData.depth (.list (toPs xs)) ≤ 64)) = true
        rw [Bool.and_eq_true]
        exact ⟨by simp only [PyData.canLay0]; exact lays_P MAXD xs c2 c4, decide_eq_true (by simp only [PyData.depth]; omega)⟩
      · show (PyData.canLay0 (toP y) && decide (PyData.depth (toP y) ≤ 64)) = true
        rw [Bool.and_eq_true]
        exact ⟨lay_P MAXD y c1 c3, decide_eq_true (by omega)⟩
      · rw [toPs_get, e2]; rfl
      · rw [eqv_of (plains_at c2 e2) c1]; exact e3
      · intro m z' hm hz
        rw [toPs_get] at hz
        cases hx : xs[m]? with
        | none => rw [hx] at hz; cases hz
        | some u =>
          rw [hx] at hz
          cases hz
          rw [eqv_of (plains_at c2 hx) c1]
          exact e4 m u hm hx
  · cases h
theorem upT : ∀ c : Fin 128, Unicode.upperOf c.val = [upC c.val] := by decide +kernel
theorem up_eq {z : List Nat} (h : (z.all fun c => decide (c < 128)) = true) : (Txt.upper ⟨z.toArray⟩).cps.toList = z.map upC := by
  rw [List.all_eq_true] at h
  unfold Txt.upper placed
  have e : (Array.mapIdx (fun i c => (Unicode.upperOf c).toArray) z.toArray) = (z.map fun c => #[upC c]).toArray := by
    apply Array.ext'
    simp only [List.mapIdx_toArray]
    apply List.ext_getElem?
    intro i
    rw [List.getElem?_mapIdx, List.getElem?_map]
    cases hz : z[i]? with
    | none => rfl
    | some c =>
      have hc : c < 128 := by simpa using h c (List.mem_of_getElem? hz)
      have := upT ⟨c, hc⟩
      simp only [Option.map_some]
      rw [show Unicode.upperOf c = [upC c] from this]
  show (Array.flatten _).toList = _
  rw [e]
  clear e h
  have e2 : ∀ z : List Nat, (List.map (Array.toList ∘ fun c => #[upC c]) z).flatten = z.map upC := fun z => by
    induction z with
    | nil => rfl
    | cons c z ih =>
      rw [List.map_cons, List.flatten_cons, ih]
      rfl
  simpa using e2 z
end
section
variable {P : Prog} {cf : CF} {xc : Option (Nat × List D)} {Γ : Ga} {Wx : WX} {X : Cx} {pa pb pc : Expr} {pes : List Expr} {a e e' : E} {es : List E} {b : Bool} {pos : Pos}
theorem pe_idxQ (hK : X.K = Γ.K) (hu : X.A.units + 65 < cLine) {apos : Pos} (ha : ∀ b, PE X pa ((tA P cf xc Γ Wx) b a)) (he : ∀ b, PE X pb ((tA P cf xc Γ Wx) b e)) (hs : starEach [pb] X.env = [(false, eval pb X.env)])
    (hbase : attributeBase pa "index" X.env (eval pa X.env) = eval pa X.env) (hline : (apos.endLine == pos.line) = true) :
    PE X (.Call (.Attribute pa "index" apos) [pb] [] pos) ((tA P cf xc Γ Wx) b (.mth .index a [e])) := by
  refine (pe_bm PySem.F.plainAttrs_list PySem.F.slot_list_index PySem.F.type_list_index (mt_indexD hu) (ha (simpEs [e])) (pa_cons (he true) pa_nil hs) hbase (by rw [hs]; rfl) hline (by rw [hs]; rfl) rfl).imp fun σ H Q ⟨A, en, fps, st, g⟩ => ?_
  rw [hK]
  rw [ev, got_bind] at g
  refine ⟨A, en, fps, st, g.imp (fun x en1 g v1 H1 ps1 fps1 a1 => ?_) fun _ _ _ g => g⟩
  split at g
  · rename_i ty
    obtain ⟨f1, r1, _⟩ := a1.one
    cases x with
    | lst o xs =>
      obtain ⟨p, ws, gps, e1, h1, h2⟩ := id r1.lstD
      refine ⟨?_, ?_⟩
      · rw [e1]
        exact .inl ⟨rfl, _, .inl (.inl h1)⟩
      · rw [got_bind, evsB, got_bind] at g
        refine ⟨_, en1, fps1, a1.sta, g.imp (fun y en2 g v2 H2 ps2 fps2 a2 => ?_) fun C ds en2 g cls dd H2 fps2 y => g _ _ _ _ (AftX.pre a1 y)⟩
        rw [evsB] at g
        obtain ⟨d, ed, g⟩ := got_op g
        have z := a1.cat (b := true) a2 (fun z => ⟨by simpa [simpEs] using z, rfl⟩) (fun z => rfl)
        obtain ⟨gps, _, rr⟩ := z.ro
        match gps, rr with
        | [f1, f2], rr => exact idx_ok ed rr.1 rr.2.1 (z.made fun v H' ps y => g v H' ps _ (y.less fun z => by
            simp only [simpE, simpEs, Bool.and_eq_true] at z ⊢
            exact ⟨z.1, z.2.1⟩))
        | [], rr => exact rr.elim
        | [_], rr => exact rr.2.elim
        | _ :: _ :: _ :: _, rr => exact rr.2.2.elim
    | _ => cases ty
  · exact g.elim
theorem He_and {z : List Nat} (h : ((z.all fun c => decide (c < 128)) && decide (z.length ≤ LIM)) = true) : (z.all fun c => decide (c < 128)) = true ∧ z.length ≤ LIM := by
  rw [Bool.and_eq_true, decide_eq_true_eq] at h
  exact h
theorem pe_upQ {apos : Pos} (ha : ∀ b, PE X pa ((tA P cf xc Γ Wx) b a)) (hbase : attributeBase pa "upper" X.env (eval pa X.env) = eval pa X.env) (hline : (apos.endLine == pos.line) = true) :
    PE X (.Call (.Attribute pa "upper" apos) [] [] pos) ((tA P cf xc Γ Wx) b (.mth .upper a [])) := by
  refine (pe_upper (ha true) hbase hline).imp fun σ H Q ⟨A, en, fps, st, g⟩ => ?_
  rw [ev, got_bind] at g
  refine ⟨A, en, fps, st, g.imp (fun x en1 g v1 H1 ps1 fps1 a1 => ?_) fun _ _ _ g => g⟩
  split at g
  · rename_i ty
    obtain ⟨f1, r1, _⟩ := a1.one
    cases x with
    | str z =>
      rw [got_bind, evsB] at g
      obtain ⟨d, ed, g⟩ := got_op (show Got (op (mth .upper (.str z) []) en1) _ _ from g)
      have ed : (if ((z.all fun c => decide (c < 128)) && decide (z.length ≤ LIM)) = true then some (D.str (z.map upC)) else none) = some d := ed
      split at ed
      · rename_i hz
        obtain ⟨hz, hz2⟩ := He_and hz
        cases ed
        obtain ⟨e1, e2⟩ := id (show v1 = .str ⟨z.toArray⟩ ∧ z.length ≤ sizeLine ∧ f1 = [] from r1)
        have m0 := a1.made (b := b) (d := D.str (z.map upC)) (Q := Q) fun v H' ps y => g v H' ps _ (y.less fun q => by simpa [simpE, simpEs] using q)
        refine ⟨⟨_, e1⟩, _, e1, rfl, ?_, m0.strE (up_eq hz) ?_⟩
        · rw [str_len]
          exact Nat.le_trans hz2 (by decide)
        · rw [List.length_map]
          exact Nat.le_trans hz2 LIM_line
      · cases ed
    | _ => cases ty
  · exact g.elim
end
end Q
end
section
set_option Elab.async false
set_option linter.all false
set_option autoImplicit false
set_option maxRecDepth 100000
namespace Q
open PySem PySem.Spec PyProof.Rows L2
section
variable {P : Prog} {cf : CF} {xc : Option (Nat × List D)} {Γ : Ga} {Wx : WX} {X : Cx} {pa pb pc : Expr} {pes : List Expr} {a e e' : E} {es : List E} {b : Bool} {pos : Pos}
def tBox (P : Prog) (cf : CF) (xc : Option (Nat × List D)) (Γ : Ga) (Wx : WX) (i : Nat) (path : List E) : TE := fun σ H Q => ∃ A en fps, Sta Γ H A en σ fps ∧ Got (hasR i en (evs P cf xc path en)) (fun ks en' =>
  ∃ xs, (get en' i).bind (getAt ks) = some (.lst true xs) ∧ ∀ vs H' ps fps' v0 l ws, Aft Γ false (simpEs path) H A fps σ ks vs H' en' ps fps' → σ[i]? = some (some v0) → At H' v0 ks (.ref l) → H' l = some (.lst ws) → Q (.ref l) H') (XW Γ Wx H A fps σ)
theorem got_has {α : Type} {i : Nat} {en : Env} {r : Res α} {k : α → Env → Prop} {x : Nat → List D → Env → Prop} (g : Got (hasR i en r) k x) : (∃ d, get en i = some d) ∧ Got r k x := by
  unfold hasR at g
  cases h : get en i with
  | none => rw [h] at g; exact g.elim
  | some d => rw [h] at g; exact ⟨⟨d, rfl⟩, g⟩
theorem Sta.box {A : Addr → Prop} {en : Env} {fps : List (List Addr)} {H : Hp} {σ : L2.St} {i : Nat} {ks xs : List D} (st : Sta Γ H A en σ fps) (h : (get en i).bind (getAt ks) = some (.lst true xs)) :
    ∃ v0 l ws, σ[i]? = some (some v0) ∧ At H v0 ks (.ref l) ∧ H l = some (.lst ws) := by
  cases hd : get en i with
  | none => rw [hd] at h; cases h
  | some d =>
    rw [hd] at h
    obtain ⟨v0, l, ws, gps, h1, h2, h3, _⟩ := st.put (f := some) (xs' := xs) hd h rfl
    exact ⟨v0, l, ws, h1, h2, h3⟩
theorem pe_box0 {i : Nat} (he : PE X pa (tVar i)) : PE X pa (tBox P cf xc Γ Wx i []) :=
  he.imp fun σ H Q ⟨A, en, fps, st, g⟩ => by
    obtain ⟨_, g⟩ := got_has g
    rw [evs] at g
    obtain ⟨xs, h, g⟩ := g
    obtain ⟨v0, l, ws, h1, h2, h3⟩ := st.box h
    refine ⟨v0, h1, ?_⟩
    rw [show v0 = .ref l from h2]
    exact g [] H _ _ v0 l ws (Aft.nil st) h1 h2 h3
theorem pe_box1 (hK : X.K = Γ.K) {i : Nat} (hi : PlainIx pb) (hn : PE X pa (tVar i)) (he : ∀ b, PE X pb ((tA P cf xc Γ Wx) b e)) : PE X (.Subscript pa pb pos) (tBox P cf xc Γ Wx i [e]) :=
  (pe_ix ix_seq hn (he false) hi).imp fun σ H Q ⟨A, en, fps, st, g⟩ => by
    rw [hK]
    obtain ⟨⟨d, hd⟩, g⟩ := got_has g
    obtain ⟨v, fp, ev0, _, _⟩ := RSs.at st.rs hd
    rw [evs, got_bind] at g
    refine ⟨v, ev0, A, en, fps, st, g.imp (fun k en1 g v1 H1 ps1 fps1 a1 => ?_) fun _ _ _ g => g⟩
    rw [got_bind, evs] at g
    obtain ⟨xs, h, g⟩ := g
    obtain ⟨v0, l, ws, h1, h2, h3⟩ := a1.sta.box h
    rw [ev0] at h1
    cases h1
    have q := g [v1] H1 _ _ v l ws (a1.less fun z => by simpa [simpEs] using z) ev0 h2 h3
    obtain ⟨f1, r1, _⟩ := a1.one
    obtain ⟨a, vs, j, n, w, e1, e2, e3, e4, e5, e6⟩ := h2
    subst e3
    have e6 : w = .ref l := e6
    subst e6
    exact .inl ⟨a, vs, j, .ref l, e1, r1.1, .inl (.inl e2), by unfold atI; rw [← ixQ_eq, e4]; exact e5, q⟩
theorem ROs.last {H : Hp} {N : Addr → Prop} : ∀ {xs : List D} {ws : List V} {gps : List (List Addr)} {y : D}, ROs Γ H N xs ws gps → xs.getLast? = some y →
    ∃ w p, ws[ws.length - 1]? = some w ∧ gps = gps.dropLast ++ [p] ∧ RO Γ H N y w p ∧ ROs Γ H N xs.dropLast ws.dropLast gps.dropLast
  | [], _, _, _, _, h => by simp at h
  | [x], [v], [p], y, ⟨h1, _⟩, h => by
    have h : x = y := by simpa using h
    subst h
    exact ⟨v, p, rfl, rfl, h1, True.intro⟩
  | x :: x' :: xs, v :: v' :: vs, p :: p' :: ps, y, ⟨h1, h2⟩, h => by
    obtain ⟨w, q, e1, e2, e3, e4⟩ := ROs.last (xs := x' :: xs) h2 (by simpa using h)
    refine ⟨w, q, by simpa using e1, ?_, e3, ⟨h1, e4⟩⟩
    rw [show (p :: p' :: ps).dropLast = p :: (p' :: ps).dropLast from rfl, List.cons_append, ← e2]
  | [_], [], _, _, z, _ => by cases z
  | [_], _ :: _, [], _, z, _ => z.elim
  | [_], [_], _ :: _ :: _, _, z, _ => z.2.elim
  | [_], _ :: _ :: _, [_], _, z, _ => z.2.elim
  | [_], _ :: _ :: _, _ :: _ :: _, _, z, _ => z.2.elim
  | _ :: _ :: _, [], _, _, z, _ => by cases z
  | _ :: _ :: _, [_], [], _, z, _ => z.elim
  | _ :: _ :: _, [_], [_], _, z, _ => z.2.elim
  | _ :: _ :: _, [_], _ :: _ :: _, _, z, _ => z.2.elim
  | _ :: _ :: _, _ :: _ :: _, [], _, z, _ => z.elim
  | _ :: _ :: _, _ :: _ :: _, [_], _, z, _ => z.2.elim
theorem pe_popQ (hK : X.K = Γ.K) {i : Nat} {path : List E} {apos : Pos} (ho : PE X pa (tBox P cf xc Γ Wx i path)) (hbase : attributeBase pa "pop" X.env (eval pa X.env) = eval pa X.env) (hline : (apos.endLine == pos.line) = true) :
    PE X (.Call (.Attribute pa "pop" apos) [] [] pos) ((tA P cf xc Γ Wx) b (.pop i path)) :=
  (pe_bm0 PySem.F.plainAttrs_list PySem.F.slot_list_pop PySem.F.type_list_pop mt_pop ho hbase hline).imp fun σ H Q ⟨A, en, fps, st, g⟩ => by
    rw [ev, got_bind] at g
    refine ⟨A, en, fps, st, g.imp (fun ks en1 g => ?_) fun _ _ _ g => g⟩
    cases hx : (get en1 i).bind (getAt ks) with
    | none => rw [hx] at g; exact g.elim
    | some d =>
      rw [hx] at g
      cases d <;> first | exact g.elim | skip
      rename_i o xs
      cases o with
      | false => exact g.elim
      | true =>
        refine ⟨xs, rfl, fun vs H1 ps1 fps1 v0 l ws a1 e0 ha hl => ?_⟩
        have g : Got (match xs.getLast? with | some y => (match upSlot en1 i (updAt (fun _ => some (.lst true xs.dropLast)) ks) with | some en' => Res.ok y en' | none => .st) | none => .st) (fun d en' => ∀ v H' ps fps', Aft Γ b (simpE (.pop i path)) H A fps σ [d] [v] H' en' ps fps' → Q v H') (XW Γ Wx H A fps σ) := g
        cases hy : xs.getLast? with
        | none => rw [hy] at g; exact g.elim
        | some y =>
          rw [hy] at g
          have g : Got (match upSlot en1 i (updAt (fun _ => some (.lst true xs.dropLast)) ks) with | some en' => Res.ok y en' | none => .st) (fun d en' => ∀ v H' ps fps', Aft Γ b (simpE (.pop i path)) H A fps σ [d] [v] H' en' ps fps' → Q v H') (XW Γ Wx H A fps σ) := g
          have st1 := a1.st1
          cases hd : get en1 i with
          | none => rw [hd] at hx; cases hx
          | some d1 =>
            rw [hd] at hx
            obtain ⟨v0', l', ws', gps, h1, h2, h3, h4, h5, h6, h7, put⟩ := st1.put (f := fun _ => some (.lst true xs.dropLast)) (xs' := xs.dropLast) hd hx rfl
            rw [e0] at h1
            cases h1
            have el := At.fn ha h2
            cases el
            rw [hl] at h3
            cases h3
            obtain ⟨w, p, e1, e2, e3, e4⟩ := h4.last hy
            have fl : gps.flatten = gps.dropLast.flatten ++ p := by rw [e2]; simp
            have nd := (List.nodup_cons.mp h5).2
            rw [fl, List.nodup_append] at nd
            obtain ⟨en2, fps2, u1, u2, u3⟩ := put ws.dropLast gps.dropLast (Nn A [p]) e4 nd.1 (fun a ha => .inl (by rw [fl]; exact List.mem_append_left _ ha)) (fun a ha => by
              rcases ha with ha | ha
              · exact ⟨.inl ha, fun z => st1.ap a (h7 a (by rw [fl]; exact List.mem_append_left _ z)) ha⟩
              · have hp := own_one.mp ha
                exact ⟨.inr (by rw [fl]; exact List.mem_append_right _ hp), fun z => nd.2.2 a z a hp rfl⟩)
            rw [u1] at g
            refine ⟨?_, l, ws, w, rfl, rfl, hl, e1, ?_⟩
            · exact .inl ⟨rfl, ws, .inl (.inl hl)⟩
            · have nA : ∀ a ∈ p, ¬ A a := fun a ha => st1.ap a (h7 a (by rw [fl]; exact List.mem_append_right _ ha))
              refine g w _ [p] fps2 (Aft.anyB ⟨u2, ⟨[p], fun _ => rfl, e3.keep (M := (· = l)) ⟨fun a u e n => by rw [upd_ne n]; exact e, fun a e => ⟨ws, by rw [e]; exact hl⟩, fun a e => by rw [e]; exact .inr h6, fun a z => u3.new a z⟩ (fun a hb z => ?_), True.intro⟩, Dj.cons.mpr ⟨nd.2.1, fun a _ => own_nil, Dj.nil⟩, fun a ha => nA a (own_one.mp ha), ?_⟩)
              · subst z
                exact (List.nodup_cons.mp h5).1 (by rw [fl]; exact List.mem_append_right _ hb)
              · have st1' : Sta Γ H1 (Nn A []) en1 σ fps1 := by rw [nn_nil]; exact st1
                have f1 : Fr (simpEs path) H H1 (Own fps) (Nn A fps) (Nn (Nn A []) fps1) := a1.fr.weakNew fun a z => by rw [nn_nil] at z; exact z.elim (fun z => .inl (.inl z)) .inr
                exact (Fr.chain st1' f1 (by rw [nn_nil]; exact u3)).less (s' := false) fun z => nomatch z
end
end Q
end
section
set_option Elab.async false
set_option linter.all false
set_option autoImplicit false
set_option maxRecDepth 100000
namespace Q
open PySem PySem.Spec PyProof.Rows L2
def CGot (r : CR) (k : D → Env → Prop) (x : Nat → List D → Env → Prop) : Prop := match r with
  | .st => False
  | .ok d ps => k d ps
  | .ex C ds ps => x C ds ps
def spA (Γ : Ga) (cf : CF) (f np : Nat) : Sp := fun vs H Q E => ∃ A ds fps, ds.length = np ∧ Sta Γ H A (ds.map some) (vs.map some) fps ∧
  CGot (cf f ds) (fun d ps => ∀ v H' qs gps, Aft Γ false false H A fps (vs.map some) [d] [v] H' ps qs gps → Q v H')
    (fun C xs ps => ∀ cls dd H' gps, AftX Γ H A fps (vs.map some) C xs cls dd H' ps gps → E cls dd H')
def Bk (σ : L2.St) : List (Option Nat) → List V → Prop
  | [], [] => True
  | m :: ms, v :: vs => (∀ i, m = some i → σ[i]? = some (some v)) ∧ Bk σ ms vs
  | _, _ => False
theorem nn_swap {A : Addr → Prop} {p q : List (List Addr)} : Nn (Nn A p) q = Nn (Nn A q) p := by
  funext a
  exact propext ⟨fun h => h.elim (fun h => h.elim (fun h => .inl (.inl h)) .inr) fun h => .inl (.inr h), fun h => h.elim (fun h => h.elim (fun h => .inl (.inl h)) .inr) fun h => .inl (.inr h)⟩
theorem nn_cons {A : Addr → Prop} {p : List Addr} {ps : List (List Addr)} : Nn A (p :: ps) = Nn (Nn A [p]) ps := by rw [nn_app]; rfl
theorem nn4 {A : Addr → Prop} {p q r : List (List Addr)} : Nn (Nn (Nn A p) q) r = Nn (Nn (Nn A q) r) p := by rw [nn_swap (A := A) (p := p), nn_swap (A := Nn A q)]
section
variable {Γ : Ga} {H : Hp} {σ : L2.St}
theorem fill_ok : ∀ {fx : List Bool} {es : List E} {ds : List D} {vs0 vs : List V} {ps : List (List Addr)} {en en' : Env} {fps : List (List Addr)} {B : Addr → Prop} {as : List D} {ms : List (Option Nat)},
    Sta Γ H (Nn B ps) en σ fps → ROs Γ H (Nn (Nn B ps) fps) ds vs0 ps → Dj ps → (∀ a, Own ps a → ¬ B a) → Sel σ es vs0 vs → fillA fx es ds en = some (as, ms, en') →
    ∃ qs fps', Sta Γ H (Nn B qs) en' σ fps' ∧ ROs Γ H (Nn (Nn B qs) fps') as vs qs ∧ Dj qs ∧ (∀ a, Own qs a → ¬ B a) ∧ (∀ a, Nn (Nn B qs) fps' a → Nn (Nn B ps) fps a) ∧ Bk σ ms vs
  | fx, [], [], vs0, vs, ps, en, en', fps, B, as, ms, st, rs, dj, ap, se, h => by
    cases h
    have : vs0 = [] := rs.nil
    subst this
    cases vs with
    | cons _ _ => exact se.elim
    | nil => exact ⟨ps, fps, st, rs, dj, ap, fun _ h => h, True.intro⟩
  | fx, [], _ :: _, vs0, vs, ps, en, en', fps, B, as, ms, st, rs, dj, ap, se, h => by simp [fillA] at h
  | fx, _ :: _, [], vs0, vs, ps, en, en', fps, B, as, ms, st, rs, dj, ap, se, h => by simp [fillA] at h
  | fx, e :: es, d0 :: ds, vs0, vs, ps, en, en', fps, B, as, ms, st, rs, dj, ap, se, h => by
    match vs0, ps, rs with
    | [], _, rs => exact rs.elim
    | _ :: _, [], rs => exact rs.elim
    | v0 :: vs0, p0 :: ps, rs =>
      cases vs with
      | nil => exact se.elim
      | cons v vs =>
        obtain ⟨r0, rs⟩ := rs
        obtain ⟨s0, se⟩ := se
        obtain ⟨n0, a0, dj⟩ := Dj.cons.mp dj
        
        have step : ∀ {fx' : List Bool} {d1 : D} {p1 : List Addr} {en1 : Env} {fps1 : List (List Addr)} {m : Option Nat} {as' : List D} {ms' : List (Option Nat)}, Sta Γ H (Nn (Nn B [p1]) ps) en1 σ fps1 → RO Γ H (Nn (Nn (Nn B [p1]) ps) fps1) d1 v p1 → p1.Nodup → (∀ a ∈ p1, ¬ B a ∧ ¬ Own ps a) →
            (∀ a, Nn (Nn (Nn B [p1]) ps) fps1 a → Nn (Nn B (p0 :: ps)) fps a) → (∀ i, m = some i → σ[i]? = some (some v)) → fillA fx' es ds en1 = some (as', ms', en') → as = d1 :: as' → ms = m :: ms' →
            ∃ qs fps', Sta Γ H (Nn B qs) en' σ fps' ∧ ROs Γ H (Nn (Nn B qs) fps') as (v :: vs) qs ∧ Dj qs ∧ (∀ a, Own qs a → ¬ B a) ∧ (∀ a, Nn (Nn B qs) fps' a → Nn (Nn B (p0 :: ps)) fps a) ∧ Bk σ ms (v :: vs) := by
          intro fx' d1 p1 en1 fps1 m as' ms' st1 r1 nd1 nB sub hm hf ea em
          have ap' : ∀ a, Own ps a → ¬ Nn B [p1] a := fun a ha z => by
            rcases z with z | z
            · exact ap a (own_cons.mpr (.inr ha)) z
            · exact (nB a (own_one.mp z)).2 ha
          obtain ⟨qs, fps', g1, g2, g3, g4, g5, g6⟩ := fill_ok st1 (rs.weak sub) dj ap' se hf
          subst ea em
          refine ⟨p1 :: qs, fps', by rw [nn_cons]; exact g1, ⟨r1.weak fun a z => g5 a (by rw [nn_cons] at z; exact z), g2.weak fun a z => by rw [nn_cons] at z; exact z⟩, Dj.cons.mpr ⟨nd1, fun a ha z => g4 a z (.inr (own_one.mpr ha)), g3⟩, fun a ha => ?_, fun a z => sub a (g5 a (by rw [nn_cons] at z; exact z)), ⟨hm, g6⟩⟩
          rcases own_cons.mp ha with ha | ha
          · exact (nB a ha).1
          · exact fun z => g4 a ha (.inl z)
        have nva : (∀ i, e ≠ .va i) → ∃ as' ms', fillA fx.tail es ds en = some (as', ms', en') ∧ as = d0 :: as' ∧ ms = none :: ms' := fun hv => by
          have h : ((fillA fx.tail es ds en).map fun (a, m, en') => (d0 :: a, none :: m, en')) = some (as, ms, en') := by
            cases e <;> first | exact h | exact absurd rfl (hv _)
          cases hf : fillA fx.tail es ds en with
          | none => rw [hf] at h; cases h
          | some t =>
            obtain ⟨a, m, en2⟩ := t
            rw [hf] at h
            cases h
            exact ⟨a, m, rfl, rfl, rfl⟩
        have stay : (∀ i, e ≠ .va i) → v = v0 → ∃ qs fps', Sta Γ H (Nn B qs) en' σ fps' ∧ ROs Γ H (Nn (Nn B qs) fps') as (v :: vs) qs ∧ Dj qs ∧ (∀ a, Own qs a → ¬ B a) ∧ (∀ a, Nn (Nn B qs) fps' a → Nn (Nn B (p0 :: ps)) fps a) ∧ Bk σ ms (v :: vs) := fun hv e1 => by
          obtain ⟨as', ms', h1, h2, h3⟩ := nva hv
          subst e1
          exact step (p1 := p0) (fps1 := fps) (en1 := en) (m := none) (by rw [← nn_cons]; exact st) (by rw [← nn_cons]; exact r0) n0 (fun a ha => ⟨ap a (own_cons.mpr (.inl ha)), a0 a ha⟩) (fun a z => by rw [← nn_cons] at z; exact z) (fun _ z => nomatch z) h1 h2 h3
        cases e with
        | va i =>
          have s0 : σ[i]? = some (some v) := s0
          cases hd : get en i with
          | none => simp [fillA, hd] at h
          | some d =>
            have go : ∀ {fx' : List Bool} {d1 : D} {en1 : Env} {q : List Addr} {fps1 : List (List Addr)} {m : Option Nat} {as' : List D} {ms' : List (Option Nat)}, Aft Γ false true H (Nn B (p0 :: ps)) fps σ [d1] [v] H en1 [q] fps1 → (∀ i, m = some i → σ[i]? = some (some v)) →
                fillA fx' es ds en1 = some (as', ms', en') → as = d1 :: as' → ms = m :: ms' →
                ∃ qs fps', Sta Γ H (Nn B qs) en' σ fps' ∧ ROs Γ H (Nn (Nn B qs) fps') as (v :: vs) qs ∧ Dj qs ∧ (∀ a, Own qs a → ¬ B a) ∧ (∀ a, Nn (Nn B qs) fps' a → Nn (Nn B (p0 :: ps)) fps a) ∧ Bk σ ms (v :: vs) := by
              intro fx' d1 en1 q fps1 m as' ms' y hm hf ea em
              obtain ⟨f1, ry, e3⟩ := y.one
              have e3 := e3 rfl
              cases e3
              have wB : ∀ a, Nn (Nn B [q]) ps a → Nn (Nn B (p0 :: ps)) [q] a := fun a z => by
                rcases z with (z | z) | z
                · exact .inl (.inl z)
                · exact .inr z
                · exact .inl (.inr (own_cons.mpr (.inr z)))
              have wN : ∀ a, Nn (Nn (Nn B [q]) ps) fps1 a → Nn (Nn (Nn B (p0 :: ps)) [q]) fps1 a := fun a z => z.imp (wB a) id
              exact step (p1 := q) (y.sta.weak wB) (ry.weak wN) (y.dj.one 0 q rfl) (fun a ha => ⟨fun z => y.ap a (own_one.mpr ha) (.inl z), fun z => y.ap a (own_one.mpr ha) (.inr (own_cons.mpr (.inr z)))⟩) (fun a z => by
                rcases y.fr.new a (wN a z) with z' | z'
                · exact z'
                · exact absurd z' (y.sta.dom' (wN a z))) hm hf ea em
            have h : (if own d then
                if fx.headD false then (fillA fx.tail es ds (en.set i none)).map fun (a, m, en') => (d :: a, some i :: m, en')
                else (fillA fx.tail es ds (en.set i (some (fz d)))).map fun (a, m, en') => (fz d :: a, none :: m, en')
              else (fillA fx.tail es ds en).map fun (a, m, en') => (d :: a, none :: m, en')) = some (as, ms, en') := by
              rw [fillA] at h
              have h : (match get en i with
                | none => none
                | some d => if own d then
                  if fx.headD false then (fillA fx.tail es ds (en.set i none)).map fun (a, m, en') => (d :: a, some i :: m, en')
                  else (fillA fx.tail es ds (en.set i (some (fz d)))).map fun (a, m, en') => (fz d :: a, none :: m, en')
                else (fillA fx.tail es ds en).map fun (a, m, en') => (d :: a, none :: m, en') : Option (List D × List (Option Nat) × Env)) = some (as, ms, en') := h
              rw [hd] at h
              exact h
            split at h
            · split at h
              · cases hf : fillA fx.tail es ds (en.set i none) with
                | none => rw [hf] at h; cases h
                | some t =>
                  obtain ⟨a, m, en2⟩ := t
                  rw [hf] at h
                  cases h
                  obtain ⟨v2, fp2, e2, y⟩ := st.take (s := true) hd
                  rw [s0] at e2
                  cases e2
                  exact go y (fun j z => by cases z; exact s0) hf rfl rfl
              · cases hf : fillA fx.tail es ds (en.set i (some (fz d))) with
                | none => rw [hf] at h; cases h
                | some t =>
                  obtain ⟨a, m, en2⟩ := t
                  rw [hf] at h
                  cases h
                  obtain ⟨v2, e2, y⟩ := st.ice (b := false) (s := true) hd
                  rw [s0] at e2
                  cases e2
                  exact go (m := none) y (fun j z => nomatch z) hf rfl rfl
            · rename_i ho
              cases hf : fillA fx.tail es ds en with
              | none => rw [hf] at h; cases h
              | some t =>
                obtain ⟨a, m, en2⟩ := t
                rw [hf] at h
                cases h
                obtain ⟨v1, fp, e1, ef, r1⟩ := RSs.at st.rs hd
                rw [s0] at e1
                cases e1
                exact go (Aft.part (Aft.nil (b := false) (s := true) st) (r1.weak fun a z => by rw [nn_nil] at z; exact z) fun z => absurd z ho) (m := none) (fun j z => nomatch z) hf rfl rfl
        | _ => exact stay (fun _ z => nomatch z) s0
theorem back_ok : ∀ {ms : List (Option Nat)} {ps : Env} {vs : List V} {gps : List (List Addr)} {en : Env} {fps : List (List Addr)} {B : Addr → Prop},
    Sta Γ H (Nn B gps) en σ fps → RSs Γ H (Nn (Nn B gps) fps) ps (vs.map some) gps → Dj gps → (∀ a, Own gps a → ¬ B a) → Bk σ ms vs →
    ∃ fps', Sta Γ H B (backA ms ps en) σ fps' ∧ ∀ a, Nn B fps' a → Nn (Nn B gps) fps a
  | [], ps, vs, gps, en, fps, B, st, rs, dj, ap, bk => by
    refine ⟨fps, ?_, fun a z => z.imp .inl id⟩
    have : backA [] ps en = en := by unfold backA; cases ps <;> rfl
    rw [this]
    exact st.weak fun a z => .inl z
  | m :: ms, ps, [], gps, en, fps, B, st, rs, dj, ap, bk => bk.elim
  | m :: ms, [], v :: vs, gps, en, fps, B, st, rs, dj, ap, bk => rs.elim
  | m :: ms, p :: ps, v :: vs, [], en, fps, B, st, rs, dj, ap, bk => rs.elim
  | none :: ms, p :: ps, v :: vs, g :: gps, en, fps, B, st, ⟨r, rs⟩, dj, ap, ⟨_, bk⟩ => by
    have w : ∀ a, Nn B gps a → Nn B (g :: gps) a := fun a z => z.imp id fun z => own_cons.mpr (.inr z)
    obtain ⟨fps', h1, h2⟩ := back_ok (ms := ms) (st.weak w) (rs.weak fun a z => z.imp (w a) id) (Dj.cons.mp dj).2.2 (fun a ha => ap a (own_cons.mpr (.inr ha))) bk
    exact ⟨fps', h1, fun a z => (h2 a z).imp (w a) id⟩
  | some i :: ms, p :: ps, v :: vs, g :: gps, en, fps, B, st, ⟨r, rs⟩, dj, ap, ⟨hm, bk⟩ => by
    have hi := hm i rfl
    obtain ⟨ng, ag, dj'⟩ := Dj.cons.mp dj
    have w : ∀ a, Nn B gps a → Nn B (g :: gps) a := fun a z => z.imp id fun z => own_cons.mpr (.inr z)
    have w2 : ∀ a, Nn (Nn B gps) (fps.set i g) a → Nn (Nn B (g :: gps)) fps a := fun a z => by
      rcases z with z | z
      · exact .inl (w a z)
      · rcases own_set z with z | ⟨j, q, _, hj, hq⟩
        · exact .inl (.inr (own_cons.mpr (.inl z)))
        · exact .inr ⟨j, q, hj, hq⟩
    have st' : Sta Γ H (Nn B gps) (en.set i p) σ (fps.set i g) := by
      refine ⟨(RSs.setE st.rs hi r).weak w2, st.dj.set ng fun a ha j q _ hj hq => st.ap a ⟨j, q, hj, hq⟩ (.inr (own_cons.mpr (.inl ha))), fun a ha z => ?_, fun a z => st.dom a (w a z), st.xo.weak w2⟩
      rcases own_set ha with y | ⟨j, q, _, hj, hq⟩
      · rcases z with z | z
        · exact ap a (own_cons.mpr (.inl y)) z
        · exact ag a y z
      · exact st.ap a ⟨j, q, hj, hq⟩ (w a z)
    obtain ⟨fps', h1, h2⟩ := back_ok (ms := ms) st' (rs.weak w2) dj' (fun a ha => ap a (own_cons.mpr (.inr ha))) bk
    exact ⟨fps', h1, fun a z => w2 a (h2 a z)⟩
theorem ros_rss {H : Hp} {N : Addr → Prop} : ∀ {ds : List D} {vs : List V} {fps : List (List Addr)}, ROs Γ H N ds vs fps → RSs Γ H N (ds.map some) (vs.map some) fps
  | [], [], [], _ => True.intro
  | d :: ds, v :: vs, fp :: fps, ⟨h1, h2⟩ => ⟨⟨v, rfl, h1⟩, ros_rss h2⟩
  | [], [], _ :: _, z => z.elim
  | [], _ :: _, _, z => z.elim
  | _ :: _, [], _, z => z.elim
  | _ :: _, _ :: _, [], z => z.elim
variable {s : Bool} {H0 : Hp} {A : Addr → Prop} {fps ps1 fps1 : List (List Addr)} {ds as : List D} {vs0 vs : List V} {en1 en2 : Env} {es : List E} {fx : List Bool} {ms : List (Option Nat)}
theorem call_ok {f np : Nat} {cf : CF} {Q : VK} {Ex : XK} (hx : Γ.xc = none) (x : Aft Γ false s H0 A fps σ ds vs0 H en1 ps1 fps1) (se : Sel σ es vs0 vs) (hf : fillA fx es ds en1 = some (as, ms, en2)) (hn : as.length = np)
    (g : CGot (cf f as) (fun d ps => ∀ v H' qs fps', Aft Γ false false H0 A fps σ [d] [v] H' (backA ms ps en2) qs fps' → Q v H')
      (fun C xs ps => ∀ cls dd H' fps', AftX Γ H0 A fps σ C xs cls dd H' (backA ms ps en2) fps' → Ex cls dd H')) : spA Γ cf f np vs H Q Ex := by
  obtain ⟨gps, e, r⟩ := x.ro
  have e := e rfl
  subst e
  obtain ⟨qs, fps2, st, rs, dj, ap, sub, bk⟩ := fill_ok x.sta r x.dj x.ap se hf
  have stc : Sta Γ H (Nn A fps2) (as.map some) (vs.map some) qs := by
    refine ⟨(ros_rss rs).weak fun a z => by rw [nn_swap]; exact z, dj, fun a ha z => ?_, fun a z => ?_, XO.cold hx⟩
    · rcases z with z | z
      · exact ap a ha z
      · exact st.ap a z (.inr ha)
    · rcases z with z | z
      · exact st.dom a (.inl z)
      · exact st.dom' (.inr z)
  have M1 : ∀ a, Own qs a → Own fps a ∨ H0 a = none := fun a ha => by
    rcases x.fr.new a (sub a (.inl (.inr ha))) with (z | z) | z
    · exact absurd z (ap a ha)
    · exact .inl z
    · exact .inr z
  have f1 : Fr s H0 H (Own fps) (Nn A fps) (Nn (Nn A fps2) qs) := x.fr.weakNew fun a z => sub a (by rw [nn_swap]; exact z)
  refine ⟨Nn A fps2, as, qs, hn, stc, ?_⟩
  cases hc : cf f as with
  | st => rw [hc] at g; exact g
  | ok d ps =>
    rw [hc] at g
    intro v H' rr gps y
    have kp := stc.kp y.fr
    have st2 : Sta Γ H' (Nn (Nn A rr) gps) en2 σ fps2 := by
      refine ⟨?_, st.dj, fun a ha z => ?_, fun a z => ?_, XO.cold hx⟩
      · have k := RSs.keep (N := Nn (Nn A fps2) qs) kp (by rw [nn_swap]; exact st.rs) fun a ha z => st.ap a (own_flat.mp ha) (.inr z)
        rw [nn4] at k
        exact k
      · rcases z with (z | z) | z
        · exact st.ap a ha (.inl z)
        · exact y.ap a z (.inr ha)
        · exact y.sta.ap a z (.inl (.inr ha))
      · rcases z with (z | z) | z
        · exact y.sta.dom a (.inl (.inl z))
        · exact y.sta.dom a (.inr z)
        · exact y.sta.dom' (.inr z)
    obtain ⟨fps3, st3, sub3⟩ := back_ok st2 (by rw [← nn4]; exact y.sta.rs) y.sta.dj (fun a ha z => y.sta.ap a ha (z.imp .inl id)) bk
    obtain ⟨gy, ey, ry⟩ := y.ro
    refine g v H' rr fps3 ⟨st3, ⟨gy, ey, ry.weak fun a z => by rw [nn4]; exact sub3 a z⟩, y.dj, fun a ha z => y.ap a ha (.inl z), ?_⟩
    have ch := (f1.trans y.fr M1).weakNew (O2 := Nn (Nn A rr) fps3) fun a z => by rw [nn4]; exact sub3 a z
    exact ch.less (s' := false) fun z => nomatch z
  | ex C xs ps =>
    rw [hc] at g
    intro cls dd H' gps y
    have kp := stc.kp y.fr
    have e3 : Nn (Nn A fps2) gps = Nn (Nn A gps) fps2 := nn_swap
    have st2 : Sta Γ H' (Nn A gps) en2 σ fps2 := by
      refine ⟨?_, st.dj, fun a ha z => ?_, fun a z => ?_, XO.cold hx⟩
      · have k := RSs.keep (N := Nn (Nn A fps2) qs) kp (by rw [nn_swap]; exact st.rs) fun a ha z => st.ap a (own_flat.mp ha) (.inr z)
        rw [e3] at k
        exact k
      · rcases z with z | z
        · exact st.ap a ha (.inl z)
        · exact y.sta.ap a z (.inr ha)
      · rcases z with z | z
        · exact y.sta.dom a (.inl z)
        · exact y.sta.dom' (.inr z)
    obtain ⟨fps3, st3, sub3⟩ := back_ok st2 (by rw [← e3]; exact y.sta.rs) y.sta.dj (fun a ha z => y.sta.ap a ha (.inl z)) bk
    refine g cls dd H' fps3 ⟨st3, y.xr.keep (Kp.id fun a z => by rw [e3]; exact sub3 a z), ?_⟩
    have ch := (f1.trans y.fr M1).weakNew (O2 := Nn A fps3) fun a z => by rw [e3]; exact sub3 a z
    exact ch.less (s' := false) fun z => nomatch z
end
end Q
end
section
set_option Elab.async false
set_option linter.all false
set_option autoImplicit false
set_option maxRecDepth 100000
namespace Q
open PySem PySem.Spec PyProof.Rows L2
def CX0 : CXT := fun _ _ _ _ _ _ => False
structure FnW (P : Program) (w : World) (K : PySem.W.Frag) (mg : Str → Option Value) (base : Heap) (k : Nat) (f : Addr) (fd : FuncData) (ps : List Str) (sp : List V → Hp → VK → Prop) : Prop where
  len : ∀ vs H Q, sp vs H Q → vs.length = ps.length
  run : ∀ (A : Around) (outer : List PySem.Env) (s : Shared) (H : Hp) (args : Args) (us : List Value) (vs : List V) (Q : VK) (p : Addr × Obj), L2H.RoomH k A → L2H.PinOk outer H s p → Env0 P w K mg base A outer s H →
    BindsTo s fd args (ps.zip us) → Vals vs us → sp vs H Q → codeAny (model P w) A (.call (.ref f) args) (L2.CR CX0 outer P w H s Q (fun _ _ _ => False)) s
abbrev cxW (P : Program) (w : World) (K : PySem.W.Frag) (mg : Str → Option Value) (base : Heap) (N : List Str) (qual : Str) (scope : Scope) (f : Addr) (cd : Value) (A : Around) (outer : List PySem.Env) (s : Shared) (H : Hp) (p : Addr × Obj) : Cx :=
  L2H.cxH CX0 P w K mg base N qual scope f cd A outer s H (fun _ _ _ => False) p
section
variable {P : Program} {w : World} {K : PySem.W.Frag} {mg : Str → Option Value} {base : Heap} {k : Nat} {f : Addr} {x qual : Str} {params : Arguments} {body : List Stmt} {scope : Scope} {fd : FuncData} {N ps : List Str} {sp : List V → Hp → VK → Prop}
theorem FunD.okW (F : FunD K x qual params body scope [] [] f fd) (S : FnScope N ps scope) (len : ∀ vs H Q, sp vs H Q → vs.length = ps.length)
    (hbody : ∀ (cdv : Value) (A : Around) (outer : List PySem.Env) (s : Shared) (H : Hp) (vs : List V) (Q : VK) (p : Addr × Obj), L2H.RoomH k (A.deeper (envOfC qual scope s.heap.objs.size f cdv)) → sp vs H Q →
      ∃ t, PSs (cxW P w K mg base N qual scope f cdv A outer s H p) body t ∧ t { nx := fun _ H' => Q .non H', rt := Q } (start N vs) H) : FnW P w K mg base (k + 1) f fd ps sp := by
  obtain ⟨oc, od, dV, kV, doc, pm, an, cdv, ct, osl, rfl, lk, hcd, _, _⟩ := F.ex
  refine ⟨len, fun A outer s H args us vs Q p hr hpin e0 hb r hsp => ?_⟩
  have hl : vs.length = ps.length := len vs H Q hsp
  have inK : K.In s.heap := e0.mod.kin.keeps fun b o z => (e0.bs b o z).1
  have noL : s.heap.NoLimit := e0.mod.nolimit.keeps fun b o z => (e0.bs b o z).1
  have kinds : ∀ y ∈ ps.zip us, scope.names.lookup y.1 = some .local ∨ (scope.names.lookup y.1 = some .cell ∧ ((cellsFrom (s.heap.objs.size + 1) scope.names []).lookup y.1).isSome = true) := by
    rintro ⟨n, v⟩ hy
    cases S.par n (List.of_mem_zip hy).1 with
    | inl q => exact .inl q
    | inr q => exact .inr ⟨q, PySem.W.cellsFrom_some _ _ _ (.inl q)⟩
  refine codeAny_call_function hr.depth (inK _ _ lk) rfl S.co S.gen rfl (PySem.W.codeRec_of inK hcd) (hb _ _ _ _ (wpAny_newFunctionEnv_cells S.kind kinds fun env he s1 z => ?_))
  subst he
  obtain ⟨t, ht, hq⟩ := hbody cdv A outer s H vs Q p (hr.deeper _) hsp
  have I0 := L2H.inv_startH (CX := CX0) (P := P) (w := w) (mg := mg) (base := base) (E := fun _ _ _ => False) (qual := qual) (f := f) (cd := cdv) S hpin e0 hl r z
  refine ⟨noL.keeps z.toInCall.keep, codeAny_func (wpAny_mono (ht.run [] s1 (start N vs) H _ I0 hq) (fun fl s' hs => ?_) fun e s' hs => hs)⟩
  have out : ∀ {σ' : L2.St} {H' : Hp} {v : V} {u : Value}, Inv (cxW P w K mg base N qual scope f cdv A outer s H p) [] σ' H' s' → RelV v u → Q v H' → CE outer P w H s Q u s' := by
    intro σ' H' v u J rv q
    exact ⟨v, H', J.os, J.bare, J.base, J.hok, rv, q⟩
  cases fl with
  | next =>
    obtain ⟨σ', H', J, q⟩ := hs
    exact out (v := V.non) (u := Value.none) J rfl q
  | ret u =>
    obtain ⟨v, σ', H', J, rv, q⟩ := hs
    exact out J rv q
  | cont => obtain ⟨_, _, _, q⟩ := hs; exact q.elim
  | brk => obtain ⟨_, _, _, q⟩ := hs; exact q.elim
end
section
variable {X : Cx} {k : Nat} {f : Addr} {fd : FuncData} {ps : List Str} {sp : List V → Hp → VK → Prop} {x : Str} {q pos : Pos} {e : Expr} {es : List Expr} {t : TA}
theorem run_fnW {pins : List (Addr × Obj)} {σ : L2.St} {H : Hp} {s : Shared} {Q : VK} {us : List Value} {vs : List V} (F : FnW X.prog X.w X.K X.mg X.base k f fd ps sp) (hr : L2H.RoomH k X.A) (hp : ∃ p, p ∈ X.pn) (hb : Binds X.K fd ps []) (I : Inv X pins σ H s)
    (r : Vals vs us) (h : sp vs H Q) : wpAny (model X.prog X.w) X.A (call (.ref f) us) (EP X pins σ Q) X.xe s := by
  obtain ⟨p, hp⟩ := hp
  have hl : us.length = ps.length := by
    rw [← r.length]
    exact F.len _ _ _ h
  have b : BindsTo s fd ⟨us, []⟩ (ps.zip us) := by
    have z := hb s us I.kIn (by rw [List.append_nil]; exact hl)
    rwa [List.append_nil] at z
  obtain ⟨p1, p2, p3, p4, p5⟩ := I.pin p (List.mem_append_left _ hp)
  have hpin : L2H.PinOk X.stack H s p := by
    refine ⟨p1, p2, fun hm => ?_, p5⟩
    cases List.mem_cons.mp (I.stkSub p.1 hm) with
    | inl z => exact p3 z
    | inr z => exact p4 z
  refine wpAny_call (codeAny_mono (F.run X.A X.stack s H ⟨us, []⟩ us vs Q p hr hpin I.env0 b r h) fun z s' hq => ?_)
  cases z with
  | ok fl =>
    cases fl with
    | ret u => exact I.after hq
    | next => exact hq.elim
    | brk => exact hq.elim
    | cont => exact hq.elim
  | error e => exact (show False from hq).elim
def tCallW (sp : List V → Hp → VK → Prop) (t : TA) : TE := fun σ H Q => t σ H fun vs H1 => sp vs H1 Q
theorem pe_callW (F : FnW X.prog X.w X.K X.mg X.base k f fd ps sp) (hr : L2H.RoomH k X.A) (hp : ∃ p, p ∈ X.pn) (hg : Gl X x) (hm : X.mg x = some (.ref f)) (hk : PySem.W.keepIn X.K (.ref f) = true) (hb : Binds X.K fd ps [])
    (ha : PA X (e :: es) t) (hdb : (x == ("__debug__" : Str)) = false) (he : starEach (e :: es) X.env = (false, eval e X.env) :: starEach es X.env) (hpl : (backTo pos (starEach es X.env)).any (·.1) = false) :
    PE X (.Call (.Name x q) (e :: es) [] pos) (tCallW sp t) := by
  refine ⟨fun pins s σ H Q I h => wpAny_Call_Name_kw (ld_glob I hg hm ?_ hdb)⟩
  refine PySem.W.callWith_K (h₀ := X.base) I.ok.mod.kin hk (thn (ha.run pos pins s σ H _ I h) fun us s1 z => ?_) he hpl
  obtain ⟨vs, H1, I1, r, q1⟩ := z
  exact ⟨I1.kIn, run_fnW F hr hp hb I1 r q1⟩
end
def cold (Γ : Ga) : Ga := { Γ with xc := none }
def spH (Γ : Ga) (cf : CF) (f np : Nat) : List V → Hp → VK → Prop := fun vs H Q => ∃ A ds fps, ds.length = np ∧ Sta Γ H A (ds.map some) (vs.map some) fps ∧
  CGot (cf f ds) (fun d ps => ∀ v H' qs gps, Aft Γ false false H A fps (vs.map some) [d] [v] H' ps qs gps → Q v H') (fun _ _ _ => False)
end Q
end
section
set_option Elab.async false
set_option linter.all false
set_option autoImplicit false
set_option maxRecDepth 100000
namespace Q
open PySem PySem.Spec PyProof.Rows L2
structure Cc where
  N : List Str
  sc : Scope
  free : List Str
  fns : List Str
  gls : List Str
  cls : List Str
  fld : List Str
  kws : List (Nat × List Str × List Nat)
  nf : List Nat
  fn : Str → Bool
  hot : Bool
  xi : Option Nat
  top : Bool
  hfns : List (Nat × Str)
def KwB (K : PySem.W.Frag) (fd : FuncData) (ps ks : List Str) (js : List Nat) : Prop := ∀ (s : Shared) (ws as : List Value), K.In s.heap → ws.length = ks.length → allSome (permL js ws) = some as → BindsTo s fd ⟨[], ks.zip ws⟩ (ps.zip as)
def FnH (X : Cx) (Γ : Ga) (cf : CF) (k f : Nat) (x : Str) (kws : List (Nat × List Str × List Nat)) : Prop := ∃ fa fd ps, X.mg x = some (.ref fa) ∧ PySem.W.keepIn X.K (.ref fa) = true ∧ Binds X.K fd ps [] ∧
  FnOk X.prog X.w X.K X.mg X.base (L2.CX X.prog X.w) k fa fd ps (spA Γ cf f ps.length) ∧ (∀ ds, cf f ds ≠ .st → ds.length = ps.length) ∧ ∀ ks js, (f, ks, js) ∈ kws → KwB X.K fd ps ks js
structure ClsH (P : Prog) (K : PySem.W.Frag) (Γ : Ga) (nc : Nat) (C : Nat) : Prop where
  ec : ExcC K (Γ.cA C)
  xf : XfC K (Γ.cA C)
  no : ∀ f ∈ Γ.fN C, PySem.W.findIn K (.ref (Γ.cA C)) f = some none
  sub : ∀ C', C' < nc → PySem.W.kitOne K (.ref (Γ.cA C)) (.ref (Γ.cA C')) = some ((P.sup C).contains C')
  ve : PySem.W.kitOne K (.ref (Γ.cA C)) (.type "ValueError") = some ((P.sup C).contains 1000)
  exm : ∀ C', C' < nc → PySem.W.exmOne K (.ref (Γ.cA C)) (.ref (Γ.cA C')) = some ((P.sup C).contains C')
def iniH (H : Hp) (a C dx : Addr) : List (Str × V) → Hp
  | [] => H
  | [(f, y)] => upd (upd H dx (exd dx [(f, y)])) a (exo a C (some dx))
  | (f, y) :: r => upd (iniH H a C dx r) dx (exd dx ((f, y) :: r))
def spIni (K : PySem.W.Frag) (fs : List Str) : Sp := fun vs H Q _ => ∃ (a C : Addr) (ws : List V), vs = .ref a :: ws ∧ ws.length = fs.length ∧ OexC K C ∧ (∀ f ∈ fs, PySem.W.findIn K (.ref C) f = some none) ∧ H a = some (exo a C none) ∧
  ∀ dx, H dx = none → dx ≠ a → Q .non (iniH H a C dx (fs.zip ws).reverse)
structure RzH (X : Cx) (Γ : Ga) (C : Nat) : Prop where
  ox : OexC X.K (Γ.cA C)
  nd : (Γ.fN C).Nodup
  no : ∀ f ∈ Γ.fN C, PySem.W.findIn X.K (.ref (Γ.cA C)) f = some none
  ini : ∃ (fI : Addr) (fd : FuncData) (ps : List Str), PySem.W.findIn X.K (.ref (Γ.cA C)) "__init__" = some (some (.ref fI)) ∧ PySem.W.typeIn X.K (.ref fI) = some (.type "function") ∧
    FnOk X.prog X.w X.K X.mg X.base (L2.CX X.prog X.w) 1 fI fd ps (spIni X.K (Γ.fN C)) ∧ Binds X.K fd ps []
structure Cool (cf : CF) (Γ : Ga) (Wx : WX) (k : Nat) (c : Cc) (X : Cx) : Prop where
  calm : X.calm = true
  room : Room k X.A
  xcn : Γ.xc = none
  fns : ∀ (f : Nat) (x : Str), c.fns[f]? = some x → FnH X Γ cf k f x c.kws
  tk : L2.Takes X Wx
  po : PassesOwn (model X.prog X.w) X.A X.env X.xe
  k2 : 2 ≤ k
  rz : ∀ C, Γ.fN C ≠ [] → RzH X Γ C
def HotD (X : Cx) (Γ : Ga) (cf : CF) (k f : Nat) (x : Str) : Prop := ∃ fa fd ps, X.mg x = some (.ref fa) ∧ PySem.W.keepIn X.K (.ref fa) = true ∧ Binds X.K fd ps [] ∧
  FnW X.prog X.w X.K X.mg X.base k fa fd ps (spH (cold Γ) cf f ps.length) ∧ ∀ ds, cf f ds ≠ .st → ds.length = ps.length
structure HotF (cf : CF) (Γ : Ga) (k : Nat) (c : Cc) (X : Cx) : Prop where
  room : L2H.RoomH k X.A
  fns : ∀ (f : Nat) (x : Str), (f, x) ∈ c.hfns → HotD X Γ cf k f x
structure CtxOk (P : Prog) (cf : CF) (Γ : Ga) (Wx : WX) (k : Nat) (c : Cc) (X : Cx) : Prop where
  N : X.N = c.N
  nd : X.N.Nodup
  sc : X.env.scope = c.sc
  K : X.K = Γ.K
  un : X.A.units + 64 < cLine
  free : ∀ x ∈ c.free, X.mg x = none
  gls : ∀ (i : Nat) (x : Str), c.gls[i]? = some x → ∃ (d : D) (v : V) (u : Value), P.gl[i]? = some d ∧ own d = false ∧ X.mg x = some u ∧ RelV v u ∧ ∀ H N, RO Γ H N d v []
  fn : ∀ x, c.fn x = true → X.fn x = true
  xi : ∀ x, Γ.xc = some x → x.i = c.xi
  cool : c.hot = false → Cool cf Γ Wx k c X
  clm : ∀ (C : Nat) (y : Str), c.cls[C]? = some y → X.mg y = some (.ref (Γ.cA C))
  cls : ∀ C, Γ.fN C ≠ [] → ClsH P X.K Γ c.cls.length C
  sx : ∀ x, Γ.xc = some x → ∃ (X0 : Cx) (oe : Obj) (pn : List (Addr × Obj)), X = X0.suite x.a ((x.a, oe) :: pn) ∧ Zc x.cls x.dd oe ∧ ∃ vs, oe.data = .fields vs
  fld : ∀ C, Γ.fN C ≠ [] → Γ.fN C = (P.fnm C).map fun i => c.fld.getD i default
  nf : ∀ C, (Γ.fN C).length = c.nf.getD C 0
  top : c.top = true → X.stack = X.env :: X.outer ∧ X.env.frame = some X.env.locals
  hotf : HotF cf Γ k c X
  hpn : c.hot = true → ∃ p, p ∈ X.pn
def ckV (c : Cc) (i : Nat) (x : Str) : Bool := decide (c.N[i]? = some x) && (match c.sc.names.lookup x with | some .local => true | some .cell => true | some .free => true | _ => false) && !(x == ("__debug__" : Str)) && !(x == ("__classdict__" : Str))
def ckG (c : Cc) (x : Str) : Bool := decide (c.sc.names.lookup x = some .globalImplicit) && !(x == ("__debug__" : Str))
def ckB (c : Cc) (x : Str) : Bool := ckG c x && c.free.any (fun y => decide (y = x)) && !decide (x = "__name__")
section
variable {P : Prog} {cf : CF} {xc : Option (Nat × List D)} {Γ : Ga} {Wx : WX} {k : Nat} {c : Cc} {X : Cx} {pa pb pc : Expr} {pes : List Expr} {a e e' : E} {es : List E} {b : Bool} {pos : Pos}
theorem CtxOk.v (O : CtxOk P cf Γ Wx k c X) {i : Nat} {x : Str} {p : Pos} (h : ckV c i x = true) : PE X (.Name x p) (tVar i) := by
  unfold ckV at h
  simp only [Bool.and_eq_true, decide_eq_true_eq, Bool.not_eq_true'] at h
  obtain ⟨⟨⟨h1, h2⟩, h3⟩, h4⟩ := h
  refine pe_var (by rw [O.N]; exact h1) ?_ h3 h4
  rw [O.sc]
  unfold Vis
  split at h2
  · rename_i e; exact .inl e
  · rename_i e; exact .inr (.inl e)
  · rename_i e; exact .inr (.inr e)
  · cases h2
theorem CtxOk.g (O : CtxOk P cf Γ Wx k c X) {x : Str} (h : ckG c x = true) : Gl X x ∧ (x == ("__debug__" : Str)) = false := by
  unfold ckG at h
  simp only [Bool.and_eq_true, decide_eq_true_eq, Bool.not_eq_true'] at h
  refine ⟨?_, h.2⟩
  unfold Gl Env.kindOf
  rw [O.sc]; exact h.1
theorem CtxOk.bi (O : CtxOk P cf Γ Wx k c X) {x : Str} (h : ckB c x = true) : Gl X x ∧ X.mg x = none ∧ x ≠ "__name__" ∧ (x == ("__debug__" : Str)) = false := by
  unfold ckB at h
  simp only [Bool.and_eq_true, Bool.not_eq_true', decide_eq_false_iff_not, List.any_eq_true, decide_eq_true_eq] at h
  obtain ⟨⟨h1, y, hy, e⟩, h3⟩ := h
  subst e
  exact ⟨(O.g h1).1, O.free _ hy, h3, (O.g h1).2⟩
theorem got_call {f : Nat} {as : List D} {ms : List (Option Nat)} {en : Env} {k : D → Env → Prop} {x : Nat → List D → Env → Prop} (g : Got (doCall cf f as ms en) k x) :
    cf f as ≠ .st ∧ CGot (cf f as) (fun d ps => k d (backA ms ps en)) (fun C xs ps => x C xs (backA ms ps en)) := by
  unfold doCall at g
  cases h : cf f as with
  | st => rw [h] at g; exact g.elim
  | ok d ps => rw [h] at g; exact ⟨(fun z => nomatch z), g⟩
  | ex C xs ps => rw [h] at g; exact ⟨(fun z => nomatch z), g⟩
theorem callC {f np : Nat} (hx : Γ.xc = none) (hn : ∀ ds, cf f ds ≠ .st → ds.length = np) (σ : L2.St) (H : Hp) (Q : VK) (h : (tA P cf xc Γ Wx) b (.call f es) σ H Q) : tCallS (spA Γ cf f np) (WE Wx) ((tCs P cf xc Γ Wx) es) σ H Q := by
  obtain ⟨A, en, fps, st, g⟩ := h
  rw [ev, got_bind] at g
  refine ⟨A, en, fps, st, g.imp (fun ds en1 g vs0 vs H1 ps1 fps1 a1 se => ?_) fun _ _ _ g => g⟩
  cases hf : fillA (fxOf P f) es ds en1 with
  | none => rw [hf] at g; exact g.elim
  | some t =>
    obtain ⟨as, ms, en2⟩ := t
    rw [hf] at g
    obtain ⟨g1, g2⟩ := got_call g
    refine call_ok hx a1 se hf (hn _ g1) ?_
    cases hc : cf f as with
    | st => exact absurd hc g1
    | ok d ps =>
      rw [hc] at g2
      exact fun v H' qs fps' y => g2 v H' qs fps' (y.anyB.less fun z => nomatch z)
    | ex C xs ps =>
      rw [hc] at g2
      exact g2
theorem pe_callQ (O : CtxOk P cf Γ Wx k c X) (hh : c.hot = false) {f : Nat} {x : Str} {p : Pos} (hf : c.fns[f]? = some x) (hx : ckG c x = true) (hs : ∀ x p, pa ≠ .Starred x p) (hpl : ∀ env, (backTo pos (starEach pes env)).any (·.1) = false)
    (ha : PA X (pa :: pes) ((tCs P cf xc Γ Wx) es)) : PE X (.Call (.Name x p) (pa :: pes) [] pos) ((tA P cf xc Γ Wx) b (.call f es)) := by
  obtain ⟨fa, fd, ps, h1, h2, h3, h4, h5, _⟩ := (O.cool hh).fns f x hf
  obtain ⟨hg, hd⟩ := O.g hx
  exact (pe_callS h4 (O.cool hh).room hg h1 h2 h3 (fun σ => passAt (O.cool hh).tk σ) ha hd (star_of hs) (hpl _)).imp (callC (O.cool hh).xcn h5)
theorem pe_call0Q (O : CtxOk P cf Γ Wx k c X) (hh : c.hot = false) {f : Nat} {x : Str} {p : Pos} (hf : c.fns[f]? = some x) (hx : ckG c x = true) : PE X (.Call (.Name x p) [] [] pos) ((tA P cf xc Γ Wx) b (.call f [])) := by
  obtain ⟨fa, fd, ps, h1, h2, h3, h4, h5, _⟩ := (O.cool hh).fns f x hf
  obtain ⟨hg, hd⟩ := O.g hx
  have : PE X (.Call (.Name x p) [] [] pos) (tCallS (spA Γ cf f ps.length) (WE Wx) ((tCs P cf xc Γ Wx) [])) := by
    refine ⟨fun pins s σ H Q I h => ?_⟩
    refine wpAny_Call_Name_kw (ld_glob I hg h1 ?_ hd)
    obtain ⟨A, en, fps, st, g⟩ := h
    rw [evs] at g
    exact PySem.W.callWith_K0 I.kIn h2 (run_fnS (us := []) (E := WE Wx) h4 (O.cool hh).room h3 (passAt (O.cool hh).tk σ) I .nil (g [] [] H _ _ (Aft.nil st) True.intro))
  exact this.imp (callC (O.cool hh).xcn h5)
def notStar : Expr → Bool
  | .Starred _ _ => false
  | _ => true
theorem notStar_of {p : Expr} (h : notStar p = true) : ∀ x q, p ≠ .Starred x q := fun x q e => by subst e; cases h
def notSlice : Expr → Bool
  | .Slice _ _ _ _ => false
  | _ => true
theorem plainIx_of {p : Expr} (h : notSlice p = true) : PlainIx p := by
  intro o i
  cases p <;> first | rfl | (cases h; done)
theorem any_of : ∀ {pes : List Expr} {env : PySem.Env} {pos : Pos}, pes.all notStar = true → (backTo pos (starEach pes env)).any (·.1) = false
  | [], _, _, _ => rfl
  | p :: ps, env, pos, h => by
    rw [List.all_cons, Bool.and_eq_true] at h
    rw [star_of (notStar_of h.1)]
    exact any_of h.2
def valT : Expr → Bool
  | .UnaryOp .Not _ _ => false
  | .BoolOp _ _ _ => false
  | .IfExp _ _ _ _ => false
  | .Compare _ _ _ _ => false
  | _ => true
theorem valT_of {p : Expr} {env : PySem.Env} (h : valT p = true) (whole : Sem Value) : PySem.isTrue p env whole = (do let v ← whole; standAt p.pos; holding [v] (PySem.truthy v)) := by
  cases p with
  | UnaryOp op x pos => cases op <;> first | (cases h; done) | (unfold PySem.isTrue; rfl)
  | BoolOp _ _ _ => cases h
  | IfExp _ _ _ _ => cases h
  | Compare _ _ _ _ => cases h
  | _ => unfold PySem.isTrue; rfl
def ckC : D → Const → Bool
  | .non, .none => true
  | .bl b, .bool b' => b == b'
  | .int i, .int j => decide (i = j)
  | .str x, .str y => decide ((⟨x.toArray⟩ : Str) = y) && decide (x.length ≤ LIM)
  | _, _ => false
def ckL (c : Cc) (m : Nat → Bool) (i : Nat) (x : Str) : Bool := decide (c.N[i]? = some x) && (decide (c.sc.names.lookup x = some .local) || (c.fn x && decide (c.sc.names.lookup x = some .cell))) && m i && !decide (c.xi = some i)
mutual
def ckT (c : Cc) (m : Nat → Bool) : T → Expr → Bool
  | .nm i, pe => match pe with
    | .Name x _ => ckL c m i x
    | _ => false
  | .tp ts, pe => match pe with
    | .Tuple pes _ _ => !c.hot && ckTs c m ts pes
    | _ => false
def ckTs (c : Cc) (m : Nat → Bool) : List T → List Expr → Bool
  | [], [] => true
  | t :: ts, p :: ps => notStar p && ckT c m t p && ckTs c m ts ps
  | _, _ => false
end
def relabS (scope sc : Scope) : Scope :=
  { scope with names := scope.names.map fun (n, k) => if (k == .free && sc.kind == .function && sc.names.lookup n == some .cell) then (n, .cell) else (n, k) }
def blkCc (c : Cc) (scope : Scope) : Cc := { c with sc := relabS scope c.sc, fn := fun x => scope.names.lookup x == some .cell, top := false }
def kwNames : List Keyword → Option (List Str)
  | [] => some []
  | ⟨some n, _, _⟩ :: r => (kwNames r).map (n :: ·)
  | _ :: _ => none
def suCc (c : Cc) (i : Option Nat) : Cc := { c with hot := true, xi := i }
def isTupE : Expr → Bool
  | .Tuple _ _ _ => true
  | _ => false
def needT : It → Bool
  | .enm _ => true
  | .zip _ _ => true
  | _ => false
def notSet : Expr → Bool
  | .Set _ _ _ => false
  | _ => true
def ownL (c : Cc) (ow : List Nat) : List (Str × Nat) := ow.filterMap fun i => (c.N[i]?).map fun x => (x, i)
mutual
def ckE (c : Cc) : E → Expr → Bool
  | .c d, pe => match pe with
    | .Constant k _ _ => ckC d k
    | _ => false
  | .v i, pe => match pe with
    | .Name x _ => ckV c i x
    | _ => false
  | .mv i, pe => match pe with
    | .Name x _ => ckV c i x
    | _ => false
  | .g i, pe => match pe with
    | .Name x _ => decide (c.gls[i]? = some x) && ckG c x
    | _ => false
  | .fz e, pe => ckE c e pe
  | .bin o a e, pe => match pe with
    | .BinOp pa op pb _ => decide (op = pyBin o) && ckE c a pa && ckE c e pb
    | _ => false
  | .neg a, pe => match pe with
    | .UnaryOp .USub pa _ => ckE c a pa
    | _ => false
  | .not a, pe => match pe with
    | .UnaryOp .Not pa _ => ckE c a pa
    | _ => false
  | .and a e, pe => match pe with
    | .BoolOp .And [pa, pb] _ => ckE c a pa && ckE c e pb
    | .BoolOp .And (pa :: pb :: pc :: r) pos => ckE c a pa && ckE c e (.BoolOp .And (pb :: pc :: r) pos)
    | _ => false
  | .or a e, pe => match pe with
    | .BoolOp .Or [pa, pb] _ => ckE c a pa && ckE c e pb
    | .BoolOp .Or (pa :: pb :: pc :: r) pos => ckE c a pa && ckE c e (.BoolOp .Or (pb :: pc :: r) pos)
    | _ => false
  | .cmp o a e, pe => match pe with
    | .Compare pa [op] [pb] _ => decide (op = pyCmp o) && !behindInMarks op pb && ckE c a pa && ckE c e pb
    | _ => false
  | .chain o o' a e e', pe => match pe with
    | .Compare pa [op, op'] [pb, pc] _ => decide (op = pyCmp o) && decide (op' = pyCmp o') && !lastMarks [op, op'] [pb, pc] && ckE c a pa && ckE c e pb && ckE c e' pc
    | _ => false
  | .ite t a e, pe => match pe with
    | .IfExp pc pa pb _ => ckE c t pc && ckE c a pa && ckE c e pb
    | _ => false
  | .tup es, pe => match pe with
    | .Tuple pes _ _ => decide (es.length ≤ 1000) && ckEs c es pes
    | _ => false
  | .lst es, pe => match pe with
    | .List pes _ => decide (es.length ≤ 1000) && ckEs c es pes
    | _ => false
  | .ix a i, pe => match pe with
    | .Subscript pa pb _ => notSlice pb && ckE c a pa && ckE c i pb
    | _ => false
  | .ixv j i, pe => match pe with
    | .Subscript (.Name x _) pb _ => notSlice pb && ckV c j x && ckE c i pb
    | _ => false
  | .sl a lo hi, pe => match pe with
    | .Subscript pa (.Slice l h none _) _ => ckE c a pa && (match l with
        | none => (match lo with | .c .non => true | _ => false)
        | some p => (match lo with | .c .non => false | _ => true) && ckE c lo p) && (match h with
        | none => (match hi with | .c .non => true | _ => false)
        | some p => (match hi with | .c .non => false | _ => true) && ckE c hi p)
    | _ => false
  | .rev a, pe => match pe with
    | .Subscript pa (.Slice none none (some (.UnaryOp .USub (.Constant (.int 1) _ _) _)) _) _ => ckE c a pa
    | _ => false
  | .call f es, pe => match pe with
    | .Call (.Name x _) pes [] _ => !c.hot && decide (c.fns[f]? = some x) && ckG c x && pes.all notStar && ckCs c es pes
    | _ => false
  | .blt bl es, pe => match pe with
    | .Call (.Name x _) (pa :: pes) [] _ => !c.hot && decide (x = bltN bl) && bltOk bl && ckB c x && (pa :: pes).all notStar && ckEs c es (pa :: pes)
    | _ => false
  | .of bl it, pe => match bl, it with
    | .list, .rng [a] => (match pe with
      | .Call (.Name x _) [.Call (.Name y _) [pa] [] _] [] _ => !c.hot && decide (x = "list") && decide (y = "range") && ckB c x && ckB c y && notStar pa && ckE c a pa
      | _ => false)
    | .list, .rng [a, e] => (match pe with
      | .Call (.Name x _) [.Call (.Name y _) [pa, pb] [] _] [] _ => !c.hot && decide (x = "list") && decide (y = "range") && ckB c x && ckB c y && notStar pa && notStar pb && ckE c a pa && ckE c e pb
      | _ => false)
    | _, _ => false
  | .mth m o es, pe => match es with
    | [e] => (match pe with
      | .Call (.Attribute pa n apos) [pb] [] pos => !c.hot && decide (n = mthN m) && (mthOk m || decide (m = .index)) && notStar pb && (apos.endLine == pos.line) && (match pa with | .Call _ _ _ _ => false | _ => true) && ckE c o pa && ckE c e pb
      | _ => false)
    | [] => (match pe with
      | .Call (.Attribute pa n apos) [] [] pos => decide (m = .upper) && decide (n = "upper") && (apos.endLine == pos.line) && (match pa with | .Call _ _ _ _ => false | _ => true) && ckE c o pa
      | _ => false)
    | _ => false
  | .isi e ts, pe => match pe with
    | .Call (.Name x _) [pa, .Name y _] [] _ => (match ts with
      | [t] => decide (x = "isinstance") && ckB c x && ckB c y && decide (y = tyS t) && (tyN t).isSome && notStar pa && ckE c e pa
      | _ => false)
    | .Call (.Name x _) [pa, .Tuple pes _ _] [] _ => decide (x = "isinstance") && ckB c x && decide (ts.length ≤ 1000) && ckTys c ts pes && notStar pa && ckE c e pa
    | _ => false
  | .comp k key elt gs ow, pe => match k, gs with
    | .list, [.mk t it cs] => (match pe with
      | .ListComp pl [⟨tg, iter, ifs, 0⟩] scope _ => !c.hot && decide (ow = slotsT t ++ []) && decide ((ownL c ow).map (·.2) = ow) && blkC c.N c.sc scope (ownL c ow) && notSet iter && ckIt c it iter && (!needT it || isTupE tg) &&
          ckT (blkCc c scope) (fun i => ow.contains i) t tg && ckCd (blkCc c scope) cs ifs && ckE (blkCc c scope) elt pl
      | _ => false)
    | _, _ => false
  | .callk f js es, pe => match pe with
    | .Call (.Name x _) [] kws _ => !c.hot && decide (c.fns[f]? = some x) && ckG c x && (match kwNames kws with
      | some ks => c.kws.any (fun t => decide (t = (f, ks, js))) && decide (ks.length = es.length)
      | none => false) && ckKs c es kws
    | _ => false
  | .xattr f, pe => match pe with
    | .Attribute (.Name x _) n _ => (match c.xi with
      | some i => ckV c i x && decide (n = c.fld.getD f default)
      | none => false)
    | _ => false
  | .xisi ts, pe => match ts with
    | [t] => (match pe with
      | .Call (.Name f _) [.Name x _, .Name y _] [] _ => decide (f = "isinstance") && ckB c f && (match c.xi with
        | some i => ckV c i x
        | none => false) && ((decide (c.cls[t]? = some y) && ckG c y) || (decide (t = 1000) && decide (y = "ValueError") && ckB c y))
      | _ => false)
    | _ => false
  | .callh f es, pe => match pe with
    | .Call (.Name x _) (pa :: pes) [] _ => c.hot && c.hfns.any (fun t => decide (t = (f, x))) && ckG c x && (pa :: pes).all notStar && ckEs c es (pa :: pes)
    | _ => false
  | .pop i path, pe => match pe with
    | .Call (.Attribute pa n apos) [] [] pos => decide (n = "pop") && (apos.endLine == pos.line) && ckBox c i path pa
    | _ => false
  | _, _ => false
def ckEs (c : Cc) : List E → List Expr → Bool
  | [], [] => true
  | e :: es, p :: ps => notStar p && ckE c e p && ckEs c es ps
  | _, _ => false
def ckKs (c : Cc) : List E → List Keyword → Bool
  | [], [] => true
  | e :: es, p :: ps => (match p with | ⟨_, v, _⟩ => ckE c e v) && ckKs c es ps
  | _, _ => false
def ckCs (c : Cc) : List E → List Expr → Bool
  | [], [] => true
  | e :: es, p :: ps => (match e with
    | .va i => (match p with | .Name x _ => ckV c i x | _ => false)
    | _ => notStar p && ckE c e p) && ckCs c es ps
  | _, _ => false
def ckBox (c : Cc) (i : Nat) : List E → Expr → Bool
  | [], pe => match pe with
    | .Name x _ => ckV c i x
    | _ => false
  | [e], pe => match pe with
    | .Subscript (.Name x _) pb _ => notSlice pb && ckV c i x && simpE e && ckE c e pb
    | _ => false
  | _, _ => false
def ckCd (c : Cc) : List E → List Expr → Bool
  | [], [] => true
  | [e], [p] => ckE c e p
  | _, _ => false
def ckIt (c : Cc) : It → Expr → Bool
  | .val e, pe => ckE c e pe && notSet pe
  | .rng es, pe => match pe with
    | .Call (.Name x _) pes [] _ => !c.hot && decide (x = "range") && ckB c x && (decide (pes.length = 1) || decide (pes.length = 2) || decide (pes.length = 3)) && ckEs c es pes
    | _ => false
  | .enm it, pe => match it with
    | .val e => (match pe with
      | .Call (.Name x _) [pa] [] _ => !c.hot && decide (x = "enumerate") && ckB c x && notStar pa && ckE c e pa
      | _ => false)
    | _ => false
  | .zip it1 it2, pe => match it1, it2 with
    | .val e1, .val e2 => (match pe with
      | .Call (.Name x _) [pa, pb] [] _ => !c.hot && decide (x = "zip") && ckB c x && notStar pa && notStar pb && ckE c e1 pa && ckE c e2 pb
      | _ => false)
    | _, _ => false
  | _, _ => false
def ckTys (c : Cc) : List Ty → List Expr → Bool
  | [], [] => true
  | t :: ts, p :: ps => (match p with | .Name y _ => ckB c y && decide (y = tyS t) && (tyN t).isSome | _ => false) && ckTys c ts ps
  | _, _ => false
end
end
end Q
end
section
set_option Elab.async false
set_option linter.all false
set_option autoImplicit false
set_option maxRecDepth 100000
namespace Q
open PySem PySem.Spec PyProof.Rows L2
def Stay (m : Nat → Bool) (σ σ' : L2.St) : Prop := σ'.length = σ.length ∧ ∀ (i : Nat), m i = false → σ'[i]? = σ[i]?
theorem Stay.refl {m : Nat → Bool} {σ : L2.St} : Stay m σ σ := ⟨rfl, fun _ _ => rfl⟩
theorem Stay.trans {m : Nat → Bool} {σ σ1 σ2 : L2.St} (h : Stay m σ σ1) (h' : Stay m σ1 σ2) : Stay m σ σ2 := ⟨h'.1.trans h.1, fun i e => (h'.2 i e).trans (h.2 i e)⟩
structure AftN (Γ : Ga) (H : Hp) (A : Addr → Prop) (fps : List (List Addr)) (σ : L2.St) (H' : Hp) (en' : Env) (fps' : List (List Addr)) : Prop where
  sta : Sta Γ H' A en' σ fps'
  fr : Fr false H H' (Own fps) (Nn A fps) (Nn A fps')
section
variable {Γ : Ga} {b s : Bool} {H H1 H2 : Hp} {A : Addr → Prop} {fps ps1 fps1 ps2 fps2 : List (List Addr)} {σ σ1 σ2 : L2.St} {ds ds1 : List D} {vs vs1 : List V} {en en1 en2 : Env} {C : Nat} {cls : Value} {dd : Option Addr}
theorem AftN.refl (st : Sta Γ H A en σ fps) : AftN Γ H A fps σ H en fps := ⟨st, .refl⟩
theorem AftN.trans (x : AftN Γ H A fps σ1 H1 en1 fps1) (y : AftN Γ H1 A fps1 σ2 H2 en2 fps2) : AftN Γ H A fps σ2 H2 en2 fps2 := by
  have st1 : Sta Γ H1 (Nn A []) en1 σ1 fps1 := by rw [nn_nil]; exact x.sta
  refine ⟨y.sta, ?_⟩
  have f1 : Fr false H H1 (Own fps) (Nn A fps) (Nn (Nn A []) fps1) := by rw [nn_nil]; exact x.fr
  exact Fr.chain st1 f1 (s2 := false) (by rw [nn_nil]; exact y.fr)
theorem AftN.val (x : AftN Γ H A fps σ1 H1 en1 fps1) (y : Aft Γ b s H1 A fps1 σ2 ds vs H2 en2 ps2 fps2) : Aft Γ b false H A fps σ2 ds vs H2 en2 ps2 fps2 := by
  have st1 : Sta Γ H1 (Nn A []) en1 σ1 fps1 := by rw [nn_nil]; exact x.sta
  have f1 : Fr false H H1 (Own fps) (Nn A fps) (Nn (Nn A []) fps1) := by rw [nn_nil]; exact x.fr
  exact ⟨y.sta, y.ro, y.dj, y.ap, (Fr.chain st1 f1 (s2 := s) (by rw [nn_nil]; exact y.fr)).less (s' := false) fun z => nomatch z⟩
theorem AftN.exc {ds : List D} (x : AftN Γ H A fps σ1 H1 en1 fps1) (y : AftX Γ H1 A fps1 σ2 C ds cls dd H2 en2 fps2) : AftX Γ H A fps σ2 C ds cls dd H2 en2 fps2 := by
  have st1 : Sta Γ H1 (Nn A []) en1 σ1 fps1 := by rw [nn_nil]; exact x.sta
  have f1 : Fr false H H1 (Own fps) (Nn A fps) (Nn (Nn A []) fps1) := by rw [nn_nil]; exact x.fr
  exact ⟨y.sta, y.xr, (Fr.chain st1 f1 (s2 := false) (by rw [nn_nil]; exact y.fr)).less (s' := false) fun z => nomatch z⟩
theorem Aft.toN (x : Aft Γ b s H A fps σ ds vs H1 en1 ps1 fps1) : AftN Γ H A fps σ H1 en1 fps1 :=
  ⟨x.st1, (x.fr.less (s' := false) fun z => nomatch z).weakNew fun a z => z.elim (fun z => .inl (.inl z)) .inr⟩
theorem Sta.store {d : D} {v : V} {p : List Addr} {i : Nat} (hx : ∀ x, Γ.xc = some x → ∀ j, x.i = some j → j ≠ i) (st : Sta Γ H (Nn A [p]) en σ fps) (r : RO Γ H (Nn (Nn A [p]) fps) d v p) (nd : p.Nodup) (ap : ∀ a ∈ p, ¬ A a) (hi : i < en.length) :
    Sta Γ H A (en.set i (some d)) (σ.set i (some v)) (fps.set i p) ∧ ∀ a, Nn A (fps.set i p) a → Nn (Nn A [p]) fps a := by
  have w : ∀ a, Nn A (fps.set i p) a → Nn (Nn A [p]) fps a := fun a z => by
    rcases z with z | z
    · exact .inl (.inl z)
    · rcases own_set z with z | ⟨j, q, _, hj, hq⟩
      · exact .inl (.inr (own_one.mpr z))
      · exact .inr ⟨j, q, hj, hq⟩
  refine ⟨⟨(RSs.set st.rs hi (show RS Γ H _ (some d) (some v) p from ⟨v, rfl, r⟩)).weak w, st.dj.set nd fun a ha j q _ hj hq => st.ap a ⟨j, q, hj, hq⟩ (.inr (own_one.mpr ha)), fun a ha z => ?_, fun a z => st.dom a (.inl z), fun x h => ⟨fun j hj => by
    rw [List.getElem?_set_ne (fun z => hx x h j hj z.symm)]
    exact (st.xo x h).1 j hj, ((st.xo x h).2).keep (Kp.id w)⟩⟩, w⟩
  rcases own_set ha with y | ⟨j, q, _, hj, hq⟩
  · exact ap a y z
  · exact st.ap a ⟨j, q, hj, hq⟩ (.inl z)
theorem Aft.store {d : D} {v : V} {i : Nat} (hx : ∀ x, Γ.xc = some x → ∀ j, x.i = some j → j ≠ i) (x : Aft Γ false s H A fps σ [d] [v] H1 en1 ps1 fps1) (hi : i < en1.length) : ∃ fps2, AftN Γ H A fps (σ.set i (some v)) H1 (en1.set i (some d)) fps2 := by
  obtain ⟨p, r, e⟩ := x.one
  have e := e rfl
  subst e
  obtain ⟨h1, h2⟩ := Sta.store hx x.sta r (x.dj.one 0 p rfl) (fun a ha => x.ap a (own_one.mpr ha)) hi
  exact ⟨_, h1, (x.fr.less (s' := false) fun z => nomatch z).weakNew h2⟩
end
section
variable (P : Prog) (cf : CF) (xc : Option (Nat × List D)) (Γ : Ga) (Wx : WX) (m : Nat → Bool)
def KS (H : Hp) (A : Addr → Prop) (fps : List (List Addr)) (σ : L2.St) (D : Ends) : Fl → Env → Prop
  | .nx, en' => ∀ σ' H' fps', AftN Γ H A fps σ' H' en' fps' → Stay m σ σ' → D.nx σ' H'
  | .bk, en' => ∀ σ' H' fps', AftN Γ H A fps σ' H' en' fps' → Stay m σ σ' → D.bk σ' H'
  | .ct, en' => ∀ σ' H' fps', AftN Γ H A fps σ' H' en' fps' → Stay m σ σ' → D.ct σ' H'
  | .rt d, en' => ∀ v σ' H' ps fps', Aft Γ false false H A fps σ' [d] [v] H' en' ps fps' → Stay m σ σ' → D.rt v H'
def XS (H : Hp) (A : Addr → Prop) (fps : List (List Addr)) (σ : L2.St) : Nat → List D → Env → Prop := fun C ds en' => ∀ cls dd σ' H' fps', AftX Γ H A fps σ' C ds cls dd H' en' fps' → Stay m σ σ' → Wx cls dd σ' H'
def tS (s : S) : TS := fun D σ H => ∃ A en fps, Sta Γ H A en σ fps ∧ Got (ex P cf xc s en) (KS Γ m H A fps σ D) (XS Γ Wx m H A fps σ)
def tSs (s : List S) : TS := fun D σ H => ∃ A en fps, Sta Γ H A en σ fps ∧ Got (exs P cf xc s en) (KS Γ m H A fps σ D) (XS Γ Wx m H A fps σ)
end
section
variable {P : Prog} {cf : CF} {xc : Option (Nat × List D)} {Γ : Ga} {Wx : WX} {m : Nat → Bool} {k : Nat} {c : Cc} {X : Cx} {pe pa pb : Expr} {pes : List Expr} {e : E} {s : S} {ss : List S} {pos : Pos} {st : Stmt} {sts : List Stmt}
theorem _root_.L2.PS.imp {p : Stmt} {t t' : TS} (h : PS X p t) (i : ∀ D σ H, t' D σ H → t D σ H) : PS X p t' := ⟨fun pins s σ H D I q => h.run pins s σ H D I (i _ _ _ q)⟩
theorem _root_.L2.PSs.imp {p : List Stmt} {t t' : TS} (h : PSs X p t) (i : ∀ D σ H, t' D σ H → t D σ H) : PSs X p t' := ⟨fun pins s σ H D I q => h.run pins s σ H D I (i _ _ _ q)⟩
theorem _root_.L2.PG.imp {p : Expr} {t t' : TG} (h : PG X p t) (i : ∀ v σ H Q, t' v σ H Q → t v σ H Q) : PG X p t' := ⟨fun pins s σ H v u Q I r q => h.run pins s σ H v u Q I r (i _ _ _ _ q)⟩
theorem _root_.L2.PGs.imp {p : List Expr} {t t' : TGs} (h : PGs X p t) (i : ∀ v σ H Q, t' v σ H Q → t v σ H Q) : PGs X p t' := ⟨fun pins s σ H v u Q I r q => h.run pins s σ H v u Q I r (i _ _ _ _ q)⟩
theorem KS.mid {H H1 : Hp} {A : Addr → Prop} {fps fps1 : List (List Addr)} {σ σ1 : L2.St} {en1 : Env} {D : Ends} (x : AftN Γ H A fps σ1 H1 en1 fps1) (y : Stay m σ σ1) {f : Fl} {en' : Env} (g : KS Γ m H A fps σ D f en') : KS Γ m H1 A fps1 σ1 D f en' := by
  cases f with
  | nx => exact fun σ' H' fps' a z => g σ' H' fps' (x.trans a) (y.trans z)
  | bk => exact fun σ' H' fps' a z => g σ' H' fps' (x.trans a) (y.trans z)
  | ct => exact fun σ' H' fps' a z => g σ' H' fps' (x.trans a) (y.trans z)
  | rt d => exact fun v σ' H' ps fps' a z => g v σ' H' ps fps' (x.val a) (y.trans z)
theorem XS.mid {H H1 : Hp} {A : Addr → Prop} {fps fps1 : List (List Addr)} {σ σ1 : L2.St} {en1 : Env} (x : AftN Γ H A fps σ1 H1 en1 fps1) (y : Stay m σ σ1) {C : Nat} {ds : List D} {en' : Env} (g : XS Γ Wx m H A fps σ C ds en') : XS Γ Wx m H1 A fps1 σ1 C ds en' :=
  fun cls dd σ' H' fps' a z => g cls dd σ' H' fps' (x.exc a) (y.trans z)
theorem XS.xw {H : Hp} {A : Addr → Prop} {fps : List (List Addr)} {σ : L2.St} {C : Nat} {ds : List D} {en' : Env} (g : XS Γ Wx m H A fps σ C ds en') : XW Γ Wx H A fps σ C ds en' := fun cls dd H' fps' a => g cls dd σ H' fps' a .refl
theorem pss_nilQ : PSs X [] ((tSs P cf xc Γ Wx m) []) := pss_nil.imp fun D σ H ⟨A, en, fps, st, g⟩ => by
  rw [exs] at g
  exact g σ H fps (.refl st) .refl
theorem pss_consQ (h1 : PS X st ((tS P cf xc Γ Wx m) s)) (h2 : PSs X sts ((tSs P cf xc Γ Wx m) ss)) : PSs X (st :: sts) ((tSs P cf xc Γ Wx m) (s :: ss)) := (pss_cons h1 h2).imp fun D σ H ⟨A, en, fps, st, g⟩ => by
  rw [exs] at g
  refine ⟨A, en, fps, st, ?_⟩
  cases h : ex P cf xc s en with
  | st => rw [h] at g; exact g
  | ex C ds en1 => rw [h] at g; exact g
  | ok f en1 =>
    rw [h] at g
    cases f with
    | nx => exact fun σ1 H1 fps1 a y => ⟨A, en1, fps1, a.sta, Got.imp g (fun f en' q => q.mid a y) fun C ds en' q => q.mid a y⟩
    | bk => exact g
    | ct => exact g
    | rt d => exact g
def tGt (Γ : Ga) (m : Nat → Bool) (t : T) : TG := fun v σ H Q => ∃ A en fps d p, Sta Γ H (Nn A [p]) en σ fps ∧ RO Γ H (Nn (Nn A [p]) fps) d v p ∧ p.Nodup ∧ (∀ a ∈ p, ¬ A a) ∧ ∃ en', bindT t d en = some en' ∧
  ∀ σ' fps', Sta Γ H A en' σ' fps' → (∀ a, Nn A fps' a → Nn (Nn A [p]) fps a) → Stay m σ σ' → Q σ' H
def tGts (Γ : Ga) (m : Nat → Bool) (ts : List T) : TGs := fun vs σ H Q => ∃ A en fps ds ps, Sta Γ H A en σ fps ∧ ROs Γ H (Nn A fps) ds vs ps ∧ (∀ p ∈ ps, p = []) ∧ ∃ en', bindTs ts ds en = some en' ∧
  ∀ σ' fps', Sta Γ H A en' σ' fps' → (∀ a, Nn A fps' a → Nn A fps a) → Stay m σ σ' → Q σ' H
theorem CtxOk.l (O : CtxOk P cf Γ Wx k c X) {i : Nat} {x : Str} (h : ckL c m i x = true) : X.N[i]? = some x ∧ L2.Loc X.env.scope x ∧ (X.fn x = true ∨ X.env.scope.names.lookup x = some .local) ∧ m i = true ∧ ∀ x, Γ.xc = some x → ∀ j, x.i = some j → j ≠ i := by
  unfold ckL at h
  simp only [Bool.and_eq_true, Bool.or_eq_true, decide_eq_true_eq, Bool.not_eq_true', decide_eq_false_iff_not] at h
  obtain ⟨⟨⟨h1, h2⟩, h3⟩, h4⟩ := h
  refine ⟨by rw [O.N]; exact h1, ?_, ?_, h3, fun y hy j hj e => h4 ?_⟩
  · unfold L2.Loc
    rw [O.sc]
    exact h2.imp id And.right
  · rw [O.sc]
    exact h2.symm.imp (fun z => O.fn x z.1) id
  · rw [← O.xi y hy, hj, e]
theorem stay_set {σ : L2.St} {i : Nat} {w : Option V} (h : m i = true) : Stay m σ (σ.set i w) := ⟨List.length_set, fun j e => by
  have : i ≠ j := fun z => by subst z; rw [h] at e; cases e
  rw [List.getElem?_set_ne this]⟩
theorem asg_star {env : PySem.Env} (h : notStar pa = true) : assignEach (pa :: pes) env = (false, assign pa env) :: assignEach pes env := by
  cases pa <;> first | rfl | (cases h; done)
theorem asg_len {env : PySem.Env} : ∀ {ts : List T} {pes : List Expr}, ckTs c m ts pes = true → (assignEach pes env).length = ts.length ∧ (assignEach pes env).findIdx? (·.1) = none
  | [], [], _ => ⟨rfl, rfl⟩
  | t :: ts, p :: ps, h => by
    unfold ckTs at h
    simp only [Bool.and_eq_true] at h
    obtain ⟨a, b⟩ := asg_len (env := env) h.2
    rw [asg_star h.1.1]
    refine ⟨by rw [List.length_cons, List.length_cons, a], ?_⟩
    rw [List.findIdx?_cons, b]
    rfl
  | [], _ :: _, h => by simp [ckTs] at h
  | _ :: _, [], h => by simp [ckTs] at h
theorem bindTs_len : ∀ {ts : List T} {ds : List D} {en en' : Env}, bindTs ts ds en = some en' → ds.length = ts.length
  | [], [], _, _, _ => rfl
  | t :: ts, d :: ds, en, en', h => by
    rw [bindTs] at h
    split at h
    · rw [List.length_cons, List.length_cons, bindTs_len h]
    · cases h
  | [], _ :: _, _, _, h => by simp [bindTs] at h
  | _ :: _, [], _, _, h => by simp [bindTs] at h
mutual
theorem sndT (O : CtxOk P cf Γ Wx k c X) : ∀ (t : T) (pe : Expr), ckT c m t pe = true → PG X pe (tGt Γ m t)
  | .nm i, pe, h => by
    unfold ckT at h
    split at h
    · obtain ⟨h1, h2, h2', h3, hxi⟩ := O.l h
      refine (pg_name O.nd h1 h2 h2').imp fun v σ H Q ⟨A, en, fps, d, p, st, r, nd, ap, en', hb, q⟩ => ?_
      rw [bindT] at hb
      split at hb
      · rename_i hi
        cases hb
        obtain ⟨g1, g2⟩ := st.store hxi r nd ap hi
        exact q _ _ g1 g2 (stay_set h3)
      · cases hb
    · cases h
  | .tp ts, pe, h => by
    unfold ckT at h
    split at h
    · rw [Bool.and_eq_true, Bool.not_eq_true'] at h
      obtain ⟨hh, h⟩ := h
      obtain ⟨l1, l2⟩ := asg_len (env := X.env) h
      refine (pg_tup (O.cool hh).calm (sndTs O ts _ h) l1 l2).imp fun v σ H Q ⟨A, en, fps, d, p, st, r, nd, ap, en', hb, q⟩ => ?_
      cases d <;> first | (simp [bindT] at hb; done) | skip
      rename_i ds
      have hb : bindTs ts ds en = some en' := by simpa [bindT] using hb
      obtain ⟨a, vs, gs, e, h1, h2, h3, h4⟩ := r
      subst h4
      rw [O.K]
      exact ⟨a, vs, e, h1, by rw [h2.length.1, bindTs_len hb], A, en, fps, ds, gs, st.weak fun a z => .inl z, h2.weak fun a z => by rw [nn_e]; exact z, h3, en', hb, fun σ' fps' s1 s2 s3 => q σ' fps' s1 (fun a z => by rw [nn_e]; exact s2 a z) s3⟩
    · cases h
theorem sndTs (O : CtxOk P cf Γ Wx k c X) : ∀ (ts : List T) (pes : List Expr), ckTs c m ts pes = true → PGs X pes (tGts Γ m ts)
  | [], [], _ => pgs_nil.imp fun vs σ H Q ⟨A, en, fps, ds, ps, st, r, hp, en', hb, q⟩ => by
    cases ds with
    | nil =>
      cases hb
      exact ⟨r.nil, q σ fps st (fun _ z => z) .refl⟩
    | cons _ _ => simp [bindTs] at hb
  | t :: ts, p :: ps, h => by
    unfold ckTs at h
    simp only [Bool.and_eq_true] at h
    refine (pgs_cons (sndT O t p h.1.2) (sndTs O ts ps h.2) (by rw [asg_star h.1.1]; rfl)).imp fun vs σ H Q ⟨A, en, fps, ds, gs, st, r, hp, en', hb, q⟩ => ?_
    cases ds with
    | nil => simp [bindTs] at hb
    | cons d ds =>
      obtain ⟨v, vs', fp, gs', rfl, rfl, r1, r2⟩ := r.one
      have e : fp = [] := hp fp List.mem_cons_self
      subst e
      rw [bindTs] at hb
      cases hb1 : bindT t d en with
      | none => rw [hb1] at hb; cases hb
      | some en1 =>
        rw [hb1] at hb
        have hb : bindTs ts ds en1 = some en' := hb
        refine ⟨v, vs', rfl, A, en, fps, d, [], by rw [nn_e]; exact st, by rw [nn_e]; exact r1, List.nodup_nil, (fun a ha => nomatch ha), en1, hb1, fun σ1 fps1 s1 s2 s3 => ?_⟩
        rw [nn_e] at s2
        exact ⟨A, en1, fps1, ds, gs', s1, r2.weak s2, fun p hp' => hp p (List.mem_cons_of_mem _ hp'), en', hb, fun σ2 fps2 z1 z2 z3 => q σ2 fps2 z1 (fun a z => s2 a (z2 a z)) (s3.trans z3)⟩
  | [], _ :: _, h => by simp [ckTs] at h
  | _ :: _, [], h => by simp [ckTs] at h
end
end
end Q
end
section
set_option Elab.async false
set_option linter.all false
set_option autoImplicit false
set_option maxRecDepth 100000
namespace Q
open PySem PySem.Spec PyProof.Rows L2
section
variable {P : Prog} {cf : CF} {xc : Option (Nat × List D)} {Γ : Ga} {Wx : WX} {m : Nat → Bool} {k : Nat} {c : Cc} {X : Cx} {pe pa pb pk : Expr} {pes : List Expr} {e ek : E} {path : List E} {s : S} {ss : List S} {pos : Pos} {st : Stmt} {sts : List Stmt}
def notComp : Expr → Bool
  | .ListComp _ _ _ _ => false
  | .SetComp _ _ _ _ => false
  | .DictComp _ _ _ _ _ => false
  | _ => true
theorem swaps_of (h : notComp pe = true) {t : Option Expr} {l : Nat} {env : PySem.Env} : swapsWith pe t l env = pure false := by
  cases pe <;> first | rfl | (cases h; done)
theorem swapsT {pts : List Expr} {kk l : Nat} {tpos : Pos} {env : PySem.Env} : swapsWithSole [.Tuple pts kk tpos] pe l env = pure false := by
  cases pe <;> rfl
def notTup : Expr → Bool
  | .Tuple _ _ _ => false
  | _ => true
theorem swappedT {pts : List Expr} {kk : Nat} {tpos : Pos} {env : PySem.Env} (h : notTup pe = true) : swappedStores [.Tuple pts kk tpos] pe env = pure none := by
  cases pe <;> first | rfl | (cases h; done)
theorem swappedN {x : Str} {tpos : Pos} {env : PySem.Env} : swappedStores [.Name x tpos] pe env = pure none := by
  cases pe <;> rfl
theorem ps_asgN (O : CtxOk P cf Γ Wx k c X) {i : Nat} {x : Str} {p : Pos} (h : ckL c m i x = true) (he : ∀ b, PE X pe ((tA P cf xc Γ Wx) b e)) (hn : notComp pe = true) : PS X (.Assign [.Name x p] pe pos) ((tS P cf xc Γ Wx m) (.asg (.nm i) e)) := by
  obtain ⟨h1, h2, h2', h3, hxi⟩ := O.l h
  refine (ps_set O.nd h1 h2 (he false) (swaps_of hn) h2').imp fun D σ H ⟨A, en, fps, st, g⟩ => ?_
  rw [ex, got_bind] at g
  refine ⟨A, en, fps, st, g.imp (fun d en1 g v H1 ps fps1 a1 => ?_) fun _ _ _ g => g.xw⟩
  have g : Got (match (if i < en1.length then some (en1.set i (some d)) else none : Option Env) with | some en => Res.ok Fl.nx en | none => .st) (KS Γ m H A fps σ D) (XS Γ Wx m H A fps σ) := by
    rw [bindT] at g; exact g
  split at g
  · rename_i hb
    split at hb
    · rename_i hi
      cases hb
      obtain ⟨fps2, a2⟩ := a1.store hxi hi
      exact g _ _ _ a2 (stay_set h3)
    · cases hb
  · exact g.elim
theorem ps_asgT (O : CtxOk P cf Γ Wx k c X) {ts : List T} {pts : List Expr} {kk : Nat} {tpos : Pos} (h : ckT c m (.tp ts) (.Tuple pts kk tpos) = true) (he : ∀ b, PE X pe ((tA P cf xc Γ Wx) b e)) (hn : notTup pe = true) : PS X (.Assign [.Tuple pts kk tpos] pe pos) ((tS P cf xc Γ Wx m) (.asg (.tp ts) e)) := by
  refine (ps_asg (he false) (sndT (m := m) O (.tp ts) _ h) swapsT (swappedT hn)).imp fun D σ H ⟨A, en, fps, st, g⟩ => ?_
  rw [ex, got_bind] at g
  refine ⟨A, en, fps, st, g.imp (fun d en1 g v H1 ps fps1 a1 => ?_) fun _ _ _ g => g.xw⟩
  have g : Got (match bindT (.tp ts) (fz d) en1 with | some en => Res.ok Fl.nx en | none => .st) (KS Γ m H A fps σ D) (XS Γ Wx m H A fps σ) := g
  cases hb : bindT (.tp ts) (fz d) en1 with
  | none => rw [hb] at g; exact g.elim
  | some en2 =>
    rw [hb] at g
    have a2 := a1.fz (b := false) rfl
    obtain ⟨fp, r, e1⟩ := a2.one
    have e1 : [[]] = [fp] := e1 rfl
    cases e1
    refine ⟨A, en1, fps1, _, [], a2.sta, r, List.nodup_nil, (fun a ha => nomatch ha), en2, hb, fun σ' fps' s1 s2 s3 => g σ' H1 fps' ⟨s1, (a2.fr.less (s' := false) fun z => nomatch z).weakNew s2⟩ s3⟩
theorem ps_exprQ (he : ∀ b, PE X pe ((tA P cf xc Γ Wx) b e)) (hn : notComp pe = true) : PS X (.Expr pe pos) ((tS P cf xc Γ Wx m) (.expr e)) :=
  (ps_expr (he false) (swaps_of hn)).imp fun D σ H ⟨A, en, fps, st, g⟩ => by
    rw [ex, got_bind] at g
    exact ⟨A, en, fps, st, g.imp (fun d en1 g v H1 ps fps1 a1 => g σ H1 fps1 a1.toN .refl) fun _ _ _ g => g.xw⟩
theorem ps_retQ (he : ∀ b, PE X pe ((tA P cf xc Γ Wx) b e)) : PS X (.Return (some pe) pos) ((tS P cf xc Γ Wx m) (.ret e)) :=
  (ps_ret (he false)).imp fun D σ H ⟨A, en, fps, st, g⟩ => by
    rw [ex, got_bind] at g
    exact ⟨A, en, fps, st, g.imp (fun d en1 g v H1 ps fps1 a1 => g v σ H1 ps fps1 (a1.less (s' := false) fun z => nomatch z) .refl) fun _ _ _ g => g.xw⟩
theorem ps_retNQ : PS X (.Return none pos) ((tS P cf xc Γ Wx m) (.ret (.c .non))) :=
  ps_retN.imp fun D σ H ⟨A, en, fps, st, g⟩ => by
    rw [ex, ev] at g
    exact g .non σ H [[]] fps (Aft.part (Aft.nil (b := false) st) (d := .non) (fp := []) ⟨rfl, rfl⟩ fun z => nomatch z) .refl
theorem ps_passQ : PS X (.Pass pos) ((tS P cf xc Γ Wx m) .pass) := ps_pass.imp fun D σ H ⟨A, en, fps, st, g⟩ => by
  rw [ex] at g
  exact g σ H fps (.refl st) .refl
theorem ps_brkQ : PS X (.Break pos) ((tS P cf xc Γ Wx m) .brk) := ps_break.imp fun D σ H ⟨A, en, fps, st, g⟩ => by
  rw [ex] at g
  exact g σ H fps (.refl st) .refl
theorem ps_contQ : PS X (.Continue pos) ((tS P cf xc Γ Wx m) .cont) := ps_continue.imp fun D σ H ⟨A, en, fps, st, g⟩ => by
  rw [ex] at g
  exact g σ H fps (.refl st) .refl
theorem ps_ifQ {sa sb : List S} {pta ptb : List Stmt} (hc : PT X pe ((tT P cf xc Γ Wx) true e)) (ha : PSs X pta ((tSs P cf xc Γ Wx m) sa)) (hb : PSs X ptb ((tSs P cf xc Γ Wx m) sb)) : PS X (.If pe pta ptb pos) ((tS P cf xc Γ Wx m) (.ifs e sa sb)) :=
  (ps_if hc ha hb).imp fun D σ H ⟨A, en, fps, st, g⟩ => by
    rw [ex, got_bind] at g
    refine ⟨A, en, fps, st, g.imp (fun d en1 g v H1 ps fps1 a1 => ?_) fun _ _ _ g => g.xw⟩
    split at g
    · rename_i h
      rw [if_pos h]
      exact ⟨A, en1, fps1, a1.st1, g.imp (fun f en' q => q.mid a1.toN .refl) fun C ds en' q => q.mid a1.toN .refl⟩
    · rename_i h
      rw [if_neg h]
      exact ⟨A, en1, fps1, a1.st1, g.imp (fun f en' q => q.mid a1.toN .refl) fun C ds en' q => q.mid a1.toN .refl⟩
theorem augD_ok {x y z : Q.D} (h : augD .add x y = some z) : ∃ i j, x = .int i ∧ y = .int j ∧ z = .int (i + j) := by
  unfold augD at h
  split at h
  · cases h; exact ⟨_, _, rfl, rfl, rfl⟩
  · cases h
theorem ps_augI (O : CtxOk P cf Γ Wx k c X) {i : Nat} {x : Str} {p : Pos} (h : ckL c m i x = true) (he : ∀ b, PE X pe ((tA P cf xc Γ Wx) b e)) : PS X (.AugAssign (.Name x p) .Add pe pos) ((tS P cf xc Γ Wx m) (.aug i .add e)) := by
  obtain ⟨h1, h2, h2', h3, hxi⟩ := O.l h
  refine (ps_aug O.nd h1 h2 (he false) ip_add h2').imp fun D σ H ⟨A, en, fps, st, g⟩ => ?_
  rw [ex, got_bind] at g
  obtain ⟨⟨d0, hd0⟩, g⟩ := got_has g
  obtain ⟨v0, fp0, e0, _, _⟩ := RSs.at st.rs hd0
  refine ⟨v0, e0, A, en, fps, st, g.imp (fun y en1 g vy H1 ps fps1 a1 => ?_) fun _ _ _ g => g.xw⟩
  cases hx : get en1 i with
  | none => rw [hx] at g; exact g.elim
  | some x =>
    rw [hx] at g
    obtain ⟨v1, fp1, e1, _, rx⟩ := RSs.at a1.sta.rs hx
    rw [e0] at e1
    cases e1
    obtain ⟨fy, ry, _⟩ := a1.one
    have g : Got (match augD .add x y with | some z => Res.ok Fl.nx (en1.set i (some z)) | none => .st) (KS Γ m H A fps σ D) (XS Γ Wx m H A fps σ) := g
    cases ha : augD .add x y with
    | none => rw [ha] at g; exact g.elim
    | some z =>
      rw [ha] at g
      obtain ⟨n, n', rfl, rfl, rfl⟩ := augD_ok ha
      refine ⟨n, n', rx.1, ry.1, ?_⟩
      have a2 := (a1.made (b := false) (d := .int (n + n')) (Q := fun v H' => H' = H1 → v = .int (n + n') → ∃ ps, Aft Γ false (simpE e) H A fps σ [.int (n + n')] [v] H1 en1 ps fps1) fun v H' ps y e1 e2 => by subst e1; exact ⟨ps, y⟩).int rfl rfl
      obtain ⟨ps2, a2⟩ := a2
      obtain ⟨fps2, a3⟩ := a2.store hxi (get_lt hx)
      exact g _ _ _ a3 (stay_set h3)
theorem RO.updGet {H : Hp} {N : Addr → Prop} {f : D → Option D} : ∀ (ks : List D) {d d' : D} {v : V} {fp : List Addr}, RO Γ H N d v fp → updAt f ks d = some d' → ∃ x x', getAt ks d = some x ∧ f x = some x' ∧ ∃ w q, RO Γ H N x w q
  | [], d, d', v, fp, r, h => ⟨d, d', rfl, by unfold updAt at h; exact h, v, fp, r⟩
  | k :: ks, d, d', v, fp, r, h => by
    cases d with
    | lst o xs =>
      cases o with
      | false => simp [updAt] at h
      | true =>
        cases k with
        | int i =>
          have h : ((ixQ xs.length i).bind fun n => (xs[n]?).bind fun x => (updAt f ks x).map fun y => D.lst true (xs.set n y)) = some d' := h
          cases hn : ixQ xs.length i with
          | none => rw [hn] at h; cases h
          | some n =>
            rw [hn] at h
            have h : ((xs[n]?).bind fun x => (updAt f ks x).map fun y => D.lst true (xs.set n y)) = some d' := h
            cases hx : xs[n]? with
            | none => rw [hx] at h; cases h
            | some x =>
              rw [hx] at h
              have h : ((updAt f ks x).map fun y => D.lst true (xs.set n y)) = some d' := h
              cases hu : updAt f ks x with
              | none => rw [hu] at h; cases h
              | some x' =>
                obtain ⟨a, vs, fps, e, ha, hs, ef⟩ := r
                obtain ⟨w, p, _, _, rx⟩ := hs.get hx
                obtain ⟨y, y', h1, h2, h3⟩ := RO.updGet ks rx hu
                refine ⟨y, y', ?_, h2, h3⟩
                show (((ixQ xs.length i).bind fun n => xs[n]?).bind (getAt ks)) = some y
                rw [hn]
                show ((xs[n]?).bind (getAt ks)) = some y
                rw [hx]; exact h1
        | _ => simp [updAt] at h
    | dct o a b => exact r.elim
    | _ => simp [updAt] at h
theorem At.same {H H' : Hp} {ks : List D} {v0 v v' : V} (h : ks = [] ∨ ∀ a u, H a = some u → H' a = some u) (x : At H v0 ks v) (y : At H' v0 ks v') : v = v' := by
  rcases h with h | h
  · subst h
    exact x.symm.trans y
  · exact At.fn (x.mono h) y
theorem Got.lenH {i : Nat} {kk : List Q.D → Env → Prop} {x : Nat → List Q.D → Env → Prop} {en : Env} (g : Got (hasR i en (evs P cf xc path en)) kk x) : Got (hasR i en (evs P cf xc path en)) (fun ds en' => ds.length = path.length ∧ kk ds en') x := by
  unfold hasR at g ⊢
  cases h : get en i with
  | none => rw [h] at g; exact g
  | some d => rw [h] at g; exact Got.len g
theorem isL_ok {en : Env} {i : Nat} {ks : List D} (h : isL en i ks = true) : ∃ xs, (get en i).bind (getAt ks) = some (.lst true xs) := by
  unfold isL at h
  split at h
  · rename_i xs e; exact ⟨xs, e⟩
  · cases h
theorem upSlot_ok {en en' : Env} {i : Nat} {f : D → Option D} (h : upSlot en i f = some en') : ∃ d d', get en i = some d ∧ f d = some d' := by
  unfold upSlot at h
  cases hd : get en i with
  | none => rw [hd] at h; cases h
  | some d =>
    rw [hd] at h
    have h : ((f d).map fun d' => en.set i (some d')) = some en' := h
    cases hf : f d with
    | none => rw [hf] at h; cases h
    | some d' => exact ⟨d, d', rfl, hf⟩
theorem Sta.write {H : Hp} {A : Addr → Prop} {en en' : Env} {σ : L2.St} {fps : List (List Addr)} {i : Nat} {ks : List D} {f : D → Option D} (st : Sta Γ H A en σ fps) (h : upSlot en i (updAt f ks) = some en')
    (hl : ∀ x x', f x = some x' → (∃ w q, RO Γ H (Nn A fps) x w q) → ∃ xs xs', x = .lst true xs ∧ x' = .lst true xs') :
    ∃ xs xs' v0 l ws gps, f (.lst true xs) = some (.lst true xs') ∧ σ[i]? = some (some v0) ∧ At H v0 ks (.ref l) ∧ H l = some (.lst ws) ∧ ROs Γ H (Nn A fps) xs ws gps ∧ (l :: gps.flatten).Nodup ∧ Own fps l ∧ (∀ a ∈ gps.flatten, Own fps a) ∧
      ∀ (ws' : List V) (gps' : List (List Addr)) (A' : Addr → Prop), ROs Γ H (Nn A fps) xs' ws' gps' → gps'.flatten.Nodup → (∀ a ∈ gps'.flatten, a ∈ gps.flatten ∨ A a) → (∀ a, A' a → (A a ∨ a ∈ gps.flatten) ∧ a ∉ gps'.flatten) →
        ∃ fps', Sta Γ (upd H l (.lst ws')) A' en' σ fps' ∧ Fr false H (upd H l (.lst ws')) (Own fps) (Nn A fps) (Nn A' fps') := by
  obtain ⟨d, d', hd, hu⟩ := upSlot_ok h
  obtain ⟨v, fp, ev, ef, r⟩ := RSs.at st.rs hd
  obtain ⟨x, x', h1, h2, h3⟩ := r.updGet ks hu
  obtain ⟨xs, xs', rfl, rfl⟩ := hl x x' h2 h3
  obtain ⟨v0, l, ws, gps, g1, g2, g3, g4, g5, g6, g7, put⟩ := st.put hd h1 h2
  refine ⟨xs, xs', v0, l, ws, gps, h2, g1, g2, g3, g4, g5, g6, g7, fun ws' gps' A' a1 a2 a3 a4 => ?_⟩
  obtain ⟨en2, fps', u1, u2, u3⟩ := put ws' gps' A' a1 a2 a3 a4
  rw [h] at u1
  cases u1
  exact ⟨fps', u2, u3⟩
theorem nodup_app1 {gps : List (List Addr)} {p : List Addr} (h1 : gps.flatten.Nodup) (h2 : p.Nodup) (h3 : ∀ a ∈ gps.flatten, a ∉ p) : (gps ++ [p]).flatten.Nodup := by
  rw [List.flatten_append, List.nodup_append]
  refine ⟨h1, by simpa using h2, fun a ha b hb e => ?_⟩
  subst e
  exact h3 a ha (by simpa using hb)
theorem ps_appQ (O : CtxOk P cf Γ Wx k c X) {i : Nat} {apos epos : Pos} (ho : PE X pa ((tBox P cf xc Γ Wx) i path)) (hs : path = [] ∨ simpE e = true) (he : ∀ b, PE X pe ((tA P cf xc Γ Wx) b e)) (hst : notStar pe = true)
    (hbase : attributeBase pa "append" X.env (eval pa X.env) = eval pa X.env) (hline : (apos.endLine == pos.line) = true) :
    PS X (.Expr (.Call (.Attribute pa "append" apos) [pe] [] pos) epos) ((tS P cf xc Γ Wx m) (.app i path e)) := by
  have hE : PE X (.Call (.Attribute pa "append" apos) [pe] [] pos) (tBM X.K "list" rAppend ((tBox P cf xc Γ Wx) i path) (tCons ((tA P cf xc Γ Wx) false e) tNil)) :=
    pe_bm PySem.F.plainAttrs_list PySem.F.slot_list_append PySem.F.type_list_append mt_append ho (pa_cons (he false) pa_nil (star_of (notStar_of hst))) hbase (by rw [star_of (notStar_of hst)]; rfl) hline (star_of (notStar_of hst)) rfl
  refine (ps_expr hE rfl).imp fun D σ H ⟨A, en, fps, st, g⟩ => ?_
  rw [ex, got_bind] at g
  refine ⟨A, en, fps, st, g.lenH.imp (fun ks en1 g => ?_) fun _ _ _ g => g.xw⟩
  obtain ⟨gl, g⟩ := g
  split at g
  · rename_i hL
    obtain ⟨xs0, hx0⟩ := isL_ok hL
    refine ⟨xs0, hx0, fun vs1 H1 ps1 fps1 v0 l ws a1 e0 hat hl => ?_⟩
    refine ⟨.inl ⟨rfl, ws, .inl (.inl hl)⟩, _, en1, fps1, a1.sta, ?_⟩
    rw [got_bind] at g
    refine g.imp (fun y en2 g vy H2 ps2 fps2 a2 => ?_) fun C ds en2 g cls dd H2 fps2 y => g cls dd σ H2 fps2 (AftX.pre a1 y) .refl
    obtain ⟨p, ry, e2⟩ := a2.one
    have e2 := e2 rfl
    subst e2
    cases hu : upSlot en2 i (updAt (appD y) ks) with
    | none => rw [hu] at g; exact g.elim
    | some en3 =>
      rw [hu] at g
      obtain ⟨xs, xs', v1, l1, ws1, gps, f1, g1, g2, g3, g4, g5, g6, g7, put⟩ := a2.sta.write hu fun x x' h _ => by
        unfold appD at h
        split at h
        · split at h
          · cases h; exact ⟨_, _, rfl, rfl⟩
          · cases h
        · cases h
      have f1 : (if xs.length < LIM then some (Q.D.lst true (xs ++ [y])) else none) = some (.lst true xs') := f1
      split at f1
      · rename_i hlen
        cases f1
        rw [e0] at g1
        cases g1
        have hk : ks = [] ∨ ∀ a u, H1 a = some u → H2 a = some u := by
          rcases hs with h | h
          · subst h
            exact .inl (List.eq_nil_of_length_eq_zero gl)
          · exact .inr fun a u e => a2.fr.keep a u e (.inl h)
        have el := hat.same hk g2
        cases el
        have hpA : ∀ a ∈ p, Nn (Nn A ps1) [p] a := fun a ha => .inr (own_one.mpr ha)
        have nA : ∀ a ∈ p, ¬ Own fps2 a := fun a ha z => a2.sta.ap a z (hpA a ha)
        have ndg := (List.nodup_cons.mp g5).2
        obtain ⟨fps3, s3, f3⟩ := put (ws1 ++ [vy]) (gps ++ [p]) A (g4.append ⟨ry, True.intro⟩) (nodup_app1 ndg (a2.dj.one 0 p rfl) fun a ha z => nA a z (g7 a ha)) (fun a ha => by
            rw [List.flatten_append, List.mem_append] at ha
            exact ha.imp id fun z => hpA a (by simpa using z)) (fun a ha => ⟨.inl (.inl (.inl ha)), fun z => by
              rw [List.flatten_append, List.mem_append] at z
              rcases z with z | z
              · exact a2.sta.ap a (g7 a z) (.inl (.inl ha))
              · exact a2.ap a (own_one.mpr (by simpa using z)) (.inl ha)⟩)
        refine ⟨l, ws1, vy, rfl, rfl, g3, by rw [g4.length.1]; exact Nat.lt_of_lt_of_le hlen LIM_line, ?_⟩
        have z := a1.cat (b := false) a2 (fun z => nomatch z) (fun z => nomatch z)
        have fr0 : Fr false H H2 (Own fps) (Nn A fps) (Nn (Nn (Nn A ps1) [p]) fps2) := (Fr.chain a1.sta a1.fr a2.fr).less (s' := false) fun z => nomatch z
        have ol : ∀ a, Own fps2 a → Own fps a ∨ H a = none := fun a h => by
          rcases fr0.new a (.inr h) with (z | z) | z
          · exact absurd (Or.inl (Or.inl z)) (a2.sta.ap a h)
          · exact .inl z
          · exact .inr z
        exact g σ _ fps3 ⟨s3, (fr0.trans f3 ol).less (s' := false) fun z => nomatch z⟩ .refl
      · cases f1
  · exact g.elim
theorem putD_ok {kk y x' : Q.D} {xs : List Q.D} (h : putD kk y (.lst true xs) = some x') : ∃ j n, kk = .int j ∧ ixQ xs.length j = some n ∧ x' = .lst true (xs.set n y) := by
  cases kk <;> first | (simp [putD] at h; done) | skip
  rename_i j
  have h : ((ixQ xs.length j).map fun n => Q.D.lst true (xs.set n y)) = some x' := h
  cases hj : ixQ xs.length j with
  | none => rw [hj] at h; cases h
  | some n => rw [hj] at h; cases h; exact ⟨j, n, rfl, hj, rfl⟩
theorem ROs.setV {H : Hp} {N : Addr → Prop} : ∀ {ds : List D} {vs : List V} {fps : List (List Addr)} {n : Nat} {d : D} {w : V} {p : List Addr}, ROs Γ H N ds vs fps → RO Γ H N d w p → ROs Γ H N (ds.set n d) (vs.set n w) (fps.set n p)
  | [], [], [], n, _, _, _, _, _ => by simp [ROs]
  | d :: ds, v :: vs, fp :: fps, 0, x, w, p, ⟨_, h2⟩, r => ⟨r, h2⟩
  | d :: ds, v :: vs, fp :: fps, n + 1, x, w, p, ⟨h1, h2⟩, r => ⟨h1, ROs.setV (n := n) h2 r⟩
  | [], [], _ :: _, _, _, _, _, z, _ => z.elim
  | [], _ :: _, _, _, _, _, _, z, _ => z.elim
  | _ :: _, [], _, _, _, _, _, z, _ => z.elim
  | _ :: _, _ :: _, [], _, _, _, _, z, _ => z.elim
theorem set_own {gps : List (List Addr)} {n : Nat} {p : List Addr} {a : Addr} (h : a ∈ (gps.set n p).flatten) : a ∈ gps.flatten ∨ a ∈ p := by
  rcases own_set (own_flat.mp h) with z | ⟨j, q, _, hj, hq⟩
  · exact .inr z
  · exact .inl (own_flat.mpr ⟨j, q, hj, hq⟩)
theorem ps_setQ (O : CtxOk P cf Γ Wx k c X) {i : Nat} {apos : Pos} (he : ∀ b, PE X pe ((tA P cf xc Γ Wx) b e)) (ho : PE X pa ((tBox P cf xc Γ Wx) i path)) (hk : ∀ b, PE X pk ((tA P cf xc Γ Wx) b ek)) (hs : path = [] ∨ simpE ek = true) (hn : notComp pe = true) (hsl : notSlice pk = true) :
    PS X (.Assign [.Subscript pa pk apos] pe pos) ((tS P cf xc Γ Wx m) (.sset i path ek e)) := by
  refine (ps_asg (he false) (pg_sub ho (hk false) set_list (by intro v; cases pk <;> first | rfl | (cases hsl; done))) (by cases pe <;> first | rfl | (cases hn; done)) (by cases pe <;> rfl) rfl).imp fun D σ H ⟨A, en, fps, st, g⟩ => ?_
  rw [ex, got_bind] at g
  refine ⟨A, en, fps, st, g.imp (fun y en0 g vy H0 ps0 fps0 a0 => ?_) fun _ _ _ g => g.xw⟩
  rw [got_bind] at g
  refine ⟨_, en0, fps0, a0.sta, g.lenH.imp (fun ks en1 g => ?_) fun C ds en2 g cls dd H2 fps2 y => g cls dd σ H2 fps2 (AftX.pre a0 y) .refl⟩
  obtain ⟨gl, g⟩ := g
  split at g
  · rename_i hL
    obtain ⟨xs0, hx0⟩ := isL_ok hL
    refine ⟨xs0, hx0, fun vs1 H1 ps1 fps1 v0 l ws a1 e0 hat hl => ?_⟩
    rw [got_bind] at g
    have a01 := a0.cat (b := false) a1 (fun z => nomatch z) (fun z => nomatch z)
    refine ⟨_, en1, fps1, a1.sta, g.imp (fun kk en2 g vk H2 ps2 fps2 a2 => ?_) fun C ds en2 g cls dd H2 fps2 y => g cls dd σ H2 fps2 (AftX.pre a01 (by rw [← nn_app]; exact y)) .refl⟩
    have a2' : Aft Γ false (simpE ek) H1 (Nn A (ps0 ++ ps1)) fps1 σ [kk] [vk] H2 en2 ps2 fps2 := by rw [← nn_app]; exact a2
    have a02 := a01.cat (b := false) a2' (fun z => nomatch z) (fun z => nomatch z)
    obtain ⟨p, _, e2⟩ := a0.one
    have e2 := e2 rfl
    subst e2
    obtain ⟨pk2, rk, _⟩ := a2.one
    cases hu : upSlot en2 i (updAt (putD kk y) ks) with
    | none => rw [hu] at g; exact g.elim
    | some en3 =>
      rw [hu] at g
      obtain ⟨xs, xs', v1, l1, ws1, gps, f1, g1, g2, g3, g4, g5, g6, g7, put⟩ := a2.sta.write hu fun x x' h hr => by
        cases x <;> first | (simp [putD] at h; done) | skip
        · rename_i o xs
          cases o with
          | false => simp [putD] at h
          | true =>
            obtain ⟨j, n, _, _, e⟩ := putD_ok h
            exact ⟨_, _, rfl, e⟩
        · obtain ⟨w, q, r⟩ := hr
          exact r.elim
      obtain ⟨j, n, e5, hj, e6⟩ := putD_ok f1
      cases e5
      cases e6
      · skip
        rw [e0] at g1
        cases g1
        have hk : ks = [] ∨ ∀ a u, H1 a = some u → H2 a = some u := by
          rcases hs with h | h
          · subst h
            exact .inl (List.eq_nil_of_length_eq_zero gl)
          · exact .inr fun a u e => a2.fr.keep a u e (.inl h)
        have el := hat.same hk g2
        cases el
        
        obtain ⟨gq, eq, rq⟩ := a02.ro
        have eq := eq rfl
        subst eq
        have ry := rq.1
        rw [← nn_app, ← nn_app] at ry
        have hpA : ∀ a ∈ p, Nn (Nn (Nn A [p]) ps1) ps2 a := fun a ha => .inl (.inl (.inr (own_one.mpr ha)))
        have nA : ∀ a ∈ p, ¬ Own fps2 a := fun a ha z => a2.sta.ap a z (hpA a ha)
        have ndg := (List.nodup_cons.mp g5).2
        have dg : Dj gps := dj_of ndg
        have dp : Dj (gps.set n p) := dg.set (a0.dj.one 0 p rfl) fun a ha q qs _ hq hz => nA a ha (g7 a (own_flat.mpr ⟨q, qs, hq, hz⟩))
        obtain ⟨fps3, s3, f3⟩ := put (ws1.set n vy) (gps.set n p) A (g4.setV ry) dp.nodup (fun a ha => (set_own ha).imp id (hpA a)) (fun a ha => ⟨.inl (.inl (.inl (.inl ha))), fun z => by
              rcases set_own z with z | z
              · exact a2.sta.ap a (g7 a z) (.inl (.inl (.inl ha)))
              · exact a0.ap a (own_one.mpr z) ha⟩)
        refine ⟨l, ws1, j, n, rfl, rk.1, g3, by rw [g4.length.1, ← ixQ_eq]; exact hj, ?_⟩
        have fr0 : Fr false H H2 (Own fps) (Nn A fps) (Nn (Nn (Nn (Nn A [p]) ps1) ps2) fps2) := by
          have := a02.fr
          rw [← nn_app, ← nn_app] at this
          exact this.less (s' := false) fun z => nomatch z
        have ol : ∀ a, Own fps2 a → Own fps a ∨ H a = none := fun a h => by
          rcases fr0.new a (.inr h) with (z | z) | z
          · exact absurd (Or.inl (Or.inl (Or.inl z))) (a2.sta.ap a h)
          · exact .inl z
          · exact .inr z
        exact g σ _ fps3 ⟨s3, (fr0.trans f3 ol).less (s' := false) fun z => nomatch z⟩ .refl
  · exact g.elim
end
end Q
end
section
set_option Elab.async false
set_option linter.all false
set_option autoImplicit false
set_option maxRecDepth 100000
namespace Q
open PySem PySem.Spec PyProof.Rows L2
section
variable {P : Program} {w : World} {K : PySem.W.Frag} {mg : Str → Option Value} {base : Heap} {f : Addr} {fd : FuncData} {x qual : Str} {params : Arguments} {scope : Scope}
theorem iniH1 {H : Hp} {a C dx : Addr} {f : Str} {y : V} : iniH H a C dx [(f, y)] = upd (upd H dx (exd dx [(f, y)])) a (exo a C (some dx)) := rfl
theorem iniH2 {H : Hp} {a C dx : Addr} {f g : Str} {y z : V} : iniH H a C dx [(g, z), (f, y)] = upd (upd (upd H dx (exd dx [(f, y)])) a (exo a C (some dx))) dx (exd dx [(g, z), (f, y)]) := rfl
theorem ini1_ok {s1 w1 f1 : Str} {p1 p2 p3 p4 p5 : Pos} (F : FunD K x qual params [.Assign [.Attribute (.Name s1 p1) f1 p2] (.Name w1 p3) p4] scope [] [] f fd) (S : FnScope [s1, w1] [s1, w1] scope) (v1 : Vis scope s1) (v2 : Vis scope w1)
    (d1 : (s1 == ("__debug__" : Str)) = false) (d2 : (w1 == ("__debug__" : Str)) = false) (e1 : (s1 == ("__classdict__" : Str)) = false) (e2 : (w1 == ("__classdict__" : Str)) = false) :
    FnOk P w K mg base (L2.CX P w) 1 f fd [s1, w1] (spIni K [f1]) := by
  refine F.ok S (fun vs H Q E h => ?_) (fun cdv A outer s H vs Q E hr h => ?_)
  · obtain ⟨a, C, ws, rfl, hl, _⟩ := h
    simpa using hl
  · obtain ⟨a, C, ws, rfl, hl, T, hno, hH, hQ⟩ := h
    match ws, hl with
    | [y], _ =>
      refine ⟨_, pss_one (ps_ost (pe_var (i := 0) rfl v1 d1 e1) (pe_var (i := 1) rfl v2 d2 e2)), ?_⟩
      exact ⟨y, rfl, .ref a, rfl, a, C, rfl, T, hno f1 (by simp), .inl ⟨hH, fun dx h1 h2 => hQ dx h1 h2⟩⟩
theorem ini2_ok {s1 w1 w2 f1 f2 : Str} {p1 p2 p3 p4 p5 p6 p7 p8 : Pos} (F : FunD K x qual params [.Assign [.Attribute (.Name s1 p1) f1 p2] (.Name w1 p3) p4, .Assign [.Attribute (.Name s1 p5) f2 p6] (.Name w2 p7) p8] scope [] [] f fd) (S : FnScope [s1, w1, w2] [s1, w1, w2] scope)
    (v1 : Vis scope s1) (v2 : Vis scope w1) (v3 : Vis scope w2) (d1 : (s1 == ("__debug__" : Str)) = false) (d2 : (w1 == ("__debug__" : Str)) = false) (d3 : (w2 == ("__debug__" : Str)) = false)
    (e1 : (s1 == ("__classdict__" : Str)) = false) (e2 : (w1 == ("__classdict__" : Str)) = false) (e3 : (w2 == ("__classdict__" : Str)) = false) :
    FnOk P w K mg base (L2.CX P w) 1 f fd [s1, w1, w2] (spIni K [f1, f2]) := by
  refine F.ok S (fun vs H Q E h => ?_) (fun cdv A outer s H vs Q E hr h => ?_)
  · obtain ⟨a, C, ws, rfl, hl, _⟩ := h
    simpa using hl
  · obtain ⟨a, C, ws, rfl, hl, T, hno, hH, hQ⟩ := h
    match ws, hl with
    | [y, z], _ =>
      refine ⟨_, pss_cons (ps_ost (pe_var (i := 0) rfl v1 d1 e1) (pe_var (i := 1) rfl v2 d2 e2)) (pss_one (ps_ost (pe_var (i := 0) rfl v1 d1 e1) (pe_var (i := 2) rfl v3 d3 e3))), ?_⟩
      refine ⟨y, rfl, .ref a, rfl, a, C, rfl, T, hno f1 (by simp), .inl ⟨hH, fun dx h1 h2 => ?_⟩⟩
      refine ⟨z, rfl, .ref a, rfl, a, C, rfl, T, hno f2 (by simp), .inr ⟨dx, [(f1, y)], upd_same, ?_, by simp, hQ dx h1 h2⟩⟩
      rw [upd_ne h2, upd_same]
end
section
variable {P : Prog} {cf : CF} {xc : Option (Nat × List D)} {Γ : Ga} {Wx : WX} {m : Nat → Bool} {k : Nat} {c : Cc} {X : Cx} {pe pa pb : Expr} {pes : List Expr} {e : E} {es : List E} {s : S} {ss : List S} {pos : Pos} {st : Stmt} {sts : List Stmt}
theorem ini_end {H1 : Hp} {a C d : Addr} {ps : List (Str × V)} (hp : ps ≠ []) (ha : H1 a = none) (hd : H1 d = none) (hda : d ≠ a) : (iniH (upd H1 a (exo a C none)) a C d ps) a = some (exo a C (some d)) ∧ (iniH (upd H1 a (exo a C none)) a C d ps) d = some (exd d ps) ∧
    upd (del (iniH (upd H1 a (exo a C none)) a C d ps) a) d (.xd ps) = upd H1 d (.xd ps) := by
  have other : ∀ (ps : List (Str × V)) (b : Addr), b ≠ a → b ≠ d → (iniH (upd H1 a (exo a C none)) a C d ps) b = H1 b := by
    intro ps b h1 h2
    induction ps with
    | nil => exact upd_ne h1
    | cons p r ih =>
      obtain ⟨f, y⟩ := p
      cases r with
      | nil => rw [iniH1, upd_ne h1, upd_ne h2, upd_ne h1]
      | cons q r => exact (upd_ne h2).trans ih
  have atA : ∀ (ps : List (Str × V)), ps ≠ [] → (iniH (upd H1 a (exo a C none)) a C d ps) a = some (exo a C (some d)) := by
    intro ps hp
    induction ps with
    | nil => exact absurd rfl hp
    | cons p r ih =>
      obtain ⟨f, y⟩ := p
      cases r with
      | nil => rw [iniH1, upd_same]
      | cons q r => exact (upd_ne (Ne.symm hda)).trans (ih (by simp))
  refine ⟨atA ps hp, ?_, ?_⟩
  · cases ps with
    | nil => exact absurd rfl hp
    | cons p r =>
      obtain ⟨f, y⟩ := p
      cases r with
      | nil => rw [iniH1, upd_ne hda, upd_same]
      | cons q r => exact upd_same
  · funext b
    by_cases e1 : b = d
    · rw [e1, upd_same, upd_same]
    · rw [upd_ne e1, upd_ne e1]
      by_cases e2 : b = a
      · rw [e2, del_same, ha]
      · rw [del_ne e2, other ps b e2 e1]
theorem zip_look : ∀ {fs : List Str} {vs : List V}, fs.Nodup → ∀ (i : Nat) (f : Str) (v : V), fs[i]? = some f → vs[i]? = some v → (fs.zip vs).reverse.lookup f = some v := by
  intro fs
  have key : ∀ (l : List (Str × V)) (f : Str) (v : V), (l.map (·.1)).Nodup → (f, v) ∈ l → l.lookup f = some v := by
    intro l f v nd hm
    induction l with
    | nil => cases hm
    | cons p l ih =>
      obtain ⟨g, y⟩ := p
      rw [List.map_cons, List.nodup_cons] at nd
      rw [lookup_put]
      rcases List.mem_cons.mp hm with e | hm
      · cases e; rw [if_pos rfl]
      · have : f ≠ g := fun e => nd.1 (by rw [← e]; exact List.mem_map.mpr ⟨_, hm, rfl⟩)
        rw [if_neg this]
        exact ih nd.2 hm
  intro vs nd i f v hf hv
  refine key _ f v ?_ ?_
  · rw [List.map_reverse, (List.reverse_perm _).nodup_iff]
    have : (fs.zip vs).map (·.1) = fs.take vs.length := by
      clear hf hv nd i f v key
      induction fs generalizing vs with
      | nil => simp
      | cons g fs ih =>
        cases vs with
        | nil => simp
        | cons v vs => simp [ih]
    rw [this]
    exact nd.sublist (List.take_sublist _ _)
  · rw [List.mem_reverse]
    have : (fs.zip vs)[i]? = some (f, v) := by
      rw [List.getElem?_zip_eq_some]
      exact ⟨hf, hv⟩
    exact List.mem_of_getElem? this
theorem fzs_len : ∀ ds : List D, (fzs ds).length = ds.length
  | [] => rfl
  | d :: ds => by rw [fzs, List.length_cons, List.length_cons, fzs_len ds]
theorem ps_raiseQ (O : CtxOk P cf Γ Wx k c X) (hh : c.hot = false) {C : Nat} {y : Str} {p : Pos} {rpos : Pos} (hC : c.cls[C]? = some y) (hf : Γ.fN C ≠ []) (hl : es.length = (Γ.fN C).length) (hl2 : es.length ≤ 1000) (hy : ckG c y = true) (hs : ∀ x p, pa ≠ .Starred x p) (hpl : ∀ env, (backTo pos (starEach pes env)).any (·.1) = false)
    (ha : PA X (pa :: pes) ((tAs P cf xc Γ Wx) es)) : PS X (.Raise (some (.Call (.Name y p) (pa :: pes) [] pos)) none rpos) ((tS P cf xc Γ Wx m) (.raise C es)) := by
  obtain ⟨ox, nd, no, fI, fd, ps, i1, i2, i3, i4⟩ := (O.cool hh).rz C hf
  obtain ⟨hg, hd⟩ := O.g hy
  have hr : Room (1 + 1) X.A := (O.cool hh).room.mono (O.cool hh).k2
  refine (ps_raise (O.cool hh).calm (O.cool hh).tk (pmk_oex (dvs := []) (ds := []) ox i1 i2 i3 hr i4 .nil (passes_call (W := Wx) (O.cool hh).tk fun _ _ _ _ z => z.elim) hg (O.clm C y hC) ha hd (star_of hs) (hpl _))).imp fun D σ H ⟨A, en, fps, st, g⟩ => ?_
  rw [ex, got_bind] at g
  show tMkO _ _ _ _ σ H _
  refine ⟨A, en, fps, st, ?_⟩
  cases he : evs P cf xc es en with
  | st => rw [he] at g; exact g
  | ex C' ds en1 => rw [he] at g; exact XS.xw g
  | ok ds en1 =>
    rw [he] at g
    have g : XS Γ Wx m H A fps σ C (fzs ds) en1 := g
    intro vs H1 ps1 fps1 a1
    have l1 := evs_len he
    have a2 := a1.fz (b := false) rfl
    obtain ⟨gps, eg, r2⟩ := a2.ro
    have l2 := r2.length.1
    rw [fzs_len] at l2
    have hnil : ∀ p ∈ gps, p = [] := fun p hp => by
      rw [eg rfl] at hp
      simp at hp
      exact hp.2
    refine ⟨by omega, fun a hna => ⟨a, Γ.cA C, vs, by simp, by omega, ox, no, upd_same, fun dx h1 h2 => ?_⟩⟩
    have hd1 : H1 dx = none := by rw [upd_ne h2] at h1; exact h1
    have hne : ((Γ.fN C).zip vs).reverse ≠ [] := fun z => by
      have := congrArg List.length z
      rw [List.length_reverse, List.length_zip] at this
      have l0 : 0 < (Γ.fN C).length := List.length_pos_iff.mpr hf
      rw [List.length_nil] at this
      omega
    obtain ⟨z1, z2, z3⟩ := ini_end (C := Γ.cA C) hne hna hd1 h2
    refine ⟨rfl, dx, _, z1, z2, hd1, ?_⟩
    rw [z3]
    have a3 := Aft.grow (o := .xd ((Γ.fN C).zip vs).reverse) a2 hd1
    refine g (.ref (Γ.cA C)) (some dx) σ _ fps1 ⟨a3.st1, ?_, (a3.fr.less (s' := false) fun z => nomatch z).weakNew fun b z => z.elim (fun z => .inl (.inl z)) .inr⟩ .refl
    obtain ⟨gps3, eg3, r3⟩ := a3.ro
    refine ⟨hf, dx, _, vs, gps3, rfl, rfl, upd_same, r3.weak fun b z => z.elim (fun z => .inl (.inl z)) .inr, fun p hp => ?_, fun i f v h1 h2 => zip_look nd i f v h1 h2⟩
    rw [eg3 rfl] at hp
    simp at hp
    exact hp.2
end
end Q
end
section
set_option Elab.async false
set_option linter.all false
set_option autoImplicit false
set_option maxRecDepth 100000
namespace Q
open PySem PySem.Spec PyProof.Rows L2
section
variable {P : Prog} {cf : CF} {xc : Option (Nat × List D)} {Γ : Ga} {Wx : WX} {m : Nat → Bool} {k : Nat} {c : Cc} {X : Cx} {pe pa pb : Expr} {pes : List Expr} {e : E} {es : List E} {s : S} {ss : List S} {pos : Pos} {st : Stmt} {sts : List Stmt} {b : Bool}
def XcE (xc : Option (Nat × List D)) (Γ : Ga) : Prop := xc = Γ.xc.map fun x => (x.C, x.ds)
theorem RO.own_nil {H : Hp} {N : Addr → Prop} {d : D} {v : V} (r : RO Γ H N d v []) : own d = false := by
  cases d with
  | lst o ds =>
    cases o with
    | false => rfl
    | true =>
      obtain ⟨a, vs, fps, _, _, _, e⟩ := r
      cases e
  | dct _ _ _ => exact r.elim
  | st _ _ => exact r.elim
  | ins _ _ _ => exact r.elim
  | _ => rfl
theorem fieldOf_at {f : Nat} : ∀ {ns : List Nat} {ds : List D} {d : D}, fieldOf f ns ds = some d → ∃ j : Nat, ns[j]? = some f ∧ ds[j]? = some d
  | [], _, _, h => by simp [fieldOf] at h
  | _ :: _, [], _, h => by simp [fieldOf] at h
  | n :: ns, x :: ds, d, h => by
    rw [fieldOf] at h
    split at h
    · rename_i e
      cases h
      exact ⟨0, by simp [e], rfl⟩
    · obtain ⟨j, h1, h2⟩ := fieldOf_at h
      exact ⟨j + 1, by simpa using h1, by simpa using h2⟩
theorem xcE_some {x : Nat × List D} (h : XcE xc Γ) (e : xc = some x) : ∃ y, Γ.xc = some y ∧ x = (y.C, y.ds) := by
  unfold XcE at h
  rw [e] at h
  cases hy : Γ.xc with
  | none => rw [hy] at h; cases h
  | some y => rw [hy] at h; cases h; exact ⟨y, rfl, rfl⟩
theorem pe_xattrQ (O : CtxOk P cf Γ Wx k c X) (hx : XcE xc Γ) {i f : Nat} {x n : Str} {p : Pos} (hv : ckV c i x = true) (hi : c.xi = some i) (hn : n = c.fld.getD f default) :
    PE X (.Attribute (.Name x p) n pos) ((tA P cf xc Γ Wx) b (.xattr f)) := by
  cases hy : xc with
  | none =>
    refine ⟨fun pins s σ H Q I h => ?_⟩
    obtain ⟨A, en, fps, st, g⟩ := h
    rw [ev] at g
    exact g.elim
  | some z =>
    obtain ⟨y, e1, e2⟩ := xcE_some hx hy
    subst e2
    have hv := O.v (p := p) hv
    obtain ⟨X0, oe, pn, rfl, hz, hf⟩ := O.sx y e1
    have hxi := O.xi y e1
    refine ⟨fun pins s σ H Q I h => ?_⟩
    obtain ⟨A, en, fps, st, g⟩ := h
    rw [ev] at g
    have g : Got (op (fieldOf f (P.fnm y.C) y.ds) en) _ _ := g
    obtain ⟨d, hd, g⟩ := got_op g
    obtain ⟨j, j1, j2⟩ := fieldOf_at hd
    obtain ⟨o1, hne, dd, fs, vs, qs, q1, q2, q3, q4, q5, q6⟩ := st.xo y e1
    have C1 := O.cls y.C hne
    obtain ⟨v, w, hv1, hw1, r⟩ := q4.get j2
    have hw0 := q5 w (List.mem_of_getElem? hw1)
    subst hw0
    have hfn : (Γ.fN y.C)[j]? = some n := by rw [O.fld y.C hne, List.getElem?_map, j1, hn]; rfl
    have hno := C1.no n (List.mem_of_getElem? hfn)
    have xf : XfC (X0.suite y.a ((y.a, oe) :: pn)).K (Γ.cA y.C) := C1.xf
    refine (pe_xf (X := X0) (cls := y.cls) (d := y.dd) xf hno hz hf hv).run pins s σ H Q I ?_
    exact ⟨.ref y.a, o1 i (by rw [hxi, hi]), rfl, q1, dd, fs, v, q2, q3, q6 j n v hfn hv1, g v H _ _ (Aft.part (Aft.nil (b := false) st) (r.weak fun a z => by rw [nn_nil] at z; exact z) fun z => by
      rw [r.own_nil] at z; cases z)⟩
theorem call_isD {a D : Addr} {oe : Obj} {pn : List (Addr × Obj)} {dd : Addr} {fs : List (Str × V)} {pins : List (Addr × Obj)} {s : Shared} {σ : L2.St} {H : Hp} {cv : Value} {k : Bool} {Q : VK} (C : ExcC X.K D) (hz : Zc (.ref D) (some dd) oe) (hf : ∃ vs, oe.data = .fields vs) (I : Inv (X.suite a ((a, oe) :: pn)) pins σ H s)
    (hd : H dd = some (.xd fs)) (e : PySem.W.kitOne X.K (.ref D) cv = some k) (q : Q (.bl k) H) : wpAny (model X.prog X.w) (X.suite a ((a, oe) :: pn)).A (call (.builtin "isinstance") [.ref a, cv]) (EP (X.suite a ((a, oe) :: pn)) pins σ Q) (X.suite a ((a, oe) :: pn)).xe s := by
  obtain ⟨hget, _⟩ := I.pin (a, oe) (List.mem_append.mpr (.inl List.mem_cons_self))
  obtain ⟨vs, hv⟩ := hf
  obtain ⟨od, ho⟩ := objOk_get (I.hok dd _ hd)
  have J : PySem.W.InstAt s.heap a oe D (some od) := by
    obtain ⟨oc, od', oda, osl⟩ := oe
    obtain ⟨h1, h2⟩ := hz
    dsimp only at h1 h2 hv
    subst h1 h2 hv
    exact ⟨hget, rfl, rfl, ho⟩
  have hcl : (PySem.W.clsIn X.K D).isSome = true := by
    have h := C.hd
    unfold PySem.W.hasDictIn at h
    cases q : PySem.W.clsIn X.K D with
    | none => rw [q] at h; cases h
    | some _ => rfl
  exact PySem.W.kia_one (PySem.W.kitx_exc hcl C.hg C.hk C.hs C.ha C.hn C.ht C.hm) I.kIn J e (fun z => nomatch z) fun tk => ⟨.bl k, H, I.kept (t' := tk) fun _ _ z => z, rfl, q⟩
theorem pe_xisiQ (O : CtxOk P cf Γ Wx k c X) (hx : XcE xc Γ) {i t : Nat} {x y : Str} {p p1 p2 : Pos} (hb : ckB c "isinstance" = true) (hv : ckV c i x = true) (hi : c.xi = some i) (ht : (∃ h : t < c.cls.length, c.cls[t]? = some y ∧ ckG c y = true) ∨ (t = 1000 ∧ y = "ValueError" ∧ ckB c "ValueError" = true)) :
    PE X (.Call (.Name "isinstance" p) [.Name x p1, .Name y p2] [] pos) ((tA P cf xc Γ Wx) b (.xisi [t])) := by
  cases hy : xc with
  | none =>
    refine ⟨fun pins s σ H Q I h => ?_⟩
    obtain ⟨A, en, fps, st, g⟩ := h
    rw [ev] at g
    exact g.elim
  | some z =>
    obtain ⟨y0, e1, e2⟩ := xcE_some hx hy
    subst e2
    have hv := O.v (p := p1) hv
    have hty : ∃ cv, PE X (.Name y p2) (tC cv) ∧ ∃ u, (∀ w, RelV cv w → w = u) ∧ ((Γ.fN y0.C ≠ []) → PySem.W.kitOne X.K (.ref (Γ.cA y0.C)) u = some ((P.sup y0.C).contains t)) := by
      rcases ht with ⟨hl, h1, h2⟩ | ⟨h1, h2, h3⟩
      · obtain ⟨g1, g2⟩ := O.g h2
        refine ⟨.ref (Γ.cA t), pe_glob g1 (O.clm t y h1) rfl g2, .ref (Γ.cA t), fun w r => r, fun hne => ?_⟩
        exact (O.cls y0.C hne).sub t hl
      · subst h1 h2
        obtain ⟨g1, g2, g3, g4⟩ := O.bi h3
        refine ⟨.ty "ValueError", pe_bltn g1 g2 PyProof.Rows.Boot.«ValueError» rfl g3 g4, .type "ValueError", fun w r => r, fun hne => ?_⟩
        exact (O.cls y0.C hne).ve
    obtain ⟨cv, hp, u, hu, hk⟩ := hty
    obtain ⟨bg, bm, _, _⟩ := O.bi hb
    have hcls := O.cls
    have hK := O.K
    have hxi := O.xi y0 e1
    obtain ⟨X0, oe, pn, rfl, hz, hf⟩ := O.sx y0 e1
    refine ⟨fun pins s σ H Q I h => ?_⟩
    obtain ⟨A, en, fps, st, g⟩ := h
    rw [ev] at g
    have g : ∀ v H' ps fps', Aft Γ b (simpE (.xisi [t])) H A fps σ [.bl ((P.sup y0.C).contains t)] [v] H' en ps fps' → Q v H' := by
      have : ([t].any fun C' => (P.sup y0.C).contains C') = (P.sup y0.C).contains t := by simp
      have g : Got (Res.ok (D.bl ([t].any fun C' => (P.sup y0.C).contains C')) en) _ _ := g
      rw [this] at g
      exact g
    obtain ⟨o1, hne, dd, fs, vs, qs, q1, q2, q3, q4, q5, q6⟩ := st.xo y0 e1
    have kk := hk hne
    have C1 := (hcls y0.C hne).ec
    rw [q1, q2] at hz
    have call : CallR (X0.suite y0.a ((y0.a, oe) :: pn)) (.builtin "isinstance") (fun xs H1 Q1 => xs = [.ref y0.a, cv] ∧ (∃ fs, H1 dd = some (.xd fs)) ∧ Q1 (.bl ((P.sup y0.C).contains t)) H1) := by
      intro pins s σ H xs us Q I r ⟨e1, ⟨fs1, h1⟩, h2⟩
      subst e1
      cases r with
      | cons rx rr =>
        cases rr with
        | cons rt rr =>
          cases rr
          cases rx
          have ec := hu _ rt
          subst ec
          exact call_isD (X := X0) C1 hz hf I h1 kk h2
    refine (pe_callB call bg bm (by decide +kernel) (pa_cons hv (pa_cons hp pa_nil))).run pins s σ H Q I ?_
    refine ⟨.ref y0.a, o1 i (by rw [hxi, hi]), rfl, ⟨fs, q3⟩, ?_⟩
    exact g _ H _ _ (Aft.part (Aft.nil (b := false) st) (d := .bl _) (v := .bl _) (fp := []) ⟨rfl, rfl⟩ fun z => nomatch z)
end
end Q
end
section
set_option Elab.async false
set_option linter.all false
set_option autoImplicit false
set_option maxRecDepth 100000
namespace Q
open PySem PySem.Spec PyProof.Rows L2
abbrev WF : WX := fun _ _ _ _ => False
section
variable {Γ Γ' : Ga} {H H' : Hp} {N : Addr → Prop}
mutual
theorem RO_K (h : Γ'.K = Γ.K) : ∀ {d : D} {v : V} {fp : List Addr}, RO Γ H N d v fp → RO Γ' H N d v fp
  | .non, _, _, r => r
  | .bl _, _, _, r => r
  | .int _, _, _, r => r
  | .str _, _, _, r => r
  | .tup ds, _, _, ⟨a, vs, fps, e, ht, hs, hf, ef⟩ => ⟨a, vs, fps, e, by rw [h]; exact ht, ROs_K h hs, hf, ef⟩
  | .lst false ds, _, _, ⟨a, vs, fps, e, ht, hs, hf, ef⟩ => ⟨a, vs, fps, e, ht, ROs_K h hs, hf, ef⟩
  | .scr ds, _, _, ⟨a, vs, fps, e, ht, hs, hf, ef⟩ => ⟨a, vs, fps, e, by rw [h]; exact ht, ROs_K h hs, hf, ef⟩
  | .lst true ds, _, _, ⟨a, vs, fps, e, ht, hs, ef⟩ => ⟨a, vs, fps, e, ht, ROs_K h hs, ef⟩
  | .dct _ _ _, _, _, z => z.elim
  | .st _ _, _, _, z => z.elim
  | .ins _ _ _, _, _, z => z.elim
theorem ROs_K (h : Γ'.K = Γ.K) : ∀ {ds : List D} {vs : List V} {fps : List (List Addr)}, ROs Γ H N ds vs fps → ROs Γ' H N ds vs fps
  | [], [], [], _ => True.intro
  | d :: ds, v :: vs, fp :: fps, ⟨h1, h2⟩ => ⟨RO_K h h1, ROs_K h h2⟩
  | [], [], _ :: _, z => z.elim
  | [], _ :: _, _, z => z.elim
  | _ :: _, [], _, z => z.elim
  | _ :: _, _ :: _, [], z => z.elim
end
theorem RSs_K (h : Γ'.K = Γ.K) : ∀ {en : Env} {σ : L2.St} {fps : List (List Addr)}, RSs Γ H N en σ fps → RSs Γ' H N en σ fps
  | [], [], [], _ => True.intro
  | none :: en, w :: σ, fp :: fps, ⟨h1, h2⟩ => ⟨h1, RSs_K h h2⟩
  | some d :: en, w :: σ, fp :: fps, ⟨⟨v, e, r⟩, h2⟩ => ⟨⟨v, e, RO_K h r⟩, RSs_K h h2⟩
  | [], [], _ :: _, z => z.elim
  | [], _ :: _, _, z => z.elim
  | _ :: _, [], _, z => z.elim
  | _ :: _, _ :: _, [], z => z.elim
def gx (Γ : Ga) (C : Nat) (ds : List D) (i : Option Nat) (a : Addr) (cls : Value) (dd : Option Addr) : Ga := { Γ with xc := some ⟨C, ds, i, a, cls, dd⟩ }
def sclr (i : Option Nat) (w : Option V) (σ : L2.St) : L2.St := match i with
  | some i => σ.set i w
  | none => σ
def fclr (i : Option Nat) (fps : List (List Addr)) : List (List Addr) := match i with
  | some i => fps.set i []
  | none => fps
variable {A : Addr → Prop} {en en' : Env} {σ σ' : L2.St} {fps fps' : List (List Addr)} {i : Option Nat}
theorem fclr_own {a : Addr} (h : Own (fclr i fps) a) : Own fps a := by
  cases i with
  | none => exact h
  | some i =>
    rcases own_set h with z | ⟨j, q, _, hj, hq⟩
    · cases z
    · exact ⟨j, q, hj, hq⟩
theorem fclr_nn {a : Addr} (h : Nn A (fclr i fps) a) : Nn A fps a := h.imp id fclr_own
theorem clr_rs {w : Option V} (r : RSs Γ H N en σ fps) : RSs Γ H N (clr i en) (sclr i w σ) (fclr i fps) := by
  cases i with
  | none => exact r
  | some i =>
    have l := RSs.length r
    by_cases hi : i < en.length
    · exact RSs.set (o := none) (w := w) (fp := []) r hi rfl
    · show RSs Γ H N (en.set i none) (σ.set i w) (fps.set i [])
      rw [List.set_eq_of_length_le (by omega), List.set_eq_of_length_le (by omega), List.set_eq_of_length_le (by omega)]
      exact r
theorem clr_dj (d : Dj fps) : Dj (fclr i fps) := by
  cases i with
  | none => exact d
  | some i => exact d.set List.nodup_nil fun a h => nomatch h
theorem Sta.clrTo {w : Option V} (s : Sta Γ H A en σ fps) (hK : Γ'.K = Γ.K) (xo : XO Γ' H (fun a => A a ∨ Own (fclr i fps) a) (sclr i w σ)) : Sta Γ' H A (clr i en) (sclr i w σ) (fclr i fps) :=
  ⟨RSs_K hK ((clr_rs s.rs).weak fun a z => z.imp id fclr_own), clr_dj s.dj, fun a h => s.ap a (fclr_own h), s.dom, xo⟩
theorem Sta.suite {C : Nat} {ds : List D} {a : Addr} {cls : Value} {dd : Option Addr} (s : Sta Γ H A en σ fps) (hi : ∀ j, i = some j → j < σ.length) (x : XRep Γ H (Nn A fps) C ds cls dd) :
    Sta (gx Γ C ds i a cls dd) H A (clr i en) (sclr i (some (.ref a)) σ) (fclr i fps) := by
  refine s.clrTo (Γ' := gx Γ C ds i a cls dd) rfl fun y hy => ?_
  cases hy
  refine ⟨fun j hj => ?_, ?_⟩
  · have e : i = some j := hj
    subst e
    show (σ.set j _)[j]? = _
    rw [List.getElem?_set_self (hi j rfl)]
  · obtain ⟨h1, d, fs, vs, qs, q1, q2, q3, q4, q5, q6⟩ := x
    exact ⟨h1, d, fs, vs, qs, q1, q2, q3, ROs_K (Γ := Γ) (Γ' := gx Γ C ds i a cls dd) rfl (q4.weak (N' := fun b => A b ∨ Own (fclr i fps) b) fun b z => z.imp id fclr_own), q5, q6⟩
theorem stay_clr {m : Nat → Bool} (y : Stay m σ σ') (hm : ∀ j, i = some j → m j = true) {w : Option V} : Stay m σ (sclr i w σ') := by
  cases i with
  | none => exact y
  | some i => exact y.trans (stay_set (hm i rfl))
end
section
variable {P : Prog} {cf : CF} {xc : Option (Nat × List D)} {Γ : Ga} {Wx : WX} {m : Nat → Bool} {k : Nat} {c : Cc} {X : Cx} {bd hd : List S} {i : Option Nat} {body suite : List Stmt} {b₀ : Stmt} {pos : Pos}
theorem suite_ks {H H' : Hp} {A : Addr → Prop} {fps fps' : List (List Addr)} {σ σ' : L2.St} {en1 en2 : Env} {C : Nat} {ds : List D} {a : Addr} {cls : Value} {dd : Option Addr} {D D' : Ends} {f : Fl} (hcold : Γ.xc = none)
    (hm : ∀ j, i = some j → m j = true) (y : AftX Γ H A fps σ' C ds cls dd H' en1 fps') (ys : Stay m σ σ') (g : KS Γ m H A fps σ D f (clr i en2))
    (hnx : ∀ σ H, D'.nx σ H = D.nx (sclr i none σ) H) (hbk : ∀ σ H, D'.bk σ H = D.bk (sclr i none σ) H) (hct : ∀ σ H, D'.ct σ H = D.ct (sclr i none σ) H) (hrt : D'.rt = D.rt) :
    KS (gx Γ C ds i a cls dd) m H' A (fclr i fps') (sclr i (some (.ref a)) σ') D' f en2 := by
  have f0 : Fr false H H' (Own fps) (Nn A fps) (Nn A (fclr i fps')) := y.fr.weakNew fun b z => fclr_nn z
  have hm' : ∀ b, Own (fclr i fps') b → Own fps b ∨ H b = none := fun b z => by
    rcases y.fr.new b (.inr (fclr_own z)) with (w | w) | w
    · exact absurd w (y.sta.ap b (fclr_own z))
    · exact .inl w
    · exact .inr w
  have st0 : ∀ {σ3 : L2.St}, Stay m (sclr i (some (.ref a)) σ') σ3 → Stay m σ (sclr i none σ3) := fun z => stay_clr ((stay_clr ys hm).trans z) hm
  have back : ∀ {σ3 : L2.St} {H3 : Hp} {B : Addr → Prop} {fps3 : List (List Addr)}, Sta (gx Γ C ds i a cls dd) H3 B en2 σ3 fps3 → Sta Γ H3 B (clr i en2) (sclr i none σ3) (fclr i fps3) := fun s => s.clrTo rfl (XO.cold hcold)
  have aN : ∀ {σ3 : L2.St} {H3 : Hp} {fps3 : List (List Addr)}, AftN (gx Γ C ds i a cls dd) H' A (fclr i fps') σ3 H3 en2 fps3 → AftN Γ H A fps (sclr i none σ3) H3 (clr i en2) (fclr i fps3) := fun z =>
    ⟨back z.sta, ((f0.trans z.fr hm').less (s' := false) fun q => nomatch q).weakNew fun b w => fclr_nn w⟩
  cases f with
  | nx => exact fun σ3 H3 fps3 z zs => by rw [hnx]; exact g _ _ _ (aN z) (st0 zs)
  | bk => exact fun σ3 H3 fps3 z zs => by rw [hbk]; exact g _ _ _ (aN z) (st0 zs)
  | ct => exact fun σ3 H3 fps3 z zs => by rw [hct]; exact g _ _ _ (aN z) (st0 zs)
  | rt d =>
    intro v σ3 H3 ps fps3 z zs
    rw [hrt]
    obtain ⟨gps, eg, r⟩ := z.ro
    have w : ∀ b, Nn (Nn A ps) (fclr i fps3) b → Nn (Nn A ps) fps3 b := fun b q => fclr_nn q
    exact g v _ H3 ps _ ⟨back z.sta, ⟨gps, eg, ROs_K (Γ := gx Γ C ds i a cls dd) (Γ' := Γ) rfl (r.weak w)⟩, z.dj, z.ap, ((f0.trans z.fr hm').less (s' := false) fun q => nomatch q).weakNew w⟩ (st0 zs)
theorem any_one {l : List Nat} {C : Nat} : (l.any fun x => [C].contains x) = l.contains C := by
  induction l with
  | nil => rfl
  | cons a l ih =>
    rw [List.any_cons, ih, List.contains_cons]
    congr 1
    by_cases h : a = C
    · subst h; simp
    · have h1 : (a == C) = false := by simpa using h
      have h2 : (C == a) = false := by simpa using fun e => h e.symm
      simp [h1, h2]
theorem try_wish {H : Hp} {A : Addr → Prop} {fps : List (List Addr)} {σ : L2.St} {en1 : Env} {C C0 : Nat} {ds : List D} {D : Ends} (O : CtxOk P cf Γ Wx k c X) (hh : c.hot = false) (hC : C0 < c.cls.length) (hm : ∀ j, i = some j → m j = true) (hi : ∀ j, i = some j → j < σ.length)
    (g : Got (if (P.sup C).contains C0 then (match exs P cf (some (C, ds)) hd (clr i en1) with | .ok f en2 => Res.ok f (clr i en2) | _ => .st) else .ex C ds en1) (KS Γ m H A fps σ D) (XS Γ Wx m H A fps σ))
    {cls : Value} {dd : Option Addr} {σ' : L2.St} {H' : Hp} {fps' : List (List Addr)} (y : AftX Γ H A fps σ' C ds cls dd H' en1 fps') (ys : Stay m σ σ') :
    ∃ b, PySem.W.exmOne X.K cls (.ref (Γ.cA C0)) = some b ∧ (b = true → ∀ (a : Addr) (D' : Ends), (∀ σ H, D'.nx σ H = D.nx (sclr i none σ) H) → (∀ σ H, D'.bk σ H = D.bk (sclr i none σ) H) → (∀ σ H, D'.ct σ H = D.ct (sclr i none σ) H) → D'.rt = D.rt →
      tSs P cf (some (C, ds)) (gx Γ C ds i a cls dd) WF m hd D' (sclr i (some (.ref a)) σ') H') ∧ (b = false → Wx cls dd σ' H') := by
  have xr := y.xr
  obtain ⟨hne, d, fs, vs, qs, q1, q2, q3, q4, q5, q6⟩ := xr
  refine ⟨(P.sup C).contains C0, ?_, fun hb a D' h1 h2 h3 h4 => ?_, fun hb => ?_⟩
  · rw [q1]
    exact (O.cls C hne).exm C0 hC
  · rw [if_pos hb] at g
    refine ⟨A, clr i en1, fclr i fps', y.sta.suite (fun j hj => by rw [ys.1]; exact hi j hj) y.xr, ?_⟩
    cases hr : exs P cf (some (C, ds)) hd (clr i en1) with
    | st => rw [hr] at g; exact g
    | ex _ _ _ => rw [hr] at g; exact g.elim
    | ok f en2 =>
      rw [hr] at g
      exact suite_ks (O.cool hh).xcn hm y ys g h1 h2 h3 h4
  · rw [hb, if_neg (by decide)] at g
    exact g cls dd σ' H' fps' y ys
theorem CtxOk.tr (O : CtxOk P cf Γ Wx k c X) (hh : c.hot = false) {W : WX} {pn : List (Addr × Obj)} {xe : Value → Shared → Prop} (tk : L2.Takes (X.tr pn xe) W) (po : PassesOwn (model X.prog X.w) X.A X.env xe) : CtxOk P cf Γ W k c (X.tr pn xe) :=
  ⟨O.N, O.nd, O.sc, O.K, O.un, O.free, O.gls, O.fn, O.xi, fun _ => ⟨(O.cool hh).calm, (O.cool hh).room, (O.cool hh).xcn, (O.cool hh).fns, tk, po, (O.cool hh).k2, fun C h => ⟨((O.cool hh).rz C h).ox, ((O.cool hh).rz C h).nd, ((O.cool hh).rz C h).no, ((O.cool hh).rz C h).ini⟩⟩,
    O.clm, O.cls, (fun x h => by rw [(O.cool hh).xcn] at h; cases h), O.fld, O.nf, O.top, ⟨O.hotf.room, O.hotf.fns⟩, (fun h => Bool.noConfusion (hh.symm.trans h))⟩
theorem CtxOk.su (O : CtxOk P cf Γ Wx k c X) {C : Nat} {ds : List D} {a : Addr} {oe : Obj} {cls : Value} {d : Option Addr} {pn : List (Addr × Obj)} (hz : Zc cls d oe) (hf : ∃ vs, oe.data = .fields vs) : CtxOk P cf (gx Γ C ds i a cls d) WF k (suCc c i) (X.suite a ((a, oe) :: pn)) :=
  ⟨O.N, O.nd, O.sc, O.K, O.un, O.free, fun j x h => by
    obtain ⟨d, v, u, h1, h2, h3, h4, h5⟩ := O.gls j x h
    exact ⟨d, v, u, h1, h2, h3, h4, fun H N => RO_K (Γ := Γ) (Γ' := gx Γ C ds i a cls _) rfl (h5 H N)⟩, O.fn, (fun x h => by cases h; rfl), (fun h => Bool.noConfusion (show true = false from h)), O.clm, fun C h => ⟨(O.cls C h).ec, (O.cls C h).xf, (O.cls C h).no, (O.cls C h).sub, (O.cls C h).ve, (O.cls C h).exm⟩,
    (fun x h => by cases h; exact ⟨X, oe, pn, rfl, hz, hf⟩), O.fld, O.nf, O.top, ⟨⟨O.hotf.room.dp, O.hotf.room.un⟩, O.hotf.fns⟩, (fun _ => ⟨(a, oe), List.mem_cons_self⟩)⟩
theorem ps_tryQ (O : CtxOk P cf Γ Wx k c X) (hh : c.hot = false) (ht : c.top = true) {C0 j : Nat} {x n : Str} {np pos' : Pos} (hC : c.cls[C0]? = some x) (hx : ckG c x = true) (hj : c.N[j]? = some n) (hl : c.sc.names.lookup n = some .local) (hm : m j = true)
    (hb : ∀ (W : WX) (X' : Cx), CtxOk P cf Γ W k c X' → PSs X' body (tSs P cf none Γ W m bd))
    (hs : ∀ (Γ' : Ga) (X' : Cx) (xc' : Option (Nat × List D)), XcE xc' Γ' → CtxOk P cf Γ' WF k (suCc c (some j)) X' → PSs X' (b₀ :: suite) (tSs P cf xc' Γ' WF m hd)) :
    PS X (.Try body [.ExceptHandler (some (.Name x np)) (some n) (b₀ :: suite) pos'] [] [] pos) (tS P cf xc Γ Wx m (.try bd [C0] (some j) hd)) := by
  obtain ⟨o1, o2⟩ := O.top ht
  obtain ⟨g1, g2⟩ := O.g hx
  have hlt : C0 < c.cls.length := (List.getElem?_eq_some_iff.mp hC).1
  have T := (ps_try_as (i := j) (np := np) (pos := pos) (pos' := pos') (c := .ref (Γ.cA C0)) (tb := fun W => tSs P cf none Γ W m bd) (ts := fun a cls d D σ H => ∃ C ds, tSs P cf (some (C, ds)) (gx Γ C ds (some j) a cls d) WF m hd D σ H) o1 o2 O.nd (by rw [O.N]; exact hj) (by show X.env.scope.names.lookup n = _; rw [O.sc]; exact hl) ⟨g1, g2, .inl (O.clm C0 x hC)⟩ (O.cool hh).tk
    (fun W pn xe tk po => hb W _ (O.tr hh tk po)) (fun a oe cls d pn hz hf => ⟨fun pins s σ H D I ⟨C, ds, h⟩ => (hs (gx Γ C ds (some j) a cls d) _ (some (C, ds)) rfl (O.su hz hf)).run pins s σ H D I h⟩))
  refine ⟨fun pins s0 σ H D I ⟨A, en, fps, st, g⟩ => T.run pins s0 σ H D I ?_⟩
  have hlen := I.len
  rw [ex] at g
  refine ⟨A, en, fps, st, ?_⟩
  cases hr : exs P cf none bd en with
  | st => rw [hr] at g; exact g
  | ok f en1 => rw [hr] at g; exact g
  | ex C ds en1 =>
    rw [hr] at g
    have g : Got (if (P.sup C).any [C0].contains then (match exs P cf (some (C, ds)) hd (clr (some j) en1) with | .ok f en2 => Res.ok f (clr (some j) en2) | _ => .st) else .ex C ds en1) (KS Γ m H A fps σ D) (XS Γ Wx m H A fps σ) := g
    rw [any_one] at g
    intro cls dd σ' H' fps' y ys
    obtain ⟨b, b1, b2, b3⟩ := try_wish O hh hlt (i := some j) (fun j' e => by cases e; exact hm) (fun j' e => by
      cases e
      have := (List.getElem?_eq_some_iff.mp hj).1
      rw [hlen, O.N]; exact this) g y ys
    exact ⟨b, b1, fun hb a _ => ⟨C, ds, b2 hb a _ (fun _ _ => rfl) (fun _ _ => rfl) (fun _ _ => rfl) rfl⟩, b3⟩
theorem ps_tryN (O : CtxOk P cf Γ Wx k c X) (hh : c.hot = false) (ht : c.top = true) {C0 : Nat} {x : Str} {np pos' : Pos} (hC : c.cls[C0]? = some x) (hx : ckG c x = true)
    (hb : ∀ (W : WX) (X' : Cx), CtxOk P cf Γ W k c X' → PSs X' body (tSs P cf none Γ W m bd))
    (hs : ∀ (Γ' : Ga) (X' : Cx) (xc' : Option (Nat × List D)), XcE xc' Γ' → CtxOk P cf Γ' WF k (suCc c none) X' → PSs X' (b₀ :: suite) (tSs P cf xc' Γ' WF m hd)) :
    PS X (.Try body [.ExceptHandler (some (.Name x np)) none (b₀ :: suite) pos'] [] [] pos) (tS P cf xc Γ Wx m (.try bd [C0] none hd)) := by
  obtain ⟨o1, o2⟩ := O.top ht
  obtain ⟨g1, g2⟩ := O.g hx
  have hlt : C0 < c.cls.length := (List.getElem?_eq_some_iff.mp hC).1
  refine (ps_try_only (c := .ref (Γ.cA C0)) (tb := fun W => tSs P cf none Γ W m bd) (ts := fun a cls d D σ H => ∃ C ds, tSs P cf (some (C, ds)) (gx Γ C ds none a cls d) WF m hd D σ H) o1 o2 ⟨g1, g2, .inl (O.clm C0 x hC)⟩ (O.cool hh).tk
    (fun W pn xe tk po => hb W _ (O.tr hh tk po)) (fun a oe cls d pn hz hf => ⟨fun pins s σ H D I ⟨C, ds, h⟩ => (hs (gx Γ C ds none a cls d) _ (some (C, ds)) rfl (O.su hz hf)).run pins s σ H D I h⟩)).imp fun D σ H ⟨A, en, fps, st, g⟩ => ?_
  rw [ex] at g
  refine ⟨A, en, fps, st, ?_⟩
  cases hr : exs P cf none bd en with
  | st => rw [hr] at g; exact g
  | ok f en1 => rw [hr] at g; exact g
  | ex C ds en1 =>
    rw [hr] at g
    have g : Got (if (P.sup C).any [C0].contains then (match exs P cf (some (C, ds)) hd (clr none en1) with | .ok f en2 => Res.ok f (clr none en2) | _ => .st) else .ex C ds en1) (KS Γ m H A fps σ D) (XS Γ Wx m H A fps σ) := g
    rw [any_one] at g
    intro cls dd σ' H' fps' y ys
    obtain ⟨b, b1, b2, b3⟩ := try_wish O hh hlt (i := none) (fun j' e => by cases e) (fun j' e => by cases e) g y ys
    exact ⟨b, b1, fun hb a _ => ⟨C, ds, b2 hb a D (fun _ _ => rfl) (fun _ _ => rfl) (fun _ _ => rfl) rfl⟩, b3⟩
end
end Q
end
section
set_option Elab.async false
set_option linter.all false
set_option autoImplicit false
set_option maxRecDepth 100000
namespace Q
open PySem PySem.Spec PyProof.Rows L2
theorem perm_ok {α β : Type} {R : α → β → Prop} {xs : List α} {ys : List β} (hl : ys.length = xs.length) (hR : ∀ (i : Nat) (x : α) (y : β), xs[i]? = some x → ys[i]? = some y → R x y) : ∀ {js : List Nat} {as : List α}, allSome (permL js xs) = some as →
    ∃ bs : List β, allSome (permL js ys) = some bs ∧ bs.length = as.length ∧ ∀ (i : Nat) (x : α) (y : β), as[i]? = some x → bs[i]? = some y → R x y
  | [], as, h => by cases h; exact ⟨[], rfl, rfl, fun i x y h => by simp at h⟩
  | j :: js, as, h => by
    have h : allSome (xs[j]? :: permL js xs) = some as := h
    cases hx : xs[j]? with
    | none => rw [hx] at h; cases h
    | some x =>
      rw [hx] at h
      have h : (allSome (permL js xs)).map (x :: ·) = some as := h
      cases hr : allSome (permL js xs) with
      | none => rw [hr] at h; cases h
      | some as' =>
        rw [hr] at h
        cases h
        obtain ⟨bs, h1, h2, h3⟩ := perm_ok hl hR hr
        obtain ⟨y, hy⟩ : ∃ y, ys[j]? = some y := by
          have := (List.getElem?_eq_some_iff.mp hx).1
          exact ⟨_, List.getElem?_eq_getElem (by omega)⟩
        refine ⟨y :: bs, ?_, by simp [h2], fun i a b e1 e2 => ?_⟩
        · show allSome (ys[j]? :: permL js ys) = _
          rw [hy]
          show (allSome (permL js ys)).map (y :: ·) = _
          rw [h1]; rfl
        · cases i with
          | zero =>
            cases e1; cases e2
            exact hR j _ _ hx hy
          | succ i => exact h3 i a b (by simpa using e1) (by simpa using e2)
theorem allSome_len {α : Type} {js : List Nat} {xs as : List α} : allSome (permL js xs) = some as → as.length = js.length := by
  induction js generalizing as with
  | nil => intro h; cases h; rfl
  | cons j js ih =>
    intro h
    have h : allSome (xs[j]? :: permL js xs) = some as := h
    cases hx : xs[j]? with
    | none => rw [hx] at h; cases h
    | some x =>
      rw [hx] at h
      have h : (allSome (permL js xs)).map (x :: ·) = some as := h
      cases hr : allSome (permL js xs) with
      | none => rw [hr] at h; cases h
      | some as' =>
        rw [hr] at h
        cases h
        rw [List.length_cons, List.length_cons, ih hr]
section
variable {P : Prog} {cf : CF} {xc : Option (Nat × List D)} {Γ : Ga} {Wx : WX} {k : Nat} {c : Cc} {X : Cx} {pa pb : Expr} {pes : List Expr} {e : E} {es : List E} {b : Bool} {pos : Pos} {kws : List Keyword} {ks : List Str} {js : List Nat}
theorem pk_nilQ : PK X [] ((tAs P cf xc Γ Wx) []) := ⟨fun pos pins s σ H Q I ⟨A, en, fps, st, g⟩ => pk_nil.run pos pins s σ H Q I (by
  rw [evs] at g
  exact g [] H _ _ (Aft.nil st))⟩
theorem pk_consQ {nm : Option Str} {kpos : Pos} (ha : ∀ b, PE X pa ((tA P cf xc Γ Wx) b e)) (hr : PK X kws ((tAs P cf xc Γ Wx) es)) : PK X (⟨nm, pa, kpos⟩ :: kws) ((tAs P cf xc Γ Wx) (e :: es)) := ⟨fun pos pins s σ H Q I ⟨A, en, fps, st, g⟩ => (pk_cons (ha false) hr).run pos pins s σ H Q I (by
    rw [evs, got_bind] at g
    refine ⟨A, en, fps, st, g.imp (fun x en1 g v1 H1 ps1 fps1 a1 => ?_) fun _ _ _ g => g⟩
    rw [got_bind] at g
    exact ⟨_, en1, fps1, a1.sta, g.imp (fun ds en2 g vs H2 ps2 fps2 a2 => g (v1 :: vs) H2 _ _ (a1.cat (b := false) a2 (fun z => nomatch z) (fun z => nomatch z))) fun C ds en2 g cls dd H2 fps2 y => g _ _ _ _ (AftX.pre a1 y)⟩)⟩
theorem kw_all : ∀ {kws : List Keyword} {ks : List Str} {env : PySem.Env} {pos : Pos}, kwNames kws = some ks → (backToKw pos (keywordEach kws env)).all (·.1.isSome) = true ∧ (backToKw pos (keywordEach kws env)).filterMap (·.1) = ks ∧ (backToKw pos (keywordEach kws env)).any (·.1.isNone) = false ∧ ks.length = kws.length
  | [], ks, env, pos, h => by cases h; exact ⟨rfl, rfl, rfl, rfl⟩
  | ⟨some n, v, p⟩ :: r, ks, env, pos, h => by
    have h : (kwNames r).map (n :: ·) = some ks := h
    cases hr : kwNames r with
    | none => rw [hr] at h; cases h
    | some ks' =>
      rw [hr] at h
      cases h
      obtain ⟨h1, h2, h3, h4⟩ := kw_all (env := env) (pos := pos) hr
      refine ⟨?_, ?_, ?_, by simp [h4]⟩
      · show (true && (backToKw pos (keywordEach r env)).all (·.1.isSome)) = true
        rw [h1]; rfl
      · show n :: (backToKw pos (keywordEach r env)).filterMap (·.1) = _
        rw [h2]
      · show (false || (backToKw pos (keywordEach r env)).any (·.1.isNone)) = false
        rw [h3]; rfl
  | ⟨none, v, p⟩ :: r, ks, env, pos, h => by cases h
theorem fill_none {fx : List Bool} : ∀ {ds : List D} {en : Env}, ∃ ms, fillA fx (ds.map fun _ => E.c .non) ds en = some (ds, ms, en) ∧ ∀ ps en', backA ms ps en' = en' := by
  intro ds
  induction ds generalizing fx with
  | nil => exact fun {en} => ⟨[], rfl, fun ps en' => by cases ps <;> rfl⟩
  | cons d ds ih =>
    intro en
    obtain ⟨ms, h1, h2⟩ := ih (fx := fx.tail) (en := en)
    refine ⟨none :: ms, ?_, fun ps en' => ?_⟩
    · show (fillA fx.tail (ds.map fun _ => E.c .non) ds en).map (fun (a, m, en') => (d :: a, none :: m, en')) = _
      rw [h1]; rfl
    · cases ps with
      | nil => rfl
      | cons p ps => exact h2 ps en'
theorem sel_none {σ : L2.St} : ∀ {ds : List D} {vs : List V}, vs.length = ds.length → Sel σ (ds.map fun _ => E.c .non) vs vs
  | [], [], _ => True.intro
  | d :: ds, v :: vs, h => ⟨rfl, sel_none (by simpa using h)⟩
  | [], _ :: _, h => by simp at h
  | _ :: _, [], h => by simp at h
theorem ros_of {H : Hp} {N : Addr → Prop} : ∀ {ds : List D} {vs : List V}, vs.length = ds.length → (∀ (i : Nat) (d : D) (v : V), ds[i]? = some d → vs[i]? = some v → RO Γ H N d v []) → ROs Γ H N ds vs (ds.map fun _ => [])
  | [], [], _, _ => True.intro
  | d :: ds, v :: vs, h, g => ⟨g 0 d v rfl rfl, ros_of (by simpa using h) fun i d v h1 h2 => g (i + 1) d v (by simpa using h1) (by simpa using h2)⟩
  | [], _ :: _, h, _ => by simp at h
  | _ :: _, [], h, _ => by simp at h
theorem own_nils {α : Type} {ds : List α} {a : Addr} : ¬ Own (ds.map fun _ => ([] : List Addr)) a := fun z => by
  have := own_flat.mpr z
  rw [flat_nil (fun p hp => by simp at hp; exact hp.2)] at this
  cases this
theorem nn_nils {α : Type} {A : Addr → Prop} {ds : List α} : Nn A (ds.map fun _ => ([] : List Addr)) = A := by
  funext a
  exact propext ⟨fun h => h.elim id fun h => absurd h own_nils, .inl⟩
theorem dj_nils {α : Type} {ds : List α} : Dj (ds.map fun _ => ([] : List Addr)) := ⟨fun i p hp => by
  have := List.mem_of_getElem? hp
  simp at this
  rw [this.2]; exact List.nodup_nil, fun i j p q hp hq' ne a ha => by
  have := List.mem_of_getElem? hp
  simp at this
  rw [this.2] at ha; cases ha⟩
theorem Aft.perm {s : Bool} {H H1 : Hp} {A : Addr → Prop} {fps fps1 : List (List Addr)} {σ : L2.St} {ds as : List D} {vs : List V} {en1 : Env} (x : Aft Γ false s H A fps σ ds vs H1 en1 (ds.map fun _ => []) fps1) (hp : allSome (permL js ds) = some as) :
    ∃ ws, allSome (permL js vs) = some ws ∧ ws.length = as.length ∧ Aft Γ false s H A fps σ as ws H1 en1 (as.map fun _ => []) fps1 := by
  obtain ⟨gps, eg, r⟩ := x.ro
  have e := eg rfl
  subst e
  obtain ⟨ws, h1, h2, h3⟩ := perm_ok (R := fun d v => RO Γ H1 (Nn (Nn A (ds.map fun _ => [])) fps1) d v []) r.length.1 (fun i d v e1 e2 => by
    obtain ⟨v', w, g1, g2, g3⟩ := r.get e1
    rw [g1] at e2; cases e2
    have ew : w = [] := by
      have := List.mem_of_getElem? g2
      simp at this; exact this.2
    rw [ew] at g3; exact g3) hp
  have eA : Nn A (as.map fun _ => ([] : List Addr)) = Nn A (ds.map fun _ => ([] : List Addr)) := by rw [nn_nils, nn_nils]
  refine ⟨ws, h1, h2, ⟨by rw [eA]; exact x.sta, ⟨_, fun _ => rfl, by rw [eA]; exact ros_of h2 h3⟩, dj_nils, fun a h => absurd h own_nils, by rw [eA]; exact x.fr⟩⟩
theorem fzs_map : ∀ ds : List D, (fzs ds).map (fun _ => ([] : List Addr)) = ds.map fun _ => []
  | [] => rfl
  | d :: ds => by rw [fzs, List.map_cons, List.map_cons, fzs_map ds]
theorem allSome_fz : ∀ {js : List Nat} {ds as : List D}, allSome (permL js ds) = some as → allSome (permL js (fzs ds)) = some (fzs as)
  | [], ds, as, h => by cases h; rfl
  | j :: js, ds, as, h => by
    have h : allSome (ds[j]? :: permL js ds) = some as := h
    have fg : ∀ (ds : List D) (j : Nat), (fzs ds)[j]? = (ds[j]?).map fz := fun ds => by
      induction ds with
      | nil => intro j; simp [fzs]
      | cons d ds ih =>
        intro j
        cases j with
        | zero => rfl
        | succ j => rw [fzs]; simpa using ih j
    cases hx : ds[j]? with
    | none => rw [hx] at h; cases h
    | some x =>
      rw [hx] at h
      have h : (allSome (permL js ds)).map (x :: ·) = some as := h
      cases hr : allSome (permL js ds) with
      | none => rw [hr] at h; cases h
      | some as' =>
        rw [hr] at h
        cases h
        show allSome ((fzs ds)[j]? :: permL js (fzs ds)) = _
        rw [fg, hx]
        show (allSome (permL js (fzs ds))).map (fz x :: ·) = _
        rw [allSome_fz hr]; rfl
theorem pe_callkQ (O : CtxOk P cf Γ Wx k c X) (hh : c.hot = false) {f : Nat} {x : Str} {p : Pos} (hf : c.fns[f]? = some x) (hx : ckG c x = true) (hk : kwNames kws = some ks) (hm : (f, ks, js) ∈ c.kws) (hl : ks.length = es.length) (ha : PK X kws ((tAs P cf xc Γ Wx) es)) :
    PE X (.Call (.Name x p) [] kws pos) ((tA P cf xc Γ Wx) b (.callk f js es)) := by
  obtain ⟨fa, fd, ps, h1, h2, h3, h4, h5, h6⟩ := (O.cool hh).fns f x hf
  obtain ⟨hg, hd⟩ := O.g hx
  refine ⟨fun pins s σ H Q I h => ?_⟩
  obtain ⟨A, en, fps, st, g⟩ := h
  obtain ⟨k1, k2, k3, k4⟩ := kw_all (env := X.env) (pos := pos) hk
  refine wpAny_Call_Name_kw (ld_glob I hg h1 ?_ hd)
  refine PySem.W.callWith_KW0 (h₀ := X.base) I.ok.mod.kin h2 k1 ?_ (by
    show (false || _) = false
    rw [k3]; rfl)
  refine thn (ha.run pos pins s σ H (fun vs H1 => vs.length = ks.length ∧ ∃ zs : List V, allSome (permL js vs) = some zs ∧ spA Γ cf f ps.length zs H1 Q (WE Wx σ)) I ?_) fun ws s2 ⟨vs, H2, I2, r, hl2, zs, hz, sp⟩ => ⟨I2.kIn, ?_⟩
  · rw [ev, got_bind] at g
    refine ⟨A, en, fps, st, ?_⟩
    cases he : evs P cf xc es en with
    | st => rw [he] at g; exact g
    | ex C xs en1 => rw [he] at g; exact g
    | ok ds en1 =>
      rw [he] at g
      intro vs H1 ps1 fps1 a1
      have ln := a1.ro
      obtain ⟨gps, _, r1⟩ := ln
      have l1 : vs.length = ks.length := by rw [r1.length.1, evs_len he, hl]
      refine ⟨l1, ?_⟩
      have g : Got (match allSome (permL js ds) with | none => .st | some as => doCall cf f (fzs as) [] en1) (fun d en' => ∀ v H' ps fps', Aft Γ b (simpE (.callk f js es)) H A fps σ [d] [v] H' en' ps fps' → Q v H') (XW Γ Wx H A fps σ) := g
      cases hp : allSome (permL js ds) with
      | none => rw [hp] at g; exact g.elim
      | some as =>
        rw [hp] at g
        obtain ⟨g1, g2⟩ := got_call g
        have a2 := a1.fz (b := false) (s := simpEs es) rfl
        rw [← fzs_map] at a2
        obtain ⟨ws, w1, w2, a3⟩ := Aft.perm a2 (allSome_fz hp)
        obtain ⟨ms, f1, f2⟩ := fill_none (fx := fxOf P f) (ds := fzs as) (en := en1)
        refine ⟨ws, w1, call_ok (O.cool hh).xcn a3 (sel_none w2) f1 (h5 _ g1) ?_⟩
        cases hc : cf f (fzs as) with
        | st => exact absurd hc g1
        | ok d ps' =>
          rw [hc] at g2
          intro v H' qs fps' y
          rw [f2] at y
          exact g2 v H' qs fps' (y.anyB.less fun z => nomatch z)
        | ex C xs ps' =>
          rw [hc] at g2
          intro cls dd H' fps' y
          rw [f2] at y
          exact g2 cls dd H' fps' y
  · rw [k2]
    obtain ⟨us, u1, u2, u3⟩ := perm_ok (R := RelV) (Paired.length r).symm (fun i a u e1 e2 => by
      obtain ⟨u', hu, rv⟩ := r.get e1
      rw [hu] at e2; cases e2
      exact rv) hz
    have hv : Vals zs us := by
      clear u1 hz sp
      induction zs generalizing us with
      | nil => cases us with
        | nil => exact .nil
        | cons _ _ => simp at u2
      | cons z zs ih => cases us with
        | nil => simp at u2
        | cons u us => exact .cons (u3 0 z u rfl rfl) (ih us (by simpa using u2) fun i a b e1 e2 => u3 (i + 1) a b (by simpa using e1) (by simpa using e2))
    have bt := h6 ks js hm s2 ws us I2.kIn (by rw [← Paired.length r]; exact hl2) u1
    refine wpAny_call (codeAny_mono (h4.run X.A X.stack s2 H2 ⟨[], ks.zip ws⟩ us zs Q (WE Wx σ) (O.cool hh).room I2.env0 bt hv sp) fun r s' hq => ?_)
    cases r with
    | error e => exact passAt (O.cool hh).tk σ pins H2 s2 e s' I2 hq
    | ok fl =>
      cases fl with
      | ret u => exact I2.after hq
      | next => exact False.elim hq
      | brk => exact False.elim hq
      | cont => exact False.elim hq
end
end Q
end
section
set_option Elab.async false
set_option linter.all false
set_option autoImplicit false
set_option maxRecDepth 100000
namespace Q
open PySem PySem.Spec PyProof.Rows L2
section
variable {P : Prog} {cf : CF} {xc : Option (Nat × List D)} {Γ : Ga} {Wx : WX} {k : Nat} {c : Cc} {X : Cx} {pa pb : Expr} {pes : List Expr} {e : E} {es : List E} {b : Bool} {pos : Pos}
theorem callh_imp {f np : Nat} (hn : ∀ ds, cf f ds ≠ .st → ds.length = np) (σ : L2.St) (H : Hp) (Q : VK) (h : (tA P cf xc Γ Wx) b (.callh f es) σ H Q) : tCallW (spH (cold Γ) cf f np) ((tAs P cf xc Γ Wx) es) σ H Q := by
  obtain ⟨A, en, fps, st, g⟩ := h
  rw [ev, got_bind] at g
  refine ⟨A, en, fps, st, g.imp (fun ds en1 g vs H1 ps1 fps1 a1 => ?_) fun _ _ _ g => g⟩
  cases hc : cf f (fzs ds) with
  | st => rw [hc] at g; exact g.elim
  | ex C xs ps => rw [hc] at g; exact g.elim
  | ok d ps =>
    rw [hc] at g
    have a2 := a1.fz (b := false) rfl
    obtain ⟨gps, eg, r⟩ := a2.ro
    have eg := eg rfl
    subst eg
    have w : ∀ a, Nn (Nn A fps1) (ds.map fun _ => []) a → Nn (Nn A (ds.map fun _ => [])) fps1 a := fun a z => by
      rcases z with (z | z) | z
      · exact .inl (.inl z)
      · exact .inr z
      · exact absurd z own_nils
    refine ⟨Nn A fps1, fzs ds, ds.map fun _ => [], hn _ (by rw [hc]; exact fun z => nomatch z), ⟨(ros_rss (ROs_K (Γ := Γ) (Γ' := cold Γ) rfl r)).weak w, dj_nils, fun a z => absurd z own_nils, fun a z => ?_, XO.cold rfl⟩, ?_⟩
    · rcases z with z | z
      · exact a2.sta.dom a (.inl z)
      · exact a2.sta.dom' (.inr z)
    · rw [hc]
      intro v H' qs gps y
      obtain ⟨fp, ry, e⟩ := y.one
      have e := e rfl
      subst e
      refine (a2.made (b := b) (d := d) (Q := Q) fun v H' ps z => g v H' ps _ (z.less fun q => nomatch q)) v H' fp (fun a u hu => y.fr.keep a u hu (.inr own_nils)) (fun a ha => ?_) (y.dj.one 0 fp rfl) ((RO_K (Γ := cold Γ) (Γ' := Γ) rfl ry).weak fun a z => ?_)
      · have o : Own [fp] a := own_one.mpr ha
        rcases y.fr.new a (.inl (.inr o)) with z | z
        · rcases z with z | z
          · exact absurd z (y.ap a o)
          · exact absurd z own_nils
        · exact z
      · rcases z with ((z | z) | z) | z
        · exact .inl (.inl (.inl z))
        · exact absurd z own_nils
        · exact .inl (.inl (.inr z))
        · exact .inl (.inr (own_one.mpr z))
theorem pe_callhQ (O : CtxOk P cf Γ Wx k c X) (hh : c.hot = true) {f : Nat} {x : Str} {p : Pos} (hf : (f, x) ∈ c.hfns) (hx : ckG c x = true) (hs : ∀ x p, pa ≠ .Starred x p) (hpl : ∀ env, (backTo pos (starEach pes env)).any (·.1) = false)
    (ha : PA X (pa :: pes) ((tAs P cf xc Γ Wx) es)) : PE X (.Call (.Name x p) (pa :: pes) [] pos) ((tA P cf xc Γ Wx) b (.callh f es)) := by
  obtain ⟨fa, fd, ps, h1, h2, h3, h4, h5⟩ := O.hotf.fns f x hf
  obtain ⟨hg, hd⟩ := O.g hx
  exact (pe_callW h4 O.hotf.room (O.hpn hh) hg h1 h2 h3 ha hd (star_of hs) (hpl _)).imp (callh_imp h5)
end
end Q
end
section
set_option Elab.async false
set_option linter.all false
set_option autoImplicit false
set_option maxRecDepth 100000
namespace Q
open PySem PySem.Spec PyProof.Rows L2
section
variable {P : Prog} {cf : CF} {xc : Option (Nat × List D)} {Γ : Ga} {Wx : WX} {m : Nat → Bool} {k : Nat} {c : Cc} {X : Cx} {pe pa pb pk tg : Expr} {pes : List Expr} {e ek : E} {path : List E} {s : S} {ss : List S} {pos : Pos} {st : Stmt} {sts : List Stmt}
theorem ps_whileQ (O : CtxOk P cf Γ Wx k c X) (hh : c.hot = false) (hc : PT X pe ((tT P cf xc Γ Wx) true e)) (hb : PSs X sts ((tSs P cf xc Γ Wx m) ss)) : PS X (.While pe sts [] pos) ((tS P cf xc Γ Wx m) (.while e ss)) :=
  (ps_while (O.cool hh).po hc hb).imp fun D σ H ⟨A, en, fps, st, g⟩ => by
    rw [ex] at g
    refine ⟨fun n σ' H' => ∃ en' fps', AftN Γ H A fps σ' H' en' fps' ∧ Stay m σ σ' ∧ Got (whileL (ev P cf xc true e) (exs P cf xc ss) n en') (KS Γ m H A fps σ D) (XS Γ Wx m H A fps σ), ⟨_, en, fps, .refl st, .refl, g⟩, ?_⟩
    rintro n σ1 H1 ⟨en1, fps1, a1, y1, g⟩
    cases n with
    | zero => exact g.elim
    | succ n =>
      refine ⟨A, en1, fps1, a1.sta, ?_⟩
      have g : Got ((ev P cf xc true e en1).bind fun d en1 => if truthy d then
        match exs P cf xc ss en1 with
        | .ok .nx en2 => whileL (ev P cf xc true e) (exs P cf xc ss) n en2
        | .ok .ct en2 => whileL (ev P cf xc true e) (exs P cf xc ss) n en2
        | .ok .bk en2 => .ok .nx en2
        | r => r
        else .ok .nx en1) (KS Γ m H A fps σ D) (XS Γ Wx m H A fps σ) := by
        unfold whileL at g
        cases h : ev P cf xc true e en1 with
        | st => rw [h] at g; exact g
        | ok d en2 => rw [h] at g; exact g
        | ex _ _ _ => rw [h] at g; exact g
      rw [got_bind] at g
      refine g.imp (fun d en2 g v H2 ps fps2 a2 => ?_) fun C ds en2 g cls dd H2 fps2 z => g cls dd σ1 H2 fps2 (a1.exc z) y1
      have a12 : AftN Γ H A fps σ1 H2 en2 fps2 := a1.trans a2.toN
      cases hd : truthy d with
      | false =>
        rw [hd] at g
        show D.nx σ1 H2
        exact g σ1 H2 fps2 a12 y1
      | true =>
        rw [hd] at g
        show ∃ N : L2.St → Hp → Prop, _
        refine ⟨fun σ' H' => ∃ en' fps', AftN Γ H A fps σ' H' en' fps' ∧ Stay m σ σ' ∧ Got (whileL (ev P cf xc true e) (exs P cf xc ss) n en') (KS Γ m H A fps σ D) (XS Γ Wx m H A fps σ), fun σ' H' h => ⟨n, Nat.lt_succ_self n, h⟩, A, en2, fps2, a2.st1, ?_⟩
        have g : Got (match exs P cf xc ss en2 with
          | .ok .nx en2 => whileL (ev P cf xc true e) (exs P cf xc ss) n en2
          | .ok .ct en2 => whileL (ev P cf xc true e) (exs P cf xc ss) n en2
          | .ok .bk en2 => .ok .nx en2
          | r => r) (KS Γ m H A fps σ D) (XS Γ Wx m H A fps σ) := g
        cases h : exs P cf xc ss en2 with
        | st => rw [h] at g; exact g
        | ex C ds en3 =>
          rw [h] at g
          exact fun cls dd σ3 H3 fps3 a3 y3 => g cls dd σ3 H3 fps3 (a12.exc a3) (y1.trans y3)
        | ok f en3 =>
          rw [h] at g
          cases f with
          | nx => exact fun σ3 H3 fps3 a3 y3 => ⟨en3, fps3, a12.trans a3, y1.trans y3, g⟩
          | ct => exact fun σ3 H3 fps3 a3 y3 => ⟨en3, fps3, a12.trans a3, y1.trans y3, g⟩
          | bk => exact fun σ3 H3 fps3 a3 y3 => g σ3 H3 fps3 (a12.trans a3) (y1.trans y3)
          | rt d => exact fun v σ3 H3 ps fps3 a3 y3 => g v σ3 H3 ps fps3 (a12.val a3) (y1.trans y3)
structure JW (Γ : Ga) (J : L2.It) (ds : List D) (St : Hp → (Addr → Prop) → Prop) : Prop where
  keep : ∀ H H' M N N', St H N → Kp H H' M N N' → St H' N'
  go : ∀ i H N d, St H N → ds[i]? = some d → J.go i H
  stop : ∀ i H N, St H N → ds[i]? = none → J.stop i H
  yld : ∀ i H N d x H', St H N → ds[i]? = some d → J.yld i H x H' → (∀ a o, H a = some o → H' a = some o) ∧ RO Γ H' N d x []
def tI (P : Prog) (cf : CF) (xc : Option (Nat × List D)) (Γ : Ga) (Wx : WX) (it : It) : TI := fun σ H R => ∃ A en fps, Sta Γ H A en σ fps ∧ Got (evIt P cf xc it en)
  (fun p en' => ∃ ds, p = .lst ds ∧ ∀ J St H' fps', AftN Γ H A fps σ H' en' fps' → JW Γ J ds St → St H' (Nn A fps') → R J H') (XW Γ Wx H A fps σ)
theorem AftN.grow {H H1 H2 : Hp} {A : Addr → Prop} {fps fps1 : List (List Addr)} {σ : L2.St} {en1 : Env} (x : AftN Γ H A fps σ H1 en1 fps1) (k : ∀ a o, H1 a = some o → H2 a = some o) : AftN Γ H A fps σ H2 en1 fps1 := by
  have th : ∀ a, H1 a ≠ none → H2 a ≠ none := fun a h => by
    obtain ⟨u, e⟩ := Option.ne_none_iff_exists'.mp h
    rw [k a u e]; simp
  exact ⟨⟨x.sta.rs.keep (Kp.grow0 k fun a z => .inl z) fun _ _ z => z, x.sta.dj, x.sta.ap, fun a z => th a (x.sta.dom a z), x.sta.xo.keep (Kp.grow0 k fun a z => .inl z)⟩, ⟨fun a u e z => k a u (x.fr.keep a u e z), fun a h => th a (x.fr.there a h), x.fr.new⟩⟩
theorem forL_drop {bd : D → Env → Option Env} {body : Env → Res Fl} {ds : List D} {i : Nat} {d : D} {en : Env} (h : ds[i]? = some d) : forL bd body (ds.drop i) en = (match bd d en with
    | none => .st
    | some en1 => match body en1 with
      | .ok .nx en2 => forL bd body (ds.drop (i + 1)) en2
      | .ok .ct en2 => forL bd body (ds.drop (i + 1)) en2
      | .ok .bk en2 => .ok .nx en2
      | r => r) := by
  have : ds.drop i = d :: ds.drop (i + 1) := by
    obtain ⟨hi, e⟩ := List.getElem?_eq_some_iff.mp h
    rw [← e]
    exact List.drop_eq_getElem_cons hi
  rw [this, forL]
  all_goals rfl
theorem ps_forQ (O : CtxOk P cf Γ Wx k c X) (hh : c.hot = false) {t : T} {it : It} (hi : PI X tg pe (tI P cf xc Γ Wx it)) (hg : PG X tg (tGt Γ m t)) (hb : PSs X sts ((tSs P cf xc Γ Wx m) ss)) (hs : ∀ x, foldedSetIterable pe X.env x = pure x) (hl : ∀ en p en', evIt P cf xc it en = .ok p en' → ∃ ds, p = .lst ds) : PS X (.For tg pe sts [] pos) ((tS P cf xc Γ Wx m) (.for t it ss)) :=
  (ps_for (O.cool hh).po (O.cool hh).calm hi hg hb hs).imp fun D σ H ⟨A, en, fps, st, g⟩ => by
    rw [ex, got_bind] at g
    refine ⟨A, en, fps, st, ?_⟩
    cases hp : evIt P cf xc it en with
    | st => rw [hp] at g; exact g
    | ex _ _ _ => rw [hp] at g; exact g.xw
    | ok p en0 =>
      rw [hp] at g
      cases p with
      | vr i => obtain ⟨ds, z⟩ := hl _ _ _ hp; cases z
      | enm p => obtain ⟨ds, z⟩ := hl _ _ _ hp; cases z
      | zip p q => obtain ⟨ds, z⟩ := hl _ _ _ hp; cases z
      | lst ds =>
        refine ⟨ds, rfl, fun J St H0 fps0 a0 jw hS => ?_⟩
        have g : Got (forL (bindT t) (exs P cf xc ss) (ds.drop 0) en0) (KS Γ m H A fps σ D) (XS Γ Wx m H A fps σ) := g
        refine ⟨fun i n σ' H' => n = ds.length - i ∧ ∃ en' fps', AftN Γ H A fps σ' H' en' fps' ∧ Stay m σ σ' ∧ St H' (Nn A fps') ∧ Got (forL (bindT t) (exs P cf xc ss) (ds.drop i) en') (KS Γ m H A fps σ D) (XS Γ Wx m H A fps σ), ⟨_, rfl, en0, fps0, a0, .refl, hS, g⟩, ?_⟩
        rintro i n σ1 H1 ⟨hn, en1, fps1, a1, y1, hS1, g1⟩
        cases hd : ds[i]? with
        | none =>
          left
          refine ⟨jw.stop i H1 _ hS1 hd, ?_⟩
          rw [List.drop_eq_nil_of_le (List.getElem?_eq_none_iff.mp hd), forL] at g1
          exact g1 σ1 H1 fps1 a1 y1
        | some d =>
          right
          have hlt : i < ds.length := (List.getElem?_eq_some_iff.mp hd).1
          refine ⟨jw.go i H1 _ d hS1 hd, fun σ' H' => ∃ en' fps', AftN Γ H A fps σ' H' en' fps' ∧ Stay m σ σ' ∧ St H' (Nn A fps') ∧ Got (forL (bindT t) (exs P cf xc ss) (ds.drop (i + 1)) en') (KS Γ m H A fps σ D) (XS Γ Wx m H A fps σ),
            fun σ' H' h => ⟨_, by rw [hn]; omega, rfl, h⟩, fun x H2 hy => ?_⟩
          obtain ⟨kp, r⟩ := jw.yld i H1 _ d x H2 hS1 hd hy
          have a2 := a1.grow kp
          have hS2 : St H2 (Nn A fps1) := jw.keep _ _ _ _ _ hS1 (Kp.grow0 kp fun a z => .inl z)
          rw [forL_drop hd] at g1
          cases hbd : bindT t d en1 with
          | none => rw [hbd] at g1; exact g1.elim
          | some en3 =>
            rw [hbd] at g1
            refine ⟨A, en1, fps1, d, [], by rw [nn_e]; exact a2.sta, by rw [nn_e]; exact r, List.nodup_nil, (fun a ha => nomatch ha), en3, hbd, fun σ3 fps3 s3 w3 y3 => ?_⟩
            rw [nn_e] at w3
            have a3 : AftN Γ H A fps σ3 H2 en3 fps3 := ⟨s3, a2.fr.weakNew w3⟩
            have hS3 : St H2 (Nn A fps3) := jw.keep _ _ _ _ _ hS2 (Kp.id w3)
            have y13 := y1.trans y3
            refine ⟨A, en3, fps3, s3, ?_⟩
            have g1 : Got (match exs P cf xc ss en3 with
              | .ok .nx en2 => forL (bindT t) (exs P cf xc ss) (ds.drop (i + 1)) en2
              | .ok .ct en2 => forL (bindT t) (exs P cf xc ss) (ds.drop (i + 1)) en2
              | .ok .bk en2 => .ok .nx en2
              | r => r) (KS Γ m H A fps σ D) (XS Γ Wx m H A fps σ) := g1
            cases h : exs P cf xc ss en3 with
            | st => rw [h] at g1; exact g1
            | ex C ds en4 =>
              rw [h] at g1
              exact fun cls dd σ4 H4 fps4 a4 y4 => g1 cls dd σ4 H4 fps4 (a3.exc a4) (y13.trans y4)
            | ok f en4 =>
              rw [h] at g1
              have S4 : ∀ {σ4 H4 fps4}, AftN Γ H2 A fps3 σ4 H4 en4 fps4 → St H4 (Nn A fps4) := fun a4 => jw.keep _ _ _ _ _ hS3 (s3.kp a4.fr)
              cases f with
              | nx => exact fun σ4 H4 fps4 a4 y4 => ⟨en4, fps4, a3.trans a4, y13.trans y4, S4 a4, g1⟩
              | ct => exact fun σ4 H4 fps4 a4 y4 => ⟨en4, fps4, a3.trans a4, y13.trans y4, S4 a4, g1⟩
              | bk => exact fun σ4 H4 fps4 a4 y4 => g1 σ4 H4 fps4 (a3.trans a4) (y13.trans y4)
              | rt d => exact fun v σ4 H4 ps fps4 a4 y4 => g1 v σ4 H4 ps fps4 (a3.val a4) (y13.trans y4)
end
end Q
end
section
set_option Elab.async false
set_option linter.all false
set_option autoImplicit false
set_option maxRecDepth 100000
namespace Q
open PySem PySem.Spec PyProof.Rows L2
section
variable {P : Prog} {cf : CF} {xc : Option (Nat × List D)} {Γ : Ga} {Wx : WX} {m : Nat → Bool} {k : Nat} {c : Cc} {X : Cx} {pe pa pb pc pk tg : Expr} {pes : List Expr} {e e1 e2 e3 ek : E} {es : List E} {path : List E} {s : S} {ss : List S} {pos : Pos} {st : Stmt} {sts : List Stmt}
theorem ROs.none {H : Hp} {N : Addr → Prop} {ds : List D} {vs : List V} {fps : List (List Addr)} (r : ROs Γ H N ds vs fps) {i : Nat} (h : ds[i]? = none) : vs.length ≤ i := by
  rw [r.length.1]; exact List.getElem?_eq_none_iff.mp h
theorem ROs.nilAt {H : Hp} {N : Addr → Prop} {ds : List D} {vs : List V} {fps : List (List Addr)} {i : Nat} {d : D} (r : ROs Γ H N ds vs fps) (hf : ∀ p ∈ fps, p = []) (h : ds[i]? = some d) : ∃ v, vs[i]? = some v ∧ RO Γ H N d v [] := by
  obtain ⟨v, p, h1, h2, h3⟩ := r.get h
  have e := hf p (List.mem_of_getElem? h2)
  subst e
  exact ⟨v, h1, h3⟩
theorem jw_lst {a : Addr} {ds : List D} : JW Γ (Itl Γ.K a) ds (fun H N => RO Γ H N (.lst false ds) (.ref a) []) := by
  refine ⟨fun H H' M N N' r k => r.keep k fun b hb => (nomatch hb), fun i H N d r hd => ?_, fun i H N r hd => ?_, fun i H N d x H' r hd hy => ?_⟩
  · obtain ⟨a', vs, fps, e, h1, h2, h3, _⟩ := r
    cases e
    obtain ⟨v, hv, _⟩ := h2.nilAt h3 hd
    exact ⟨vs, v, .inl (.inl h1.1), hv⟩
  · obtain ⟨a', vs, fps, e, h1, h2, h3, _⟩ := r
    cases e
    exact ⟨vs, .inl (.inl h1.1), h2.none hd⟩
  · obtain ⟨a', vs, fps, e, h1, h2, h3, _⟩ := r
    cases e
    obtain ⟨rfl, hx⟩ := hy
    obtain ⟨v, hv, rv⟩ := h2.nilAt h3 hd
    have := hx vs (.inl (.inl h1.1))
    rw [hv] at this
    cases this
    exact ⟨fun _ _ h => h, rv⟩
theorem jw_scr {a : Addr} {ds : List D} : JW Γ (Itl Γ.K a) ds (fun H N => RO Γ H N (.scr ds) (.ref a) []) := by
  refine ⟨fun H H' M N N' r k => r.keep k fun b hb => (nomatch hb), fun i H N d r hd => ?_, fun i H N r hd => ?_, fun i H N d x H' r hd hy => ?_⟩
  · obtain ⟨a', vs, fps, e, h1, h2, h3, _⟩ := r
    cases e
    obtain ⟨v, hv, _⟩ := h2.nilAt h3 hd
    exact ⟨vs, v, h1.sq, hv⟩
  · obtain ⟨a', vs, fps, e, h1, h2, h3, _⟩ := r
    cases e
    exact ⟨vs, h1.sq, h2.none hd⟩
  · obtain ⟨a', vs, fps, e, h1, h2, h3, _⟩ := r
    cases e
    obtain ⟨rfl, hx⟩ := hy
    obtain ⟨v, hv, rv⟩ := h2.nilAt h3 hd
    have := hx vs h1.sq
    rw [hv] at this
    cases this
    exact ⟨fun _ _ h => h, rv⟩
theorem jw_tup {a : Addr} {ds : List D} : JW Γ (Itt Γ.K a) ds (fun H N => RO Γ H N (.tup ds) (.ref a) []) := by
  refine ⟨fun H H' M N N' r k => r.keep k fun b hb => (nomatch hb), fun i H N d r hd => ?_, fun i H N r hd => ?_, fun i H N d x H' r hd hy => ?_⟩
  · obtain ⟨a', vs, fps, e, h1, h2, h3, _⟩ := r
    cases e
    obtain ⟨v, hv, _⟩ := h2.nilAt h3 hd
    exact ⟨vs, v, h1, hv⟩
  · obtain ⟨a', vs, fps, e, h1, h2, h3, _⟩ := r
    cases e
    exact ⟨vs, h1, h2.none hd⟩
  · obtain ⟨a', vs, fps, e, h1, h2, h3, _⟩ := r
    cases e
    obtain ⟨rfl, hx⟩ := hy
    obtain ⟨v, hv, rv⟩ := h2.nilAt h3 hd
    have := hx vs h1
    rw [hv] at this
    cases this
    exact ⟨fun _ _ h => h, rv⟩
theorem jw_str {z : List Nat} : JW Γ (Its ⟨z.toArray⟩) (z.map fun c => D.str [c]) (fun H N => True) := by
  refine ⟨fun _ _ _ _ _ _ _ => True.intro, fun i H N d _ hd => ?_, fun i H N _ hd => ?_, fun i H N d x H' _ hd hy => ?_⟩
  · have := (List.getElem?_eq_some_iff.mp hd).1
    simpa [Its] using this
  · have := List.getElem?_eq_none_iff.mp hd
    simpa [Its] using this
  · obtain ⟨rfl, cc, h1, rfl⟩ := hy
    rw [List.getElem?_map] at hd
    have h1 : z[i]? = some cc := by simpa using h1
    rw [h1] at hd
    cases hd
    refine ⟨fun _ _ h => h, rfl, ?_, rfl⟩
    rw [sizeLine_eq]; simp
theorem rangeL_get : ∀ (n : Nat) (lo : Int) (i : Nat), (rangeL lo n)[i]? = if i < n then some (.int (lo + i)) else none
  | 0, lo, i => by simp [rangeL]
  | n + 1, lo, 0 => by simp [rangeL]
  | n + 1, lo, i + 1 => by
    rw [rangeL, List.getElem?_cons_succ, rangeL_get n (lo + 1) i]
    by_cases h : i < n
    · rw [if_pos h, if_pos (by omega)]
      congr 2
      omega
    · rw [if_neg h, if_neg (by omega)]
theorem rangeS_get : ∀ (n : Nat) (lo c : Int) (i : Nat), (rangeS lo c n)[i]? = if i < n then some (.int (lo + i * c)) else none
  | 0, lo, c, i => by simp [rangeS]
  | n + 1, lo, c, 0 => by simp [rangeS]
  | n + 1, lo, c, i + 1 => by
    rw [rangeS, List.getElem?_cons_succ, rangeS_get n (lo + c) c i]
    by_cases h : i < n
    · rw [if_pos h, if_pos (by omega)]
      congr 2
      have : ((i + 1 : Nat) : Int) * c = (i : Int) * c + c := by
        rw [Int.natCast_add, Int.add_mul]; simp
      rw [this]; omega
    · rw [if_neg h, if_neg (by omega)]
theorem jw_rng {lo : Int} {n : Nat} : JW Γ (Itr lo n) (rangeL lo n) (fun H N => True) := by
  refine ⟨fun _ _ _ _ _ _ _ => True.intro, fun i H N d _ hd => ?_, fun i H N _ hd => ?_, fun i H N d x H' _ hd hy => ?_⟩
  · rw [rangeL_get] at hd
    split at hd
    · rename_i h; exact h
    · cases hd
  · rw [rangeL_get] at hd
    split at hd
    · cases hd
    · rename_i h; exact Nat.le_of_not_lt h
  · obtain ⟨rfl, rfl⟩ := hy
    rw [rangeL_get] at hd
    split at hd
    · cases hd
      exact ⟨fun _ _ h => h, rfl, rfl⟩
    · cases hd
theorem jw_rngC {lo c : Int} {n : Nat} : JW Γ (Itc lo c n) (rangeS lo c n) (fun H N => True) := by
  refine ⟨fun _ _ _ _ _ _ _ => True.intro, fun i H N d _ hd => ?_, fun i H N _ hd => ?_, fun i H N d x H' _ hd hy => ?_⟩
  · rw [rangeS_get] at hd
    split at hd
    · rename_i h; exact h
    · cases hd
  · rw [rangeS_get] at hd
    split at hd
    · cases hd
    · rename_i h; exact Nat.le_of_not_lt h
  · obtain ⟨rfl, rfl⟩ := hy
    rw [rangeS_get] at hd
    split at hd
    · cases hd
      exact ⟨fun _ _ h => h, rfl, rfl⟩
    · cases hd
theorem pi_valQ (O : CtxOk P cf Γ Wx k c X) (he : ∀ b, PE X pe ((tA P cf xc Γ Wx) b e)) : PI X tg pe ((tI P cf xc Γ Wx) (.val e)) := ⟨fun pins s σ H R I ⟨A, en, fps, st, g⟩ => by
  have hK := O.K
  rw [evIt, got_bind] at g
  cases hd : ev P cf xc false e en with
  | st => rw [hd] at g; exact g.elim
  | ex C ds en1 =>
    rw [hd] at g
    exact (pi_tup (tg := tg) (he false)).run pins s σ H R I ⟨A, en, fps, st, by rw [hd]; exact g⟩
  | ok d en1 =>
    rw [hd] at g
    have g : Got (match items (fz d) with | some ds => Res.ok (Pit.lst ds) en1 | none => .st) (fun p en' => ∃ ds, p = .lst ds ∧ ∀ J St H' fps', AftN Γ H A fps σ H' en' fps' → JW Γ J ds St → St H' (Nn A fps') → R J H') (XW Γ Wx H A fps σ) := g
    cases d with
    | lst o xs =>
      have g : Got (match (if lstOk (fzs xs) = true then some (fzs xs) else none : Option (List Q.D)) with | some ds => Res.ok (Pit.lst ds) en1 | none => .st) (fun p en' => ∃ ds, p = .lst ds ∧ ∀ J St H' fps', AftN Γ H A fps σ H' en' fps' → JW Γ J ds St → St H' (Nn A fps') → R J H') (XW Γ Wx H A fps σ) := g
      split at g
      · rename_i ds hds
        split at hds
        · cases hds
          obtain ⟨ds, e1, g⟩ := g
          cases e1
          refine (pi_list (tg := tg) (he false)).run pins s σ H R I ⟨A, en, fps, st, ?_⟩
          rw [hd]
          intro v H' ps fps' a
          have a2 := a.fz (b := false) rfl
          obtain ⟨fp, r, ef⟩ := a2.one
          have ef : [[]] = [fp] := ef rfl
          cases ef
          have r : RO Γ H' (Nn (Nn A [[]]) fps') (fz _) v [] := r
          rw [nn_e] at r
          have r' : RO Γ H' (Nn A fps') (.lst false (fzs xs)) v [] := r
          obtain ⟨aa, vs, gs, e, h1, _⟩ := id r'
          subst e
          rw [hK]
          exact ⟨aa, rfl, ⟨vs, .inl (.inl h1.1)⟩, g _ _ H' fps' a2.toN jw_lst r'⟩
        · cases hds
      · exact g.elim
    | tup xs =>
      obtain ⟨ds, e1, g⟩ := g
      cases e1
      refine (pi_tup (tg := tg) (he false)).run pins s σ H R I ⟨A, en, fps, st, ?_⟩
      rw [hd]
      intro v H' ps fps' a
      have a2 := a.fz (b := false) rfl
      obtain ⟨fp, r, ef⟩ := a2.one
      have ef : [[]] = [fp] := ef rfl
      cases ef
      have r : RO Γ H' (Nn (Nn A [[]]) fps') (fz _) v [] := r
      rw [nn_e] at r
      have r' : RO Γ H' (Nn A fps') (.tup xs) v [] := r
      obtain ⟨aa, vs, gs, e, h1, _⟩ := id r'
      subst e
      rw [hK]
      exact ⟨aa, rfl, ⟨vs, h1⟩, g _ _ H' fps' a2.toN jw_tup r'⟩
    | scr xs =>
      obtain ⟨ds, e1, g⟩ := g
      cases e1
      refine (pi_list (tg := tg) (he false)).run pins s σ H R I ⟨A, en, fps, st, ?_⟩
      rw [hd]
      intro v H' ps fps' a
      have a2 := a.fz (b := false) rfl
      obtain ⟨fp, r, ef⟩ := a2.one
      have ef : [[]] = [fp] := ef rfl
      cases ef
      have r : RO Γ H' (Nn (Nn A [[]]) fps') (fz _) v [] := r
      rw [nn_e] at r
      have r' : RO Γ H' (Nn A fps') (.scr xs) v [] := r
      obtain ⟨aa, vs, gs, e, h1, _⟩ := id r'
      subst e
      rw [hK]
      exact ⟨aa, rfl, ⟨vs, h1.sq⟩, g _ _ H' fps' a2.toN jw_scr r'⟩
    | str z =>
      obtain ⟨ds, e1, g⟩ := g
      cases e1
      refine (pi_str (tg := tg) (he false)).run pins s σ H R I ⟨A, en, fps, st, ?_⟩
      rw [hd]
      intro v H' ps fps' a
      obtain ⟨fp, r, _⟩ := a.one
      exact ⟨_, r.1, g _ _ H' fps' a.toN jw_str True.intro⟩
    | dct o a b =>
      refine (pi_tup (tg := tg) (he false)).run pins s σ H R I ⟨A, en, fps, st, ?_⟩
      rw [hd]
      intro v H' ps fps' a
      obtain ⟨fp, r, _⟩ := a.one
      exact r.elim
    | non => exact g.elim
    | bl _ => exact g.elim
    | int _ => exact g.elim
    | st _ _ => exact g.elim
    | ins _ _ _ => exact g.elim⟩
theorem ints_map : ∀ ns : List Int, intsO (ns.map D.int) = some ns
  | [] => rfl
  | n :: ns => by rw [List.map_cons, intsO, ints_map ns]; rfl
theorem vals1 {A : Addr → Prop} {fps : List (List Addr)} {H H' : Hp} {σ : L2.St} {vs : List V} {en' : Env} {ps fps' : List (List Addr)} {b s : Bool} {ns : List Int} (a : Aft Γ b s H A fps σ (ns.map D.int) vs H' en' ps fps') : vs = ns.map V.int := by
  obtain ⟨gps, _, r⟩ := a.ro
  exact intsV (ints_map ns) r
theorem rngD_ok {ds r : List D} (h : rngD ds = some r) : (∃ n, ds = [n].map D.int ∧ (smR n = true ∧ n < (LIM : Int)) ∧ r = rangeL 0 n.toNat) ∨ (∃ a c, ds = [a, c].map D.int ∧ (smR a = true ∧ smR c = true ∧ c - a < (LIM : Int)) ∧ r = rangeL a (c - a).toNat) ∨
    ∃ a c, ds = [a, c, -1].map D.int ∧ (smR a = true ∧ smR c = true ∧ a - c < (LIM : Int)) ∧ r = rangeS a (-1) (a - c).toNat := by
  unfold rngD at h
  split at h
  · split at h
    · rename_i n e
      simp only [Bool.and_eq_true, decide_eq_true_eq] at e
      cases h
      exact .inl ⟨n, rfl, e, rfl⟩
    · cases h
  · split at h
    · rename_i n c e
      simp only [Bool.and_eq_true, decide_eq_true_eq] at e
      cases h
      exact .inr (.inl ⟨n, c, rfl, ⟨e.1.1, e.1.2, e.2⟩, rfl⟩)
    · cases h
  · split at h
    · split at h
      · rename_i n c z e e'
        simp only [Bool.and_eq_true, decide_eq_true_eq] at e e'
        obtain ⟨e1, e2⟩ := e'
        subst e1
        cases h
        exact .inr (.inr ⟨n, c, rfl, ⟨e.1, e.2, e2⟩, rfl⟩)
      · cases h
    · cases h
  · cases h
theorem rng_read {A : Addr → Prop} {en : Env} {fps : List (List Addr)} {H : Hp} {σ : L2.St} {R : L2.It → Hp → Prop} (st : Sta Γ H A en σ fps)
    (g : Got (evIt P cf xc (.rng es) en) (fun p en' => ∃ ds, p = .lst ds ∧ ∀ J St H' fps', AftN Γ H A fps σ H' en' fps' → JW Γ J ds St → St H' (Nn A fps') → R J H') (XW Γ Wx H A fps σ)) {k : List V → Hp → Prop}
    (h : ∀ ds r, rngD ds = some r → ds.length = es.length → ∀ vs H', (∀ ns : List Int, ds = ns.map D.int → vs = ns.map V.int) → (∀ J, JW Γ J r (fun _ _ => True) → R J H') → k vs H') : (tAs P cf xc Γ Wx) es σ H k := by
  rw [evIt, got_bind] at g
  refine ⟨A, en, fps, st, g.len.imp (fun ds en1 g vs H1 ps fps1 a1 => ?_) fun _ _ _ g => g⟩
  obtain ⟨gl, g⟩ := g
  have g : Got (match rngD ds with | some r => Res.ok (Pit.lst r) en1 | none => .st) (fun p en' => ∃ ds, p = .lst ds ∧ ∀ J St H' fps', AftN Γ H A fps σ H' en' fps' → JW Γ J ds St → St H' (Nn A fps') → R J H') (XW Γ Wx H A fps σ) := g
  cases hr : rngD ds with
  | none => rw [hr] at g; exact g.elim
  | some r =>
    rw [hr] at g
    obtain ⟨r', e, g⟩ := g
    cases e
    exact h ds r hr gl vs H1 (fun ns e => by subst e; exact vals1 a1) fun J jw => g J _ H1 fps1 a1.toN jw True.intro
theorem pi_rng1Q (hg : Gl X "range") (hm : X.mg "range" = none) {p : Pos} (ha : PA X [pa] ((tAs P cf xc Γ Wx) [e1])) (h1 : ∀ x p, pa ≠ .Starred x p) : PI X tg (.Call (.Name "range" p) [pa] [] pos) ((tI P cf xc Γ Wx) (.rng [e1])) := ⟨fun pins s σ H R I ⟨A, en, fps, st, g⟩ => by
  refine (pi_range1 (tg := tg) hg hm ha (star_of h1)).run pins s σ H R I (rng_read st g fun ds r hr gl vs H' hv hJ => ?_)
  rcases rngD_ok hr with ⟨n, rfl, ⟨q1, q2⟩, rfl⟩ | ⟨a, b, rfl, _⟩ | ⟨a, b, rfl, _⟩
  · have z := smR_of q1
    exact ⟨n, hv [n] rfl, by omega, by omega, hJ _ jw_rng⟩
  · simp at gl
  · simp at gl⟩
theorem pi_rng2Q (hg : Gl X "range") (hm : X.mg "range" = none) {p : Pos} (ha : PA X [pa, pb] ((tAs P cf xc Γ Wx) [e1, e2])) (h1 : ∀ x p, pa ≠ .Starred x p) (h2 : ∀ x p, pb ≠ .Starred x p) : PI X tg (.Call (.Name "range" p) [pa, pb] [] pos) ((tI P cf xc Γ Wx) (.rng [e1, e2])) := ⟨fun pins s σ H R I ⟨A, en, fps, st, g⟩ => by
  refine (pi_range2 (tg := tg) hg hm ha (by rw [star_of h1, star_of h2]; rfl) (star_of h2)).run pins s σ H R I (rng_read st g fun ds r hr gl vs H' hv hJ => ?_)
  rcases rngD_ok hr with ⟨n, rfl, _⟩ | ⟨a, b, rfl, ⟨q1, q2, q3⟩, rfl⟩ | ⟨a, b, rfl, _⟩
  · simp at gl
  · have z := smR_of q1
    have z2 := smR_of q2
    exact ⟨a, b, hv [a, b] rfl, ⟨by omega, by omega, by omega, by omega⟩, hJ _ jw_rng⟩
  · simp at gl⟩
theorem pi_rng3Q (hg : Gl X "range") (hm : X.mg "range" = none) {p : Pos} (ha : PA X [pa, pb, pc] ((tAs P cf xc Γ Wx) [e1, e2, e3])) (h1 : ∀ x p, pa ≠ .Starred x p) (h2 : ∀ x p, pb ≠ .Starred x p) (h3 : ∀ x p, pc ≠ .Starred x p) : PI X tg (.Call (.Name "range" p) [pa, pb, pc] [] pos) ((tI P cf xc Γ Wx) (.rng [e1, e2, e3])) := ⟨fun pins s σ H R I ⟨A, en, fps, st, g⟩ => by
  refine (pi_range3 (tg := tg) hg hm ha (star_of h1) (by rw [star_of h2, star_of h3]; rfl)).run pins s σ H R I (rng_read st g fun ds r hr gl vs H' hv hJ => ?_)
  rcases rngD_ok hr with ⟨n, rfl, _⟩ | ⟨a, b, rfl, _⟩ | ⟨a, b, rfl, ⟨q1, q2, q3⟩, rfl⟩
  · simp at gl
  · simp at gl
  · have z := smR_of q1
    have z2 := smR_of q2
    exact ⟨a, b, -1, _, hv [a, b, -1] rfl, RgC.neg (by omega) (by omega) (by omega) (by omega), hJ _ jw_rngC⟩⟩
end
end Q
end
section
set_option Elab.async false
set_option linter.all false
set_option autoImplicit false
set_option maxRecDepth 100000
namespace PySem
set_option maxHeartbeats 1000000 in
theorem meets_enumerate_new1B {v : Value} {o : Obj} {H : Heap → Prop} (B : Begins v o H) :
    Meets (Builtin.«enumerate.__new__» ⟨[.type "enumerate", v], []⟩) (fun _ R s => H s.heap ∧
      R (.ok (.ret (.ref (s.heap.push o).objs.size))) { s with heap := (s.heap.push o).push { cls := .type "enumerate", data := .fields #[.none, .bool false, .ref s.heap.objs.size, rawInt 0, .none, .none] } }) :=
  .of_wp fun prog w A R s h => by
    obtain ⟨hp, g, d, tk, os⟩ := s; obtain ⟨h1, h⟩ := h
    have hsub := sub_enumerate
    have q1 : ∀ {A' : Around} {E : Value → Shared → Prop} {Q : Value → Shared → Prop}, Q (.ref hp.objs.size) ⟨hp.push o, g, d, tk, os⟩ → wpAny (model prog w) A' (pyIter v) Q E ⟨hp, g, d, tk, os⟩ :=
      fun q => B.iter prog w _ _ ⟨hp, g, d, tk, os⟩ _ h1 q
    wp_walk using q1
    refine wpAny_stack_any fun st => wpAny_pure ?_
    split
    · rename_i c _ _ _ _ _
      cases (c == Value.type "enumerate")
      · wp_walk using q1
        exact ⟨_, rfl, h⟩
      · wp_walk using q1
        exact ⟨_, rfl, h⟩
    · wp_walk using q1
      exact ⟨_, rfl, h⟩
theorem enum_begins1 {prog : Program} {w : World} {A : Around} {E : Value → Shared → Prop} {s : Shared} {v : Value} {o : Obj} {H : Heap → Prop} {Q : Value → Shared → Prop} (B : Begins v o H) (h1 : H s.heap)
    (h : ∀ h', IsEnum h' (s.heap.objs.size + 1) s.heap.objs.size 0 .none → h'.get? s.heap.objs.size = some o → h'.objs.size = s.heap.objs.size + 2 →
      (∀ b o, s.heap.get? b = some o → h'.get? b = some o) → Q (.ref (s.heap.objs.size + 1)) { s with heap := h' }) :
    wpAny (model prog w) A (call (.type "enumerate") [v]) Q E s := by
  refine callType_new F.called_enumerate (by decide) (F.typeCall_enumerate_1 _) (F.newCall_enumerate_1 _) (fun obj => F.args_object_init_2 obj _) F.entry_enumerate_new
    (meets_enumerate_new1B B) ⟨h1, ?_⟩
  have hz : (s.heap.push o).objs.size = s.heap.objs.size + 1 := Heap.size_push ..
  show _ ∧ _
  rw [hz]
  have he : IsEnum ((s.heap.push o).push { cls := .type "enumerate", data := .fields #[.none, .bool false, .ref s.heap.objs.size, rawInt 0, .none, .none] }) (s.heap.objs.size + 1) s.heap.objs.size 0 .none := by
    have := Heap.get?_push_size (s.heap.push o) (o := { cls := .type "enumerate", data := .fields #[.none, .bool false, .ref s.heap.objs.size, rawInt 0, .none, .none] }) rfl
    rw [hz] at this; exact this
  refine ⟨⟨_, he, rfl⟩, h _ he (Heap.get?_push_of_some _ (Heap.get?_push_size _ B.free)) (by rw [Heap.size_push, hz]) fun b o x => Heap.get?_push_of_some _ (Heap.get?_push_of_some _ x)⟩
end PySem
namespace Q
open PySem PySem.Spec PyProof.Rows L2
def Old (K : PySem.W.Frag) (H : Hp) (b : Addr) : Prop := H b ≠ none ∨ ∃ o, K.lookup b = some o
structure Srcs (P : Program) (w : World) (K : PySem.W.Frag) (xs : List V) (C : Hp → Prop) (it : Addr) (tn : Nat → Heap → Prop) : Prop where
  obj : ∀ i h, tn i h → ∃ o, h.get? it = some o ∧ ∃ vs, o.data = .fields vs
  keep : ∀ i h h', tn i h → (∀ o, h.get? it = some o → h'.get? it = some o) → tn i h'
  draw : ∀ (X : Cx), X.prog = P → X.w = w → X.K = K → X.calm = true → ∀ (i : Nat) (pins : List (Addr × Obj)) (s : Shared) (σ : L2.St) (H : Hp), Inv X pins σ H s → tn i s.heap → C H →
    ∃ (fp : List Addr) (Pd : Nat → Value → Prop) (St : Nat → Heap → Prop), Draws P w X.A.in1 it fp xs.length Pd St ∧ it ∈ fp ∧ St i s.heap ∧ (∀ b ∈ fp, b = it ∨ Old K H b) ∧ (∀ j x, Pd j x → ∃ v, xs[j]? = some v ∧ RelV v x) ∧ ∀ j h', St j h' → tn j h'
section
variable {P : Program} {w : World} {K : PySem.W.Frag} {xs : List V}
theorem srcs_list (a it : Addr) : Srcs P w K xs (fun H => SqL K H a xs) it (fun i h => h.IsListIter it a i) where
  obj := fun i h ⟨o, e, c, d⟩ => ⟨o, e, _, d⟩
  keep := fun i h h' st k => st.at k
  draw := by
    intro X hP hw hK hc i pins s σ H I st hq
    subst hP hw hK
    obtain ⟨its, rv, p, hz⟩ := I.list hq
    have hsz : its.toArray.size = xs.length := by rw [List.size_toArray, rv.length]
    have hne : a ≠ it := fun e => by
      obtain ⟨o, n, e1, e2, e3, e4⟩ := p
      obtain ⟨o', e1', _, e4'⟩ := st
      rw [e] at e1; rw [e1] at e1'; cases e1'
      rw [e4] at e4'; cases e4'
    have D := Draws.list (prog := X.prog) (w := X.w) (A := X.A.in1) (show X.A.in1.handled = none from I.ok.hd hc) it a hne its.toArray
    rw [hsz] at D
    refine ⟨_, _, _, D, by simp, ⟨st, p.isList⟩, fun b hb => ?_, fun j x hx => ?_, fun j h' st => st.1⟩
    · rcases List.mem_cons.mp hb with e | hb
      · exact .inl e
      · right
        rw [List.mem_singleton.mp hb]
        rcases hq with (h | ⟨o, h⟩) | ⟨o, _, _, h, _⟩
        · exact .inl (by rw [h]; simp)
        · exact .inl (by rw [h]; simp)
        · exact .inr ⟨o, h⟩
    · have hx : its[j]? = some x := by simpa using hx
      have hl : j < xs.length := by rw [← hsz, List.size_toArray]; exact (List.getElem?_eq_some_iff.mp hx).1
      obtain ⟨u, hu, ru⟩ := rv.get (List.getElem?_eq_getElem hl)
      rw [hx] at hu; cases hu
      exact ⟨_, List.getElem?_eq_getElem hl, ru⟩
theorem srcs_tup (a it : Addr) : Srcs P w K xs (fun H => SqT K H a xs) it (fun i h => h.IsTupleIter it a i) where
  obj := fun i h ⟨o, e, c, d⟩ => ⟨o, e, _, d⟩
  keep := fun i h h' st k => st.at k
  draw := by
    intro X hP hw hK hc i pins s σ H I st hq
    subst hP hw hK
    obtain ⟨its, rv, p, hz⟩ := I.tuple hq
    have hsz : its.toArray.size = xs.length := by rw [List.size_toArray, rv.length]
    have hne : a ≠ it := fun e => by
      obtain ⟨o, e1, e2, n, e4⟩ := p
      obtain ⟨o', e1', _, e4'⟩ := st
      rw [e] at e1; rw [e1] at e1'; cases e1'
      rw [e4] at e4'; cases e4'
    have D := Draws.tuple (prog := X.prog) (w := X.w) (A := X.A.in1) (show X.A.in1.handled = none from I.ok.hd hc) it a hne its.toArray
    rw [hsz] at D
    refine ⟨_, _, _, D, by simp, ⟨st, p⟩, fun b hb => ?_, fun j x hx => ?_, fun j h' st => st.1⟩
    · rcases List.mem_cons.mp hb with e | hb
      · exact .inl e
      · right
        rw [List.mem_singleton.mp hb]
        rcases hq with (h | ⟨o, h⟩) | ⟨o, _, _, h, _⟩
        · exact .inl (by rw [h]; simp)
        · exact .inl (by rw [h]; simp)
        · exact .inr ⟨o, h⟩
    · have hx : its[j]? = some x := by simpa using hx
      have hl : j < xs.length := by rw [← hsz, List.size_toArray]; exact (List.getElem?_eq_some_iff.mp hx).1
      obtain ⟨u, hu, ru⟩ := rv.get (List.getElem?_eq_getElem hl)
      rw [hx] at hu; cases hu
      exact ⟨_, List.getElem?_eq_getElem hl, ru⟩
theorem srcs_str (x : Str) (t : Tok) (it : Addr) : Srcs P w K (x.cps.toList.map fun c => V.str ⟨#[c]⟩) (fun _ => True) it (fun i h => h.IsStrIter it (strIterType x) x t i) where
  obj := fun i h ⟨o, e, c, d⟩ => ⟨o, e, _, d⟩
  keep := fun i h h' ⟨o, ho, r⟩ k => ⟨o, k o ho, r⟩
  draw := by
    intro X hP hw hK hc i pins s σ H I st _
    subst hP hw hK
    have D := Draws.text (prog := X.prog) (w := X.w) (A := X.A.in1) (show X.A.in1.handled = none from I.ok.hd hc) it x t
    have hsz : x.cps.size = (x.cps.toList.map fun c => V.str ⟨#[c]⟩).length := by simp
    rw [hsz] at D
    refine ⟨_, _, _, D, by simp, st, fun b hb => .inl (List.mem_singleton.mp hb), fun j y ⟨c, u, hc, hy⟩ => ⟨.str ⟨#[c]⟩, by simp [hc], u, hy⟩, fun j h' st => st⟩
theorem fp_old {X : Cx} {pins : List (Addr × Obj)} {σ : L2.St} {H : Hp} {s : Shared} {e b : Addr} (I : Inv X pins σ H s) (f : FpOk X pins H e) (h : Old X.K H b) : e ≠ b := fun z => by
  subst z
  rcases h with h | ⟨o, h⟩
  · exact h f.1
  · have hb := I.ok.mod.kin _ _ h
    rcases f.2.2.2.1 with g | g
    · exact I.ok.noex _ _ hb g
    · have h1 := Heap.lt_size hb
      have h2 := I.ok.bsz
      have : (e : Nat) < e := Nat.lt_of_lt_of_le h1 (Nat.le_trans h2 g)
      exact absurd this (Nat.lt_irrefl _)
def Jen (xs : List V) (C : Hp → Prop) : L2.It := ⟨fun i H => C H ∧ i < xs.length, fun i H v H' => ∃ T x, v = .ref T ∧ H T = none ∧ H' = upd H T (.tup [.int (i : Nat), x]) ∧ xs[i]? = some x, fun i H => C H ∧ xs.length ≤ i⟩
theorem turn_enumS {C : Hp → Prop} {elts : List Expr} {kk : Nat} {tpos : Pos} {e it : Addr} {tn : Nat → Heap → Prop} (S : Srcs P w K xs C it tn) :
    Turn P w K (.Tuple elts kk tpos) (Jen xs C) [e, it] e (fun i h => (∃ old, IsEnum h e it ((i : Nat) : Int) old) ∧ tn i h ∧ i ≤ xs.length ∧ e ≠ it) where
  mem := by simp
  obj := fun i h st b hb => by
    obtain ⟨⟨old, he⟩, ht, _⟩ := st
    have e' : b = e ∨ b = it := by simpa using hb
    rcases e' with z | z
    · rw [z]; exact ⟨_, he, fun v q => nomatch q⟩
    · rw [z]
      obtain ⟨o, ho, vs, hd⟩ := S.obj i h ht
      exact ⟨o, ho, fun v q => by rw [hd] at q; cases q⟩
  keep := fun i h h' st k => let ⟨⟨old, he⟩, hi, hl, hne⟩ := st; ⟨⟨old, k e (by simp) _ he⟩, S.keep i h h' hi fun o q => k it (by simp) o q, hl, hne⟩
  item := by
    intro X hP hw hK hc i pins s σ H E I hf st hg
    obtain ⟨⟨old, he⟩, ht, hl, hne⟩ := st
    obtain ⟨hC, hlt⟩ := hg
    obtain ⟨fp, Pd, St, D, hif, hst, hsep, hv, hback⟩ := S.draw X hP hw hK hc i pins s σ H I ht hC
    subst hP hw hK
    have hef : e ∉ fp := fun hm => by
      rcases hsep e hm with z | z
      · exact hne z
      · exact fp_old I (hf e (by simp)) z rfl
    have hel : e < s.heap.objs.size := Heap.lt_size he
    have hil : it < s.heap.objs.size := by obtain ⟨_, q, _⟩ := S.obj i _ ht; exact Heap.lt_size q
    refine wpAny_pyNext_enum_itemC D he hst hlt hne hef fun u h' tk hu ho hst' hT hsz hk => ?_
    obtain ⟨x, hx, ru⟩ := hv i u hu
    refine ⟨_, rfl, wpAny_letOwnedTupleGo_enum (s := { s with heap := h', toks := tk + 1 }) ho fun h'' he' sb => ?_⟩
    have hT2 : h''.get? s.heap.objs.size = some { cls := .type "tuple", data := .seq #[.int i tk, u] } := (sb.2 _ (Nat.ne_of_gt hel)).trans hT
    have new : ObjOk X.prog X.w (upd H s.heap.objs.size (.tup [.int (i : Nat), x])) h'' s.heap.objs.size (.tup [.int (i : Nat), x]) :=
      ⟨by show 2 ≤ sizeLine; decide, [.int i tk, u], .cons ⟨_, rfl⟩ (.cons ru .nil), ⟨_, hT2, rfl, _, rfl⟩⟩
    have I1 : Inv X pins σ (upd H s.heap.objs.size (.tup [.int (i : Nat), x])) { s with heap := h'', toks := tk + 1 } :=
      I.turnedNew (ch := [e, it]) (fun b ob hb q => (sb.2 b (fun z => hb (by simp [z]))).trans (hk b ob (fun z => hb (by simp [z])) (fun z => hb (by simp [z])) q)) hf (Nat.le_refl _) new
    refine ⟨.ref s.heap.objs.size, _, I1, rfl, ⟨_, x, rfl, I.hok.fresh (Nat.le_refl _), rfl, hx⟩, ⟨⟨u, ?_⟩, S.keep (i + 1) h' h'' (hback (i + 1) h' hst') fun o q => (sb.2 it (Ne.symm hne)).trans q, hlt, hne⟩, fun b hb => ?_⟩
    · have e1 : ((i + 1 : Nat) : Int) = (i : Int) + 1 := by omega
      rw [e1]; exact he'
    · have hb' : b < s.heap.objs.size := by
        have e' : b = e ∨ b = it := by simpa using hb
        rcases e' with z | z
        · rw [z]; exact hel
        · rw [z]; exact hil
      rw [upd_ne (Nat.ne_of_lt hb')]
      exact (hf b hb).1
  done := by
    intro X hP hw hK hc i pins s σ H E I hf st hg
    obtain ⟨⟨old, he⟩, ht, hl, hne⟩ := st
    obtain ⟨hC, hle⟩ := hg
    obtain ⟨fp, Pd, St, D, hif, hst, hsep, hv, hback⟩ := S.draw X hP hw hK hc i pins s σ H I ht hC
    subst hP hw hK
    have hi : i = xs.length := Nat.le_antisymm hl hle
    subst hi
    obtain ⟨f0, f1, f2, f3, f4, f5⟩ := hf it (by simp)
    exact wpAny_pyNext_enum_endD D he hst fun h' eb => ⟨rfl, I.turned (t' := s.toks) (fun b o hb q => eb b o hb q) f0 f1 f3 f4 f5⟩
  self := fun A i s Q E st h => let ⟨⟨_, he⟩, _⟩ := st; wpAny_pyIter_enum he h
def Jzi (xs ys : List V) (C1 C2 : Hp → Prop) : L2.It := ⟨fun i H => C1 H ∧ C2 H ∧ i < xs.length ∧ i < ys.length, fun i H v H' => ∃ T x y, v = .ref T ∧ H T = none ∧ H' = upd H T (.tup [x, y]) ∧ xs[i]? = some x ∧ ys[i]? = some y,
  fun i H => C1 H ∧ C2 H ∧ (xs.length ≤ i ∨ ys.length ≤ i)⟩
theorem turn_zipS {ys : List V} {C1 C2 : Hp → Prop} {elts : List Expr} {kk : Nat} {tpos : Pos} {z TI TO i1 i2 : Addr} {tn1 tn2 : Nat → Heap → Prop} (S1 : Srcs P w K xs C1 i1 tn1) (S2 : Srcs P w K ys C2 i2 tn2)
    (a1 : TI ≠ z) (a2 : TO ≠ z) (a3 : TI ≠ TO) (a4 : TI ≠ i1) (a5 : TI ≠ i2) (a6 : z ≠ i1) (a7 : z ≠ i2) (a8 : TO ≠ i1) (a9 : TO ≠ i2) (a10 : i1 ≠ i2) :
    Turn P w K (.Tuple elts kk tpos) (Jzi xs ys C1 C2) [z, TI, TO, i1, i2] z (fun i h => IsZip h z TI TO .none ∧ IsTupOf2 h TI (.ref i1) (.ref i2) ∧ (∃ x y, IsTupOf2 h TO x y) ∧ tn1 i h ∧ tn2 i h ∧ i ≤ xs.length ∧ i ≤ ys.length) where
  mem := by simp
  obj := fun i h st c hc => by
    obtain ⟨hz, hTI, ⟨x, y, hTO⟩, h1, h2, _⟩ := st
    have e' : c = z ∨ c = TI ∨ c = TO ∨ c = i1 ∨ c = i2 := by simpa using hc
    rcases e' with q | q | q | q | q
    · rw [q]; exact ⟨_, hz, fun v q => nomatch q⟩
    · rw [q]; exact ⟨_, hTI, fun v q => nomatch q⟩
    · rw [q]; exact ⟨_, hTO, fun v q => nomatch q⟩
    · rw [q]
      obtain ⟨o, ho, vs, hd⟩ := S1.obj i h h1
      exact ⟨o, ho, fun v q => by rw [hd] at q; cases q⟩
    · rw [q]
      obtain ⟨o, ho, vs, hd⟩ := S2.obj i h h2
      exact ⟨o, ho, fun v q => by rw [hd] at q; cases q⟩
  keep := fun i h h' st k => by
    obtain ⟨hz, hTI, ⟨x, y, hTO⟩, h1, h2, l1, l2⟩ := st
    exact ⟨k z (by simp) _ hz, k TI (by simp) _ hTI, ⟨x, y, k TO (by simp) _ hTO⟩, S1.keep i h h' h1 fun o q => k i1 (by simp) o q, S2.keep i h h' h2 fun o q => k i2 (by simp) o q, l1, l2⟩
  item := by
    intro X hP hw hK hc i pins s σ H E I hf st hg
    obtain ⟨hz, hTI, ⟨x0, y0, hTO⟩, h1, h2, l1, l2⟩ := st
    obtain ⟨hC1, hC2, lt1, lt2⟩ := hg
    obtain ⟨fp1, Pd1, St1, D1, hif1, hst1, hsep1, hv1, hback1⟩ := S1.draw X hP hw hK hc i pins s σ H I h1 hC1
    obtain ⟨fp2, Pd2, St2, D2, hif2, hst2, hsep2, hv2, hback2⟩ := S2.draw X hP hw hK hc i pins s σ H I h2 hC2
    subst hP hw hK
    have no1 : ∀ b, b ≠ i1 → b ∈ [z, TI, TO, i1, i2] → b ∉ fp1 := fun b hb hm hq => by
      rcases hsep1 b hq with q | q
      · exact hb q
      · exact fp_old I (hf b hm) q rfl
    have no2 : ∀ b, b ≠ i2 → b ∈ [z, TI, TO, i1, i2] → b ∉ fp2 := fun b hb hm hq => by
      rcases hsep2 b hq with q | q
      · exact hb q
      · exact fp_old I (hf b hm) q rfl
    have S : ZipSep2 z TI TO i1 i2 fp1 fp2 := ⟨a1, a2, a3, a4, hif1, no1 z a6 (by simp), no1 TO a8 (by simp), a5, hif2, no2 z a7 (by simp), no2 TO a9 (by simp), no2 i1 a10 (by simp), no1 i2 (Ne.symm a10) (by simp)⟩
    have hzl : z < s.heap.objs.size := Heap.lt_size hz
    refine wpAny_pyNext_zipD2_item S D1 D2 hz hTI hTO hst1 hst2 lt1 lt2 fun u1 u2 h' tk y1 y2 z' TO' st1' st2' hT hsz hk => ?_
    obtain ⟨x, hx, ru⟩ := hv1 i u1 y1
    obtain ⟨y, hy, ru2⟩ := hv2 i u2 y2
    refine ⟨_, rfl, wpAny_letOwnedTupleGo_zip (s := { s with heap := h', toks := tk }) z' fun h'' z'' sb => ?_⟩
    have hT2 : h''.get? s.heap.objs.size = some { cls := .type "tuple", data := .seq #[u1, u2] } := (sb.2 _ (Nat.ne_of_gt hzl)).trans hT
    have new : ObjOk X.prog X.w (upd H s.heap.objs.size (.tup [x, y])) h'' s.heap.objs.size (.tup [x, y]) :=
      ⟨by show 2 ≤ sizeLine; decide, [u1, u2], .cons ru (.cons ru2 .nil), ⟨_, hT2, rfl, _, rfl⟩⟩
    have I1 : Inv X pins σ (upd H s.heap.objs.size (.tup [x, y])) { s with heap := h'', toks := tk } :=
      I.turnedNew (ch := [z, TI, TO, i1, i2]) (fun b ob hb q => (sb.2 b (fun e => hb (by simp [e]))).trans (hk b ob (fun e => hb (by simp [e])) (fun e => hb (by simp [e])) (fun e => hb (by simp [e])) (fun e => hb (by simp [e])) q)) hf (Nat.le_refl _) new
    have TI' : IsTupOf2 h' TI (.ref i1) (.ref i2) := hk TI _ a1 a3 a4 a5 hTI
    refine ⟨.ref s.heap.objs.size, _, I1, rfl, ⟨_, x, y, rfl, I.hok.fresh (Nat.le_refl _), rfl, hx, hy⟩, ⟨z'', (sb.2 TI a1).trans TI', ⟨u1, u2, (sb.2 TO a2).trans TO'⟩, S1.keep _ h' h'' (hback1 _ h' st1') fun o q => (sb.2 i1 (Ne.symm a6)).trans q, S2.keep _ h' h'' (hback2 _ h' st2') fun o q => (sb.2 i2 (Ne.symm a7)).trans q, lt1, lt2⟩, fun b hb => ?_⟩
    have hb' : b < s.heap.objs.size := by
      have e' : b = z ∨ b = TI ∨ b = TO ∨ b = i1 ∨ b = i2 := by simpa using hb
      rcases e' with q | q | q | q | q
      · rw [q]; exact hzl
      · rw [q]; exact Heap.lt_size hTI
      · rw [q]; exact Heap.lt_size hTO
      · rw [q]; obtain ⟨_, r, _⟩ := S1.obj i _ h1; exact Heap.lt_size r
      · rw [q]; obtain ⟨_, r, _⟩ := S2.obj i _ h2; exact Heap.lt_size r
    rw [upd_ne (Nat.ne_of_lt hb')]
    exact (hf b hb).1
  done := by
    intro X hP hw hK hc i pins s σ H E I hf st hg
    obtain ⟨hz, hTI, ⟨x0, y0, hTO⟩, h1, h2, l1, l2⟩ := st
    obtain ⟨hC1, hC2, hend⟩ := hg
    obtain ⟨fp1, Pd1, St1, D1, hif1, hst1, hsep1, hv1, hback1⟩ := S1.draw X hP hw hK hc i pins s σ H I h1 hC1
    obtain ⟨fp2, Pd2, St2, D2, hif2, hst2, hsep2, hv2, hback2⟩ := S2.draw X hP hw hK hc i pins s σ H I h2 hC2
    subst hP hw hK
    have no1 : ∀ b, b ≠ i1 → b ∈ [z, TI, TO, i1, i2] → b ∉ fp1 := fun b hb hm hq => by
      rcases hsep1 b hq with q | q
      · exact hb q
      · exact fp_old I (hf b hm) q rfl
    have no2 : ∀ b, b ≠ i2 → b ∈ [z, TI, TO, i1, i2] → b ∉ fp2 := fun b hb hm hq => by
      rcases hsep2 b hq with q | q
      · exact hb q
      · exact fp_old I (hf b hm) q rfl
    have S : ZipSep2 z TI TO i1 i2 fp1 fp2 := ⟨a1, a2, a3, a4, hif1, no1 z a6 (by simp), no1 TO a8 (by simp), a5, hif2, no2 z a7 (by simp), no2 TO a9 (by simp), no2 i1 a10 (by simp), no1 i2 (Ne.symm a10) (by simp)⟩
    refine wpAny_pyNext_zipD2_end S D1 D2 hz hTI hTO hst1 hst2 l1 l2 (by omega) fun h' tk hk => ⟨rfl, ?_⟩
    exact I.turnedL (t' := tk) (ch := [z, TI, TO, i1, i2]) (fun c o hb q =>
      hk c o (fun q' => hb (by simp [q'])) (fun q' => hb (by simp [q'])) (fun q' => hb (by simp [q'])) (fun q' => hb (by simp [q'])) q) hf
  self := fun A i s Q E st h => wpAny_pyIter_zip st.1 h
end
section
variable {P : Prog} {cf : CF} {xc : Option (Nat × List D)} {Γ : Ga} {Wx : WX} {k : Nat} {c : Cc} {X : Cx} {pe pa pb tg : Expr} {e e1 e2 : E} {pos : Pos}
def SrcV (Γ : Ga) (ds : List D) (v : V) (xs : List V) (C : Hp → Prop) (St : Hp → (Addr → Prop) → Prop) : Prop :=
  (∀ H H' M N N', St H N → Kp H H' M N N' → St H' N') ∧ (∀ H N, St H N → C H ∧ ∃ gs, ROs Γ H N ds xs gs ∧ ∀ p ∈ gs, p = []) ∧
  ∀ (X : Cx) (pins : List (Addr × Obj)) (σ : L2.St) (H' : Hp) (s : Shared) (u : Value), Inv X pins σ H' s → X.K = Γ.K → C H' → RelV v u →
    ∃ (o : Obj) (Hh : Heap → Prop) (tn : Addr → Nat → Heap → Prop), Begins u o Hh ∧ Hh s.heap ∧ (∀ it, Srcs X.prog X.w X.K xs C it (tn it)) ∧ ∀ it h', h'.get? it = some o → tn it 0 h'
theorem ros_keepN {H H' : Hp} {M N N' : Addr → Prop} {ds : List D} {vs : List V} {gs : List (List Addr)} (k : Kp H H' M N N') (r : ROs Γ H N ds vs gs) (h : ∀ p ∈ gs, p = []) : ROs Γ H' N' ds vs gs := r.keep k fun a ha => by
  rw [flat_nil h] at ha; cases ha
theorem ros_str {H : Hp} {N : Addr → Prop} : ∀ z : List Nat, ROs Γ H N (z.map fun c => D.str [c]) (z.map fun c => V.str ⟨#[c]⟩) (z.map fun _ => [])
  | [] => True.intro
  | c :: z => ⟨⟨rfl, by rw [sizeLine_eq]; simp, rfl⟩, ros_str z⟩
theorem src_of {H : Hp} {N : Addr → Prop} {d : D} {v : V} {ds : List D} (hi : items (fz d) = some ds) (r : RO Γ H N (fz d) v []) : ∃ xs C St, SrcV Γ ds v xs C St ∧ St H N := by
  cases d with
  | lst o zs =>
    have hi : (if lstOk (fzs zs) then some (fzs zs) else none) = some ds := hi
    split at hi
    · cases hi
      obtain ⟨a, vs, gs, e, h1, h2, h3, _⟩ := r
      subst e
      refine ⟨vs, fun H => SqL Γ.K H a vs, fun H N => (H a = some (.lst vs) ∧ ¬ N a) ∧ ∃ gs, ROs Γ H N (fzs zs) vs gs ∧ ∀ p ∈ gs, p = [], ⟨fun H H' M N N' ⟨g1, gs, g2, g3⟩ k => ⟨k.lst g1, gs, ros_keepN k g2 g3, g3⟩, fun H N ⟨g1, gs, g2, g3⟩ => ⟨.inl (.inl g1.1), gs, g2, g3⟩, fun X pins σ H' s u I hK hC ru => ?_⟩, h1, gs, h2, h3⟩
      cases ru
      rw [← hK] at hC ⊢
      obtain ⟨its, rv, p, hz⟩ := I.list hC
      exact ⟨_, _, fun it i h => h.IsListIter it a i, begins_list a its.toArray, p.isList, fun it => srcs_list a it, fun it h' g => ⟨_, g, rfl, rfl⟩⟩
    · cases hi
  | tup zs =>
    have hi : some zs = some ds := hi
    cases hi
    obtain ⟨a, vs, gs, e, h1, h2, h3, _⟩ := r
    subst e
    refine ⟨vs, fun H => SqT Γ.K H a vs, fun H N => SqT Γ.K H a vs ∧ ∃ gs, ROs Γ H N ds vs gs ∧ ∀ p ∈ gs, p = [], ⟨fun H H' M N N' ⟨g1, gs, g2, g3⟩ k => ⟨SqT.keep k g1, gs, ros_keepN k g2 g3, g3⟩, fun H N ⟨g1, gs, g2, g3⟩ => ⟨g1, gs, g2, g3⟩, fun X pins σ H' s u I hK hC ru => ?_⟩, h1, gs, h2, h3⟩
    cases ru
    rw [← hK] at hC ⊢
    obtain ⟨its, rv, p, hz⟩ := I.tuple hC
    exact ⟨_, _, fun it i h => h.IsTupleIter it a i, begins_tuple a its.toArray, p, fun it => srcs_tup a it, fun it h' g => ⟨_, g, rfl, rfl⟩⟩
  | scr zs =>
    have hi : some zs = some ds := hi
    cases hi
    obtain ⟨a, vs, gs, e, h1, h2, h3, _⟩ := r
    subst e
    refine ⟨vs, fun H => SqL Γ.K H a vs, fun H N => ScL Γ.K H a vs ∧ ∃ gs, ROs Γ H N ds vs gs ∧ ∀ p ∈ gs, p = [], ⟨fun H H' M N N' ⟨g1, gs, g2, g3⟩ k => ⟨ScL.keep k g1, gs, ros_keepN k g2 g3, g3⟩, fun H N ⟨g1, gs, g2, g3⟩ => ⟨g1.sq, gs, g2, g3⟩, fun X pins σ H' s u I hK hC ru => ?_⟩, h1, gs, h2, h3⟩
    cases ru
    rw [← hK] at hC ⊢
    obtain ⟨its, rv, p, hz⟩ := I.list hC
    exact ⟨_, _, fun it i h => h.IsListIter it a i, begins_list a its.toArray, p.isList, fun it => srcs_list a it, fun it h' g => ⟨_, g, rfl, rfl⟩⟩
  | str z =>
    have hi : some (z.map fun c => D.str [c]) = some ds := hi
    cases hi
    obtain ⟨e, hl, _⟩ := r
    subst e
    refine ⟨z.map fun c => V.str ⟨#[c]⟩, fun _ => True, fun H N => True, ⟨fun _ _ _ _ _ _ _ => True.intro, fun H N _ => ⟨True.intro, z.map fun _ => [], ?_, fun p hp => by simp at hp; exact hp.2⟩, fun X pins σ H' s u I hK hC ru => ?_⟩, True.intro⟩
    · exact ros_str z
    · obtain ⟨t, rfl⟩ := ru
      have S : ∀ it, Srcs X.prog X.w X.K _ _ it _ := fun it => srcs_str (P := X.prog) (w := X.w) (K := X.K) ⟨z.toArray⟩ t it
      exact ⟨_, _, fun it i h => h.IsStrIter it (strIterType ⟨z.toArray⟩) ⟨z.toArray⟩ t i, begins_text ⟨z.toArray⟩ t, True.intro, fun it => by simpa using S it, fun it h' g => ⟨_, g, rfl, rfl⟩⟩
  | dct o a b => exact r.elim
  | non => cases hi
  | bl _ => cases hi
  | int _ => cases hi
  | st _ _ => cases hi
  | ins _ _ _ => cases hi
theorem enmL_get : ∀ (ds : List D) (k i : Nat), (enmL k ds)[i]? = (ds[i]?).map fun d => .tup [.int ((k + i : Nat) : Int), d]
  | [], k, i => by simp [enmL]
  | d :: ds, k, 0 => by simp [enmL]
  | d :: ds, k, i + 1 => by
    rw [enmL, List.getElem?_cons_succ, enmL_get ds (k + 1) i, List.getElem?_cons_succ]
    congr 1
    funext d
    have : k + 1 + i = k + (i + 1) := by omega
    rw [this]
theorem zipL_get : ∀ (xs ys : List D) (i : Nat), (zipL xs ys)[i]? = (xs[i]?).bind fun x => (ys[i]?).map fun y => .tup [x, y]
  | [], ys, i => by simp [zipL]
  | _ :: _, [], i => by simp [zipL]
  | x :: xs, y :: ys, 0 => by simp [zipL]
  | x :: xs, y :: ys, i + 1 => by rw [zipL, List.getElem?_cons_succ, zipL_get xs ys i, List.getElem?_cons_succ, List.getElem?_cons_succ]
theorem jw_enm {ds : List D} {v : V} {xs : List V} {C : Hp → Prop} {St : Hp → (Addr → Prop) → Prop} (S : SrcV Γ ds v xs C St) : JW Γ (Jen xs C) (enmL 0 ds) St := by
  obtain ⟨s1, s2, _⟩ := S
  refine ⟨s1, fun i H N d hS hd => ?_, fun i H N hS hd => ?_, fun i H N d x H' hS hd hy => ?_⟩
  · obtain ⟨hC, gs, r, hg⟩ := s2 H N hS
    rw [enmL_get] at hd
    cases h : ds[i]? with
    | none => rw [h] at hd; cases hd
    | some y => exact ⟨hC, by rw [r.length.1]; exact (List.getElem?_eq_some_iff.mp h).1⟩
  · obtain ⟨hC, gs, r, hg⟩ := s2 H N hS
    rw [enmL_get] at hd
    cases h : ds[i]? with
    | none => exact ⟨hC, by rw [r.length.1]; exact List.getElem?_eq_none_iff.mp h⟩
    | some y => rw [h] at hd; cases hd
  · obtain ⟨hC, gs, r, hg⟩ := s2 H N hS
    obtain ⟨T, y, rfl, hT, rfl, hxy⟩ := hy
    rw [enmL_get] at hd
    cases h : ds[i]? with
    | none => rw [h] at hd; cases hd
    | some z =>
      rw [h] at hd
      cases hd
      obtain ⟨w, hw, rw_⟩ := r.nilAt hg h
      rw [hxy] at hw; cases hw
      refine ⟨new_keep hT, T, _, [[], []], rfl, .inl (.inl upd_same), ⟨⟨by simp, rfl⟩, rw_.keep (Kp.grow0 (new_keep hT) fun a z => .inl z) (fun a ha => nomatch ha), True.intro⟩, fun p hp => by simp at hp; exact hp, rfl⟩
theorem jw_zip {ds es : List D} {v w : V} {xs ys : List V} {C1 C2 : Hp → Prop} {St1 St2 : Hp → (Addr → Prop) → Prop} (S1 : SrcV Γ ds v xs C1 St1) (S2 : SrcV Γ es w ys C2 St2) : JW Γ (Jzi xs ys C1 C2) (zipL ds es) (fun H N => St1 H N ∧ St2 H N) := by
  obtain ⟨s1, s2, _⟩ := S1
  obtain ⟨t1, t2, _⟩ := S2
  refine ⟨fun H H' M N N' h k => ⟨s1 _ _ _ _ _ h.1 k, t1 _ _ _ _ _ h.2 k⟩, fun i H N d hS hd => ?_, fun i H N hS hd => ?_, fun i H N d x H' hS hd hy => ?_⟩
  · obtain ⟨hC, gs, r, hg⟩ := s2 H N hS.1
    obtain ⟨hC', gs', r', hg'⟩ := t2 H N hS.2
    rw [zipL_get] at hd
    cases h : ds[i]? with
    | none => rw [h] at hd; cases hd
    | some y =>
      cases h' : es[i]? with
      | none => rw [h, h'] at hd; cases hd
      | some y' => exact ⟨hC, hC', by rw [r.length.1]; exact (List.getElem?_eq_some_iff.mp h).1, by rw [r'.length.1]; exact (List.getElem?_eq_some_iff.mp h').1⟩
  · obtain ⟨hC, gs, r, hg⟩ := s2 H N hS.1
    obtain ⟨hC', gs', r', hg'⟩ := t2 H N hS.2
    rw [zipL_get] at hd
    refine ⟨hC, hC', ?_⟩
    cases h : ds[i]? with
    | none => exact .inl (by rw [r.length.1]; exact List.getElem?_eq_none_iff.mp h)
    | some y =>
      cases h' : es[i]? with
      | none => exact .inr (by rw [r'.length.1]; exact List.getElem?_eq_none_iff.mp h')
      | some y' => rw [h, h'] at hd; cases hd
  · obtain ⟨hC, gs, r, hg⟩ := s2 H N hS.1
    obtain ⟨hC', gs', r', hg'⟩ := t2 H N hS.2
    obtain ⟨T, y, y', rfl, hT, rfl, hx1, hx2⟩ := hy
    rw [zipL_get] at hd
    cases h : ds[i]? with
    | none => rw [h] at hd; cases hd
    | some z =>
      cases h' : es[i]? with
      | none => rw [h, h'] at hd; cases hd
      | some z' =>
        rw [h, h'] at hd
        cases hd
        obtain ⟨w1, hw1, rw1⟩ := r.nilAt hg h
        obtain ⟨w2, hw2, rw2⟩ := r'.nilAt hg' h'
        rw [hx1] at hw1; cases hw1
        rw [hx2] at hw2; cases hw2
        refine ⟨new_keep hT, T, _, [[], []], rfl, .inl (.inl upd_same), ⟨rw1.keep (Kp.grow0 (new_keep hT) fun a z => .inl z) (fun a ha => nomatch ha), rw2.keep (Kp.grow0 (new_keep hT) fun a z => .inl z) (fun a ha => nomatch ha), True.intro⟩, fun p hp => by simp at hp; exact hp, rfl⟩
theorem pi_enmQ (O : CtxOk P cf Γ Wx k c X) {elts : List Expr} {kk : Nat} {tpos p : Pos} (hg : Gl X "enumerate") (hm : X.mg "enumerate" = none) (hs : ∀ x p, pe ≠ .Starred x p) (he : ∀ b, PE X pe ((tA P cf xc Γ Wx) b e)) :
    PI X (.Tuple elts kk tpos) (.Call (.Name "enumerate" p) [pe] [] pos) ((tI P cf xc Γ Wx) (.enm (.val e))) := ⟨fun pins s σ H R I ⟨A, en, fps, st, g⟩ => by
  rw [evIt, evIt, got_bind, got_bind] at g
  have key : tCons ((tA P cf xc Γ Wx) false e) tNil σ H (fun vs H1 => ∃ v d ds en' fps', vs = [v] ∧ AftN Γ H A fps σ H1 en' fps' ∧ RO Γ H1 (Nn A fps') (fz d) v [] ∧ items (fz d) = some ds ∧
      ∀ J St H' fps'', AftN Γ H A fps σ H' en' fps'' → JW Γ J (enmL 0 ds) St → St H' (Nn A fps'') → R J H') := by
    refine ⟨A, en, fps, st, g.imp (fun d en1 g v H1 ps fps1 a => ?_) fun _ _ _ g => g⟩
    have g : Got (match items (fz d) with | some ds => Res.ok (Pit.lst ds) en1 | none => .st) (fun p en' => Got (Res.ok (mkEnm p) en') (fun p en' => ∃ ds, p = .lst ds ∧ ∀ J St H' fps', AftN Γ H A fps σ H' en' fps' → JW Γ J ds St → St H' (Nn A fps') → R J H') (XW Γ Wx H A fps σ)) (XW Γ Wx H A fps σ) := g
    cases hi : items (fz d) with
    | none => rw [hi] at g; exact g.elim
    | some ds =>
      rw [hi] at g
      obtain ⟨ds', e1, g⟩ := g
      cases e1
      have a2 := a.fz (b := false) rfl
      obtain ⟨fp, r, ef⟩ := a2.one
      have ef : [[]] = [fp] := ef rfl
      cases ef
      have r : RO Γ H1 (Nn (Nn A [[]]) fps1) (fz d) v [] := r
      rw [nn_e] at r
      exact ⟨v, d, ds, en1, fps1, rfl, a2.toN, r, hi, g⟩
  refine Call_ (ld_blt I hg hm boot_enumerate (PyProof.Rows.callWith_type1 (thn ((pa_cons (he false) pa_nil (star_of hs)).run pos pins s σ H _ I key) fun us s1 ⟨vs, H1, I1, r1, v, d, ds, en', fps', ev, a, r, hi, q⟩ => ?_) (star_of hs) rfl))
  subst ev
  cases r1 with
  | @cons _ u _ us ru rr =>
    cases rr
    obtain ⟨xs, C, St, S, hS⟩ := src_of hi r
    obtain ⟨hC, _⟩ := S.2.1 _ _ hS
    obtain ⟨o, Hh, tn, B, hB, hsrc, h0⟩ := S.2.2 X pins σ H1 s1 u I1 O.K hC ru
    refine enum_begins1 B hB fun h' he hit hsz hk => wpAny_pyIter_enum he ?_
    have I2 : Inv X pins σ H1 { s1 with heap := h' } := I1.kept (t' := s1.toks) hk
    refine ⟨s1.heap.objs.size + 1, [s1.heap.objs.size + 1, s1.heap.objs.size], _, _, H1, rfl, I2, turn_enumS (hsrc s1.heap.objs.size), ⟨⟨.none, he⟩, h0 _ _ hit, Nat.zero_le _, Nat.succ_ne_self _⟩, fun b hb => ?_, q _ _ H1 fps' a (jw_enm S) hS⟩
    have e' : b = s1.heap.objs.size + 1 ∨ b = s1.heap.objs.size := by simpa using hb
    have hle : s1.heap.objs.size ≤ b := by
      rcases e' with z | z
      · rw [z]; exact Nat.le_add_right _ _
      · rw [z]; exact Nat.le_refl _
    exact I1.fpOk hle (I1.hok.fresh hle)⟩
theorem pi_zipQ (O : CtxOk P cf Γ Wx k c X) {elts : List Expr} {kk : Nat} {tpos p : Pos} (hg : Gl X "zip") (hm : X.mg "zip" = none) (hs : ∀ x p, pa ≠ .Starred x p) (hs2 : ∀ x p, pb ≠ .Starred x p) (ha : ∀ b, PE X pa ((tA P cf xc Γ Wx) b e1)) (hb : ∀ b, PE X pb ((tA P cf xc Γ Wx) b e2)) :
    PI X (.Tuple elts kk tpos) (.Call (.Name "zip" p) [pa, pb] [] pos) ((tI P cf xc Γ Wx) (.zip (.val e1) (.val e2))) := ⟨fun pins s σ H R I ⟨A, en, fps, st, g⟩ => by
  simp only [evIt] at g
  rw [got_bind, got_bind] at g
  have key : tCons ((tA P cf xc Γ Wx) false e1) (tCons ((tA P cf xc Γ Wx) false e2) tNil) σ H (fun vs H1 => ∃ v d ds w d2 es en' fps', vs = [v, w] ∧ AftN Γ H A fps σ H1 en' fps' ∧ RO Γ H1 (Nn A fps') (fz d) v [] ∧ items (fz d) = some ds ∧ RO Γ H1 (Nn A fps') (fz d2) w [] ∧ items (fz d2) = some es ∧
      ∀ J St H' fps'', AftN Γ H A fps σ H' en' fps'' → JW Γ J (zipL ds es) St → St H' (Nn A fps'') → R J H') := by
    refine ⟨A, en, fps, st, g.imp (fun d en1 g v H1 ps fps1 a => ?_) fun _ _ _ g => g⟩
    have g : Got (match items (fz d) with | some ds => Res.ok (Pit.lst ds) en1 | none => .st) (fun p en' => Got (((ev P cf xc false e2 en').bind fun d en => match items (fz d) with | some ds => Res.ok (Pit.lst ds) en | none => .st).bind fun q en => Res.ok (mkZip p q) en) (fun p en' => ∃ ds, p = .lst ds ∧ ∀ J St H' fps', AftN Γ H A fps σ H' en' fps' → JW Γ J ds St → St H' (Nn A fps') → R J H') (XW Γ Wx H A fps σ)) (XW Γ Wx H A fps σ) := g
    cases hi : items (fz d) with
    | none => rw [hi] at g; exact g.elim
    | some ds =>
      rw [hi] at g
      have g : Got (((ev P cf xc false e2 en1).bind fun d en => match items (fz d) with | some ds => Res.ok (Pit.lst ds) en | none => .st).bind fun q en => Res.ok (mkZip (.lst ds) q) en) (fun p en' => ∃ ds, p = .lst ds ∧ ∀ J St H' fps', AftN Γ H A fps σ H' en' fps' → JW Γ J ds St → St H' (Nn A fps') → R J H') (XW Γ Wx H A fps σ) := g
      rw [got_bind, got_bind] at g
      have a2 := a.fz (b := false) rfl
      obtain ⟨fp, r, ef⟩ := a2.one
      have ef : [[]] = [fp] := ef rfl
      cases ef
      have r : RO Γ H1 (Nn (Nn A [[]]) fps1) (fz d) v [] := r
      rw [nn_e] at r
      have st1 := a2.st1
      refine ⟨A, en1, fps1, st1, g.imp (fun d2 en2 g w H2 ps2 fps2 b => ?_) fun C ds2 en2 g cls dd H2 fps2 y => g _ _ _ _ (a2.toN.exc y)⟩
      have g : Got (match items (fz d2) with | some ds => Res.ok (Pit.lst ds) en2 | none => .st) (fun q en' => Got (Res.ok (mkZip (.lst ds) q) en') (fun p en' => ∃ ds, p = .lst ds ∧ ∀ J St H' fps', AftN Γ H A fps σ H' en' fps' → JW Γ J ds St → St H' (Nn A fps') → R J H') (XW Γ Wx H A fps σ)) (XW Γ Wx H A fps σ) := g
      cases hi2 : items (fz d2) with
      | none => rw [hi2] at g; exact g.elim
      | some es =>
        rw [hi2] at g
        obtain ⟨ds', e1, g⟩ := g
        cases e1
        have b2 := b.fz (b := false) rfl
        obtain ⟨fp, r2, ef⟩ := b2.one
        have ef : [[]] = [fp] := ef rfl
        cases ef
        have r2 : RO Γ H2 (Nn (Nn A [[]]) fps2) (fz d2) w [] := r2
        rw [nn_e] at r2
        have bN := b2.toN
        exact ⟨v, d, ds, w, d2, es, en2, fps2, rfl, a2.toN.trans bN, r.keep (st1.kp bN.fr) (fun a ha => nomatch ha), hi, r2, hi2, g⟩
  have hst : starEach [pa, pb] X.env = (false, eval pa X.env) :: starEach [pb] X.env := star_of hs
  refine Call_ (ld_blt I hg hm PyProof.Rows.boot_zip (PyProof.Rows.callWith_type1 (thn ((pa_cons (ha false) (pa_cons (hb false) pa_nil (star_of hs2)) (star_of hs)).run pos pins s σ H _ I key) fun us s1 ⟨vs, H1, I1, r1, v, d, ds, w, d2, es, en', fps', ev, a, r, hi, r2, hi2, q⟩ => ?_) hst (by
    rw [star_of hs2]; rfl)))
  subst ev
  cases r1 with
  | @cons _ u _ us ru rr =>
    cases rr with
    | @cons _ u2 _ us2 ru2 rr =>
      cases rr
      obtain ⟨xs, C, St, S, hS⟩ := src_of hi r
      obtain ⟨ys, C2, St2, S2, hS2⟩ := src_of hi2 r2
      obtain ⟨hC, _⟩ := S.2.1 _ _ hS
      obtain ⟨hC2, _⟩ := S2.2.1 _ _ hS2
      obtain ⟨o, Hh, tn, B, hB, hsrc, h0⟩ := S.2.2 X pins σ H1 s1 u I1 O.K hC ru
      obtain ⟨o2, Hh2, tn2, B2, hB2, hsrc2, h02⟩ := S2.2.2 X pins σ H1 s1 u2 I1 O.K hC2 ru2
      refine zip_begins2 B B2 hB hB2 fun h' hz hTI hTO h1 h2 hsz hk => wpAny_pyIter_zip hz ?_
      have I2 : Inv X pins σ H1 { s1 with heap := h' } := I1.kept (t' := s1.toks) hk
      have ne : ∀ i j : Nat, i ≠ j → s1.heap.objs.size + i ≠ s1.heap.objs.size + j := fun i j h z => h (Nat.add_left_cancel z)
      have ne0 : ∀ i : Nat, i ≠ 0 → s1.heap.objs.size + i ≠ s1.heap.objs.size := fun i h z => h (Nat.add_left_cancel (z.trans (Nat.add_zero _).symm))
      refine ⟨s1.heap.objs.size + 4, [s1.heap.objs.size + 4, s1.heap.objs.size + 2, s1.heap.objs.size + 3, s1.heap.objs.size, s1.heap.objs.size + 1], _, _, H1, rfl, I2,
        turn_zipS (hsrc s1.heap.objs.size) (hsrc2 (s1.heap.objs.size + 1)) (ne 2 4 (by decide)) (ne 3 4 (by decide)) (ne 2 3 (by decide)) (ne0 2 (by decide)) (ne 2 1 (by decide)) (ne0 4 (by decide)) (ne 4 1 (by decide)) (ne0 3 (by decide)) (ne 3 1 (by decide)) (Ne.symm (ne0 1 (by decide))),
        ⟨hz, hTI, ⟨_, _, hTO⟩, h0 _ _ h1, h02 _ _ h2, Nat.zero_le _, Nat.zero_le _⟩, fun b hb => ?_, q _ _ H1 fps' a (jw_zip S S2) ⟨hS, hS2⟩⟩
      have e' : b = s1.heap.objs.size + 4 ∨ b = s1.heap.objs.size + 2 ∨ b = s1.heap.objs.size + 3 ∨ b = s1.heap.objs.size ∨ b = s1.heap.objs.size + 1 := by simpa using hb
      have hle : s1.heap.objs.size ≤ b := by
        rcases e' with z | z | z | z | z
        · rw [z]; exact Nat.le_add_right _ _
        · rw [z]; exact Nat.le_add_right _ _
        · rw [z]; exact Nat.le_add_right _ _
        · rw [z]; exact Nat.le_refl _
        · rw [z]; exact Nat.le_add_right _ _
      exact I1.fpOk hle (I1.hok.fresh hle)⟩
end
end Q
end
section
set_option Elab.async false
set_option linter.all false
set_option autoImplicit false
set_option maxRecDepth 100000
namespace Q
open PySem PySem.Spec PyProof.Rows L2
section
variable {P : Prog} {cf : CF} {xc : Option (Nat × List D)} {Γ : Ga} {Wx : WX} {m : Nat → Bool} {k : Nat} {c : Cc} {X : Cx} {pe pa pb pc pk tg : Expr} {pes : List Expr} {e e1 e2 e3 ek : E} {es : List E} {path : List E} {s : S} {ss : List S} {pos : Pos} {st : Stmt} {sts : List Stmt}
theorem CtxOk.blk (O : CtxOk P cf Γ Wx k c X) (hh : c.hot = false) {s : Shared} {H : Hp} {C : Addr} {cl : List (Str × Addr)} {fp : List Addr} {scope : Scope} : CtxOk P cf Γ (fun _ _ _ _ => False) k (blkCc c scope) (X.blk s H scope (compEnvC scope cl C X.env) fp) :=
  ⟨O.N, O.nd, by
    show relabel scope X.env = _
    unfold relabel blkCc relabS Env.kindOf
    rw [O.sc], O.K, O.un, O.free, O.gls, fun x h => h, O.xi, fun _ => ⟨(O.cool hh).calm, (O.cool hh).room, (O.cool hh).xcn, (O.cool hh).fns, takes0, PassesOwn.never, (O.cool hh).k2, fun C h => ⟨((O.cool hh).rz C h).ox, ((O.cool hh).rz C h).nd, ((O.cool hh).rz C h).no, ((O.cool hh).rz C h).ini⟩⟩, O.clm, O.cls, (fun x h => by rw [(O.cool hh).xcn] at h; cases h), O.fld, O.nf, (fun h => Bool.noConfusion (show false = true from h)), ⟨O.hotf.room, O.hotf.fns⟩, (fun h => Bool.noConfusion (hh.symm.trans (show c.hot = true from h)))⟩
theorem wipe_sta (hx : Γ.xc = none) {H : Hp} {A : Addr → Prop} {σ : L2.St} : ∀ (ow : List Nat) {en : Env} {fps : List (List Addr)}, Sta Γ H A en σ fps → ∃ fps', Sta Γ H A (wipeE en ow) (wipe σ ow) fps' ∧ (∀ a, Own fps' a → Own fps a) ∧ fps' = ow.foldr (fun i f => f.set i []) fps := by
  intro ow
  induction ow with
  | nil => exact fun st => ⟨_, st, fun _ h => h, rfl⟩
  | cons i ow ih =>
    intro en fps st
    obtain ⟨f1, s1, h1, e1⟩ := ih st
    have w : ∀ a, Own (f1.set i []) a → Own f1 a := fun a h => by
      rcases own_set h with z | ⟨j, q, _, hj, hq⟩
      · cases z
      · exact ⟨j, q, hj, hq⟩
    have wl : (wipeE en ow).length = en.length := by
      clear s1 h1 e1 ih
      induction ow with
      | nil => rfl
      | cons j ow ih => rw [wipeE, List.length_set, ih]
    refine ⟨f1.set i [], ?_, fun a h => h1 a (w a h), by rw [List.foldr_cons, ← e1]⟩
    show Sta Γ H A ((wipeE en ow).set i none) ((wipe σ ow).set i none) _
    by_cases hi : i < (wipeE en ow).length
    · exact ⟨(RSs.set (o := none) (w := none) (fp := []) s1.rs hi rfl).weak fun a z => z.imp id (w a), s1.dj.set List.nodup_nil (fun a h => nomatch h), fun a h => s1.ap a (w a h), s1.dom, XO.cold hx⟩
    · have l := RSs.length s1.rs
      rw [List.set_eq_of_length_le (by omega), List.set_eq_of_length_le (by omega), List.set_eq_of_length_le (by omega)]
      exact s1
theorem wipe_staE (hx : Γ.xc = none) {H : Hp} {A : Addr → Prop} {σ : L2.St} : ∀ (ow : List Nat) {en : Env} {fps : List (List Addr)}, Sta Γ H A en σ fps → ∃ fps', Sta Γ H A (wipeE en ow) σ fps' ∧ (∀ a, Own fps' a → Own fps a) := by
  intro ow
  induction ow with
  | nil => exact fun st => ⟨_, st, fun _ h => h⟩
  | cons i ow ih =>
    intro en fps st
    obtain ⟨f1, s1, h1⟩ := ih st
    have w : ∀ a, Own (f1.set i []) a → Own f1 a := fun a h => by
      rcases own_set h with z | ⟨j, q, _, hj, hq⟩
      · cases z
      · exact ⟨j, q, hj, hq⟩
    refine ⟨f1.set i [], ?_, fun a h => h1 a (w a h)⟩
    show Sta Γ H A ((wipeE en ow).set i none) σ _
    have l := RSs.length s1.rs
    by_cases hi : i < σ.length
    · exact ⟨(RSs.setE (o := none) (w := σ[i]) (fp := []) s1.rs (by rw [List.getElem?_eq_getElem hi]) rfl).weak fun a z => z.imp id (w a), s1.dj.set List.nodup_nil (fun a h => nomatch h), fun a h => s1.ap a (w a h), s1.dom, XO.cold hx⟩
    · rw [List.set_eq_of_length_le (by omega), List.set_eq_of_length_le (by omega)]
      exact s1
theorem wipe_get {σ : L2.St} : ∀ (ow : List Nat) (i : Nat), (wipe σ ow)[i]? = if i ∈ ow then (if i < σ.length then some none else none) else σ[i]?
  | [], i => by simp [wipe]
  | j :: ow, i => by
    show ((wipe σ ow).set j none)[i]? = _
    rw [List.getElem?_set, wipe_get ow i, wipe_length]
    by_cases h : j = i
    · subst h; simp
    · rw [if_neg h]
      by_cases h2 : i ∈ ow
      · rw [if_pos h2, if_pos (List.mem_cons_of_mem _ h2)]
      · rw [if_neg h2, if_neg (fun z => (List.mem_cons.mp z).elim (fun e => h e.symm) h2)]
theorem wipe_idem {σ σ2 : L2.St} {ow : List Nat} (h : Stay (fun i => ow.contains i) (wipe σ ow) σ2) : wipe σ2 ow = wipe σ ow := by
  apply List.ext_getElem?
  intro i
  have l : σ2.length = σ.length := by rw [h.1, wipe_length]
  rw [wipe_get, wipe_get, l]
  by_cases hi : i ∈ ow
  · rw [if_pos hi, if_pos hi]
  · rw [if_neg hi, if_neg hi, h.2 i (by simpa using hi), wipe_get, if_neg hi]
def back (σ : L2.St) (τ : L2.St) : List Nat → L2.St
  | [] => τ
  | i :: is => (back σ τ is).set i ((σ[i]?).join)
theorem back_get {σ τ : L2.St} : ∀ (ow : List Nat) (i : Nat), τ.length = σ.length → (back σ τ ow).length = σ.length ∧ (back σ τ ow)[i]? = if i ∈ ow then σ[i]? else τ[i]?
  | [], i, h => ⟨h, by simp [back]⟩
  | j :: ow, i, h => by
    obtain ⟨l, g⟩ := back_get (σ := σ) (τ := τ) ow i h
    refine ⟨by rw [back, List.length_set, l], ?_⟩
    rw [back, List.getElem?_set, g, l]
    by_cases hj : j = i
    · subst hj
      rw [if_pos rfl, if_pos (show j ∈ j :: ow from List.mem_cons_self)]
      by_cases hl : j < σ.length
      · rw [if_pos hl, List.getElem?_eq_getElem hl]; rfl
      · rw [if_neg hl, List.getElem?_eq_none (by omega)]
    · rw [if_neg hj]
      by_cases h2 : i ∈ ow
      · rw [if_pos h2, if_pos (List.mem_cons_of_mem _ h2)]
      · rw [if_neg h2, if_neg (fun z => (List.mem_cons.mp z).elim (fun e => hj e.symm) h2)]
theorem back_wipe {σ : L2.St} {ow : List Nat} : back σ (wipe σ ow) ow = σ := by
  apply List.ext_getElem?
  intro i
  rw [(back_get ow i (wipe_length σ ow)).2, wipe_get]
  by_cases h : i ∈ ow
  · rw [if_pos h]
  · rw [if_neg h, if_neg h]
theorem restore_sta (hx : Γ.xc = none) {H : Hp} {A : Addr → Prop} {σ τ : L2.St} {old : Env} : ∀ (ow : List Nat) {en : Env} {fps : List (List Addr)}, Sta Γ H A en τ fps → τ.length = σ.length →
    (∀ i ∈ ow, ∀ d, get old i = some d → ∃ v, σ[i]? = some (some v) ∧ ∀ N, (∀ a, N a → Nn A fps a) → RO Γ H N d v []) →
    ∃ fps', Sta Γ H A (restore old en ow) (back σ τ ow) fps' ∧ (∀ a, Own fps' a → Own fps a) := by
  intro ow
  induction ow with
  | nil => exact fun st _ _ => ⟨_, st, fun _ h => h⟩
  | cons i ow ih =>
    intro en fps st hl hv
    obtain ⟨f1, s1, h1⟩ := ih st hl fun j hj => hv j (List.mem_cons_of_mem _ hj)
    have w : ∀ a, Own (f1.set i []) a → Own f1 a := fun a h => by
      rcases own_set h with z | ⟨j, q, _, hj, hq⟩
      · cases z
      · exact ⟨j, q, hj, hq⟩
    refine ⟨f1.set i [], ?_, fun a h => h1 a (w a h)⟩
    show Sta Γ H A ((restore old en ow).set i ((old[i]?).join)) ((back σ τ ow).set i ((σ[i]?).join)) _
    have l := RSs.length s1.rs
    by_cases hi : i < (restore old en ow).length
    · have hr : RS Γ H (fun a => A a ∨ Own f1 a) ((old[i]?).join) ((σ[i]?).join) [] := by
        cases ho : (old[i]?).join with
        | none => rfl
        | some d =>
          obtain ⟨v, e, r⟩ := hv i List.mem_cons_self d ho
          exact ⟨v, by rw [e]; rfl, r _ fun a z => z.imp id (h1 a)⟩
      exact ⟨(RSs.set s1.rs hi hr).weak fun a z => z.imp id (w a), s1.dj.set List.nodup_nil (fun a h => nomatch h), fun a h => s1.ap a (w a h), s1.dom, XO.cold hx⟩
    · rw [List.set_eq_of_length_le (by omega), List.set_eq_of_length_le (by omega), List.set_eq_of_length_le (by omega)]
      exact s1
def tConds (P : Prog) (cf : CF) (xc : Option (Nat × List D)) (Γ : Ga) : List E → TT
  | [] => tYes
  | [e] => tT P cf xc Γ (fun _ _ _ _ => False) true e
  | _ => fun _ _ _ => False
abbrev elF (P : Prog) (cf : CF) (xc : Option (Nat × List D)) (elt : E) : List D → Env → Res (List D) := fun acc en => (ev P cf xc false elt en).bind fun d en => if acc.length < LIM then .ok (acc ++ [d]) en else .st
abbrev turnF (P : Prog) (cf : CF) (xc : Option (Nat × List D)) (elt : E) (cs : List E) : List D → Env → Res (List D) := fun acc en => (evConds P cf xc cs en).bind fun b en => if b then elF P cf xc elt acc en else .ok acc en
structure Tn (Γ : Ga) (H0 : Hp) (A : Addr → Prop) (fps0 : List (List Addr)) (σw : L2.St) (L : Addr) (acc : List D) (H : Hp) (en : Env) (vs : List V) (gps fps : List (List Addr)) : Prop where
  sta : Sta Γ H (Nn A [L :: gps.flatten]) en σw fps
  at_ : H L = some (.lst vs)
  ro : ROs Γ H (Nn (Nn A [L :: gps.flatten]) fps) acc vs gps
  nd : (L :: gps.flatten).Nodup
  ap : ∀ a ∈ L :: gps.flatten, ¬ A a
  fr : Fr false H0 H (Own fps0) (Nn A fps0) (Nn (Nn A [L :: gps.flatten]) fps)
theorem Fr.wide {s : Bool} {H H' : Hp} {M M' O O1 O' : Addr → Prop} (f : Fr s H H' M O O1) (h : ∀ a, M a → M' a) (h' : ∀ a, O a → O' a) : Fr s H H' M' O' O1 := ⟨fun a u e z => f.keep a u e (z.imp id fun y z => y (h a z)), f.there, fun a z => (f.new a z).imp (h' a) id⟩
theorem compL_drop {α : Type} {bd : D → Env → Option Env} {turn : α → Env → Res α} {ds : List D} {i : Nat} {d : D} {acc : α} {en : Env} (h : ds[i]? = some d) : compL bd turn (ds.drop i) acc en = (match bd d en with
    | none => .st
    | some en1 => (turn acc en1).bind fun acc2 en2 => compL bd turn (ds.drop (i + 1)) acc2 en2) := by
  have : ds.drop i = d :: ds.drop (i + 1) := by
    obtain ⟨hi, e⟩ := List.getElem?_eq_some_iff.mp h
    rw [← e]
    exact List.drop_eq_getElem_cons hi
  rw [this, compL]
  cases bd d en with
  | none => rfl
  | some en1 =>
    show (match turn acc en1 with
      | .ok acc2 en2 => compL bd turn (ds.drop (i + 1)) acc2 en2
      | r => r) = (turn acc en1).bind fun acc2 en2 => compL bd turn (ds.drop (i + 1)) acc2 en2
    cases turn acc en1 <;> rfl
theorem Tn.grow {H0 H H2 : Hp} {A : Addr → Prop} {fps0 gps fps : List (List Addr)} {σw : L2.St} {L : Addr} {acc : List D} {en : Env} {vs : List V} (x : Tn Γ H0 A fps0 σw L acc H en vs gps fps) (k : ∀ a o, H a = some o → H2 a = some o) : Tn Γ H0 A fps0 σw L acc H2 en vs gps fps := by
  have th : ∀ a, H a ≠ none → H2 a ≠ none := fun a h => by
    obtain ⟨u, e⟩ := Option.ne_none_iff_exists'.mp h
    rw [k a u e]; simp
  exact ⟨⟨x.sta.rs.keep (Kp.grow0 k fun a z => .inl z) fun _ _ z => z, x.sta.dj, x.sta.ap, fun a z => th a (x.sta.dom a z), x.sta.xo.keep (Kp.grow0 k fun a z => .inl z)⟩, k _ _ x.at_, x.ro.keep (Kp.grow0 k fun a z => .inl z) fun _ _ z => z, x.nd, x.ap, ⟨fun a u e z => k a u (x.fr.keep a u e z), fun a h => th a (x.fr.there a h), x.fr.new⟩⟩
theorem Tn.done (hx : Γ.xc = none) {H0 H : Hp} {A : Addr → Prop} {fps0 gps fps : List (List Addr)} {σ : L2.St} {L : Addr} {acc : List D} {en0 en : Env} {vs : List V} {ow : List Nat} (st : Sta Γ H0 A en0 σ fps0) (ho : okOwn en0 ow = true) (x : Tn Γ H0 A fps0 (wipe σ ow) L acc H (wipeE en ow) vs gps fps) :
    ∃ fps', Aft Γ false false H0 A fps0 σ [.lst true acc] [.ref L] H (restore en0 (wipeE en ow) ow) [L :: gps.flatten] fps' := by
  have kp : Kp H0 H (Own fps0) (Nn A fps0) (Nn (Nn A [L :: gps.flatten]) fps) := st.kp x.fr
  obtain ⟨f2, s2, h2⟩ := restore_sta hx (old := en0) (σ := σ) ow x.sta (wipe_length σ ow) fun i hi d hd => by
    obtain ⟨v, fp, e, ef, r⟩ := RSs.at st.rs hd
    have hn : own d = false := by
      unfold okOwn at ho
      have := List.all_eq_true.mp ho i hi
      rw [hd] at this
      simpa using this
    have e0 := r.noOwn hn
    subst e0
    exact ⟨v, e, fun N hN => (r.keep kp fun a ha => nomatch ha).weak hN⟩
  rw [back_wipe] at s2
  have w : ∀ a, Nn (Nn A [L :: gps.flatten]) f2 a → Nn (Nn A [L :: gps.flatten]) fps a := fun a z => z.imp id (h2 a)
  refine ⟨f2, s2, ⟨[L :: gps.flatten], fun _ => rfl, ⟨L, vs, gps, rfl, x.at_, x.ro.weak w, rfl⟩, True.intro⟩, Dj.cons.mpr ⟨x.nd, fun a _ => own_nil, Dj.nil⟩, fun a ha => x.ap a ?_, x.fr.weakNew w⟩
  exact (own_cons.mp ha).elim id fun z => absurd z own_nil
end
end Q
end
section
set_option Elab.async false
set_option linter.all false
set_option autoImplicit false
set_option maxRecDepth 100000
namespace Q
open PySem PySem.Spec PyProof.Rows L2
section
variable {P : Prog} {cf : CF} {xc : Option (Nat × List D)} {Γ : Ga} {Wx : WX} {m : Nat → Bool} {k : Nat} {c : Cc} {X : Cx} {t : T} {it : It} {cs : List E} {elt key : E} {ow : List Nat} {b : Bool}
theorem Tn.step {H0 H H2 : Hp} {A : Addr → Prop} {fps0 gps fps fps2 : List (List Addr)} {σ3 : L2.St} {L : Addr} {acc : List D} {en en2 : Env} {vs : List V} (x : Tn Γ H0 A fps0 σ3 L acc H en vs gps fps) (a : AftN Γ H (Nn A [L :: gps.flatten]) fps σ3 H2 en2 fps2) : Tn Γ H0 A fps0 σ3 L acc H2 en2 vs gps fps2 := by
  have kp := x.sta.kp a.fr
  have hL : Own [L :: gps.flatten] L := own_one.mpr List.mem_cons_self
  have olds : ∀ b, Own fps b → Own fps0 b ∨ H0 b = none := fun b h => by
    rcases x.fr.new b (.inr h) with (z | z) | z
    · exact absurd (Or.inl z) (x.sta.ap b h)
    · exact .inl z
    · exact .inr z
  exact ⟨a.sta, kp.keep _ _ x.at_ fun z => x.sta.ap L z (.inr hL), x.ro.keep kp fun b hb z => x.sta.ap b z (.inr (own_one.mpr (List.mem_cons_of_mem _ hb))), x.nd, x.ap, (x.fr.trans a.fr olds).less (s' := false) fun z => nomatch z⟩
theorem turn_ok (hx : Γ.xc = none) {H0 H : Hp} {A : Addr → Prop} {fps0 gps fps : List (List Addr)} {σw σ3 : L2.St} {L : Addr} {acc : List D} {en : Env} {vs : List V} {St : Hp → (Addr → Prop) → Prop} (hcs : cs = [] ∨ ∃ e, cs = [e]) (hw : wipe σ3 ow = σw)
    (kpS : ∀ H H' M N N', St H N → Kp H H' M N N' → St H' N')
    (x : Tn Γ H0 A fps0 σ3 L acc H en vs gps fps) (hS : St H (Nn (Nn A [L :: gps.flatten]) fps)) {K : List D → Env → Prop} (g : Got (turnF P cf xc elt cs acc en) K (fun _ _ _ => False)) {Nx : Hp → Prop}
    (hN : ∀ acc' en' vs' gps' fps' H', K acc' en' → Tn Γ H0 A fps0 σw L acc' H' (wipeE en' ow) vs' gps' fps' → St H' (Nn (Nn A [L :: gps'.flatten]) fps') → Nx H') :
    tConds P cf xc Γ cs σ3 H fun b H3 => if b = true then tA P cf xc Γ WF false elt σ3 H3 fun y H4 => ∃ acc, H4 L = some (.lst acc) ∧ acc.length < sizeLine ∧ Nx (upd H4 L (.lst (acc ++ [y]))) else Nx H3 := by
  
  have skip : ∀ {en2 : Env} {H2 : Hp} {fps2 : List (List Addr)}, K acc en2 → Tn Γ H0 A fps0 σ3 L acc H2 en2 vs gps fps2 → St H2 (Nn (Nn A [L :: gps.flatten]) fps2) → Nx H2 := fun {en2 H2 fps2} hk x2 s2 => by
    obtain ⟨f3, s3, h3, _⟩ := wipe_sta hx ow x2.sta
    rw [hw] at s3
    have w : ∀ a, Nn (Nn A [L :: gps.flatten]) f3 a → Nn (Nn A [L :: gps.flatten]) fps2 a := fun a z => z.imp id (h3 a)
    exact hN acc en2 vs gps f3 H2 hk ⟨s3, x2.at_, x2.ro.weak w, x2.nd, x2.ap, x2.fr.weakNew w⟩ (kpS _ _ _ _ _ s2 (Kp.id w))
  
  have item : ∀ {en2 : Env} {H2 : Hp} {fps2 : List (List Addr)}, Got (elF P cf xc elt acc en2) K (fun _ _ _ => False) → Tn Γ H0 A fps0 σ3 L acc H2 en2 vs gps fps2 → St H2 (Nn (Nn A [L :: gps.flatten]) fps2) →
      tA P cf xc Γ WF false elt σ3 H2 fun y H4 => ∃ acc, H4 L = some (.lst acc) ∧ acc.length < sizeLine ∧ Nx (upd H4 L (.lst (acc ++ [y]))) := fun {en2 H2 fps2} g x2 s2 => by
    have g : Got ((ev P cf xc false elt en2).bind fun d en => if acc.length < LIM then .ok (acc ++ [d]) en else .st) K (fun _ _ _ => False) := g
    rw [got_bind] at g
    refine ⟨_, en2, fps2, x2.sta, g.imp (fun d en3 g v H3 ps fps3 a => ?_) fun _ _ _ z => z.elim⟩
    obtain ⟨p, r, ep⟩ := a.one
    have ep := ep rfl
    subst ep
    have kp := x2.sta.kp a.fr
    have hL : Own [L :: gps.flatten] L := own_one.mpr List.mem_cons_self
    have atL : H3 L = some (.lst vs) := kp.keep _ _ x2.at_ fun z => x2.sta.ap L z (.inr hL)
    have nO : ∀ a ∈ gps.flatten, ¬ Own fps2 a := fun b hb z => x2.sta.ap b z (.inr (own_one.mpr (List.mem_cons_of_mem _ hb)))
    have ro3 := x2.ro.keep kp nO
    split at g
    · rename_i hlen
      refine ⟨vs, atL, by rw [x2.ro.length.1]; exact Nat.lt_of_lt_of_le hlen LIM_line, ?_⟩
      have eA : Nn A [L :: (gps ++ [p]).flatten] = Nn (Nn A [L :: gps.flatten]) [p] := by
        funext b
        refine propext ⟨fun z => ?_, fun z => ?_⟩
        · rcases z with z | z
          · exact .inl (.inl z)
          · rcases List.mem_cons.mp (own_one.mp z) with rfl | z
            · exact .inl (.inr hL)
            · rw [List.flatten_append, List.mem_append] at z
              rcases z with z | z
              · exact .inl (.inr (own_one.mpr (List.mem_cons_of_mem _ z)))
              · exact .inr (own_one.mpr (by simpa using z))
        · rcases z with (z | z) | z
          · exact .inl z
          · rcases List.mem_cons.mp (own_one.mp z) with rfl | z
            · exact .inr (own_one.mpr List.mem_cons_self)
            · exact .inr (own_one.mpr (List.mem_cons_of_mem _ (by rw [List.flatten_append]; exact List.mem_append_left _ z)))
          · exact .inr (own_one.mpr (List.mem_cons_of_mem _ (by rw [List.flatten_append]; exact List.mem_append_right _ (by simpa using own_one.mp z))))
      have LA : Nn (Nn A [L :: gps.flatten]) [p] L := .inl (.inr hL)
      have kL : ∀ N, (∀ b, N b → Nn (Nn (Nn A [L :: gps.flatten]) [p]) fps3 b) → Kp H3 (upd H3 L (.lst (vs ++ [v]))) (· = L) (Nn (Nn (Nn A [L :: gps.flatten]) [p]) fps3) N := fun N hN => ⟨fun b u e n => by rw [upd_ne n]; exact e, fun b e => ⟨vs, by rw [e]; exact atL⟩, fun b e => by rw [e]; exact .inl LA, fun b z => .inl (hN b z)⟩
      have K1 := kL _ fun _ z => z
      have Lp : L ∉ p := fun z => a.ap L (own_one.mpr z) (.inr hL)
      have Lg : L ∉ gps.flatten := (List.nodup_cons.mp x2.nd).1
      have th : ∀ b, H3 b ≠ none → upd H3 L (.lst (vs ++ [v])) b ≠ none := fun b h => by
        by_cases e : b = L
        · rw [e, upd_same]; simp
        · rw [upd_ne e]; exact h
      have st5 : Sta Γ (upd H3 L (.lst (vs ++ [v]))) (Nn A [L :: (gps ++ [p]).flatten]) en3 σ3 fps3 := by
        rw [eA]
        exact ⟨a.sta.rs.keep K1 fun b hb z => a.sta.ap b (own_flat.mp hb) (by rw [z]; exact LA), a.sta.dj, a.sta.ap, fun b z => th b (a.sta.dom b z), XO.cold hx⟩
      have ro5 : ROs Γ (upd H3 L (.lst (vs ++ [v]))) (Nn (Nn A [L :: (gps ++ [p]).flatten]) fps3) (acc ++ [d]) (vs ++ [v]) (gps ++ [p]) := by
        rw [eA]
        refine (ro3.append (ds' := [d]) (vs' := [v]) (fps' := [p]) ⟨r, True.intro⟩).keep K1 fun b hb z => ?_
        subst z
        rw [List.flatten_append, List.mem_append] at hb
        rcases hb with hb | hb
        · exact Lg hb
        · exact Lp (by simpa using hb)
      obtain ⟨f5, s5, h5, _⟩ := wipe_sta hx ow st5
      rw [hw] at s5
      have w : ∀ b, Nn (Nn A [L :: (gps ++ [p]).flatten]) f5 b → Nn (Nn A [L :: (gps ++ [p]).flatten]) fps3 b := fun b z => z.imp id (h5 b)
      have olds : ∀ b, Own fps2 b → Own fps0 b ∨ H0 b = none := fun b h => by
        rcases x2.fr.new b (.inr h) with (z | z) | z
        · exact absurd (Or.inl z) (x2.sta.ap b h)
        · exact .inl z
        · exact .inr z
      have f1 : Fr false H0 H3 (Own fps0) (Nn A fps0) (Nn (Nn (Nn A [L :: gps.flatten]) [p]) fps3) := (x2.fr.trans a.fr olds).less (s' := false) fun z => nomatch z
      have f2 : Fr false H0 (upd H3 L (.lst (vs ++ [v]))) (Own fps0) (Nn A fps0) (Nn (Nn A [L :: (gps ++ [p]).flatten]) f5) := by
        refine ⟨fun b u e z => ?_, fun b h => th b (f1.there b h), fun b z => f1.new b (by rw [← eA]; exact w b z)⟩
        have hb : b ≠ L := fun q => by
          subst q
          rcases z with z | z
          · cases z
          · rcases x2.fr.new b (.inl (.inr hL)) with (y | y) | y
            · exact x2.ap b List.mem_cons_self y
            · exact z y
            · rw [e] at y; cases y
        rw [upd_ne hb]
        exact f1.keep b u e z
      have nd5 : (L :: (gps ++ [p]).flatten).Nodup := by
        rw [List.nodup_cons]
        refine ⟨fun z => ?_, nodup_app1 (List.nodup_cons.mp x2.nd).2 (a.dj.one 0 p rfl) fun b hb hp => a.ap b (own_one.mpr hp) (.inr (own_one.mpr (List.mem_cons_of_mem _ hb)))⟩
        rw [List.flatten_append, List.mem_append] at z
        exact z.elim Lg fun z => Lp (by simpa using z)
      have ap5 : ∀ b ∈ L :: (gps ++ [p]).flatten, ¬ A b := fun b hb => by
        rcases List.mem_cons.mp hb with rfl | hb
        · exact x2.ap b List.mem_cons_self
        · rw [List.flatten_append, List.mem_append] at hb
          rcases hb with hb | hb
          · exact x2.ap b (List.mem_cons_of_mem _ hb)
          · exact fun z => a.ap b (own_one.mpr (by simpa using hb)) (.inl z)
      have S3 : St H3 (Nn (Nn (Nn A [L :: gps.flatten]) [p]) fps3) := kpS _ _ _ _ _ s2 kp
      exact hN (acc ++ [d]) en3 (vs ++ [v]) (gps ++ [p]) f5 _ g ⟨s5, upd_same, ro5.weak w, nd5, ap5, f2⟩ (kpS _ _ _ _ _ S3 (kL _ fun b z => by rw [← eA]; exact w b z))
    · exact g.elim
  rcases hcs with rfl | ⟨e, rfl⟩
  · have g : Got ((evConds P cf xc [] en).bind fun b en => if b then elF P cf xc elt acc en else .ok acc en) K (fun _ _ _ => False) := g
    rw [evConds] at g
    exact item g x hS
  · have g : Got ((evConds P cf xc [e] en).bind fun b en => if b then elF P cf xc elt acc en else .ok acc en) K (fun _ _ _ => False) := g
    rw [evConds, got_bind, got_bind] at g
    refine ⟨_, en, fps, x.sta, g.imp (fun d en2 g v H2 ps fps2 a => ?_) fun _ _ _ z => z.elim⟩
    have aN := a.toN
    have x2 := x.step aN
    have s2 : St H2 (Nn (Nn A [L :: gps.flatten]) fps2) := kpS _ _ _ _ _ hS (x.sta.kp aN.fr)
    cases hd : truthy d with
    | true =>
      rw [hd] at g
      have g : Got (elF P cf xc elt acc en2) K (fun _ _ _ => False) := by
        rw [if_pos rfl, evConds] at g
        exact g
      exact item g x2 s2
    | false =>
      rw [hd] at g
      exact skip g x2 s2
theorem lc_ok (hx : Γ.xc = none) (hcs : cs = [] ∨ ∃ e, cs = [e]) (how : ow = slotsG [.mk t it cs]) (hl : ∀ en p en', evIt P cf xc it en = .ok p en' → ∃ ds, p = .lst ds) (σ : L2.St) (H : Hp) (Q : VK) (h : tA P cf xc Γ Wx b (.comp .list key elt [.mk t it cs] ow) σ H Q) :
    tLc (tI P cf xc Γ Wx it) (tGt Γ (fun i => ow.contains i) t) (tConds P cf xc Γ cs) (tA P cf xc Γ WF false elt) ow σ H Q := by
  obtain ⟨A, en, fps, st, g⟩ := h
  rw [ev] at g
  split at g
  · rename_i ho
    rw [got_bind, got_bind] at g
    have g := got_calm (x' := fun _ _ _ => False) g
    have g : Got (evGo P cf xc (elF P cf xc elt) [.mk t it cs] [] (wipeE en ow)) (fun acc en' => ∀ v H' ps fps', Aft Γ b false H A fps σ [.lst true acc] [v] H' (restore en (wipeE en' ow) ow) ps fps' → Q v H') (fun _ _ _ => False) := g
    rw [evGo, got_bind, ← how] at g
    obtain ⟨f0, st0, o0⟩ := wipe_staE hx ow st
    refine ⟨A, wipeE en ow, f0, st0, ?_⟩
    cases hp : evIt P cf xc it (wipeE en ow) with
    | st => rw [hp] at g; exact g
    | ex _ _ _ => rw [hp] at g; exact g.elim
    | ok p en1 =>
      rw [hp] at g
      obtain ⟨ds, e⟩ := hl _ _ _ hp
      subst e
      refine ⟨ds, rfl, fun J St H1 fps1 a1 jw hS L hL => ?_⟩
      have g : Got (compL (fun d en => bindT t d (wipeE en ow)) (turnF P cf xc elt cs) (ds.drop 0) [] en1) (fun acc en' => ∀ v H' ps fps', Aft Γ b false H A fps σ [.lst true acc] [v] H' (restore en (wipeE en' ow) ow) ps fps' → Q v H') (fun _ _ _ => False) := g
      obtain ⟨f2, s2, h2, _⟩ := wipe_sta hx ow a1.sta
      have fr1 : Fr false H H1 (Own fps) (Nn A fps) (Nn A f2) := (a1.fr.wide o0 fun b z => z.imp id (o0 b)).weakNew fun b z => z.imp id (h2 b)
      have mk := (Aft.nil (b := false) (s := false) s2).mkLst hL
      refine ⟨fun i n H' => n = ds.length - i ∧ ∃ acc en' vs gps fps', Tn Γ H A fps (wipe σ ow) L acc H' (wipeE en' ow) vs gps fps' ∧ St H' (Nn (Nn A [L :: gps.flatten]) fps') ∧
        Got (compL (fun d en => bindT t d (wipeE en ow)) (turnF P cf xc elt cs) (ds.drop i) acc en') (fun acc en' => ∀ v H' ps fps', Aft Γ b false H A fps σ [.lst true acc] [v] H' (restore en (wipeE en' ow) ow) ps fps' → Q v H') (fun _ _ _ => False), ⟨_, rfl, [], en1, [], [], f2, ?_, ?_, g⟩, ?_⟩
      · have eA : Nn A [L :: ([] : List (List Addr)).flatten] = Nn A [[L]] := rfl
        refine ⟨mk.sta, upd_same, True.intro, by simp, fun b hb => ?_, ?_⟩
        · exact mk.ap b (own_one.mpr hb)
        · have st2 : Sta Γ H1 (Nn A []) (wipeE en1 ow) (wipe σ ow) f2 := by rw [nn_nil]; exact s2
          exact (Fr.chain st2 (by rw [nn_nil]; exact fr1) (s2 := false) (by rw [nn_nil]; exact mk.fr)).less (s' := false) fun z => nomatch z
      · refine jw.keep _ _ _ _ _ (jw.keep _ _ _ _ _ hS (Kp.id (N' := Nn A f2) fun b z => z.imp id (h2 b))) (Kp.grow0 (new_keep hL) fun b z => mk.fr.new b z)
      · rintro i n H' ⟨hn, acc, en', vs, gps, fps', x, hS', g'⟩
        cases hd : ds[i]? with
        | none =>
          left
          refine ⟨jw.stop i H' _ hS' hd, ?_⟩
          rw [List.drop_eq_nil_of_le (List.getElem?_eq_none_iff.mp hd), compL] at g'
          obtain ⟨f3, y⟩ := x.done hx st ho
          exact g' (.ref L) H' _ f3 y.anyB
        | some d =>
          right
          have hlt : i < ds.length := (List.getElem?_eq_some_iff.mp hd).1
          rw [compL_drop hd] at g'
          refine ⟨jw.go i H' _ d hS' hd, fun H'' => ∃ acc en' vs gps fps', Tn Γ H A fps (wipe σ ow) L acc H'' (wipeE en' ow) vs gps fps' ∧ St H'' (Nn (Nn A [L :: gps.flatten]) fps') ∧
            Got (compL (fun d en => bindT t d (wipeE en ow)) (turnF P cf xc elt cs) (ds.drop (i + 1)) acc en') (fun acc en' => ∀ v H' ps fps', Aft Γ b false H A fps σ [.lst true acc] [v] H' (restore en (wipeE en' ow) ow) ps fps' → Q v H') (fun _ _ _ => False),
            fun H'' h => ⟨_, by rw [hn]; omega, rfl, h⟩, fun xv H2 hy => ?_⟩
          obtain ⟨kp, r⟩ := jw.yld i H' _ d xv H2 hS' hd hy
          have x2 := x.grow kp
          have hS2 : St H2 (Nn (Nn A [L :: gps.flatten]) fps') := jw.keep _ _ _ _ _ hS' (Kp.grow0 kp fun a z => .inl z)
          cases hb : bindT t d (wipeE en' ow) with
          | none => rw [hb] at g'; exact g'.elim
          | some en3 =>
            rw [hb] at g'
            have g' : Got ((turnF P cf xc elt cs acc en3).bind fun acc2 en2 => compL (fun d en => bindT t d (wipeE en ow)) (turnF P cf xc elt cs) (ds.drop (i + 1)) acc2 en2) (fun acc en' => ∀ v H' ps fps', Aft Γ b false H A fps σ [.lst true acc] [v] H' (restore en (wipeE en' ow) ow) ps fps' → Q v H') (fun _ _ _ => False) := g'
            rw [got_bind] at g'
            refine ⟨_, wipeE en' ow, fps', d, [], by rw [nn_e]; exact x2.sta, by rw [nn_e]; exact r, List.nodup_nil, (fun a ha => nomatch ha), en3, hb, fun σ3 fps3 s3 w3 y3 => ?_⟩
            rw [nn_e] at w3
            have hw := wipe_idem y3
            have x3 : Tn Γ H A fps σ3 L acc H2 en3 vs gps fps3 := ⟨s3, x2.at_, x2.ro.weak w3, x2.nd, x2.ap, x2.fr.weakNew w3⟩
            exact ⟨hw, turn_ok hx hcs hw jw.keep x3 (jw.keep _ _ _ _ _ hS2 (Kp.id w3)) g' fun acc' en4 vs' gps' f4 H4 hk x4 s4 => ⟨acc', en4, vs', gps', f4, x4, s4, hk⟩⟩
  · exact g.elim
end
end Q
end
section
set_option Elab.async false
set_option linter.all false
set_option autoImplicit false
set_option maxRecDepth 100000
namespace Q
open PySem PySem.Spec PyProof.Rows L2
section
variable {P : Prog} {cf : CF} {xc : Option (Nat × List D)} {Γ : Ga} {Wx : WX} {k : Nat} {c : Cc} {X : Cx} {t : T} {it : It} {cs : List E} {elt key : E} {ow : List Nat} {b : Bool} {pe tg iter : Expr} {ifs : List Expr} {scope : Scope} {own : List (Str × Nat)} {pos : Pos}
theorem pe_lcQ (O : CtxOk P cf Γ Wx k c X) (hh : c.hot = false) (hcs : cs = [] ∨ ∃ e, cs = [e]) (how : ow = slotsG [.mk t it cs]) (hl : ∀ en p en', evIt P cf xc it en = .ok p en' → ∃ ds, p = .lst ds) (hown : own.map (·.2) = ow) (hb : blkC c.N c.sc scope own = true)
    (hi : PI X tg iter (tI P cf xc Γ Wx it)) (hs : ∀ x, foldedSetIterable iter X.env x = pure x)
    (hg : ∀ X', CtxOk P cf Γ WF k (blkCc c scope) X' → PG X' tg (tGt Γ (fun i => ow.contains i) t))
    (ht : ∀ X', CtxOk P cf Γ WF k (blkCc c scope) X' → PTs X' ifs (tConds P cf xc Γ cs))
    (he : ∀ X', CtxOk P cf Γ WF k (blkCc c scope) X' → PE X' pe (tA P cf xc Γ WF false elt)) :
    PE X (.ListComp pe [⟨tg, iter, ifs, 0⟩] scope pos) (tA P cf xc Γ Wx b (.comp .list key elt [.mk t it cs] ow)) := by
  have ok : BlkOk X.N X.env.scope scope own := by rw [O.N, O.sc]; exact blkOk_by hb
  refine (pe_lc (O.cool hh).calm O.nd hi ok (fun s H C cl fp => hg _ (O.blk hh)) (fun s H C cl fp => ht _ (O.blk hh)) (fun s H C cl fp => he _ (O.blk hh)) hs).imp fun σ H Q h => ?_
  rw [hown]
  exact lc_ok (O.cool hh).xcn hcs how hl σ H Q h
theorem ps_setLcQ {m : Nat → Bool} {i : Nat} {y : Str} {py spos : Pos} (O : CtxOk P cf Γ Wx k c X) (hh : c.hot = false) (hyl : c.sc.names.lookup y = some .local) (hy : ckL c m i y = true) (hsw : swapsWith (.ListComp pe [⟨tg, iter, ifs, 0⟩] scope pos) (some (.Name y py)) spos.line X.env = pure true)
    (hcs : cs = [] ∨ ∃ e, cs = [e]) (how : ow = slotsG [.mk t it cs]) (hl : ∀ en p en', evIt P cf xc it en = .ok p en' → ∃ ds, p = .lst ds) (hown : own.map (·.2) = ow) (hb : blkC c.N c.sc scope own = true)
    (hi : PI X tg iter (tI P cf xc Γ Wx it)) (hs : ∀ x, foldedSetIterable iter X.env x = pure x)
    (hg : ∀ X', CtxOk P cf Γ WF k (blkCc c scope) X' → PG X' tg (tGt Γ (fun i => ow.contains i) t))
    (ht : ∀ X', CtxOk P cf Γ WF k (blkCc c scope) X' → PTs X' ifs (tConds P cf xc Γ cs))
    (he : ∀ X', CtxOk P cf Γ WF k (blkCc c scope) X' → PE X' pe (tA P cf xc Γ WF false elt)) :
    PS X (.Assign [.Name y py] (.ListComp pe [⟨tg, iter, ifs, 0⟩] scope pos) spos) (tAsg (tA P cf xc Γ Wx false (.comp .list key elt [.mk t it cs] ow)) (gName i)) := by
  have ok : BlkOk X.N X.env.scope scope own := by rw [O.N, O.sc]; exact blkOk_by hb
  obtain ⟨h1, h2, h2', h3, hxi⟩ := O.l hy
  have hyl : X.env.scope.names.lookup y = some .local := by rw [O.sc]; exact hyl
  refine (ps_setLc (O.cool hh).calm O.nd h1 hyl hsw hi ok (fun s H C cl fp => hg _ (O.blk hh)) (fun s H C cl fp => ht _ (O.blk hh)) (fun s H C cl fp => he _ (O.blk hh)) hs).imp fun D σ H h => ?_
  show tLc _ _ _ _ _ σ H _
  rw [hown]
  exact lc_ok (O.cool hh).xcn hcs how hl σ H _ h
end
end Q
end
section
set_option Elab.async false
set_option linter.all false
set_option autoImplicit false
set_option maxRecDepth 100000
set_option maxHeartbeats 4000000
namespace Q
open PySem PySem.Spec PyProof.Rows L2
section
variable {P : Prog} {cf : CF} {xc : Option (Nat × List D)} {Γ : Ga} {Wx : WX} {k : Nat} {c : Cc} {X : Cx} {pa pb pc : Expr} {pes : List Expr} {a e e' : E} {es : List E} {b : Bool} {pos : Pos}
def Both (P : Prog) (cf : CF) (xc : Option (Nat × List D)) (Γ : Ga) (Wx : WX) (X : Cx) (pe : Expr) (e : E) : Prop := (∀ b, PE X pe (tA P cf xc Γ Wx b e)) ∧ ∀ b, PT X pe (tT P cf xc Γ Wx b e)
theorem Both.of (O : CtxOk P cf Γ Wx k c X) {pe : Expr} {e : E} (hv : valT pe = true) (h : ∀ b, PE X pe ((tA P cf xc Γ Wx) b e)) : (Both P cf xc Γ Wx X) pe e := ⟨h, fun b => pt_anyQ O.K (h b) fun w => valT_of hv w⟩
theorem bootT {t : Ty} (h : (tyN t).isSome = true) : ∃ n, tyN t = some n ∧ bootBuiltins (tyS t) = some (.type n) := by
  cases t <;> first | (cases h; done) | skip
  all_goals exact ⟨_, rfl, by decide +kernel⟩
theorem CtxOk.ty (O : CtxOk P cf Γ Wx k c X) {t : Ty} (hb : ckB c (tyS t) = true) (h : (tyN t).isSome = true) : ∃ n, tyN t = some n ∧ ∀ p, PE X (.Name (tyS t) p) (tC (.ty n)) := by
  obtain ⟨n, h1, h2⟩ := bootT h
  obtain ⟨g1, g2, g3, g4⟩ := O.bi hb
  exact ⟨n, h1, fun p => pe_bltn g1 g2 h2 rfl g3 g4⟩
theorem tys_ok (O : CtxOk P cf Γ Wx k c X) : ∀ {ts : List Ty} {pes : List Expr}, ckTys c ts pes = true → ∃ ks : List String, ts.map tyN = ks.map some ∧ PA X pes (tTys ks)
  | [], [], _ => ⟨[], rfl, pa_tys0⟩
  | t :: ts, p :: ps, h => by
    unfold ckTys at h
    rw [Bool.and_eq_true] at h
    obtain ⟨h1, h2⟩ := h
    split at h1
    · simp only [Bool.and_eq_true, decide_eq_true_eq, Bool.not_eq_true'] at h1
      obtain ⟨⟨h3, h4⟩, h5⟩ := h1
      subst h4
      obtain ⟨n, e1, e2⟩ := O.ty h3 h5
      obtain ⟨ks, e3, e4⟩ := tys_ok O h2
      exact ⟨n :: ks, by simp [e1, e3], pa_tysC (fun _ _ z => nomatch z) (e2 _) e4⟩
    · cases h1
  | [], _ :: _, h => by simp [ckTys] at h
  | _ :: _, [], h => by simp [ckTys] at h
theorem const_ok {d : D} {kk : Const} {j : Nat} (h : ckC d kk = true) : PE X (.Constant kk j pos) ((tA P cf xc Γ Wx) b (.c d)) := by
  unfold ckC at h
  split at h
  · exact pe_cQ pe_non (fun _ _ => ⟨rfl, rfl⟩) rfl
  · have e := eq_of_beq h
    subst e
    exact pe_cQ pe_bl (fun _ _ => ⟨rfl, rfl⟩) rfl
  · have e := of_decide_eq_true h
    subst e
    exact pe_cQ pe_int (fun _ _ => ⟨rfl, rfl⟩) rfl
  · rw [Bool.and_eq_true] at h
    have e := of_decide_eq_true h.1
    have l := of_decide_eq_true h.2
    subst e
    exact pe_cQ pe_str (fun _ _ => ⟨rfl, Nat.le_trans l LIM_line, rfl⟩) rfl
  · cases h
theorem tP_of {lo : E} (h : ∀ b, PE X pa ((tA P cf xc Γ Wx) b lo)) (hn : lo ≠ .c .non) : PO X (some pa) (tP P cf xc Γ Wx lo) := by
  unfold tP
  split
  · exact absurd rfl hn
  · exact po_some (h false)
theorem test_cmp {pops : List CmpOp} {pes : List Expr} (O : CtxOk P cf Γ Wx k c X) {e : E} {t : TE} (h : PT X (.Compare pa pops pes pos) (tTest t)) (i : ∀ σ H Q, (tA P cf xc Γ Wx) b e σ H Q → t σ H Q)
    (hb : ∀ en d en', ev P cf xc b e en = .ok d en' → ∃ k, d = .bl k) : PT X (.Compare pa pops pes pos) ((tT P cf xc Γ Wx) b e) :=
  h.imp fun σ H Q ⟨A, en, fps, st, g⟩ => i σ H _ ⟨A, en, fps, st, by
    cases hr : ev P cf xc b e en with
    | st => rw [hr] at g; exact g
    | ex _ _ _ => rw [hr] at g; exact g
    | ok d en' =>
      rw [hr] at g
      intro v H' ps fps' a
      obtain ⟨k, e1⟩ := hb _ _ _ hr
      subst e1
      obtain ⟨fp, r, _⟩ := a.one
      exact ⟨k, r.1, g v H' ps fps' a⟩⟩
theorem cmp_bool {o : Cmp} {a e : E} {en en' : Env} {d : D} (h : ev P cf xc b (.cmp o a e) en = .ok d en') : ∃ k, d = .bl k := by
  rw [ev] at h
  cases h1 : ev P cf xc (simpE e) a en with
  | st => rw [h1] at h; cases h
  | ex _ _ _ => rw [h1] at h; cases h
  | ok x en1 =>
    rw [h1] at h
    have h : ((ev P cf xc true e en1).bind fun y en => op ((cmpop o x y).map .bl) en) = Res.ok d en' := h
    cases h2 : ev P cf xc true e en1 with
    | st => rw [h2] at h; cases h
    | ex _ _ _ => rw [h2] at h; cases h
    | ok y en2 =>
      rw [h2] at h
      have h : op ((cmpop o x y).map .bl) en2 = Res.ok d en' := h
      cases h3 : cmpop o x y with
      | none => rw [h3] at h; cases h
      | some k => rw [h3] at h; cases h; exact ⟨k, rfl⟩
theorem chain_bool {o o' : Cmp} {a e e' : E} {en en' : Env} {d : D} (h : ev P cf xc b (.chain o o' a e e') en = .ok d en') : ∃ k, d = .bl k := by
  rw [ev] at h
  cases h1 : ev P cf xc false a en with
  | st => rw [h1] at h; cases h
  | ex _ _ _ => rw [h1] at h; cases h
  | ok x en1 =>
    rw [h1] at h
    have h : ((ev P cf xc false e en1).bind fun y en => match cmpop o x y with
      | none => .st
      | some false => .ok (.bl false) en
      | some true => (ev P cf xc true e' en).bind fun z en => op ((cmpop o' y z).map .bl) en) = Res.ok d en' := h
    cases h2 : ev P cf xc false e en1 with
    | st => rw [h2] at h; cases h
    | ex _ _ _ => rw [h2] at h; cases h
    | ok y en2 =>
      rw [h2] at h
      have h : (match cmpop o x y with
        | none => .st
        | some false => .ok (.bl false) en2
        | some true => (ev P cf xc true e' en2).bind fun z en => op ((cmpop o' y z).map .bl) en) = Res.ok d en' := h
      cases h3 : cmpop o x y with
      | none => rw [h3] at h; cases h
      | some k =>
        rw [h3] at h
        cases k with
        | false => cases h; exact ⟨false, rfl⟩
        | true =>
          have h : ((ev P cf xc true e' en2).bind fun z en => op ((cmpop o' y z).map .bl) en) = Res.ok d en' := h
          cases h4 : ev P cf xc true e' en2 with
          | st => rw [h4] at h; cases h
          | ex _ _ _ => rw [h4] at h; cases h
          | ok z en3 =>
            rw [h4] at h
            have h : op ((cmpop o' y z).map .bl) en3 = Res.ok d en' := h
            cases h5 : cmpop o' y z with
            | none => rw [h5] at h; cases h
            | some k => rw [h5] at h; cases h; exact ⟨k, rfl⟩
theorem both_cmp (O : CtxOk P cf Γ Wx k c X) {o : Cmp} (ha : (Both P cf xc Γ Wx X) pa a) (he : (Both P cf xc Γ Wx X) pb e) (hm : behindInMarks (pyCmp o) pb = false) : (Both P cf xc Γ Wx X) (.Compare pa [pyCmp o] [pb] pos) (.cmp o a e) :=
  ⟨fun b => pe_cmpQ O.K O.un ha.1 he.1 hm, fun b => test_cmp O (pt_cmpR (op_cm O.un o) (ha.1 (simpE e)) (he.1 true) hm) (by
    rw [O.K]
    refine two_ok (o := fun x y => (cmpop o x y).map .bl) (f := fun _ => .cmp o a e) (fun en => by rw [ev]) rfl fun h rx ry m => ?_
    rename_i x y d vx vy fx fy Q
    cases c : cmpop o x y with
    | none => rw [c] at h; cases h
    | some k =>
      rw [c] at h; cases h
      exact cm_ok c rx ry m.bl) fun _ _ _ h => cmp_bool h⟩
theorem both_chain (O : CtxOk P cf Γ Wx k c X) {o o' : Cmp} (ha : (Both P cf xc Γ Wx X) pa a) (he : (Both P cf xc Γ Wx X) pb e) (hc : (Both P cf xc Γ Wx X) pc e') (hm : lastMarks [pyCmp o, pyCmp o'] [pb, pc] = false) : (Both P cf xc Γ Wx X) (.Compare pa [pyCmp o, pyCmp o'] [pb, pc] pos) (.chain o o' a e e') := by
  have key : ∀ b σ H Q, (tA P cf xc Γ Wx) b (.chain o o' a e e') σ H Q → tChain (rCm X.K o) (rCm X.K o') ((tA P cf xc Γ Wx) false a) ((tA P cf xc Γ Wx) false e) ((tA P cf xc Γ Wx) true e') σ H Q := fun b σ H Q h => by
    rw [O.K]; exact chain_ok h
  exact ⟨fun b => (pe_chain (op_cm O.un o) (op_cm O.un o') (ha.1 false) (he.1 false) (hc.1 true) hm).imp (key b),
    fun b => test_cmp O (pt_chain (op_cm O.un o) (op_cm O.un o') (ha.1 false) (he.1 false) (hc.1 true) hm) (key b) fun _ _ _ h => chain_bool h⟩
theorem both_fz (h : (Both P cf xc Γ Wx X) pa a) : (Both P cf xc Γ Wx X) pa (.fz a) := ⟨fun b => pe_fzQ h.1, fun b => (h.2 false).imp fun σ H Q ⟨A, en, fps, st, g⟩ => by
  rw [ev, got_bind] at g
  exact ⟨A, en, fps, st, g.imp (fun x en1 g v1 H1 ps1 fps1 a1 => by
    have q := g v1 H1 _ _ (a1.fz rfl)
    have : truthy (fz x) = truthy x := by
      cases x <;> first | rfl | skip
      rename_i ds
      cases ds <;> rfl
    rw [this] at q
    exact q) fun _ _ _ g => g⟩⟩
theorem folded_of {pe : Expr} (h : notSet pe = true) {env : PySem.Env} : ∀ x, foldedSetIterable pe env x = pure x := by
  intro x
  cases pe <;> first | rfl | (cases h; done)
theorem evIt_val {e : E} {en en' : Env} {p : Pit} (hp : evIt P cf xc (.val e) en = .ok p en') : ∃ ds, p = .lst ds := by
  rw [evIt] at hp
  cases hd : ev P cf xc false e en with
  | st => rw [hd] at hp; cases hp
  | ex _ _ _ => rw [hd] at hp; cases hp
  | ok d en1 =>
    rw [hd] at hp
    have hp : (match items (fz d) with | some ds => Res.ok (Pit.lst ds) en1 | none => .st) = Res.ok p en' := hp
    cases hi : items (fz d) with
    | none => rw [hi] at hp; cases hp
    | some ds => rw [hi] at hp; cases hp; exact ⟨ds, rfl⟩
theorem evIt_lst {it : It} {pe : Expr} (h : ckIt c it pe = true) : ∀ en p en', evIt P cf xc it en = .ok p en' → ∃ ds, p = .lst ds := by
  intro en p en' hp
  cases it with
  | enm it =>
    cases it with
    | val e =>
      rw [evIt] at hp
      cases h1 : evIt P cf xc (.val e) en with
      | st => rw [h1] at hp; cases hp
      | ex _ _ _ => rw [h1] at hp; cases hp
      | ok q en1 =>
        obtain ⟨ds, e1⟩ := evIt_val h1
        subst e1
        rw [h1] at hp
        cases hp
        exact ⟨_, rfl⟩
    | _ => simp [ckIt] at h
  | zip it1 it2 =>
    cases it1 with
    | val e =>
      cases it2 with
      | val e2 =>
        rw [evIt] at hp
        cases h1 : evIt P cf xc (.val e) en with
        | st => rw [h1] at hp; cases hp
        | ex _ _ _ => rw [h1] at hp; cases hp
        | ok q en1 =>
          obtain ⟨ds, e1⟩ := evIt_val h1
          subst e1
          rw [h1] at hp
          have hp : ((evIt P cf xc (.val e2) en1).bind fun q en => Res.ok (mkZip (.lst ds) q) en) = Res.ok p en' := hp
          cases h2 : evIt P cf xc (.val e2) en1 with
          | st => rw [h2] at hp; cases hp
          | ex _ _ _ => rw [h2] at hp; cases hp
          | ok q2 en2 =>
            obtain ⟨ds2, e2⟩ := evIt_val h2
            subst e2
            rw [h2] at hp
            cases hp
            exact ⟨_, rfl⟩
      | _ => simp [ckIt] at h
    | _ => simp [ckIt] at h
  | val e =>
    rw [evIt] at hp
    cases hd : ev P cf xc false e en with
    | st => rw [hd] at hp; cases hp
    | ex _ _ _ => rw [hd] at hp; cases hp
    | ok d en1 =>
      rw [hd] at hp
      have hp : (match items (fz d) with | some ds => Res.ok (Pit.lst ds) en1 | none => .st) = Res.ok p en' := hp
      cases hi : items (fz d) with
      | none => rw [hi] at hp; cases hp
      | some ds => rw [hi] at hp; cases hp; exact ⟨ds, rfl⟩
  | rng es =>
    rw [evIt] at hp
    cases hd : evs P cf xc es en with
    | st => rw [hd] at hp; cases hp
    | ex _ _ _ => rw [hd] at hp; cases hp
    | ok d en1 =>
      rw [hd] at hp
      have hp : (match rngD d with | some ds => Res.ok (Pit.lst ds) en1 | none => .st) = Res.ok p en' := hp
      cases hi : rngD d with
      | none => rw [hi] at hp; cases hp
      | some ds => rw [hi] at hp; cases hp; exact ⟨ds, rfl⟩
  | _ => simp [ckIt] at h
theorem ckE_comp0 {key elt : E} {ow : List Nat} {pe : Expr} : ckE c (.comp .list key elt [] ow) pe = false := by unfold ckE; rfl
theorem ckE_comp2 {key elt : E} {ow : List Nat} {pe : Expr} {g1 g2 : Gen} {gs : List Gen} : ckE c (.comp .list key elt (g1 :: g2 :: gs) ow) pe = false := by unfold ckE; cases g1; rfl
theorem ckE_compS {key elt : E} {ow : List Nat} {pe : Expr} {gs : List Gen} : ckE c (.comp .set key elt gs ow) pe = false := by unfold ckE; rfl
theorem ckE_compD {key elt : E} {ow : List Nat} {pe : Expr} {gs : List Gen} : ckE c (.comp .dict key elt gs ow) pe = false := by unfold ckE; rfl
theorem ckCd_len {cs : List E} {ifs : List Expr} (h : ckCd c cs ifs = true) : cs = [] ∨ ∃ e, cs = [e] := by
  match cs, ifs, h with
  | [], _, _ => exact .inl rfl
  | [e], _, _ => exact .inr ⟨e, rfl⟩
  | _ :: _ :: _, [], h => simp [ckCd] at h
  | _ :: _ :: _, _ :: _, h => simp [ckCd] at h
theorem rngQ_ok {tg : Expr} {pos xp : Pos} (g1 : Gl X "range") (g2 : X.mg "range" = none) (h3 : (pes.length = 1 ∨ pes.length = 2) ∨ pes.length = 3) (h4 : ckEs c es pes = true) (q : PA X pes ((tAs P cf xc Γ Wx) es)) : PI X tg (.Call (.Name "range" xp) pes [] pos) (tI P cf xc Γ Wx (.rng es)) := by
  match pes, es, h3, h4, q with
  | [pa], [e1], _, h4, q =>
    unfold ckEs at h4
    simp only [Bool.and_eq_true] at h4
    exact pi_rng1Q g1 g2 q (notStar_of h4.1.1)
  | [pa, pb], [e1, e2], _, h4, q =>
    unfold ckEs at h4
    simp only [Bool.and_eq_true] at h4
    have h5 := h4.2
    unfold ckEs at h5
    simp only [Bool.and_eq_true] at h5
    exact pi_rng2Q g1 g2 q (notStar_of h4.1.1) (notStar_of h5.1.1)
  | [pa, pb, pc], [e1, e2, e3], _, h4, q =>
    unfold ckEs at h4
    simp only [Bool.and_eq_true] at h4
    have h5 := h4.2
    unfold ckEs at h5
    simp only [Bool.and_eq_true] at h5
    have h6 := h5.2
    unfold ckEs at h6
    simp only [Bool.and_eq_true] at h6
    exact pi_rng3Q g1 g2 q (notStar_of h4.1.1) (notStar_of h5.1.1) (notStar_of h6.1.1)
  | [], _, h3, _, _ => simp at h3
  | _ :: _ :: _ :: _ :: _, _, h3, _, _ => simp at h3
  | [_], [], _, h4, _ => simp [ckEs] at h4
  | [_], _ :: _ :: _, _, h4, _ => simp [ckEs] at h4
  | [_, _], [], _, h4, _ => simp [ckEs] at h4
  | [_, _], [_], _, h4, _ => simp [ckEs] at h4
  | [_, _], _ :: _ :: _ :: _, _, h4, _ => simp [ckEs] at h4
  | [_, _, _], [], _, h4, _ => simp [ckEs] at h4
  | [_, _, _], [_], _, h4, _ => simp [ckEs] at h4
  | [_, _, _], [_, _], _, h4, _ => simp [ckEs] at h4
  | [_, _, _], _ :: _ :: _ :: _ :: _, _, h4, _ => simp [ckEs] at h4
theorem base_of {pa : Expr} (h : (match pa with | .Call _ _ _ _ => false | _ => true) = true) (n : Str) (env : PySem.Env) : attributeBase pa n env (eval pa env) = eval pa env := by
  split at h
  · cases h
  · rename_i hn
    cases pa <;> first | rfl | exact absurd rfl (hn _ _ _ _)
variable (hx : XcE xc Γ)
include hx
mutual
theorem sndE {Wx : WX} {c : Cc} {X : Cx} (O : CtxOk P cf Γ Wx k c X) : ∀ (e : E) (pe : Expr), ckE c e pe = true → Both P cf xc Γ Wx X pe e
  | .c d, pe, h => by
    unfold ckE at h
    split at h
    · exact .of O rfl fun b => const_ok h
    · cases h
  | .v i, pe, h => by
    unfold ckE at h
    split at h
    · exact .of O rfl fun b => pe_vQ (O.v h)
    · cases h
  | .mv i, pe, h => by
    unfold ckE at h
    split at h
    · exact .of O rfl fun b => pe_mvQ (O.v h)
    · cases h
  | .callh f es, pe, h => by
    unfold ckE at h
    split at h
    · simp only [Bool.and_eq_true, List.any_eq_true, decide_eq_true_eq] at h
      obtain ⟨⟨⟨⟨h1, t, h2, h2'⟩, h3⟩, h4⟩, h5⟩ := h
      subst h2'
      rw [List.all_cons, Bool.and_eq_true] at h4
      exact .of O rfl fun b => pe_callhQ O h1 h2 h3 (notStar_of h4.1) (fun env => any_of h4.2) (sndEs O es _ h5).1
    · cases h
  | .g i, pe, h => by
    unfold ckE at h
    split at h
    · rw [Bool.and_eq_true] at h
      obtain ⟨d, v, u, h1, h2, h3, h4, h5⟩ := O.gls _ _ (of_decide_eq_true h.1)
      obtain ⟨g1, g2⟩ := O.g h.2
      exact .of O rfl fun b => pe_gQ h1 (pe_glob g1 h3 h4 g2) h5 h2
    · cases h
  | .fz e, pe, h => by
    unfold ckE at h
    exact both_fz (sndE O e pe h)
  | .bin o a e, pe, h => by
    unfold ckE at h
    split at h
    · simp only [Bool.and_eq_true, decide_eq_true_eq, Bool.not_eq_true'] at h
      obtain ⟨⟨h1, h2⟩, h3⟩ := h
      subst h1
      exact .of O rfl fun b => pe_binQ O.K (sndE O a _ h2).1 (sndE O e _ h3).1
    · cases h
  | .neg a, pe, h => by
    unfold ckE at h
    split at h
    · exact .of O rfl fun b => pe_negQ (sndE O a _ h).1
    · cases h
  | .not a, pe, h => by
    unfold ckE at h
    split at h
    · have q := sndE O a _ h
      exact ⟨fun b => pe_notQ O.K q.1, fun b => pt_notQ q.2⟩
    · cases h
  | .and a e, pe, h => by
    unfold ckE at h
    split at h
    · rw [Bool.and_eq_true] at h
      have q1 := sndE O a _ h.1
      have q2 := sndE O e _ h.2
      exact ⟨fun b => pe_andQ O.K q1.1 fun b => pe_one (q2.1 b), fun b => ((pw_and (q1.2 false) (pw_and1 (q2.2 false))).pt).imp fun σ H Q h => andT_ok h⟩
    · rw [Bool.and_eq_true] at h
      have q1 := sndE O a _ h.1
      have q2 := sndE O e _ h.2
      exact ⟨fun b => pe_andQ O.K q1.1 q2.1, fun b => pt_andQ q1.2 q2.2⟩
    · cases h
  | .or a e, pe, h => by
    unfold ckE at h
    split at h
    · rw [Bool.and_eq_true] at h
      have q1 := sndE O a _ h.1
      have q2 := sndE O e _ h.2
      exact ⟨fun b => pe_orQ O.K q1.1 fun b => pe_one (q2.1 b), fun b => ((pw_or (q1.2 false) (pw_or1 (q2.2 false))).pt).imp fun σ H Q h => orT_ok h⟩
    · rw [Bool.and_eq_true] at h
      have q1 := sndE O a _ h.1
      have q2 := sndE O e _ h.2
      exact ⟨fun b => pe_orQ O.K q1.1 q2.1, fun b => pt_orQ q1.2 q2.2⟩
    · cases h
  | .cmp o a e, pe, h => by
    unfold ckE at h
    split at h
    · simp only [Bool.and_eq_true, decide_eq_true_eq, Bool.not_eq_true'] at h
      obtain ⟨⟨⟨h1, h2⟩, h3⟩, h4⟩ := h
      subst h1
      exact both_cmp O (sndE O a _ h3) (sndE O e _ h4) h2
    · cases h
  | .chain o o' a e e', pe, h => by
    unfold ckE at h
    split at h
    · simp only [Bool.and_eq_true, decide_eq_true_eq, Bool.not_eq_true'] at h
      obtain ⟨⟨⟨⟨⟨h1, h1'⟩, h2⟩, h3⟩, h4⟩, h5⟩ := h
      subst h1 h1'
      exact both_chain O (sndE O a _ h3) (sndE O e _ h4) (sndE O e' _ h5) h2
    · cases h
  | .ite t a e, pe, h => by
    unfold ckE at h
    split at h
    · simp only [Bool.and_eq_true] at h
      obtain ⟨⟨h1, h2⟩, h3⟩ := h
      have q1 := sndE O t _ h1
      have q2 := sndE O a _ h2
      have q3 := sndE O e _ h3
      exact ⟨fun b => pe_iteQ (q1.2 true) q2.1 q3.1, fun b => pt_iteQ (q1.2 true) (q2.2 false) (q3.2 false)⟩
    · cases h
  | .tup es, pe, h => by
    unfold ckE at h
    split at h
    · rw [Bool.and_eq_true] at h
      exact .of O rfl fun b => pe_tupQ (of_decide_eq_true h.1) (sndEs O es _ h.2).1
    · cases h
  | .lst es, pe, h => by
    unfold ckE at h
    split at h
    · rw [Bool.and_eq_true] at h
      exact .of O rfl fun b => pe_lstQ (of_decide_eq_true h.1) (sndEs O es _ h.2).1
    · cases h
  | .ix a i, pe, h => by
    unfold ckE at h
    split at h
    · simp only [Bool.and_eq_true] at h
      exact .of O rfl fun b => pe_ixQ O.K (plainIx_of h.1.1) (sndE O a _ h.1.2).1 (sndE O i _ h.2).1
    · cases h
  | .ixv j i, pe, h => by
    unfold ckE at h
    split at h
    · simp only [Bool.and_eq_true] at h
      exact .of O rfl fun b => pe_ixvQ O.K (plainIx_of h.1.1) (O.v h.1.2) (sndE O i _ h.2).1
    · cases h
  | .sl a lo hi, pe, h => by
    unfold ckE at h
    split at h
    · simp only [Bool.and_eq_true] at h
      obtain ⟨⟨h1, h2⟩, h3⟩ := h
      refine .of O rfl fun b => pe_slQ O.K (sndE O a _ h1).1 ?_ ?_
      · split at h2
        · split at h2
          · exact po_none
          · cases h2
        · rw [Bool.and_eq_true] at h2
          exact tP_of (sndE O lo _ h2.2).1 fun z => by subst z; cases h2.1
      · split at h3
        · split at h3
          · exact po_none
          · cases h3
        · rw [Bool.and_eq_true] at h3
          exact tP_of (sndE O hi _ h3.2).1 fun z => by subst z; cases h3.1
    · cases h
  | .rev a, pe, h => by
    unfold ckE at h
    split at h
    · exact .of O rfl fun b => pe_revQ O.K (sndE O a _ h).1
    · cases h
  | .call f es, pe, h => by
    unfold ckE at h
    split at h
    · simp only [Bool.and_eq_true, decide_eq_true_eq, Bool.not_eq_true'] at h
      obtain ⟨⟨⟨⟨hh, h1⟩, h2⟩, h3⟩, h4⟩ := h
      rename_i pes _
      have q := sndCs O es pes h4
      cases pes with
      | nil =>
        cases es with
        | nil => exact .of O rfl fun b => pe_call0Q O hh h1 h2
        | cons _ _ => simp [ckCs] at h4
      | cons pa pes =>
        rw [List.all_cons, Bool.and_eq_true] at h3
        exact .of O rfl fun b => pe_callQ O hh h1 h2 (notStar_of h3.1) (fun env => any_of h3.2) q
    · cases h
  | .blt bl es, pe, h => by
    unfold ckE at h
    split at h
    · simp only [Bool.and_eq_true, decide_eq_true_eq, Bool.not_eq_true'] at h
      obtain ⟨⟨⟨⟨⟨hh, h1⟩, h2⟩, h3⟩, h4⟩, h5⟩ := h
      subst h1
      rw [List.all_cons, Bool.and_eq_true] at h4
      obtain ⟨g1, g2, g3, g4⟩ := O.bi h3
      exact .of O rfl fun b => pe_bltQ O.K (O.cool hh).calm h2 g1 g2 (notStar_of h4.1) (fun env => any_of h4.2) (sndEs O es _ h5).2
    · cases h
  | .of bl it, pe, h => by
    unfold ckE at h
    split at h
    · split at h
      · simp only [Bool.and_eq_true, decide_eq_true_eq, Bool.not_eq_true'] at h
        obtain ⟨⟨⟨⟨⟨⟨hh, h1⟩, h2⟩, h3⟩, h4⟩, h5⟩, h6⟩ := h
        subst h1 h2
        obtain ⟨g1, g2, _, _⟩ := O.bi h3
        obtain ⟨g3, g4, _, _⟩ := O.bi h4
        exact .of O rfl fun b => pe_lrg1 (O.cool hh).calm g1 g2 g3 g4 (sndE O _ _ h6).1 (notStar_of h5)
      · cases h
    · split at h
      · simp only [Bool.and_eq_true, decide_eq_true_eq, Bool.not_eq_true'] at h
        obtain ⟨⟨⟨⟨⟨⟨⟨⟨hh, h1⟩, h2⟩, h3⟩, h4⟩, h5⟩, h6⟩, h7⟩, h8⟩ := h
        subst h1 h2
        obtain ⟨g1, g2, _, _⟩ := O.bi h3
        obtain ⟨g3, g4, _, _⟩ := O.bi h4
        exact .of O rfl fun b => pe_lrg2 (O.cool hh).calm g1 g2 g3 g4 (sndE O _ _ h7).1 (sndE O _ _ h8).1 (notStar_of h5) (notStar_of h6)
      · cases h
    · cases h
  | .mth m o es, pe, h => by
    unfold ckE at h
    split at h
    · split at h
      · simp only [Bool.and_eq_true, decide_eq_true_eq, Bool.not_eq_true', Bool.or_eq_true] at h
        obtain ⟨⟨⟨⟨⟨⟨⟨hh, h1⟩, h2⟩, h3⟩, h4⟩, h5⟩, h6⟩, h7⟩ := h
        subst h1
        have hb : ∀ (n : Str) (env : PySem.Env), attributeBase _ n env (eval _ env) = eval _ env := base_of h5
        rcases h2 with h2 | h2
        · exact .of O rfl fun b => pe_mthQ O.K (O.cool hh).calm h2 (sndE O o _ h6).1 (sndE O _ _ h7).1 (star_of (notStar_of h3)) (hb _ _) h4
        · subst h2
          exact .of O rfl fun b => pe_idxQ O.K (by have := (O.cool hh).room.un; omega) (sndE O o _ h6).1 (sndE O _ _ h7).1 (star_of (notStar_of h3)) (hb _ _) h4
      · cases h
    · split at h
      · simp only [Bool.and_eq_true, decide_eq_true_eq] at h
        obtain ⟨⟨⟨⟨h1, h2⟩, h4⟩, h5⟩, h6⟩ := h
        subst h1 h2
        exact .of O rfl fun b => pe_upQ (sndE O o _ h6).1 (base_of h5 _ _) h4
      · cases h
    · cases h
  | .isi e ts, pe, h => by
    unfold ckE at h
    split at h
    · split at h
      · simp only [Bool.and_eq_true, decide_eq_true_eq, Bool.not_eq_true'] at h
        obtain ⟨⟨⟨⟨⟨⟨h1, h2⟩, h3⟩, h4⟩, h5⟩, h6⟩, h7⟩ := h
        subst h1 h4
        obtain ⟨g1, g2, _, _⟩ := O.bi h2
        obtain ⟨n, e1, e2⟩ := O.ty h3 h5
        exact .of O rfl fun b => pe_isi1 O.K g1 g2 e1 (sndE O e _ h7).1 (e2 _) (notStar_of h6) fun _ _ z => nomatch z
      · cases h
    · simp only [Bool.and_eq_true, decide_eq_true_eq, Bool.not_eq_true'] at h
      obtain ⟨⟨⟨⟨⟨h1, h2⟩, h3⟩, h4⟩, h5⟩, h6⟩ := h
      subst h1
      obtain ⟨g1, g2, _, _⟩ := O.bi h2
      obtain ⟨ks, e1, e2⟩ := tys_ok O h4
      have hl : ks.length ≤ 1000 := by
        have := congrArg List.length e1
        simp at this
        omega
      exact .of O rfl fun b => pe_isiN O.K g1 g2 hl e1 (sndE O e _ h6).1 e2 (notStar_of h5)
    · cases h
  | .pop i path, pe, h => by
    unfold ckE at h
    split at h
    · simp only [Bool.and_eq_true, decide_eq_true_eq, Bool.not_eq_true'] at h
      obtain ⟨⟨h1, h2⟩, h3⟩ := h
      subst h1
      have hb := sndBox O i path _ h3
      refine .of O rfl fun b => pe_popQ O.K hb ?_ h2
      rename_i pa _ _ _ 
      cases path with
      | nil =>
        unfold ckBox at h3
        split at h3
        · rfl
        · cases h3
      | cons e path =>
        cases path with
        | nil =>
          unfold ckBox at h3
          split at h3
          · rfl
          · cases h3
        | cons _ _ => simp [ckBox] at h3
    · cases h
  | .set _, pe, h => by simp [ckE] at h
  | .dct _, pe, h => by simp [ckE] at h
  | .va _, pe, h => by simp [ckE] at h
  | .callk f js es, pe, h => by
    unfold ckE at h
    split at h
    · simp only [Bool.and_eq_true, decide_eq_true_eq, Bool.not_eq_true'] at h
      obtain ⟨⟨⟨⟨hh, h1⟩, h2⟩, h3⟩, h4⟩ := h
      split at h3
      · rename_i ks hk
        rw [Bool.and_eq_true, List.any_eq_true, decide_eq_true_eq] at h3
        obtain ⟨⟨t, ht, e⟩, hl⟩ := h3
        have e := of_decide_eq_true e
        subst e
        exact .of O rfl fun b => pe_callkQ O hh h1 h2 hk ht hl (sndKs O es _ h4)
      · cases h3
    · cases h
  | .sortk _ _ _, pe, h => by simp [ckE] at h
  | .comp .list key elt [.mk t it cs] ow, pe, h => by
    dsimp only [ckE] at h
    split at h
    · rename_i pl tg iter ifs scope pos
      simp only [Bool.and_eq_true, decide_eq_true_eq, Bool.not_eq_true'] at h
      obtain ⟨⟨⟨⟨⟨⟨⟨⟨⟨hh, h1⟩, h2⟩, h3⟩, h4⟩, h5⟩, h5'⟩, h6⟩, h7⟩, h8⟩ := h
      have q := sndIt O it iter h5
      exact .of O rfl fun b => pe_lcQ O hh (ckCd_len h7) h1 (evIt_lst h5) h2 h3 (q.1 _ h5') (folded_of h4) (fun X' O' => sndT O' t _ h6) (fun X' O' => sndCd O' cs ifs h7) (fun X' O' => (sndE O' elt _ h8).1 false)
    · cases h
  | .comp .list _ _ [] _, pe, h => nomatch (ckE_comp0.symm.trans h)
  | .comp .list _ _ (_ :: _ :: _) _, pe, h => nomatch (ckE_comp2.symm.trans h)
  | .comp .set _ _ _ _, pe, h => nomatch (ckE_compS.symm.trans h)
  | .comp .dict _ _ _ _, pe, h => nomatch (ckE_compD.symm.trans h)
  | .attr _ _, pe, h => by simp [ckE] at h
  | .xattr f, pe, h => by
    unfold ckE at h
    split at h
    · split at h
      · rename_i i hi
        rw [Bool.and_eq_true, decide_eq_true_eq] at h
        exact .of O rfl fun b => pe_xattrQ O hx h.1 hi h.2
      · cases h
    · cases h
  | .xisi ts, pe, h => by
    unfold ckE at h
    split at h
    · split at h
      · simp only [Bool.and_eq_true, decide_eq_true_eq, Bool.or_eq_true] at h
        obtain ⟨⟨⟨h1, h2⟩, h3⟩, h4⟩ := h
        subst h1
        split at h3
        · rename_i i hi
          refine .of O rfl fun b => pe_xisiQ O hx h2 h3 hi ?_
          rcases h4 with ⟨h4, h5⟩ | ⟨⟨h4, h5⟩, h6⟩
          · exact .inl ⟨(List.getElem?_eq_some_iff.mp h4).1, h4, h5⟩
          · subst h5
            exact .inr ⟨h4, rfl, h6⟩
        · cases h3
      · cases h
    · cases h
termination_by e => sizeOf e
theorem sndEs {Wx : WX} {c : Cc} {X : Cx} (O : CtxOk P cf Γ Wx k c X) : ∀ (es : List E) (pes : List Expr), ckEs c es pes = true → PA X pes (tAs P cf xc Γ Wx es) ∧ PA X pes (tBs P cf xc Γ Wx es)
  | [], [], _ => ⟨pa_nilQ, pa_nilB⟩
  | e :: es, p :: ps, h => by
    unfold ckEs at h
    simp only [Bool.and_eq_true] at h
    obtain ⟨⟨h1, h2⟩, h3⟩ := h
    have q := sndE O e p h2
    have r := sndEs O es ps h3
    exact ⟨pa_consQ (notStar_of h1) q.1 r.1, pa_consB (notStar_of h1) q.1 r.2⟩
  | [], _ :: _, h => by simp [ckEs] at h
  | _ :: _, [], h => by simp [ckEs] at h
termination_by es => sizeOf es
theorem sndKs {Wx : WX} {c : Cc} {X : Cx} (O : CtxOk P cf Γ Wx k c X) : ∀ (es : List E) (kws : List Keyword), ckKs c es kws = true → PK X kws (tAs P cf xc Γ Wx es)
  | [], [], _ => pk_nilQ
  | e :: es, ⟨n, v, p⟩ :: ps, h => by
    unfold ckKs at h
    rw [Bool.and_eq_true] at h
    exact pk_consQ (sndE O e v h.1).1 (sndKs O es ps h.2)
  | [], _ :: _, h => by simp [ckKs] at h
  | _ :: _, [], h => by simp [ckKs] at h
termination_by es => sizeOf es
theorem sndCs {Wx : WX} {c : Cc} {X : Cx} (O : CtxOk P cf Γ Wx k c X) : ∀ (es : List E) (pes : List Expr), ckCs c es pes = true → PA X pes (tCs P cf xc Γ Wx es)
  | [], [], _ => pa_nilC
  | e :: es, p :: ps, h => by
    unfold ckCs at h
    rw [Bool.and_eq_true] at h
    obtain ⟨h1, h3⟩ := h
    have r := sndCs O es ps h3
    split at h1
    · split at h1
      · exact pa_vaC (O.v h1) r
      · cases h1
    · rename_i hv
      rw [Bool.and_eq_true] at h1
      exact pa_consC (notStar_of h1.1) (fun i z => hv i z) (sndE O e p h1.2).1 r
  | [], _ :: _, h => by simp [ckCs] at h
  | _ :: _, [], h => by simp [ckCs] at h
termination_by es => sizeOf es
theorem sndBox {Wx : WX} {c : Cc} {X : Cx} (O : CtxOk P cf Γ Wx k c X) (i : Nat) : ∀ (path : List E) (pe : Expr), ckBox c i path pe = true → PE X pe (tBox P cf xc Γ Wx i path)
  | [], pe, h => by
    unfold ckBox at h
    split at h
    · exact pe_box0 (O.v h)
    · cases h
  | [e], pe, h => by
    unfold ckBox at h
    split at h
    · simp only [Bool.and_eq_true] at h
      obtain ⟨⟨⟨h1, h2⟩, h3⟩, h4⟩ := h
      exact pe_box1 O.K (plainIx_of h1) (O.v h2) (sndE O e _ h4).1
    · cases h
  | _ :: _ :: _, pe, h => by simp [ckBox] at h
termination_by path => sizeOf path
theorem sndCd {c : Cc} {X : Cx} (O : CtxOk P cf Γ WF k c X) : ∀ (cs : List E) (ifs : List Expr), ckCd c cs ifs = true → PTs X ifs (tConds P cf xc Γ cs)
  | [], [], _ => pts_nil
  | [e], [p], h => by
    unfold ckCd at h
    exact pts_one ((sndE O e p h).2 true)
  | [], _ :: _, h => by simp [ckCd] at h
  | [_], [], h => by simp [ckCd] at h
  | [_], _ :: _ :: _, h => by simp [ckCd] at h
  | _ :: _ :: _, [], h => by simp [ckCd] at h
  | _ :: _ :: _, _ :: _, h => by simp [ckCd] at h
termination_by cs => sizeOf cs
theorem sndIt {Wx : WX} {c : Cc} {X : Cx} (O : CtxOk P cf Γ Wx k c X) : ∀ (it : It) (pe : Expr), ckIt c it pe = true → (∀ tg, (!needT it || isTupE tg) = true → PI X tg pe (tI P cf xc Γ Wx it)) ∧ notSet pe = true
  | .val e, pe, h => by
    simp only [ckIt, Bool.and_eq_true] at h
    exact ⟨fun tg _ => pi_valQ O (sndE O e pe h.1).1, h.2⟩
  | .rng es, pe, h => by
    simp only [ckIt] at h
    split at h
    · rename_i pes _
      simp only [Bool.and_eq_true, decide_eq_true_eq, Bool.or_eq_true] at h
      obtain ⟨⟨⟨⟨_, h1⟩, h2⟩, h3⟩, h4⟩ := h
      subst h1
      obtain ⟨g1, g2, _, _⟩ := O.bi h2
      exact ⟨fun tg _ => rngQ_ok g1 g2 h3 h4 (sndEs O es pes h4).1, rfl⟩
    · cases h
  | .vr _, pe, h => by simp [ckIt] at h
  | .enm (.val e), pe, h => by
    simp only [ckIt] at h
    split at h
    · simp only [Bool.and_eq_true, decide_eq_true_eq, Bool.not_eq_true'] at h
      obtain ⟨⟨⟨⟨_, h1⟩, h2⟩, h3⟩, h4⟩ := h
      subst h1
      obtain ⟨g1, g2, _, _⟩ := O.bi h2
      refine ⟨fun tg ht => ?_, rfl⟩
      cases tg <;> first | (cases ht; done) | skip
      exact pi_enmQ O g1 g2 (notStar_of h3) (sndE O e _ h4).1
    · cases h
  | .zip (.val e1) (.val e2), pe, h => by
    simp only [ckIt] at h
    split at h
    · simp only [Bool.and_eq_true, decide_eq_true_eq, Bool.not_eq_true'] at h
      obtain ⟨⟨⟨⟨⟨⟨_, h1⟩, h2⟩, h3⟩, h3'⟩, h4⟩, h5⟩ := h
      subst h1
      obtain ⟨g1, g2, _, _⟩ := O.bi h2
      refine ⟨fun tg ht => ?_, rfl⟩
      cases tg <;> first | (cases ht; done) | skip
      exact pi_zipQ O g1 g2 (notStar_of h3) (notStar_of h3') (sndE O e1 _ h4).1 (sndE O e2 _ h5).1
    · cases h
  | .enm (.vr _), pe, h => by simp [ckIt] at h
  | .enm (.rng _), pe, h => by simp [ckIt] at h
  | .enm (.enm _), pe, h => by simp [ckIt] at h
  | .enm (.zip _ _), pe, h => by simp [ckIt] at h
  | .enm (.its _), pe, h => by simp [ckIt] at h
  | .zip (.vr _) _, pe, h => by simp [ckIt] at h
  | .zip (.rng _) _, pe, h => by simp [ckIt] at h
  | .zip (.enm _) _, pe, h => by simp [ckIt] at h
  | .zip (.zip _ _) _, pe, h => by simp [ckIt] at h
  | .zip (.its _) _, pe, h => by simp [ckIt] at h
  | .zip (.val _) (.vr _), pe, h => by simp [ckIt] at h
  | .zip (.val _) (.rng _), pe, h => by simp [ckIt] at h
  | .zip (.val _) (.enm _), pe, h => by simp [ckIt] at h
  | .zip (.val _) (.zip _ _), pe, h => by simp [ckIt] at h
  | .zip (.val _) (.its _), pe, h => by simp [ckIt] at h
  | .its _, pe, h => by simp [ckIt] at h
termination_by it => sizeOf it
end
end
end Q
end
section
set_option Elab.async false
set_option linter.all false
set_option autoImplicit false
set_option maxRecDepth 100000
set_option maxHeartbeats 4000000
namespace Q
open PySem PySem.Spec PyProof.Rows L2
section
variable {P : Prog} {cf : CF} {xc : Option (Nat × List D)} {Γ : Ga} {Wx : WX} {m : Nat → Bool} {k : Nat} {c : Cc} {X : Cx} {pe pa pb pc pk tg : Expr} {pes : List Expr} {e e1 e2 e3 ek : E} {es : List E} {path : List E} {s : S} {ss : List S} {pos : Pos} {st : Stmt} {sts : List Stmt}
theorem box_base {i : Nat} (h : ckBox c i path pa = true) {n : Str} {env : PySem.Env} : attributeBase pa n env (eval pa env) = eval pa env := by
  cases path with
  | nil =>
    unfold ckBox at h
    split at h
    · rfl
    · cases h
  | cons e path =>
    cases path with
    | nil =>
      unfold ckBox at h
      split at h
      · rfl
      · cases h
    | cons _ _ => simp [ckBox] at h
def ckLc (c : Cc) (m : Nat → Bool) (i : Nat) (x : Str) (pl : Nat) : E → Expr → Bool
  | .comp .list key elt [.mk t it cs] ow, pe => (match pe with
    | .ListComp _ _ scope pos => !c.hot && decide (c.sc.names.lookup x = some .local) && ckL c m i x && (c.sc.kind == .function) && (pl == pos.line) && !(scope.names.any fun (n, k) => n == x && (k == .local || k == .cell)) && ckE c (.comp .list key elt [.mk t it cs] ow) pe
    | _ => false)
  | .fz e, pe => ckLc c m i x pl e pe
  | _, _ => false
theorem asg_imp {i : Nat} {e : E} (hm : m i = true ∧ ∀ x, Γ.xc = some x → ∀ j, x.i = some j → j ≠ i) {D : Ends} {σ : L2.St} {H : Hp} (h : (tS P cf xc Γ Wx m) (.asg (.nm i) e) D σ H) : tAsg (tA P cf xc Γ Wx false e) (gName i) D σ H := by
  obtain ⟨A, en, fps, st, g⟩ := h
  rw [ex, got_bind] at g
  refine ⟨A, en, fps, st, g.imp (fun d en1 g v H1 ps fps1 a1 => ?_) fun _ _ _ g => g.xw⟩
  have g : Got (match (if i < en1.length then some (en1.set i (some d)) else none : Option Env) with | some en => Res.ok Fl.nx en | none => .st) (KS Γ m H A fps σ D) (XS Γ Wx m H A fps σ) := by
    rw [bindT] at g; exact g
  split at g
  · rename_i hb
    split at hb
    · rename_i hi
      cases hb
      obtain ⟨fps2, a2⟩ := a1.store hm.2 hi
      exact g _ _ _ a2 (stay_set hm.1)
    · cases hb
  · exact g.elim
theorem fz_imp {e : E} {b : Bool} {σ : L2.St} {H : Hp} {Q : VK} (h : tA P cf xc Γ Wx b (.fz e) σ H Q) : tA P cf xc Γ Wx false e σ H Q := by
  obtain ⟨A, en, fps, st, g⟩ := h
  rw [ev, got_bind] at g
  exact ⟨A, en, fps, st, g.imp (fun x en1 g v1 H1 ps1 fps1 a1 => g v1 H1 _ _ (a1.fz rfl)) fun _ _ _ g => g⟩
theorem sndLc (hx : XcE xc Γ) (O : CtxOk P cf Γ Wx k c X) {i : Nat} {x : Str} {py spos : Pos} : ∀ (e : E) {pe : Expr}, ckLc c m i x py.line e pe = true → PS X (.Assign [.Name x py] pe spos) (tAsg (tA P cf xc Γ Wx false e) (gName i)) ∧ m i = true ∧ ∀ x, Γ.xc = some x → ∀ j, x.i = some j → j ≠ i
  | .comp .list key elt [.mk t it cs] ow, pe, h => by
    dsimp only [ckLc] at h
    split at h
    · simp only [Bool.and_eq_true, Bool.not_eq_true', decide_eq_true_eq] at h
      obtain ⟨⟨⟨⟨⟨⟨hh, hl⟩, h1⟩, h2⟩, h3⟩, h4⟩, h⟩ := h
      dsimp only [ckE] at h
      split at h
      · rename_i heq
        cases heq
        simp only [Bool.and_eq_true, decide_eq_true_eq] at h
        obtain ⟨⟨⟨⟨⟨⟨⟨⟨⟨_, g1⟩, g2⟩, g3⟩, g4⟩, g5⟩, g5'⟩, g6⟩, g7⟩, g8⟩ := h
        have q := sndIt hx O it _ g5
        refine ⟨ps_setLcQ O hh hl h1 (sw_true (by rw [O.sc]; exact eq_of_beq h2) (by rw [O.sc]; exact hl) h3 h4) (ckCd_len g7) g1 (evIt_lst g5) g2 g3 (q.1 _ g5') (folded_of g4) (fun X' O' => sndT O' t _ g6) (fun X' O' => sndCd hx O' cs _ g7) (fun X' O' => (sndE hx O' elt _ g8).1 false), O.l h1 |>.2.2.2⟩
      · cases h
    · cases h
  | .fz e, pe, h => by
    unfold ckLc at h
    obtain ⟨q, hm⟩ := sndLc hx O e h
    exact ⟨q.imp fun D σ H h => fz_imp (b := false) h, hm⟩
  | .c _, _, h => nomatch h | .v _, _, h => nomatch h | .g _, _, h => nomatch h | .bin _ _ _, _, h => nomatch h | .neg _, _, h => nomatch h | .not _, _, h => nomatch h
  | .and _ _, _, h => nomatch h | .or _ _, _, h => nomatch h | .cmp _ _ _, _, h => nomatch h | .chain _ _ _ _ _, _, h => nomatch h | .ite _ _ _, _, h => nomatch h
  | .tup _, _, h => nomatch h | .lst _, _, h => nomatch h | .set _, _, h => nomatch h | .dct _, _, h => nomatch h | .ix _ _, _, h => nomatch h | .ixv _ _, _, h => nomatch h
  | .va _, _, h => nomatch h | .sl _ _ _, _, h => nomatch h | .rev _, _, h => nomatch h | .call _ _, _, h => nomatch h | .callk _ _ _, _, h => nomatch h | .blt _ _, _, h => nomatch h
  | .of _ _, _, h => nomatch h | .mth _ _ _, _, h => nomatch h | .sortk _ _ _, _, h => nomatch h | .pop _ _, _, h => nomatch h | .isi _ _, _, h => nomatch h | .attr _ _, _, h => nomatch h
  | .xattr _, _, h => nomatch h | .xisi _, _, h => nomatch h | .mv _, _, h => nomatch h | .callh _ _, _, h => nomatch h
  | .comp .set _ _ _ _, _, h => nomatch h | .comp .dict _ _ _ _, _, h => nomatch h | .comp .list _ _ [] _, _, h => nomatch h
  | .comp .list _ _ (.mk _ _ _ :: _ :: _) _, _, h => nomatch h
def isStk : S → Bool
  | .stk => true
  | _ => false
theorem pss_stk {s : S} {ss : List S} (h : isStk s = true) : PSs X sts ((tSs P cf xc Γ Wx m) (s :: ss)) := by
  cases s with
  | stk =>
    refine ⟨fun pins s σ H D I ⟨A, en, fps, st, g⟩ => ?_⟩
    rw [exs, ex] at g
    exact g.elim
  | _ => cases h
mutual
def ckS (c : Cc) (m : Nat → Bool) : S → Stmt → Bool
  | .asg t e, st => match st with
    | .Assign [.Name x py] pe _ => (match t with
      | .nm i => (ckL c m i x && ckE c e pe && notComp pe) || ckLc c m i x py.line e pe
      | _ => false)
    | .Assign [.Tuple pts kk tp] pe _ => (match t with
      | .tp ts => ckT c m (.tp ts) (.Tuple pts kk tp) && ckE c e pe && notTup pe
      | _ => false)
    | _ => false
  | .aug i o e, st => match st with
    | .AugAssign (.Name x _) .Add pe _ => decide (o = .add) && ckL c m i x && ckE c e pe
    | _ => false
  | .sset i path k e, st => match st with
    | .Assign [.Subscript pa pk _] pe _ => ckE c e pe && ckBox c i path pa && ckE c k pk && (path.isEmpty || simpE k) && notComp pe && notSlice pk
    | _ => false
  | .app i path e, st => match st with
    | .Expr (.Call (.Attribute pa n apos) [pe] [] pos) _ => decide (n = "append") && ckBox c i path pa && (path.isEmpty || simpE e) && ckE c e pe && notStar pe && (apos.endLine == pos.line)
    | _ => false
  | .expr e, st => match st with
    | .Expr pe _ => ckE c e pe && notComp pe
    | _ => false
  | .ifs e a b, st => match st with
    | .If pe pta ptb _ => ckE c e pe && ckSs c m a pta && ckSs c m b ptb
    | _ => false
  | .for t it ss, st => match st with
    | .For tg pe sts [] _ => !c.hot && ckT c m t tg && (ckIt c it pe && (!needT it || isTupE tg)) && ckSs c m ss sts
    | _ => false
  | .while e ss, st => match st with
    | .While pe sts [] _ => !c.hot && ckE c e pe && ckSs c m ss sts
    | _ => false
  | .ret e, st => match st with
    | .Return (some pe) _ => ckE c e pe
    | .Return none _ => (match e with | .c .non => true | _ => false)
    | _ => false
  | .brk, st => match st with
    | .Break _ => true
    | _ => false
  | .cont, st => match st with
    | .Continue _ => true
    | _ => false
  | .pass, st => match st with
    | .Pass _ => true
    | _ => false
  | .raise C es, st => match st with
    | .Raise (some (.Call (.Name y _) (pa :: pes) [] _)) none _ => !c.hot && decide (c.cls[C]? = some y) && ckG c y && decide (c.nf.getD C 0 ≠ 0) && decide (es.length = c.nf.getD C 0) && decide (es.length ≤ 1000) && (pa :: pes).all notStar && ckEs c es (pa :: pes)
    | _ => false
  | .try bd Cs i hd, st => match Cs with
    | [C0] => (match i with
      | some j => (match st with
        | .Try pb [.ExceptHandler (some (.Name x _)) (some n) (b0 :: psu) _] [] [] _ => !c.hot && c.top && decide (c.cls[C0]? = some x) && ckG c x && decide (c.N[j]? = some n) && decide (c.sc.names.lookup n = some .local) && m j && ckSs c m bd pb && ckSs (suCc c (some j)) m hd (b0 :: psu)
        | _ => false)
      | none => (match st with
        | .Try pb [.ExceptHandler (some (.Name x _)) none (b0 :: psu) _] [] [] _ => !c.hot && c.top && decide (c.cls[C0]? = some x) && ckG c x && ckSs c m bd pb && ckSs (suCc c none) m hd (b0 :: psu)
        | _ => false))
    | _ => false
  | _, _ => false
def ckSs (c : Cc) (m : Nat → Bool) : List S → List Stmt → Bool
  | [], [] => true
  | s :: ss, st :: sts => isStk s || (ckS c m s st && ckSs c m ss sts)
  | _, _ => false
end
theorem nil_or {α : Type} {path : List α} {b : Bool} (h : (path.isEmpty || b) = true) : path = [] ∨ b = true := by
  rw [Bool.or_eq_true] at h
  exact h.imp List.isEmpty_iff.mp id
mutual
theorem sndS {xc : Option (Nat × List D)} {Γ : Ga} {Wx : WX} {c : Cc} {X : Cx} (hx : XcE xc Γ) (O : CtxOk P cf Γ Wx k c X) : ∀ (s : S) (st : Stmt), ckS c m s st = true → PS X st (tS P cf xc Γ Wx m s)
  | .asg t e, st, h => by
    unfold ckS at h
    split at h
    · split at h
      · rw [Bool.or_eq_true] at h
        rcases h with h | h
        · simp only [Bool.and_eq_true] at h
          exact ps_asgN O h.1.1 (sndE hx O e _ h.1.2).1 h.2
        · obtain ⟨q, hm⟩ := sndLc hx O e h
          exact q.imp fun D σ H h => asg_imp hm h
      · cases h
    · split at h
      · simp only [Bool.and_eq_true] at h
        exact ps_asgT O h.1.1 (sndE hx O e _ h.1.2).1 h.2
      · cases h
    · cases h
  | .aug i o e, st, h => by
    unfold ckS at h
    split at h
    · simp only [Bool.and_eq_true, decide_eq_true_eq] at h
      obtain ⟨⟨h1, h2⟩, h3⟩ := h
      subst h1
      exact ps_augI O h2 (sndE hx O e _ h3).1
    · cases h
  | .sset i path k e, st, h => by
    unfold ckS at h
    split at h
    · simp only [Bool.and_eq_true] at h
      obtain ⟨⟨⟨⟨⟨h1, h2⟩, h3⟩, h4⟩, h5⟩, h6⟩ := h
      exact ps_setQ O (sndE hx O e _ h1).1 (sndBox hx O i path _ h2) (sndE hx O k _ h3).1 (nil_or h4) h5 h6
    · cases h
  | .app i path e, st, h => by
    unfold ckS at h
    split at h
    · simp only [Bool.and_eq_true, decide_eq_true_eq] at h
      obtain ⟨⟨⟨⟨⟨h1, h2⟩, h3⟩, h4⟩, h5⟩, h6⟩ := h
      subst h1
      exact ps_appQ O (sndBox hx O i path _ h2) (nil_or h3) (sndE hx O e _ h4).1 h5 (box_base h2) h6
    · cases h
  | .expr e, st, h => by
    unfold ckS at h
    split at h
    · rw [Bool.and_eq_true] at h
      exact ps_exprQ (sndE hx O e _ h.1).1 h.2
    · cases h
  | .ifs e a b, st, h => by
    unfold ckS at h
    split at h
    · simp only [Bool.and_eq_true] at h
      exact ps_ifQ ((sndE hx O e _ h.1.1).2 true) (sndSs hx O a _ h.1.2) (sndSs hx O b _ h.2)
    · cases h
  | .for t it ss, st, h => by
    unfold ckS at h
    split at h
    · simp only [Bool.and_eq_true, Bool.not_eq_true'] at h
      obtain ⟨⟨⟨hh, g1⟩, g2, g2'⟩, g3⟩ := h
      obtain ⟨h1, h2⟩ := sndIt hx O it _ g2
      exact ps_forQ O hh (h1 _ g2') (sndT O t _ g1) (sndSs hx O ss _ g3) (folded_of h2) (evIt_lst g2)
    · cases h
  | .while e ss, st, h => by
    unfold ckS at h
    split at h
    · simp only [Bool.and_eq_true, Bool.not_eq_true'] at h
      exact ps_whileQ O h.1.1 ((sndE hx O e _ h.1.2).2 true) (sndSs hx O ss _ h.2)
    · cases h
  | .ret e, st, h => by
    unfold ckS at h
    split at h
    · exact ps_retQ (sndE hx O e _ h).1
    · split at h
      · exact ps_retNQ
      · cases h
    · cases h
  | .brk, st, h => by
    unfold ckS at h
    split at h
    · exact ps_brkQ
    · cases h
  | .cont, st, h => by
    unfold ckS at h
    split at h
    · exact ps_contQ
    · cases h
  | .pass, st, h => by
    unfold ckS at h
    split at h
    · exact ps_passQ
    · cases h
  | .saug _ _ _ _ _, st, h => by simp [ckS] at h
  | .stk, st, h => by simp [ckS] at h
  | .ext _ _ _, st, h => by simp [ckS] at h
  | .sadd _ _ _, st, h => by simp [ckS] at h
  | .raise C es, st, h => by
    unfold ckS at h
    split at h
    · simp only [Bool.and_eq_true, decide_eq_true_eq, Bool.not_eq_true'] at h
      obtain ⟨⟨⟨⟨⟨⟨⟨hh, h1⟩, h2⟩, h3⟩, h4⟩, h5⟩, h6⟩, h7⟩ := h
      rw [List.all_cons, Bool.and_eq_true] at h6
      have hf : Γ.fN C ≠ [] := fun z => h3 (by rw [← O.nf C, z]; rfl)
      exact ps_raiseQ O hh h1 hf (by rw [O.nf C]; exact h4) h5 h2 (notStar_of h6.1) (fun env => any_of h6.2) (sndEs hx O es _ h7).1
    · cases h
  | .try bd [C0] (some j) hd, st, h => by
    dsimp only [ckS] at h
    split at h
    · simp only [Bool.and_eq_true, decide_eq_true_eq, Bool.not_eq_true'] at h
      obtain ⟨⟨⟨⟨⟨⟨⟨⟨hh, ht⟩, h1⟩, h2⟩, h3⟩, h4⟩, h5⟩, h6⟩, h7⟩ := h
      exact ps_tryQ O hh ht h1 h2 h3 h4 h5 (fun W X' O' => sndSs (xc := none) (by unfold XcE; rw [(O.cool hh).xcn]; rfl) O' bd _ h6) (fun Γ' X' xc' hx' O' => sndSs hx' O' hd _ h7)
    · cases h
  | .try bd [C0] none hd, st, h => by
    dsimp only [ckS] at h
    split at h
    · simp only [Bool.and_eq_true, decide_eq_true_eq, Bool.not_eq_true'] at h
      obtain ⟨⟨⟨⟨⟨hh, ht⟩, h1⟩, h2⟩, h6⟩, h7⟩ := h
      exact ps_tryN O hh ht h1 h2 (fun W X' O' => sndSs (xc := none) (by unfold XcE; rw [(O.cool hh).xcn]; rfl) O' bd _ h6) (fun Γ' X' xc' hx' O' => sndSs hx' O' hd _ h7)
    · cases h
  | .try _ [] _ _, st, h => by simp [ckS] at h
  | .try _ (_ :: _ :: _) _ _, st, h => by simp [ckS] at h
theorem sndSs {xc : Option (Nat × List D)} {Γ : Ga} {Wx : WX} {c : Cc} {X : Cx} (hx : XcE xc Γ) (O : CtxOk P cf Γ Wx k c X) : ∀ (ss : List S) (sts : List Stmt), ckSs c m ss sts = true → PSs X sts (tSs P cf xc Γ Wx m ss)
  | [], [], _ => pss_nilQ
  | s :: ss, st :: sts, h => by
    unfold ckSs at h
    rw [Bool.or_eq_true, Bool.and_eq_true] at h
    rcases h with h | h
    · exact pss_stk h
    · exact pss_consQ (sndS hx O s st h.1) (sndSs hx O ss sts h.2)
  | [], _ :: _, h => by simp [ckSs] at h
  | _ :: _, [], h => by simp [ckSs] at h
end
end
end Q
end
section
set_option Elab.async false
set_option linter.all false
set_option autoImplicit false
set_option maxRecDepth 100000
namespace Q
open PySem PySem.Spec PyProof.Rows L2
def maskF : List Bool → List (List Addr) → List (List Addr)
  | b :: bs, p :: ps => (if b then p else []) :: maskF bs ps
  | _, _ => []
section
variable {Γ : Ga} {H H' : Hp} {N A B : Addr → Prop} {σ : L2.St}
theorem maskF_get : ∀ {fx : List Bool} {fps : List (List Addr)} {i : Nat} {p : List Addr}, (maskF fx fps)[i]? = some p → p = [] ∨ fps[i]? = some p
  | [], _, _, _, h => by simp [maskF] at h
  | _ :: _, [], _, _, h => by simp [maskF] at h
  | b :: fx, q :: fps, 0, p, h => by
    simp [maskF] at h
    cases b with
    | false => left; simpa using h.symm
    | true => right; simpa using h
  | b :: fx, q :: fps, i + 1, p, h => by
    have h : (maskF fx fps)[i]? = some p := by simpa [maskF] using h
    exact (maskF_get h).imp id fun z => by simpa using z
theorem mask_rs : ∀ {fx : List Bool} {en : Env} {σ : L2.St} {fps : List (List Addr)} {vs : List V} {np : Nat}, RSs Γ H N en σ fps → fx.length = np → vs.length = np → np ≤ en.length → (∀ (i : Nat), fx[i]? = some true → σ[i]? = (vs.map some)[i]?) →
    RSs Γ H N (maskP fx (en.take np)) (vs.map some) (maskF fx fps)
  | [], en, σ, fps, [], _, r, h1, h2, h3, h4 => by
    simp [maskP, maskF, RSs]
  | b :: fx, o :: en, w :: σ, p :: fps, v :: vs, np + 1, ⟨r1, r2⟩, h1, h2, h3, h4 => by
    refine ⟨?_, mask_rs (np := np) r2 (by simpa using h1) (by simpa using h2) (by simpa using h3) fun i hi => by simpa using h4 (i + 1) (by simpa using hi)⟩
    cases b with
    | false => rfl
    | true =>
      have e : w = some v := by simpa using h4 0 rfl
      subst e
      exact r1
  | _ :: _, [], [], [], _ :: _, _ + 1, _, _, _, h3, _ => by simp at h3
  | _ :: _, [], [], _ :: _, _, _, z, _, _, _, _ => z.elim
  | _ :: _, [], _ :: _, _, _, _, z, _, _, _, _ => z.elim
  | _ :: _, _ :: _, [], _, _, _, z, _, _, _, _ => z.elim
  | _ :: _, _ :: _, _ :: _, [], _, _, z, _, _, _, _ => z.elim
  | [], _, _, _, _ :: _, np, _, h1, h2, _, _ => by simp at h1 h2; omega
  | _ :: _, _, _, _, [], np, _, h1, h2, _, _ => by simp at h1 h2; omega
  | _ :: _, _, _, _, _ :: _, 0, _, h1, _, _, _ => by simp at h1
theorem mask_sta (hx : Γ.xc = none) {fx : List Bool} {en : Env} {fps : List (List Addr)} {vs : List V} {np : Nat} (st : Sta Γ H A en σ fps) (h1 : fx.length = np) (h2 : vs.length = np) (h3 : np ≤ en.length) (h4 : ∀ (i : Nat), fx[i]? = some true → σ[i]? = (vs.map some)[i]?) :
    Sta Γ H A (maskP fx (en.take np)) (vs.map some) (maskF fx fps) ∧ ∀ a, Own (maskF fx fps) a → Own fps a := by
  have ow : ∀ a, Own (maskF fx fps) a → Own fps a := fun a ⟨i, p, hi, ha⟩ => by
    rcases maskF_get hi with e | e
    · subst e; cases ha
    · exact ⟨i, p, e, ha⟩
  refine ⟨⟨(mask_rs st.rs h1 h2 h3 h4).weak fun a z => z.imp id (ow a), ⟨fun i p hi => ?_, fun i j p q hi hj ne a ha hq => ?_⟩, fun a ha => st.ap a (ow a ha), st.dom, XO.cold hx⟩, ow⟩
  · rcases maskF_get hi with e | e
    · subst e; exact List.nodup_nil
    · exact st.dj.one i p e
  · rcases maskF_get hi with e | e
    · subst e; cases ha
    · rcases maskF_get hj with e' | e'
      · subst e'; cases hq
      · exact st.dj.two i j p q e e' ne a ha hq
theorem rss_pad : ∀ {en : Env} {σ : L2.St} {fps : List (List Addr)} (n : Nat), RSs Γ H N en σ fps → RSs Γ H N (en ++ List.replicate n none) (σ ++ List.replicate n none) (fps ++ List.replicate n [])
  | [], [], [], 0, _ => True.intro
  | [], [], [], n + 1, r => ⟨rfl, rss_pad (en := []) (σ := []) (fps := []) n r⟩
  | o :: en, w :: σ, p :: fps, n, ⟨h1, h2⟩ => ⟨h1, rss_pad n h2⟩
  | [], [], _ :: _, _, z => z.elim
  | [], _ :: _, _, _, z => z.elim
  | _ :: _, [], _, _, z => z.elim
  | _ :: _, _ :: _, [], _, z => z.elim
theorem own_pad {fps : List (List Addr)} {n : Nat} : Own (fps ++ List.replicate n []) = Own fps := by
  funext a
  refine propext ⟨fun h => ?_, fun h => own_app.mpr (.inl h)⟩
  rcases own_app.mp h with h | ⟨i, p, hi, ha⟩
  · exact h
  · have := List.eq_of_mem_replicate (List.mem_of_getElem? hi)
    subst this; cases ha
theorem nn_pad {fps : List (List Addr)} {n : Nat} : Nn A (fps ++ List.replicate n []) = Nn A fps := by
  funext a
  show (A a ∨ Own (fps ++ List.replicate n []) a) = _
  rw [own_pad]
theorem sta_pad (hx : Γ.xc = none) {en : Env} {fps : List (List Addr)} (n : Nat) (st : Sta Γ H A en σ fps) : Sta Γ H A (en ++ List.replicate n none) (σ ++ List.replicate n none) (fps ++ List.replicate n []) := by
  refine ⟨(rss_pad n st.rs).weak fun a z => by rw [own_pad] at z; exact z, Dj.app.mpr ⟨st.dj, ⟨fun i p hi => ?_, fun i j p q hi hj ne a ha => ?_⟩, fun a h h' => ?_⟩, fun a ha => by rw [own_pad] at ha; exact st.ap a ha, st.dom, XO.cold hx⟩
  · have := List.eq_of_mem_replicate (List.mem_of_getElem? hi)
    subst this; exact List.nodup_nil
  · have := List.eq_of_mem_replicate (List.mem_of_getElem? hi)
    subst this; cases ha
  · obtain ⟨i, p, hi, ha⟩ := h'
    have := List.eq_of_mem_replicate (List.mem_of_getElem? hi)
    subst this; cases ha
end
theorem callF_succ {P : Prog} {k f : Nat} {ds : List D} : callF P (k + 1) f ds = (match P.fns[f]? with
    | none => .st
    | some fn => if ds.length = fn.np then
        match exs P (callF P k) none fn.body (startE fn ds) with
        | .ok (.rt d) en => .ok d (maskP fn.fx (en.take fn.np))
        | .ok .nx en => .ok .non (maskP fn.fx (en.take fn.np))
        | .ex C xs en => .ex C xs (maskP fn.fx (en.take fn.np))
        | _ => .st
      else .st) := rfl
theorem fn_zero {P : Program} {w : World} {K : PySem.W.Frag} {mg : Str → Option Value} {base : Heap} {CX : CXT} {Γ : Ga} {Pg : Prog} {i np k : Nat} {f : Addr} {fd : FuncData} {ps : List Str} (hn : ps.length = np) : FnOk P w K mg base CX k f fd ps (spA Γ (callF Pg 0) i np) := by
  refine ⟨fun vs H Q E h => ?_, fun A outer s H args us vs Q E _ _ _ _ h => ?_⟩
  · obtain ⟨_, _, _, _, _, g⟩ := h
    exact g.elim
  · obtain ⟨_, _, _, _, _, g⟩ := h
    exact g.elim
structure Tab where
  free : List Str
  fns : List Str
  gls : List Str
  cls : List Str
  fld : List Str
  kws : List (Nat × List Str × List Nat)
  nf : List Nat
  hfns : List (Nat × Str)
def defCc (T : Tab) (N : List Str) (sc : Scope) : Cc := ⟨N, sc, T.free, T.fns, T.gls, T.cls, T.fld, T.kws, T.nf, fun _ => true, false, none, true, T.hfns⟩
def hotCc (T : Tab) (N : List Str) (sc : Scope) : Cc := ⟨N, sc, T.free, T.fns, T.gls, T.cls, T.fld, T.kws, T.nf, fun _ => true, true, none, false, T.hfns⟩
structure RzB (P : Program) (w : World) (K : PySem.W.Frag) (mg : Str → Option Value) (base : Heap) (Γ : Ga) (C : Nat) : Prop where
  ox : OexC K (Γ.cA C)
  nd : (Γ.fN C).Nodup
  no : ∀ f ∈ Γ.fN C, PySem.W.findIn K (.ref (Γ.cA C)) f = some none
  ini : ∃ (fI : Addr) (fd : FuncData) (ps : List Str), PySem.W.findIn K (.ref (Γ.cA C)) "__init__" = some (some (.ref fI)) ∧ PySem.W.typeIn K (.ref fI) = some (.type "function") ∧
    FnOk P w K mg base (L2.CX P w) 1 fI fd ps (spIni K (Γ.fN C)) ∧ Binds K fd ps []
structure TabOk (P : Program) (w : World) (K : PySem.W.Frag) (mg : Str → Option Value) (base : Heap) (Γ : Ga) (Pg : Prog) (T : Tab) : Prop where
  hK : Γ.K = K
  xc : Γ.xc = none
  free : ∀ y ∈ T.free, mg y = none
  gls : ∀ (j : Nat) (y : Str), T.gls[j]? = some y → ∃ (d : D) (v : V) (u : Value), Pg.gl[j]? = some d ∧ own d = false ∧ mg y = some u ∧ RelV v u ∧ ∀ H N, RO Γ H N d v []
  clm : ∀ (C : Nat) (y : Str), T.cls[C]? = some y → mg y = some (.ref (Γ.cA C))
  cls : ∀ C, Γ.fN C ≠ [] → ClsH Pg K Γ T.cls.length C
  rz : ∀ C, Γ.fN C ≠ [] → RzB P w K mg base Γ C
  fld : ∀ C, Γ.fN C ≠ [] → Γ.fN C = (Pg.fnm C).map fun i => T.fld.getD i default
  nf : ∀ C, (Γ.fN C).length = T.nf.getD C 0
theorem tail_ok {Γ : Ga} {Pg : Prog} {i k : Nat} {fn : Fn} {N ps : List Str} {scope : Scope} {vs : List V} {H : Hp} {Q : VK} {E : XK} (xc0 : Γ.xc = none) (S : FnScope N ps scope) (hfn : Pg.fns[i]? = some fn) (hnp : fn.np = ps.length) (hns : fn.ns = N.length) (hfx : fn.fx.length = ps.length)
    (h : spA Γ (callF Pg (k + 1)) i ps.length vs H Q E) : tSs Pg (callF Pg k) none Γ (fun cls d _ H => E cls d H) (fun j => !(fn.fx.getD j false)) fn.body { nx := fun _ H' => Q .non H', rt := Q } (start N vs) H := by
    obtain ⟨A0, ds, fps, hl, st, g⟩ := h
    have hvl : vs.length = ds.length := by
      have := st.rs.length.1
      simpa using this
    have e1 : callF Pg (k + 1) i ds = (if ds.length = fn.np then
        match exs Pg (callF Pg k) none fn.body (startE fn ds) with
        | .ok (.rt d) en => CR.ok d (maskP fn.fx (en.take fn.np))
        | .ok .nx en => .ok .non (maskP fn.fx (en.take fn.np))
        | .ex C xs en => .ex C xs (maskP fn.fx (en.take fn.np))
        | _ => .st
      else .st) := by
      rw [callF_succ, hfn]
    rw [e1, if_pos (by rw [hl, hnp])] at g
    have eN : N.length - vs.length = fn.ns - fn.np := by rw [hns, hnp, hvl, hl]
    have hst : Sta Γ H A0 (startE fn ds) (start N vs) (fps ++ List.replicate (fn.ns - fn.np) []) := by
      unfold startE L2.start
      rw [eN]
      exact sta_pad xc0 _ st
    refine ⟨A0, startE fn ds, _, hst, ?_⟩
    have hpl : ps.length ≤ N.length := by
      have := congrArg List.length S.pre
      rw [List.length_take] at this
      omega
    
    have fin : ∀ {H' : Hp} {B : Addr → Prop} {en' : Env} {σ' : L2.St} {fps' : List (List Addr)}, Sta Γ H' B en' σ' fps' → Stay (fun j => !(fn.fx.getD j false)) (start N vs) σ' →
        Sta Γ H' B (maskP fn.fx (en'.take fn.np)) (vs.map some) (maskF fn.fx fps') ∧ ∀ a, Own (maskF fn.fx fps') a → Own fps' a := fun {H' B en' σ' fps'} s1 y => by
      refine mask_sta xc0 s1 (by rw [hfx, hnp]) (by rw [hvl, hl, hnp]) ?_ fun j hj => ?_
      · have l1 := s1.rs.length.1
        have l2 := y.1
        have l3 : (start N vs).length = N.length := by
          unfold L2.start
          rw [List.length_append, List.length_map, List.length_replicate]
          omega
        omega
      · have hm : (!(fn.fx.getD j false)) = false := by
          rw [List.getD_eq_getElem?_getD, hj]; rfl
        rw [y.2 j hm]
        have hj' : j < ps.length := by
          rw [← hfx]
          exact (List.getElem?_eq_some_iff.mp hj).1
        unfold L2.start
        rw [List.getElem?_append_left (by rw [List.length_map]; omega)]
    have ret : ∀ {d : D} {en' : Env}, (∀ v H' qs gps, Aft Γ false false H A0 fps (vs.map some) [d] [v] H' (maskP fn.fx (en'.take fn.np)) qs gps → Q v H') →
        ∀ v σ' H' ps fps', Aft Γ false false H A0 (fps ++ List.replicate (fn.ns - fn.np) []) σ' [d] [v] H' en' ps fps' → Stay (fun j => !(fn.fx.getD j false)) (start N vs) σ' → Q v H' := fun {d en'} q v σ' H' ps fps' a y => by
      obtain ⟨s2, ow⟩ := fin a.sta y
      have w : ∀ b, Nn (Nn A0 ps) (maskF fn.fx fps') b → Nn (Nn A0 ps) fps' b := fun b z => z.imp id (ow b)
      obtain ⟨gq, eq, rq⟩ := a.ro
      have fr := a.fr
      rw [own_pad, nn_pad] at fr
      exact q v H' ps _ ⟨s2, ⟨gq, eq, rq.weak w⟩, a.dj, a.ap, fr.weakNew w⟩
    cases hr : exs Pg (callF Pg k) none fn.body (startE fn ds) with
    | st => rw [hr] at g; exact g
    | ok fl en' =>
      rw [hr] at g
      cases fl with
      | rt d => exact ret g
      | nx =>
        intro σ' H' fps' a y
        have g : ∀ v H' qs gps, Aft Γ false false H A0 fps (vs.map some) [.non] [v] H' (maskP fn.fx (en'.take fn.np)) qs gps → Q v H' := g
        have a0 : Aft Γ false false H' A0 fps' σ' [.non] [.non] H' en' [[]] fps' := Aft.part (Aft.nil (b := false) a.sta) (d := .non) (v := .non) (fp := []) ⟨rfl, rfl⟩ fun z => nomatch z
        exact ret g .non σ' H' [[]] fps' (a.val a0) y
      | bk => exact g.elim
      | ct => exact g.elim
    | ex C xs en' =>
      rw [hr] at g
      intro cls dd σ' H' fps' a y
      obtain ⟨s2, ow⟩ := fin a.sta y
      have w : ∀ b, Nn A0 (maskF fn.fx fps') b → Nn A0 fps' b := fun b z => z.imp id (ow b)
      have fr := a.fr
      rw [own_pad, nn_pad] at fr
      exact g cls dd H' _ ⟨s2, a.xr.keep (Kp.id w), fr.weakNew w⟩
theorem fn_up {P : Program} {w : World} {K : PySem.W.Frag} {mg : Str → Option Value} {base : Heap} {Γ : Ga} {Pg : Prog} {T : Tab} {i k : Nat} {f : Addr} {fd : FuncData} {x : Str} {params : Arguments} {body : List Stmt} {scope : Scope} {fn : Fn} {N ps : List Str}
    (F : FunD K x x params body scope [] [] f fd) (S : FnScope N ps scope) (hfn : Pg.fns[i]? = some fn) (hnp : fn.np = ps.length) (hns : fn.ns = N.length) (hfx : fn.fx.length = ps.length) (TO : TabOk P w K mg base Γ Pg T)
    (ck : ckSs (defCc T N scope) (fun j => !(fn.fx.getD j false)) fn.body body = true)
    (hfns : ∀ (j : Nat) (y : Str), T.fns[j]? = some y → ∃ fa fd' ps', mg y = some (.ref fa) ∧ PySem.W.keepIn K (.ref fa) = true ∧ Binds K fd' ps' [] ∧ FnOk P w K mg base (L2.CX P w) (k + 2) fa fd' ps' (spA Γ (callF Pg k) j ps'.length) ∧ (∀ ds, callF Pg k j ds ≠ .st → ds.length = ps'.length) ∧ ∀ ks js, (j, ks, js) ∈ T.kws → KwB K fd' ps' ks js)
    (hhot : ∀ (f : Nat) (x : Str), (f, x) ∈ T.hfns → ∃ fa fd' ps', mg x = some (.ref fa) ∧ PySem.W.keepIn K (.ref fa) = true ∧ Binds K fd' ps' [] ∧ FnW P w K mg base (k + 2) fa fd' ps' (spH (cold Γ) (callF Pg k) f ps'.length) ∧ ∀ ds, callF Pg k f ds ≠ .st → ds.length = ps'.length) :
    FnOk P w K mg base (L2.CX P w) (k + 3) f fd ps (spA Γ (callF Pg (k + 1)) i ps.length) := by
  refine F.ok S (fun vs H Q E h => ?_) (fun cdv A outer s H vs Q E hr h => ?_)
  · obtain ⟨A, ds, fps, hl, st, _⟩ := h
    have := st.rs.length.1
    simp at this
    omega
  · have O : CtxOk Pg (callF Pg k) Γ (fun cls d _ H => E cls d H) (k + 2) (defCc T N scope) (cxOf (L2.CX P w) P w K mg base N x scope f cdv A outer s H E) :=
      ⟨rfl, S.nd, rfl, TO.hK.symm, hr.units, TO.free, TO.gls, fun _ _ => rfl, (fun y h => by rw [TO.xc] at h; cases h), fun _ => ⟨rfl, hr, TO.xc, hfns, takes_of rfl rfl rfl rfl, passes_of rfl, Nat.le_add_left _ _, fun C h => ⟨(TO.rz C h).ox, (TO.rz C h).nd, (TO.rz C h).no, (TO.rz C h).ini⟩⟩,
        TO.clm, TO.cls, (fun y h => by rw [TO.xc] at h; cases h), TO.fld, TO.nf, (fun _ => ⟨rfl, rfl⟩), ⟨L2H.roomH_of hr, hhot⟩, (fun h => Bool.noConfusion (show false = true from h))⟩
    refine ⟨_, sndSs (xc := none) (m := fun j => !(fn.fx.getD j false)) (by unfold XcE; rw [TO.xc]; rfl) O fn.body body ck, tail_ok TO.xc S hfn hnp hns hfx h⟩
theorem fn_upH {P : Program} {w : World} {K : PySem.W.Frag} {mg : Str → Option Value} {base : Heap} {Γ : Ga} {Pg : Prog} {T : Tab} {i k : Nat} {f : Addr} {fd : FuncData} {x : Str} {params : Arguments} {body : List Stmt} {scope : Scope} {fn : Fn} {N ps : List Str}
    (F : FunD K x x params body scope [] [] f fd) (S : FnScope N ps scope) (hfn : Pg.fns[i]? = some fn) (hnp : fn.np = ps.length) (hns : fn.ns = N.length) (hfx : fn.fx.length = ps.length) (TO : TabOk P w K mg base Γ Pg T)
    (ck : ckSs (hotCc T N scope) (fun j => !(fn.fx.getD j false)) fn.body body = true)
    (hhot : ∀ (f : Nat) (x : Str), (f, x) ∈ T.hfns → ∃ fa fd' ps', mg x = some (.ref fa) ∧ PySem.W.keepIn K (.ref fa) = true ∧ Binds K fd' ps' [] ∧ FnW P w K mg base (k + 2) fa fd' ps' (spH (cold Γ) (callF Pg k) f ps'.length) ∧ ∀ ds, callF Pg k f ds ≠ .st → ds.length = ps'.length) :
    FnW P w K mg base (k + 3) f fd ps (spH (cold Γ) (callF Pg (k + 1)) i ps.length) := by
  have ec : cold Γ = Γ := by
    have := TO.xc
    cases Γ
    simp only [cold] at this ⊢
    rw [this]
  refine FunD.okW F S (fun vs H Q h => ?_) (fun cdv A outer s H vs Q p hr h => ?_)
  · obtain ⟨A, ds, fps, hl, st, _⟩ := h
    have := st.rs.length.1
    simp at this
    omega
  · have O : CtxOk Pg (callF Pg k) Γ (fun _ _ _ _ => False) (k + 2) (hotCc T N scope) (cxW P w K mg base N x scope f cdv A outer s H p) :=
      ⟨rfl, S.nd, rfl, TO.hK.symm, (by have := hr.un; show (A.deeper (envOfC x scope s.heap.objs.size f cdv)).units + 64 < cLine; omega), TO.free, TO.gls, fun _ _ => rfl, (fun y h => by rw [TO.xc] at h; cases h), (fun h => Bool.noConfusion (show true = false from h)),
        TO.clm, TO.cls, (fun y h => by rw [TO.xc] at h; cases h), TO.fld, TO.nf, (fun h => Bool.noConfusion (show false = true from h)), ⟨hr, hhot⟩, fun _ => ⟨p, List.mem_singleton.mpr rfl⟩⟩
    refine ⟨_, sndSs (xc := none) (m := fun j => !(fn.fx.getD j false)) (by unfold XcE; rw [TO.xc]; rfl) O fn.body body ck, tail_ok (E := fun _ _ _ => False) TO.xc S hfn hnp hns hfx ?_⟩
    rw [ec] at h
    obtain ⟨A0, ds, fps, hl, st, g⟩ := h
    refine ⟨A0, ds, fps, hl, st, ?_⟩
    cases hr : callF Pg (k + 1) i ds with
    | st => rw [hr] at g; exact g
    | ok d ps' => rw [hr] at g; exact g
    | ex C xs ps' => rw [hr] at g; exact g.elim
end Q
end
section
set_option Elab.async false
set_option linter.all false
set_option autoImplicit false
set_option maxRecDepth 100000
namespace Q
open PySem PySem.Spec PyProof.Rows L2
structure FOk (K : PySem.W.Frag) (mg : Str → Option Value) (Pg : Prog) (T : Tab) (j : Nat) (y : Str) (f : Addr) (fd : FuncData) (ps : List Str) : Prop where
  mgf : mg y = some (.ref f)
  bd : Binds K fd ps []
  kw : ∀ ks js, (j, ks, js) ∈ T.kws → KwB K fd ps ks js
  ex : ∃ (params : Arguments) (body : List Stmt) (scope : Scope) (N : List Str) (fn : Fn), FunD K y y params body scope [] [] f fd ∧ FnScope N ps scope ∧ Pg.fns[j]? = some fn ∧ fn.np = ps.length ∧ fn.ns = N.length ∧ fn.fx.length = ps.length ∧
    ckSs (defCc T N scope) (fun j => !(fn.fx.getD j false)) fn.body body = true
section
variable {P : Program} {w : World} {K : PySem.W.Frag} {mg : Str → Option Value} {base : Heap} {Γ : Ga} {Pg : Prog} {T : Tab}
structure FOkH (K : PySem.W.Frag) (mg : Str → Option Value) (Pg : Prog) (T : Tab) (j : Nat) (y : Str) (f : Addr) (fd : FuncData) (ps : List Str) : Prop where
  mgf : mg y = some (.ref f)
  bd : Binds K fd ps []
  ex : ∃ (params : Arguments) (body : List Stmt) (scope : Scope) (N : List Str) (fn : Fn), FunD K y y params body scope [] [] f fd ∧ FnScope N ps scope ∧ Pg.fns[j]? = some fn ∧ fn.np = ps.length ∧ fn.ns = N.length ∧ fn.fx.length = ps.length ∧
    ckSs (hotCc T N scope) (fun j => !(fn.fx.getD j false)) fn.body body = true
theorem fn_len {j : Nat} {fn : Fn} {np k : Nat} (h1 : Pg.fns[j]? = some fn) (h2 : fn.np = np) {ds : List D} (z : callF Pg (k + 1) j ds ≠ .st) : ds.length = np := by
  rw [callF_succ, h1] at z
  have z : (if ds.length = fn.np then (match exs Pg (callF Pg k) none fn.body (startE fn ds) with
    | .ok (.rt d) en => .ok d (maskP fn.fx (en.take fn.np))
    | .ok .nx en => .ok .non (maskP fn.fx (en.take fn.np))
    | .ex C xs en => .ex C xs (maskP fn.fx (en.take fn.np))
    | _ => .st) else CR.st) ≠ .st := z
  by_cases h : ds.length = fn.np
  · rw [h, h2]
  · rw [if_neg h] at z; exact absurd rfl z
theorem levelsH (TO : TabOk P w K mg base Γ Pg T) (hH : ∀ (j : Nat) (y : Str), (j, y) ∈ T.hfns → ∃ f fd ps, FOkH K mg Pg T j y f fd ps) (k : Nat) : ∀ (j : Nat) (y : Str), (j, y) ∈ T.hfns →
      ∃ fa fd' ps', mg y = some (.ref fa) ∧ PySem.W.keepIn K (.ref fa) = true ∧ Binds K fd' ps' [] ∧ FnW P w K mg base (k + 2) fa fd' ps' (spH (cold Γ) (callF Pg k) j ps'.length) ∧ ∀ ds, callF Pg k j ds ≠ .st → ds.length = ps'.length := by
  induction k with
  | zero =>
    intro j y hj
    obtain ⟨f, fd, ps, q⟩ := hH j y hj
    obtain ⟨_, _, _, _, _, F, _⟩ := q.ex
    exact ⟨f, fd, ps, q.mgf, F.kp, q.bd, ⟨fun vs H Q ⟨_, _, _, _, _, g⟩ => g.elim, fun A outer s H args us vs Q p _ _ _ _ _ ⟨_, _, _, _, _, g⟩ => g.elim⟩, fun ds z => absurd rfl z⟩
  | succ k ih =>
    intro j y hj
    obtain ⟨f, fd, ps, q⟩ := hH j y hj
    obtain ⟨params, body, scope, N, fn, F, S, h1, h2, h3, h4, h5⟩ := q.ex
    exact ⟨f, fd, ps, q.mgf, F.kp, q.bd, fn_upH F S h1 h2 h3 h4 TO h5 ih, fun ds z => fn_len h1 h2 z⟩
theorem levels (TO : TabOk P w K mg base Γ Pg T) (hH : ∀ (j : Nat) (y : Str), (j, y) ∈ T.hfns → ∃ f fd ps, FOkH K mg Pg T j y f fd ps) (hD : ∀ (j : Nat) (y : Str), T.fns[j]? = some y → ∃ f fd ps, FOk K mg Pg T j y f fd ps) (k : Nat) : ∀ (j : Nat) (y : Str) (f : Addr) (fd : FuncData) (ps : List Str), FOk K mg Pg T j y f fd ps →
      FnOk P w K mg base (L2.CX P w) (k + 2) f fd ps (spA Γ (callF Pg k) j ps.length) ∧ ∀ ds, callF Pg k j ds ≠ .st → ds.length = ps.length := by
  induction k with
  | zero => exact fun j y f fd ps h => ⟨fn_zero rfl, fun ds z => absurd rfl z⟩
  | succ k ih =>
    intro j y f fd ps h
    obtain ⟨params, body, scope, N, fn, F, S, h1, h2, h3, h4, h5⟩ := h.ex
    refine ⟨fn_up F S h1 h2 h3 h4 TO h5 (fun j' y' hj => ?_) (levelsH TO hH k), fun ds z => fn_len h1 h2 z⟩
    obtain ⟨f', fd', ps', q⟩ := hD j' y' hj
    obtain ⟨_, _, _, _, _, F', _⟩ := q.ex
    obtain ⟨g1, g2⟩ := ih j' y' f' fd' ps' q
    exact ⟨f', fd', ps', q.mgf, F'.kp, q.bd, g1, g2, q.kw⟩
theorem ints_ros {H : Hp} {N : Addr → Prop} : ∀ ns : List Int, ∃ fps, ROs Γ H N (ns.map D.int) (ns.map V.int) fps ∧ ∀ p ∈ fps, p = []
  | [] => ⟨[], True.intro, fun _ h => nomatch h⟩
  | n :: ns => by
    obtain ⟨fps, h, hf⟩ := ints_ros (H := H) (N := N) ns
    exact ⟨[] :: fps, ⟨⟨rfl, rfl⟩, h⟩, fun p hp => (List.mem_cons.mp hp).elim id (hf p)⟩
theorem law_sp {H : Hp} {a : Addr} {ns : List Int} {k j : Nat} (hx : Γ.xc = none) (hS : ScL Γ.K H a (ns.map V.int)) (law : ∃ ps, callF Pg k j [.scr (ns.map D.int)] = .ok (.bl true) ps) : spA Γ (callF Pg k) j 1 [.ref a] H (fun v _ => v = .bl true) (fun _ _ _ => False) := by
  obtain ⟨fps, r, hf⟩ := ints_ros (Γ := Γ) (H := H) (N := fun b => False ∨ Own [[]] b) ns
  refine ⟨fun _ => False, [.scr (ns.map D.int)], [[]], rfl, ⟨⟨⟨.ref a, rfl, a, _, fps, rfl, hS, r, hf, rfl⟩, True.intro⟩, Dj.cons.mpr ⟨List.nodup_nil, (fun b h => nomatch h), Dj.nil⟩, fun b _ z => z, (fun b z => z.elim), XO.cold hx⟩, ?_⟩
  obtain ⟨ps, e⟩ := law
  rw [e]
  intro v H' qs gps y
  obtain ⟨fp, ry, _⟩ := y.one
  exact ry.1
end
end Q
end
section
set_option linter.all false
namespace Q
open PySem L2
structure FDat where
  y : Str
  N : List Str
  np : Nat
  at_ : Nat
def frees : List Str := ["len", "int", "isinstance", "bool", "str", "tuple", "list", "range", "abs", "max", "min", "sum", "all", "any", "enumerate", "zip", "ValueError"]
def badS (c : Cc) (m : Nat → Bool) : List S → List Stmt → Nat → Option Nat
  | [], [], _ => none
  | s :: ss, st :: sts, k => if ckS c m s st then badS c m ss sts (k + 1) else some k
  | _, _, k => some (1000 + k)
def lookF (body : List Stmt) (Pg : Prog) (T : Tab) (j : Nat) (d : FDat) : Str × Option Nat :=
  match body[d.at_]?, Pg.fns[j]? with
  | some (.FunctionDef name _ b _ _ _ sc _ _ _), some fn => (d.y, badS (defCc T d.N sc) (fun j => !(fn.fx.getD j false)) fn.body b 0)
  | _, _ => (d.y, some 7777)
def lookH (body : List Stmt) (Pg : Prog) (T : Tab) (j : Nat) (d : FDat) : Str × Option Nat :=
  match body[d.at_]?, Pg.fns[j]? with
  | some (.FunctionDef name _ b _ _ _ sc _ _ _), some fn => (d.y, if ckSs (hotCc T d.N sc) (fun j => !(fn.fx.getD j false)) fn.body b then none else some 8888)
  | _, _ => (d.y, some 7777)
end Q
end
section
set_option Elab.async false
set_option linter.all false
set_option autoImplicit false
set_option maxRecDepth 100000
namespace Q
open PySem PySem.Spec PyProof.Rows L2
def obsQ (chk : PySem.W.Frag → Bool) (fn : List He.DefD) (K : PySem.W.Frag) : He.AlD := (chk K && fn.all fun d => d.ok K, fn.map fun d => He.fnW K d.at_)
def SaysQ (chk : PySem.W.Frag → Bool) (fn : List He.DefD) (K : PySem.W.Frag) : Prop := obsQ chk fn K = He.valD fn
def obsQG (n : Nat) (chk : PySem.W.Frag → Bool) (fn : List He.DefD) (g : Addr → Option Obj) : He.AlD := obsQ chk fn (He.frG g (He.asD g n))
def hookQ (n : Nat) (chk : PySem.W.Frag → Bool) (fn : List He.DefD) : PySem.W.Hook where
  α := He.AlD
  obs := fun s => obsQG n chk fn s.heap.get?
  val := fun _ => He.valD fn
  says := fun _ h => ∃ K : PySem.W.Frag, K.In h ∧ SaysQ chk fn K
  of := fun _ _ e => ⟨_, He.frG_in, e⟩
  keeps := fun _ _ _ ⟨K, hK, c⟩ k => ⟨K, PySem.W.Frag.In.keeps hK k, c⟩
theorem obsQG_eq {n : Nat} {chk : PySem.W.Frag → Bool} {fn : List He.DefD} {g : Addr → Option Obj} {s : Shared} (h : ∀ a, g a = s.heap.get? a) : obsQG n chk fn g = (hookQ n chk fn).obs s := by
  have e : g = s.heap.get? := funext h
  rw [e] <;> rfl
section
variable {chk : PySem.W.Frag → Bool} {fn : List He.DefD} {K : PySem.W.Frag}
theorem SaysQ.ck (c : SaysQ chk fn K) : chk K = true := (He.ba (show (chk K && fn.all fun d => d.ok K) = true from congrArg (fun z : He.AlD => z.1) c)).1
theorem SaysQ.def_ (c : SaysQ chk fn K) (i : Nat) {d : He.DefD} (h : fn[i]? = some d) : ∃ fd, FunD K d.name d.qual d.params d.body d.scope (d.dvs K) (d.kws K) (He.fAd K d.at_) fd := by
  have c2 := (He.ba (show (chk K && fn.all fun d => d.ok K) = true from congrArg (fun z : He.AlD => z.1) c)).2
  have e : fn.map (fun d => He.fnW K d.at_) = fn.map He.DefD.val := congrArg (fun z : He.AlD => z.2) c
  have e2 : (fn.map fun d => He.fnW K d.at_)[i]? = (fn.map He.DefD.val)[i]? := by rw [e]
  rw [List.getElem?_map, List.getElem?_map, h] at e2
  exact He.DefD.funD (Option.some.inj e2) (List.all_eq_true.mp c2 d (List.mem_of_getElem? h))
end
def gloB (K : PySem.W.Frag) (x : Str) : Bool := He.eqO (PySem.W.nsIn K mainGlobals x) (some (some (.ref (He.ga K x))))
def freeB (K : PySem.W.Frag) (x : Str) : Bool := He.eqO (PySem.W.nsIn K mainGlobals x) (some none)
def cstB (K : PySem.W.Frag) (x : Str) : D → Bool
  | .int i => (match PySem.W.nsIn K mainGlobals x with
    | some (some (.int j _)) => decide (j = i)
    | _ => false)
  | .str z => (match PySem.W.nsIn K mainGlobals x with
    | some (some (.str y _)) => decide (y = ⟨z.toArray⟩) && decide (z.length ≤ LIM)
    | _ => false)
  | _ => false
def cstsB (K : PySem.W.Frag) : List Str → List D → Bool
  | [], _ => true
  | x :: xs, d :: ds => cstB K x d && cstsB K xs ds
  | _, _ => false
def oxB (K : PySem.W.Frag) (C : Addr) : Bool := (match K.lookup C with
  | some ⟨.type "type", _, .cls cd, sl⟩ => (match cd.mro, sl.toList with
    | .ref C' :: bm, [_, _, _, _, some (.builtin n), _] => decide (C' = C) && decide (n = "ValueError.__new__") && cd.hasDict && !cd.hasDel && PySem.HandSPX.refsVE bm
    | _, _ => false)
  | _ => false) && (decide (PySem.W.findIn K (.ref C) "__setattr__" = some (some (.builtin "object.__setattr__"))) && (decide (PySem.W.subIn K (.ref C) (.type "BaseException") = some true) && (decide (PySem.W.typeIn K (.ref C) = some (.type "type")) && PySem.W.keepIn K (.ref C))))
theorem oxB_ok {K : PySem.W.Frag} {C : Addr} (h : oxB K C = true) : OexC K C := by
  unfold oxB at h
  obtain ⟨h0, h⟩ := He.ba h
  obtain ⟨h1, h⟩ := He.ba h
  obtain ⟨h2, h⟩ := He.ba h
  obtain ⟨h3, h4⟩ := He.ba h
  refine ⟨?_, of_decide_eq_true h1, of_decide_eq_true h2, of_decide_eq_true h3, h4⟩
  split at h0
  · rename_i dd cd sl ho
    split at h0
    · rename_i C' bm k0 k1 k2 k3 n k5 hm hs
      simp only [Bool.and_eq_true, decide_eq_true_eq, Bool.not_eq_true'] at h0
      obtain ⟨⟨⟨⟨rfl, rfl⟩, hd⟩, hdel⟩, hb⟩ := h0
      obtain ⟨nm, bs, mro, ns, qn, hdd, sn, sub, ab, col, del⟩ := cd
      dsimp only at hm hdel hd
      subst hm hdel hd
      have hsl : sl = #[k0, k1, k2, k3, some (.builtin "ValueError.__new__"), k5] := by
        obtain ⟨l⟩ := sl
        simp only at hs
        rw [hs]
      subst hsl
      exact ⟨nm, qn, ns, bs, bm, sn, sub, ab, col, dd, k0, k1, k2, k3, k5, ho, hb⟩
    · cases h0
  · cases h0
def ecB (K : PySem.W.Frag) (D : Addr) : Bool :=
  decide (PySem.W.findIn K (.ref D) "__getattribute__" = some (some (.builtin "BaseException.__getattribute__"))) && (decide (PySem.W.findIn K (.ref D) "__getattr__" = some none) && (decide (PySem.W.subIn K (.ref D) (.type "BaseException") = some true) && (PySem.W.hasDictIn K D &&
    (decide (PySem.W.findIn K (.ref D) "__class__" = some (some (.builtin "object.__class__"))) && (decide (PySem.W.specialIn K (.builtin "object.__class__") "__get__" = some (some (.builtin "getset_descriptor.__get__"))) && (decide (PySem.W.takesIn K (.builtin "object.__class__") = some true) && decide (PySem.W.mroIn K D (.type "object") = some true)))))))
theorem ecB_ok {K : PySem.W.Frag} {D : Addr} (h : ecB K D = true) : ExcC K D := by
  obtain ⟨h1, h⟩ := He.ba h
  obtain ⟨h2, h⟩ := He.ba h
  obtain ⟨h3, h⟩ := He.ba h
  obtain ⟨h4, h⟩ := He.ba h
  obtain ⟨h5, h⟩ := He.ba h
  obtain ⟨h6, h⟩ := He.ba h
  obtain ⟨h7, h8⟩ := He.ba h
  exact ⟨of_decide_eq_true h1, of_decide_eq_true h2, of_decide_eq_true h3, h4, of_decide_eq_true h5, of_decide_eq_true h6, of_decide_eq_true h7, of_decide_eq_true h8⟩
section
variable (K : PySem.W.Frag) (sup : Nat → List Nat) (cls : List Str)
def cAt (C : Nat) : Addr := He.ga K (cls.getD C default)
def errB (C : Nat) (fs : List Str) : Bool :=
  ecB K (cAt K cls C) && (xfB K (cAt K cls C) && (oxB K (cAt K cls C) && ((fs.all fun f => decide (PySem.W.findIn K (.ref (cAt K cls C)) f = some none)) && (decide fs.Nodup &&
    (((List.range cls.length).all fun C' => decide (PySem.W.kitOne K (.ref (cAt K cls C)) (.ref (cAt K cls C')) = some ((sup C).contains C')) && decide (PySem.W.exmOne K (.ref (cAt K cls C)) (.ref (cAt K cls C')) = some ((sup C).contains C'))) &&
      (decide (PySem.W.kitOne K (.ref (cAt K cls C)) (.type "ValueError") = some ((sup C).contains 1000)) &&
        (decide (PySem.W.findIn K (.ref (cAt K cls C)) "__init__" = some (some (.ref (He.ma K (cAt K cls C) "__init__")))) && decide (PySem.W.typeIn K (.ref (He.ma K (cAt K cls C) "__init__")) = some (.type "function")))))))))
end
def chkQ (T : Tab) (gl : List D) (sup : Nat → List Nat) (fs : List (List Str)) (K : PySem.W.Frag) : Bool :=
  T.free.all (freeB K) && (T.fns.all (gloB K) && (T.cls.all (gloB K) && (cstsB K T.gls gl && (List.range fs.length).all fun C => (fs.getD C []).isEmpty || errB K sup T.cls C (fs.getD C []))))
def gaQ (K : PySem.W.Frag) (cls : List Str) (fs : List (List Str)) : Ga := ⟨K, cAt K cls, fun C => fs.getD C [], none⟩
def IniS (d : He.DefD) (fs : List Str) : Prop := d.dfl = [] ∧ d.kwd = [] ∧ ∀ (P : Program) (w : World) (K : PySem.W.Frag) (mg : Str → Option Value) (base : Heap) (f : Addr) (fd : FuncData), FunD K d.name d.qual d.params d.body d.scope [] [] f fd →
  ∃ ps, FnOk P w K mg base (L2.CX P w) 1 f fd ps (spIni K fs) ∧ Binds K fd ps []
section
variable {P : Program} {w : World} {K : PySem.W.Frag} {mg : Str → Option Value} {base h : Heap} {Pg : Prog} {T : Tab} {fs : List (List Str)} {fn : List He.DefD}
theorem cst_ok (X : K.In h) (G : h.Ns mainGlobals mg) {Γ : Ga} : ∀ {xs : List Str} {ds : List D}, cstsB K xs ds = true → ∀ (j : Nat) (y : Str), xs[j]? = some y → ∃ (d : D) (v : V) (u : Value), ds[j]? = some d ∧ own d = false ∧ mg y = some u ∧ RelV v u ∧ ∀ H N, RO Γ H N d v []
  | [], _, _, j, y, e => by simp at e
  | x :: xs, [], c, _, _, _ => by cases c
  | x :: xs, d :: ds, c, j, y, e => by
    obtain ⟨c1, c2⟩ := He.ba (show (cstB K x d && cstsB K xs ds) = true from c)
    cases j with
    | succ j => exact cst_ok X G c2 j y (by simpa using e)
    | zero =>
      cases e
      refine ⟨d, ?_⟩
      unfold cstB at c1
      split at c1
      · rename_i i
        cases q : PySem.W.nsIn K mainGlobals x with
        | none => rw [q] at c1; cases c1
        | some o =>
          cases o with
          | none => rw [q] at c1; cases c1
          | some u =>
            rw [q] at c1
            cases u with
            | int j t =>
              have ej : j = i := of_decide_eq_true c1
              subst ej
              exact ⟨.int j, .int j t, rfl, rfl, PySem.W.mg_of X G q, ⟨t, rfl⟩, fun H N => ⟨rfl, rfl⟩⟩
            | _ => cases c1
      · rename_i z
        cases q : PySem.W.nsIn K mainGlobals x with
        | none => rw [q] at c1; cases c1
        | some o =>
          cases o with
          | none => rw [q] at c1; cases c1
          | some u =>
            rw [q] at c1
            cases u with
            | str y t =>
              obtain ⟨e1, e2⟩ := He.ba c1
              have e1 := of_decide_eq_true e1
              subst e1
              exact ⟨.str ⟨z.toArray⟩, .str ⟨z.toArray⟩ t, rfl, rfl, PySem.W.mg_of X G q, ⟨t, rfl⟩, fun H N => ⟨rfl, Nat.le_trans (of_decide_eq_true e2) LIM_line, rfl⟩⟩
            | _ => cases c1
      · cases c1
theorem all_at {α : Type} {l : List α} {p : α → Bool} (h : l.all p = true) {j : Nat} {x : α} (e : l[j]? = some x) : p x = true := List.all_eq_true.mp h x (List.mem_of_getElem? e)
theorem tab_ok (X : K.In h) (G : h.Ns mainGlobals mg) (c : SaysQ (chkQ T Pg.gl Pg.sup fs) fn K) (hl : fs.length ≤ T.cls.length) (hfn : ∀ C, fs.getD C [] = (Pg.fnm C).map fun i => T.fld.getD i default) (hnf : ∀ C, (fs.getD C []).length = T.nf.getD C 0)
    (hini : ∀ C, fs.getD C [] ≠ [] → ∃ (i : Nat) (d : He.DefD), fn[i]? = some d ∧ d.at_ = (T.cls.getD C default, some ("__init__" : Str)) ∧ IniS d (fs.getD C [])) :
    TabOk P w K mg base (gaQ K T.cls fs) Pg T := by
  have c0 := c.ck
  obtain ⟨c1, c0⟩ := He.ba (show (T.free.all (freeB K) && (T.fns.all (gloB K) && (T.cls.all (gloB K) && (cstsB K T.gls Pg.gl && (List.range fs.length).all fun C => (fs.getD C []).isEmpty || errB K Pg.sup T.cls C (fs.getD C []))))) = true from c0)
  obtain ⟨c2, c0⟩ := He.ba c0
  obtain ⟨c3, c0⟩ := He.ba c0
  obtain ⟨c4, c5⟩ := He.ba c0
  have cl : ∀ C, fs.getD C [] ≠ [] → errB K Pg.sup T.cls C (fs.getD C []) = true := fun C hC => by
    have hlt : C < fs.length := by
      apply Classical.byContradiction
      intro hn
      exact hC (by rw [List.getD_eq_getElem?_getD, List.getElem?_eq_none (by omega)]; rfl)
    have q := List.all_eq_true.mp c5 C (List.mem_range.mpr hlt)
    rw [Bool.or_eq_true] at q
    rcases q with q | q
    · exact absurd (List.isEmpty_iff.mp q) hC
    · exact q
  refine ⟨rfl, rfl, fun y hy => PySem.W.mg_none_of X G (He.eqO_ok (List.all_eq_true.mp c1 y hy)), cst_ok X G c4, fun C y hy => ?_, fun C hC => ?_, fun C hC => ?_, fun C _ => hfn C, hnf⟩
  · have q := PySem.W.mg_of X G (He.eqO_ok (all_at c3 hy))
    show mg y = some (.ref (He.ga K (T.cls.getD C default)))
    rw [List.getD_eq_getElem?_getD, hy]
    exact q
  · have q := cl C hC
    unfold errB at q
    obtain ⟨e1, q⟩ := He.ba q
    obtain ⟨e2, q⟩ := He.ba q
    obtain ⟨e3, q⟩ := He.ba q
    obtain ⟨e4, q⟩ := He.ba q
    obtain ⟨e5, q⟩ := He.ba q
    obtain ⟨e6, q⟩ := He.ba q
    obtain ⟨e7, q⟩ := He.ba q
    refine ⟨ecB_ok e1, xfB_ok e2, fun f hf => of_decide_eq_true (List.all_eq_true.mp e4 f hf), fun C' hC' => ?_, of_decide_eq_true e7, fun C' hC' => ?_⟩
    · exact of_decide_eq_true (He.ba (List.all_eq_true.mp e6 C' (List.mem_range.mpr hC'))).1
    · exact of_decide_eq_true (He.ba (List.all_eq_true.mp e6 C' (List.mem_range.mpr hC'))).2
  · have q := cl C hC
    unfold errB at q
    obtain ⟨e1, q⟩ := He.ba q
    obtain ⟨e2, q⟩ := He.ba q
    obtain ⟨e3, q⟩ := He.ba q
    obtain ⟨e4, q⟩ := He.ba q
    obtain ⟨e5, q⟩ := He.ba q
    obtain ⟨e6, q⟩ := He.ba q
    obtain ⟨e7, q⟩ := He.ba q
    obtain ⟨e8, e9⟩ := He.ba q
    obtain ⟨i, d, hi, ha, h1, h2, h3⟩ := hini C hC
    obtain ⟨fd, F⟩ := c.def_ i hi
    have F' : FunD K d.name d.qual d.params d.body d.scope [] [] (He.ma K (cAt K T.cls C) "__init__") fd := by
      have e : He.fAd K d.at_ = He.ma K (cAt K T.cls C) "__init__" := by rw [ha]; rfl
      rw [← e]
      have d1 : d.dvs K = [] := by unfold He.DefD.dvs; rw [h1]; rfl
      have d2 : d.kws K = [] := by unfold He.DefD.kws; rw [h2]; rfl
      rw [d1, d2] at F
      exact F
    obtain ⟨ps, g1, g2⟩ := h3 P w K mg base _ fd F'
    exact ⟨oxB_ok e3, of_decide_eq_true e5, fun f hf => of_decide_eq_true (List.all_eq_true.mp e4 f hf), _, fd, ps, of_decide_eq_true e8, of_decide_eq_true e9, g1, g2⟩
structure DefS (T : Tab) (Pg : Prog) (j : Nat) (y : Str) (d : He.DefD) (N ps : List Str) : Prop where
  at_ : d.at_ = (y, none)
  nm : d.name = y
  ql : d.qual = y
  df : d.dfl = []
  kd : d.kwd = []
  sc : FnScope N ps d.scope
  bd : ∀ (kV doc pm : Value) (an : Option Addr) (cdv ct : Value) (us : List Value), us.length = ps.length → bindArgs (PySem.W.fnOf y y d.params d.body d.scope .none kV doc pm an cdv ct) ⟨us, []⟩ = pure (ps.zip us)
  kb : ∀ ks js, (j, ks, js) ∈ T.kws → ∀ (kV doc pm : Value) (an : Option Addr) (cdv ct : Value) (ws as : List Value), ws.length = ks.length → allSome (permL js ws) = some as → bindArgs (PySem.W.fnOf y y d.params d.body d.scope .none kV doc pm an cdv ct) ⟨[], ks.zip ws⟩ = pure (ps.zip as)
  fn : ∃ fn, Pg.fns[j]? = some fn ∧ fn.np = ps.length ∧ fn.ns = N.length ∧ fn.fx.length = ps.length ∧ ckSs (defCc T N d.scope) (fun j => !(fn.fx.getD j false)) fn.body d.body = true
structure DefH (T : Tab) (Pg : Prog) (j : Nat) (y : Str) (d : He.DefD) (N ps : List Str) : Prop where
  at_ : d.at_ = (y, none)
  nm : d.name = y
  ql : d.qual = y
  df : d.dfl = []
  kd : d.kwd = []
  sc : FnScope N ps d.scope
  bd : ∀ (kV doc pm : Value) (an : Option Addr) (cdv ct : Value) (us : List Value), us.length = ps.length → bindArgs (PySem.W.fnOf y y d.params d.body d.scope .none kV doc pm an cdv ct) ⟨us, []⟩ = pure (ps.zip us)
  fn : ∃ fn, Pg.fns[j]? = some fn ∧ fn.np = ps.length ∧ fn.ns = N.length ∧ fn.fx.length = ps.length ∧ ckSs (hotCc T N d.scope) (fun j => !(fn.fx.getD j false)) fn.body d.body = true
theorem FunD.kwb {x qual : Str} {params : Arguments} {body : List Stmt} {scope : Scope} {f : Addr} {fd : FuncData} {ps ks : List Str} {js : List Nat} (F : FunD K x qual params body scope [] [] f fd)
    (h : ∀ (kV doc pm : Value) (an : Option Addr) (cdv ct : Value) (ws as : List Value), ws.length = ks.length → allSome (permL js ws) = some as → bindArgs (PySem.W.fnOf x qual params body scope .none kV doc pm an cdv ct) ⟨[], ks.zip ws⟩ = pure (ps.zip as)) : KwB K fd ps ks js := by
  obtain ⟨oc, od, dV, kV, doc, pm, an, cdv, ct, osl, rfl, lk, hcd, hD, hK⟩ := F.ex
  rcases hD with ⟨_, rfl⟩ | ⟨e, _⟩
  · exact fun s ws as _ h1 h2 => BindsTo.of_eq (h kV doc pm an cdv ct ws as h1 h2)
  · exact absurd rfl e
theorem defS_ok (X : K.In h) (G : h.Ns mainGlobals mg) (c : SaysQ (chkQ T Pg.gl Pg.sup fs) fn K) {j i : Nat} {y : Str} {d : He.DefD} {N ps : List Str} (hy : T.fns[j]? = some y) (hd : fn[i]? = some d) (S : DefS T Pg j y d N ps) : ∃ fd, FunD K y y d.params d.body d.scope [] [] (He.ga K y) fd ∧ FOk K mg Pg T j y (He.ga K y) fd ps := by
  have c0 := c.ck
  obtain ⟨c1, c0⟩ := He.ba (show (T.free.all (freeB K) && (T.fns.all (gloB K) && (T.cls.all (gloB K) && (cstsB K T.gls Pg.gl && (List.range fs.length).all fun C => (fs.getD C []).isEmpty || errB K Pg.sup T.cls C (fs.getD C []))))) = true from c0)
  obtain ⟨c2, c0⟩ := He.ba c0
  obtain ⟨fd, F⟩ := c.def_ i hd
  have d1 : d.dvs K = [] := by unfold He.DefD.dvs; rw [S.df]; rfl
  have d2 : d.kws K = [] := by unfold He.DefD.kws; rw [S.kd]; rfl
  rw [d1, d2, S.nm, S.ql, S.at_] at F
  have F : FunD K y y d.params d.body d.scope [] [] (He.ga K y) fd := F
  obtain ⟨f, f1, f2, f3, f4, f5⟩ := S.fn
  exact ⟨fd, F, PySem.W.mg_of X G (He.eqO_ok (all_at c2 hy)), FunD.bindsN F S.bd, fun ks js hm => FunD.kwb F (S.kb ks js hm), _, _, _, N, f, F, S.sc, f1, f2, f3, f4, f5⟩
theorem defH_ok (X : K.In h) (G : h.Ns mainGlobals mg) (c : SaysQ (chkQ T Pg.gl Pg.sup fs) fn K) {j i : Nat} {y : Str} {d : He.DefD} {N ps : List Str} (hy : y ∈ T.fns) (hd : fn[i]? = some d) (S : DefH T Pg j y d N ps) : ∃ fd, FOkH K mg Pg T j y (He.ga K y) fd ps := by
  have c0 := c.ck
  obtain ⟨c1, c0⟩ := He.ba (show (T.free.all (freeB K) && (T.fns.all (gloB K) && (T.cls.all (gloB K) && (cstsB K T.gls Pg.gl && (List.range fs.length).all fun C => (fs.getD C []).isEmpty || errB K Pg.sup T.cls C (fs.getD C []))))) = true from c0)
  obtain ⟨c2, c0⟩ := He.ba c0
  obtain ⟨fd, F⟩ := c.def_ i hd
  have d1 : d.dvs K = [] := by unfold He.DefD.dvs; rw [S.df]; rfl
  have d2 : d.kws K = [] := by unfold He.DefD.kws; rw [S.kd]; rfl
  rw [d1, d2, S.nm, S.ql, S.at_] at F
  have F : FunD K y y d.params d.body d.scope [] [] (He.ga K y) fd := F
  obtain ⟨f, f1, f2, f3, f4, f5⟩ := S.fn
  obtain ⟨m, hm⟩ := List.mem_iff_getElem?.mp hy
  exact ⟨fd, PySem.W.mg_of X G (He.eqO_ok (all_at c2 hm)), FunD.bindsN F S.bd, _, _, _, N, f, F, S.sc, f1, f2, f3, f4, f5⟩
def AllH (T : Tab) (Pg : Prog) (fn : List He.DefD) : List (Nat × Str) → Prop
  | [] => True
  | t :: ts => (t.2 ∈ T.fns ∧ ∃ (i : Nat) (d : He.DefD) (N ps : List Str), fn[i]? = some d ∧ DefH T Pg t.1 t.2 d N ps) ∧ AllH T Pg fn ts
theorem AllH.get : ∀ {ts : List (Nat × Str)} {t : Nat × Str}, AllH T Pg fn ts → t ∈ ts → t.2 ∈ T.fns ∧ ∃ (i : Nat) (d : He.DefD) (N ps : List Str), fn[i]? = some d ∧ DefH T Pg t.1 t.2 d N ps
  | [], _, _, h => nomatch h
  | t :: ts, u, ⟨h1, h2⟩, h => by
    rcases List.mem_cons.mp h with e | h
    · subst e; exact h1
    · exact AllH.get h2 h
def KBp (y : Str) (d : He.DefD) (ps ks : List Str) (js : List Nat) : Prop := ∀ (kV doc pm : Value) (an : Option Addr) (cdv ct : Value) (ws as : List Value), ws.length = ks.length → allSome (permL js ws) = some as → bindArgs (PySem.W.fnOf y y d.params d.body d.scope .none kV doc pm an cdv ct) ⟨[], ks.zip ws⟩ = pure (ps.zip as)
def KAll (y : Str) (d : He.DefD) (ps : List Str) : List (List Str × List Nat) → Prop
  | [] => True
  | (ks, js) :: r => KBp y d ps ks js ∧ KAll y d ps r
theorem kall_at {y : Str} {d : He.DefD} {ps : List Str} : ∀ {es : List (List Str × List Nat)}, KAll y d ps es → ∀ ks js, (ks, js) ∈ es → KBp y d ps ks js
  | [], _, _, _, h => nomatch h
  | (k0, j0) :: r, ⟨h1, h2⟩, ks, js, h => by
    rcases List.mem_cons.mp h with e | h
    · cases e; exact h1
    · exact kall_at h2 ks js h
theorem kb_of {j : Nat} {y : Str} {d : He.DefD} {ps : List Str} {es : List (List Str × List Nat)} (h : (T.kws.filterMap fun t => if t.1 = j then some t.2 else none) = es) (ha : KAll y d ps es) : ∀ ks js, (j, ks, js) ∈ T.kws → KBp y d ps ks js := fun ks js hm => by
  refine kall_at ha ks js ?_
  rw [← h, List.mem_filterMap]
  exact ⟨_, hm, by simp⟩
def AllD (T : Tab) (Pg : Prog) (fn : List He.DefD) : Nat → List Str → Prop
  | _, [] => True
  | j, y :: ys => (∃ d N ps, fn[j]? = some d ∧ DefS T Pg j y d N ps) ∧ AllD T Pg fn (j + 1) ys
theorem AllD.get : ∀ {ys : List Str} {k j : Nat} {y : Str}, AllD T Pg fn k ys → ys[j]? = some y → ∃ d N ps, fn[k + j]? = some d ∧ DefS T Pg (k + j) y d N ps
  | [], _, _, _, _, h => by simp at h
  | y :: ys, k, 0, y', ⟨h1, _⟩, h => by cases h; exact h1
  | y :: ys, k, j + 1, y', ⟨_, h2⟩, h => by
    have := AllD.get (j := j) h2 (by simpa using h)
    rw [show k + 1 + j = k + (j + 1) by omega] at this
    exact this
theorem fs_map {L : List (List Nat)} {g : Nat → Str} (C : Nat) : (L.map fun l => l.map g).getD C [] = (L.getD C []).map g := by
  rw [List.getD_eq_getElem?_getD, List.getD_eq_getElem?_getD, List.getElem?_map]
  cases L[C]? <;> rfl
theorem fs_len {L : List (List Nat)} {g : Nat → Str} (C : Nat) : ((L.map fun l => l.map g).getD C []).length = (L.map List.length).getD C 0 := by
  rw [List.getD_eq_getElem?_getD, List.getD_eq_getElem?_getD, List.getElem?_map, List.getElem?_map]
  cases L[C]? <;> simp
def CXa (P : Program) : CXT := fun outer H s E e s' => ∃ w, L2.CX P w outer H s E e s'
theorem fn_any {k : Nat} {f : Addr} {fd : FuncData} {ps : List Str} {sp : Sp} (F : FnOk P w K mg base (L2.CX P w) k f fd ps sp) : FnOk P w K mg base (CXa P) k f fd ps sp :=
  ⟨F.len, fun A outer s H args us vs Q E hr e0 hb rv hs => codeAny_mono (F.run A outer s H args us vs Q E hr e0 hb rv hs) fun r s' hq => by
    cases r with
    | error e => exact ⟨w, hq⟩
    | ok fl => cases fl with
      | ret u => exact hq
      | next => exact hq
      | brk => exact hq
      | cont => exact hq⟩
theorem cxa_no {H : Hp} {s : Shared} {e : Value} {s' : Shared} (h : CXa P [] H s (fun _ _ _ => False) e s') : False := by
  obtain ⟨w, a, B, H', cls, d, _, _, _, _, _, _, _, z⟩ := h
  exact z
theorem scl_of {H : Hp} {a : Addr} {vs : List V} (hO : Only H) (h : SqL K H a vs) : ScL K H a vs := by
  rcases h with (h | ⟨o, h⟩) | h
  · rcases hO a with e | ⟨o, xs, e⟩
    · rw [h] at e; cases e
    · rw [h] at e; cases e
  · exact .inl ⟨o, h⟩
  · exact .inr h
theorem facts {fa : Addr} {k iL : Nat} {lw : Str} {arg : Str} (X : K.In h) (G : h.Ns mainGlobals mg) (hfa : mg lw = some (.ref fa)) (c : SaysQ (chkQ T Pg.gl Pg.sup fs) fn K) (hl : fs.length ≤ T.cls.length) (hfn : ∀ C, fs.getD C [] = (Pg.fnm C).map fun i => T.fld.getD i default) (hnf : ∀ C, (fs.getD C []).length = T.nf.getD C 0)
    (hini : ∀ C, fs.getD C [] ≠ [] → ∃ (i : Nat) (d : He.DefD), fn[i]? = some d ∧ d.at_ = (T.cls.getD C default, some ("__init__" : Str)) ∧ IniS d (fs.getD C [])) (hD : AllD T Pg fn 0 T.fns) (hHt : AllH T Pg fn T.hfns) (hL : T.fns[iL]? = some lw) (hps : ∃ d N, fn[iL]? = some d ∧ DefS T Pg iL lw d N [arg]) :
    ∃ fd : FuncData, (∀ (s : Shared) (v : Value), BindsTo s fd ⟨[v], []⟩ [(arg, v)]) ∧ ∀ base : Heap, K.In base → base.Ns mainGlobals mg → FnOk P w K mg base (CXa P) (k + 2) fa fd [arg] (spA (gaQ K T.cls fs) (callF Pg k) iL 1) := by
  have all : ∀ (j : Nat) (y : Str), T.fns[j]? = some y → ∃ d N ps fd, fn[j]? = some d ∧ DefS T Pg j y d N ps ∧ FunD K y y d.params d.body d.scope [] [] (He.ga K y) fd ∧ FOk K mg Pg T j y (He.ga K y) fd ps := fun j y hy => by
    obtain ⟨d, N, ps, h1, h2⟩ := hD.get hy
    rw [Nat.zero_add] at h1 h2
    obtain ⟨fd, h3, h4⟩ := defS_ok X G c hy h1 h2
    exact ⟨d, N, ps, fd, h1, h2, h3, h4⟩
  obtain ⟨d, N, h1, h2⟩ := hps
  obtain ⟨fd, h3, h4⟩ := defS_ok X G c hL h1 h2
  have ef : fa = He.ga K lw := by
    have := hfa.symm.trans h4.mgf
    cases this; rfl
  subst ef
  refine ⟨fd, fun s v => FunD.bindsA (ps := [arg]) h3 h2.bd s [v] rfl, fun base _ _ => ?_⟩
  have TO : TabOk P w K mg base (gaQ K T.cls fs) Pg T := tab_ok X G c hl hfn hnf hini
  exact fn_any (levels TO (fun j y hy => by
    obtain ⟨g1, i, d', N', ps', g2, g3⟩ := hHt.get hy
    obtain ⟨fd', g4⟩ := defH_ok X G c g1 g2 g3
    exact ⟨_, fd', ps', g4⟩) (fun j y hy => by
    obtain ⟨_, _, ps, fd, _, _, _, q⟩ := all j y hy
    exact ⟨_, fd, ps, q⟩) k iL lw _ fd [arg] h4).1
end
end Q
end
section
set_option autoImplicit false
set_option linter.all false
namespace QR
open _root_.Q
theorem nr {α : Sort _} {a b : α} (h : a = b) : a = b := h
def fin (fn : Fn) (r : Res Fl) : CR := match r with
  | .ok (.rt d) en => .ok d (maskP fn.fx (en.take fn.np))
  | .ok .nx en => .ok .non (maskP fn.fx (en.take fn.np))
  | .ex C xs en => .ex C xs (maskP fn.fx (en.take fn.np))
  | _ => .st
theorem callF_s {P : Prog} {k f : Nat} {ds : List D} {fn : Fn} (h : P.fns[f]? = some fn) (hl : ds.length = fn.np) : callF P (k + 1) f ds = fin fn (exs P (callF P k) none fn.body (startE fn ds)) := by
  show (match P.fns[f]? with
    | none => CR.st
    | some fn => if ds.length = fn.np then (match exs P (callF P k) none fn.body (startE fn ds) with
        | .ok (.rt d) en => .ok d (maskP fn.fx (en.take fn.np))
        | .ok .nx en => .ok .non (maskP fn.fx (en.take fn.np))
        | .ex C xs en => .ex C xs (maskP fn.fx (en.take fn.np))
        | _ => .st) else .st) = _
  rw [h]
  show (if ds.length = fn.np then _ else _) = _
  rw [if_pos hl]
  rfl
section
variable {α β : Type} {a : α} {en : Env} {C : Nat} {ds : List D} {f : α → Env → Res β}
theorem bind_ok : (Res.ok a en).bind f = f a en := rfl
theorem bind_ex : (Res.ex C ds en : Res α).bind f = .ex C ds en := rfl
theorem bind_st : (Res.st : Res α).bind f = .st := rfl
theorem calm_ok : (Res.ok a en).calm = .ok a en := rfl
theorem op_some : op (some a) en = .ok a en := rfl
theorem op_none : (op none en : Res α) = .st := rfl
@[simp] theorem get_0 {x : Option D} {en : Env} : Q.get (x :: en) 0 = x := by cases x <;> rfl
@[simp] theorem get_s {x : Option D} {en : Env} {i : Nat} : Q.get (x :: en) (i + 1) = Q.get en i := by simp [Q.get]
end
section
variable {P : Prog} {cf : CF} {xc : Option (Nat × List D)} {en en1 : Env}
@[simp] theorem exs_nil : exs P cf xc [] en = .ok .nx en := by rw [exs]
def Tg {α : Type} (_ : α) : Type := Unit
def seqF (r : Res Fl) (k : Env → Res Fl) (_u : Tg k := ()) : Res Fl := match r with
  | .ok .nx en => k en
  | r => r
@[simp] theorem exs_cons {s : S} {ss : List S} : exs P cf xc (s :: ss) en = seqF (ex P cf xc s en) fun en1 => exs P cf xc ss en1 := by
  rw [exs]
  cases ex P cf xc s en with
  | ok f en1 => cases f <;> rfl
  | _ => rfl
@[simp] theorem seq_nx {k : Env → Res Fl} : seqF (.ok .nx en) k = k en := nr rfl
@[simp] theorem seq_rt {k : Env → Res Fl} {d : D} : seqF (.ok (.rt d) en) k = .ok (.rt d) en := nr rfl
@[simp] theorem seq_ex {k : Env → Res Fl} {C : Nat} {ds : List D} : seqF (.ex C ds en) k = .ex C ds en := nr rfl
@[simp] theorem seq_ct {k : Env → Res Fl} : seqF (.ok .ct en) k = .ok .ct en := nr rfl
@[simp] theorem seq_bk {k : Env → Res Fl} : seqF (.ok .bk en) k = .ok .bk en := nr rfl
theorem ev_v {b : Bool} {i : Nat} {d : D} (h : Q.get en i = some d) (ho : own d = false) : ev P cf xc b (.v i) en = .ok d en := by
  rw [ev, h]
  show (if (own d && !b) = true then _ else _) = _
  rw [ho]; rfl
theorem doCall_ok {f : Nat} {ds : List D} {ms : List (Option Nat)} {d : D} {ps : Env} (h : cf f ds = .ok d ps) : doCall cf f ds ms en = .ok d (backA ms ps en) := by rw [doCall, h]
theorem doCall_ex {f : Nat} {ds : List D} {ms : List (Option Nat)} {C : Nat} {xs : List D} {ps : Env} (h : cf f ds = .ex C xs ps) : doCall cf f ds ms en = .ex C xs (backA ms ps en) := by rw [doCall, h]
end
end QR
namespace QR
open _root_.Q
def rb {α β : Type} (r : Res α) (f : α → Env → Res β) (_u : Tg f := ()) : Res β := r.bind f
def om {α β : Type} (o : Option α) (f : α → Res β) (_u : Tg f := ()) : Res β := match o with
  | none => .st
  | some a => f a
def negR (x : D) (en : Env) : Res D := match x with
  | .int i => .ok (.int (-i)) en
  | _ => .st
def pitR {β : Type} (p : Pit) (f : List D → Res β) (_u : Tg f := ()) : Res β := match p with
  | .lst ds => f ds
  | _ => .st
section
variable {α β : Type} {a : α} {en : Env} {C : Nat} {ds : List D} {f : α → Env → Res β} {g : α → Res β}
@[simp] theorem rb_ok : rb (.ok a en) f = f a en := nr rfl
@[simp] theorem rb_ex : rb (Res.ex C ds en : Res α) f = .ex C ds en := nr rfl
@[simp] theorem rb_st : rb (Res.st : Res α) f = .st := nr rfl
@[simp] theorem om_some : om (some a) g = g a := nr rfl
@[simp] theorem om_none : om (none : Option α) g = .st := nr rfl
@[simp] theorem negR_int {i : Int} : negR (.int i) en = .ok (.int (-i)) en := nr rfl
@[simp] theorem pitR_lst {h : List D → Res β} : pitR (.lst ds) h = h ds := nr rfl
@[simp] theorem opS {x : α} : op (some x) en = .ok x en := nr rfl
end
section
variable {P : Prog} {cf : CF} {xc : Option (Nat × List D)} {en en1 : Env} {b : Bool}
@[simp] theorem own_non : own .non = false := nr rfl
@[simp] theorem own_bl {x : Bool} : own (.bl x) = false := nr rfl
@[simp] theorem own_int {x : Int} : own (.int x) = false := nr rfl
@[simp] theorem own_str {x : List Nat} : own (.str x) = false := nr rfl
@[simp] theorem own_tup {x : List D} : own (.tup x) = false := nr rfl
@[simp] theorem own_scr {x : List D} : own (.scr x) = false := nr rfl
@[simp] theorem own_lst {o : Bool} {x : List D} : own (.lst o x) = o := nr rfl
@[simp] theorem fz_non : fz .non = .non := nr rfl
@[simp] theorem fz_bl {x : Bool} : fz (.bl x) = .bl x := nr rfl
@[simp] theorem fz_int {x : Int} : fz (.int x) = .int x := nr rfl
@[simp] theorem fz_str {x : List Nat} : fz (.str x) = .str x := nr rfl
@[simp] theorem fz_tup {x : List D} : fz (.tup x) = .tup x := nr rfl
@[simp] theorem fz_scr {x : List D} : fz (.scr x) = .scr x := nr rfl
@[simp] theorem fz_lst {o : Bool} {x : List D} : fz (.lst o x) = .lst false (fzs x) := nr rfl
@[simp] theorem fzs_nil : fzs [] = [] := nr rfl
@[simp] theorem fzs_cons {d : D} {ds : List D} : fzs (d :: ds) = fz d :: fzs ds := nr rfl
@[simp] theorem fzs_ints : ∀ {xs : List Int}, fzs (xs.map D.int) = xs.map D.int
  | [] => rfl
  | x :: xs => by simp [fzs_ints]
@[simp] theorem truthy_bl {x : Bool} : truthy (.bl x) = x := nr rfl
@[simp] theorem ev_c {d : D} : ev P cf xc b (.c d) en = .ok d en := by first | (rw [ev]; done) | (rw [ev]; rfl) | (cases xc <;> first | (rw [ev]; done) | (rw [ev]; rfl)) | (rw [ev]; simp only [rb, om, Res.bind]; (repeat' (first | rfl | split)) <;> simp_all)
@[simp] theorem ev_vS {i : Nat} : ev P cf xc b (.v i) en = om (get en i) fun d => if own d && !b then .ok (fz d) (en.set i (some (fz d))) else .ok d en := by first | (rw [ev]; done) | (rw [ev]; rfl) | (cases xc <;> first | (rw [ev]; done) | (rw [ev]; rfl)) | (rw [ev]; simp only [rb, om, Res.bind]; (repeat' (first | rfl | split)) <;> simp_all)
@[simp] theorem ev_fz {e : E} : ev P cf xc b (.fz e) en = rb (ev P cf xc false e en) fun d en => .ok (fz d) en := by first | (rw [ev]; done) | (rw [ev]; rfl) | (cases xc <;> first | (rw [ev]; done) | (rw [ev]; rfl)) | (rw [ev]; simp only [rb, om, Res.bind]; (repeat' (first | rfl | split)) <;> simp_all)
@[simp] theorem ev_bin {o : Bin} {a e : E} : ev P cf xc b (.bin o a e) en = rb (ev P cf xc (simpE e) a en) fun x en => rb (ev P cf xc true e en) fun y en => op (binop o x y) en := by first | (rw [ev]; done) | (rw [ev]; rfl) | (cases xc <;> first | (rw [ev]; done) | (rw [ev]; rfl)) | (rw [ev]; simp only [rb, om, Res.bind]; (repeat' (first | rfl | split)) <;> simp_all)
@[simp] theorem ev_neg {a : E} : ev P cf xc b (.neg a) en = rb (ev P cf xc true a en) fun x en => negR x en := by first | (rw [ev]; done) | (rw [ev]; rfl) | (cases xc <;> first | (rw [ev]; done) | (rw [ev]; rfl)) | (rw [ev]; simp only [rb, om, Res.bind]; (repeat' (first | rfl | split)) <;> simp_all)
@[simp] theorem ev_not {a : E} : ev P cf xc b (.not a) en = rb (ev P cf xc true a en) fun x en => .ok (.bl (!truthy x)) en := by first | (rw [ev]; done) | (rw [ev]; rfl) | (cases xc <;> first | (rw [ev]; done) | (rw [ev]; rfl)) | (rw [ev]; simp only [rb, om, Res.bind]; (repeat' (first | rfl | split)) <;> simp_all)
@[simp] theorem ev_and {a e : E} : ev P cf xc b (.and a e) en = rb (ev P cf xc false a en) fun x en => if truthy x then ev P cf xc false e en else .ok x en := by first | (rw [ev]; done) | (rw [ev]; rfl) | (cases xc <;> first | (rw [ev]; done) | (rw [ev]; rfl)) | (rw [ev]; simp only [rb, om, Res.bind]; (repeat' (first | rfl | split)) <;> simp_all)
@[simp] theorem ev_or {a e : E} : ev P cf xc b (.or a e) en = rb (ev P cf xc false a en) fun x en => if truthy x then .ok x en else ev P cf xc false e en := by first | (rw [ev]; done) | (rw [ev]; rfl) | (cases xc <;> first | (rw [ev]; done) | (rw [ev]; rfl)) | (rw [ev]; simp only [rb, om, Res.bind]; (repeat' (first | rfl | split)) <;> simp_all)
@[simp] theorem ev_cmp {o : Cmp} {a e : E} : ev P cf xc b (.cmp o a e) en = rb (ev P cf xc (simpE e) a en) fun x en => rb (ev P cf xc true e en) fun y en => op ((cmpop o x y).map .bl) en := by first | (rw [ev]; done) | (rw [ev]; rfl) | (cases xc <;> first | (rw [ev]; done) | (rw [ev]; rfl)) | (rw [ev]; simp only [rb, om, Res.bind]; (repeat' (first | rfl | split)) <;> simp_all)
@[simp] theorem ev_ite {c a e : E} : ev P cf xc b (.ite c a e) en = rb (ev P cf xc true c en) fun x en => if truthy x then ev P cf xc false a en else ev P cf xc false e en := by first | (rw [ev]; done) | (rw [ev]; rfl) | (cases xc <;> first | (rw [ev]; done) | (rw [ev]; rfl)) | (rw [ev]; simp only [rb, om, Res.bind]; (repeat' (first | rfl | split)) <;> simp_all)
@[simp] theorem ev_tup {es : List E} : ev P cf xc b (.tup es) en = rb (evs P cf xc es en) fun ds en => .ok (.tup (fzs ds)) en := by first | (rw [ev]; done) | (rw [ev]; rfl) | (cases xc <;> first | (rw [ev]; done) | (rw [ev]; rfl)) | (rw [ev]; simp only [rb, om, Res.bind]; (repeat' (first | rfl | split)) <;> simp_all)
@[simp] theorem ev_lst {es : List E} : ev P cf xc b (.lst es) en = rb (evs P cf xc es en) fun ds en => .ok (.lst true ds) en := by first | (rw [ev]; done) | (rw [ev]; rfl) | (cases xc <;> first | (rw [ev]; done) | (rw [ev]; rfl)) | (rw [ev]; simp only [rb, om, Res.bind]; (repeat' (first | rfl | split)) <;> simp_all)
@[simp] theorem ev_ix {a i : E} : ev P cf xc b (.ix a i) en = rb (ev P cf xc (simpE i) a en) fun x en => rb (ev P cf xc false i en) fun k en => ixR b x k en := by first | (rw [ev]; done) | (rw [ev]; rfl) | (cases xc <;> first | (rw [ev]; done) | (rw [ev]; rfl)) | (rw [ev]; simp only [rb, om, Res.bind]; (repeat' (first | rfl | split)) <;> simp_all)
@[simp] theorem ev_ixv {j : Nat} {i : E} : ev P cf xc b (.ixv j i) en = om (get en j) fun _ => rb (ev P cf xc false i en) fun k en => rb (getB j en) fun x en => ixR b x k en := by first | (rw [ev]; done) | (rw [ev]; rfl) | (cases xc <;> first | (rw [ev]; done) | (rw [ev]; rfl)) | (rw [ev]; simp only [rb, om, Res.bind]; (repeat' (first | rfl | split)) <;> simp_all)
@[simp] theorem ev_va {i : Nat} : ev P cf xc b (.va i) en = om (get en i) fun _ => .ok .non en := by first | (rw [ev]; done) | (rw [ev]; rfl) | (cases xc <;> first | (rw [ev]; done) | (rw [ev]; rfl)) | (rw [ev]; simp only [rb, om, Res.bind]; (repeat' (first | rfl | split)) <;> simp_all)
@[simp] theorem ev_sl {a lo hi : E} : ev P cf xc b (.sl a lo hi) en = rb (ev P cf xc (simpE lo && simpE hi) a en) fun x en => rb (ev P cf xc false lo en) fun l en => rb (op (partE lo l) en) fun i en => rb (ev P cf xc false hi en) fun h en => rb (op (partE hi h) en) fun j en => op (slice x i j) en := by first | (rw [ev]; done) | (rw [ev]; rfl) | (cases xc <;> first | (rw [ev]; done) | (rw [ev]; rfl)) | (rw [ev]; simp only [rb, om, Res.bind]; (repeat' (first | rfl | split)) <;> simp_all)
@[simp] theorem ev_rev {a : E} : ev P cf xc b (.rev a) en = rb (ev P cf xc true a en) fun x en => op (revD x) en := by first | (rw [ev]; done) | (rw [ev]; rfl) | (cases xc <;> first | (rw [ev]; done) | (rw [ev]; rfl)) | (rw [ev]; simp only [rb, om, Res.bind]; (repeat' (first | rfl | split)) <;> simp_all)
@[simp] theorem ev_call {f : Nat} {es : List E} : ev P cf xc b (.call f es) en = rb (evs P cf xc es en) fun ds en => om (fillA (fxOf P f) es ds en) fun t => doCall cf f t.1 t.2.1 t.2.2 := by first | (rw [ev]; done) | (rw [ev]; rfl) | (cases xc <;> first | (rw [ev]; done) | (rw [ev]; rfl)) | (rw [ev]; simp only [rb, om, Res.bind]; (repeat' (first | rfl | split)) <;> simp_all)
@[simp] theorem ev_callk {f : Nat} {js : List Nat} {es : List E} : ev P cf xc b (.callk f js es) en = rb (evs P cf xc es en) fun ds en => om (allSome (permL js ds)) fun as => doCall cf f (fzs as) [] en := by first | (rw [ev]; done) | (rw [ev]; rfl) | (cases xc <;> first | (rw [ev]; done) | (rw [ev]; rfl)) | (rw [ev]; simp only [rb, om, Res.bind]; (repeat' (first | rfl | split)) <;> simp_all)
@[simp] theorem ev_blt {bl : Blt} {es : List E} : ev P cf xc b (.blt bl es) en = rb (evsB P cf xc es en) fun ds en => op (blt bl ds) en := by first | (rw [ev]; done) | (rw [ev]; rfl) | (cases xc <;> first | (rw [ev]; done) | (rw [ev]; rfl)) | (rw [ev]; simp only [rb, om, Res.bind]; (repeat' (first | rfl | split)) <;> simp_all)
@[simp] theorem ev_of {bl : Blt} {it : It} : ev P cf xc b (.of bl it) en = rb (evIt P cf xc it en) fun p en => pitR p fun ds => op (blt bl [.tup ds]) en := by first | (rw [ev]; done) | (rw [ev]; rfl) | (cases xc <;> first | (rw [ev]; done) | (rw [ev]; rfl)) | (rw [ev]; simp only [rb, om, Res.bind]; (repeat' (first | rfl | split)) <;> simp_all)
@[simp] theorem ev_mth {m : Mth} {o : E} {es : List E} : ev P cf xc b (.mth m o es) en = rb (ev P cf xc (simpEs es) o en) fun x en => if mthTy m x then rb (evsB P cf xc es en) fun ds en => op (mth m x ds) en else .st := by first | (rw [ev]; done) | (rw [ev]; rfl) | (cases xc <;> first | (rw [ev]; done) | (rw [ev]; rfl)) | (rw [ev]; simp only [rb, om, Res.bind]; (repeat' (first | rfl | split)) <;> simp_all)
@[simp] theorem ev_pop {i : Nat} {path : List E} : ev P cf xc b (.pop i path) en = rb (hasR i en (evs P cf xc path en)) fun ks en => match (get en i).bind (getAt ks) with
    | some (.lst true xs) => om xs.getLast? fun y => om (upSlot en i (updAt (fun _ => some (.lst true xs.dropLast)) ks)) fun en' => .ok y en'
    | _ => .st := by first | (rw [ev]; done) | (rw [ev]; rfl) | (cases xc <;> first | (rw [ev]; done) | (rw [ev]; rfl)) | (rw [ev]; simp only [rb, om, Res.bind]; (repeat' (first | rfl | split)) <;> simp_all)
theorem ev_comp {key elt : E} {gs : List Gen} {ow : List Nat} : ev P cf xc b (.comp .list key elt gs ow) en = if okOwn en ow then
      rb (rb (Res.calm (evGo P cf xc (fun acc en => rb (ev P cf xc false elt en) fun d en => if acc.length < LIM then .ok (acc ++ [d]) en else .st) gs [] (wipeE en ow))) (finish .list)) fun d en' => .ok d (restore en (wipeE en' ow) ow)
      else .st := by first | (rw [ev]; done) | (rw [ev]; rfl) | (cases xc <;> first | (rw [ev]; done) | (rw [ev]; rfl)) | (rw [ev]; simp only [rb, om, Res.bind]; (repeat' (first | rfl | split)) <;> simp_all)
@[simp] theorem ev_xattr {f : Nat} : ev P cf xc b (.xattr f) en = match xc with
    | some (C, ds) => op (fieldOf f (P.fnm C) ds) en
    | none => .st := by first | (rw [ev]; done) | (rw [ev]; rfl) | (cases xc <;> first | (rw [ev]; done) | (rw [ev]; rfl)) | (rw [ev]; simp only [rb, om, Res.bind]; (repeat' (first | rfl | split)) <;> simp_all)
@[simp] theorem ev_xisi {ts : List Nat} : ev P cf xc b (.xisi ts) en = match xc with
    | some (C, _) => .ok (.bl (ts.any fun C' => (P.sup C).contains C')) en
    | none => .st := by first | (rw [ev]; done) | (rw [ev]; rfl) | (cases xc <;> first | (rw [ev]; done) | (rw [ev]; rfl)) | (rw [ev]; simp only [rb, om, Res.bind]; (repeat' (first | rfl | split)) <;> simp_all)
@[simp] theorem ev_mv {i : Nat} : ev P cf xc b (.mv i) en = om (get en i) fun d => .ok d (en.set i none) := by first | (rw [ev]; done) | (rw [ev]; rfl) | (cases xc <;> first | (rw [ev]; done) | (rw [ev]; rfl)) | (rw [ev]; simp only [rb, om, Res.bind]; (repeat' (first | rfl | split)) <;> simp_all)
@[simp] theorem ev_callh {f : Nat} {es : List E} : ev P cf xc b (.callh f es) en = rb (evs P cf xc es en) fun ds en => match cf f (fzs ds) with | .ok d _ => .ok d en | _ => .st := by first | (rw [ev]; done) | (rw [ev]; rfl) | (rw [ev]; simp only [rb, om, Res.bind]; (repeat' (first | rfl | split)) <;> simp_all)
@[simp] theorem ev_isi {e : E} {ts : List Ty} : ev P cf xc b (.isi e ts) en = rb (ev P cf xc true e en) fun x en => .ok (.bl (ts.any (typ P.sup x))) en := by first | (rw [ev]; done) | (rw [ev]; rfl) | (cases xc <;> first | (rw [ev]; done) | (rw [ev]; rfl)) | (rw [ev]; simp only [rb, om, Res.bind]; (repeat' (first | rfl | split)) <;> simp_all)
@[simp] theorem evs_nil : evs P cf xc [] en = .ok [] en := by first | (rw [evs]; done) | (rw [evs]; rfl) | (cases xc <;> first | (rw [evs]; done) | (rw [evs]; rfl)) | (rw [evs]; simp only [rb, om, Res.bind]; (repeat' (first | rfl | split)) <;> simp_all)
@[simp] theorem evs_cons {e : E} {es : List E} : evs P cf xc (e :: es) en = rb (ev P cf xc false e en) fun d en => rb (evs P cf xc es en) fun ds en => .ok (d :: ds) en := by first | (rw [evs]; done) | (rw [evs]; rfl) | (cases xc <;> first | (rw [evs]; done) | (rw [evs]; rfl)) | (rw [evs]; simp only [rb, om, Res.bind]; (repeat' (first | rfl | split)) <;> simp_all)
@[simp] theorem evsB_nil : evsB P cf xc [] en = .ok [] en := by first | (rw [evsB]; done) | (rw [evsB]; rfl) | (cases xc <;> first | (rw [evsB]; done) | (rw [evsB]; rfl)) | (rw [evsB]; simp only [rb, om, Res.bind]; (repeat' (first | rfl | split)) <;> simp_all)
@[simp] theorem evsB_cons {e : E} {es : List E} : evsB P cf xc (e :: es) en = rb (ev P cf xc (simpEs es) e en) fun d en => rb (evsB P cf xc es en) fun ds en => .ok (d :: ds) en := by first | (rw [evsB]; done) | (rw [evsB]; rfl) | (cases xc <;> first | (rw [evsB]; done) | (rw [evsB]; rfl)) | (rw [evsB]; simp only [rb, om, Res.bind]; (repeat' (first | rfl | split)) <;> simp_all)
@[simp] theorem evIt_val {e : E} : evIt P cf xc (.val e) en = rb (ev P cf xc false e en) fun d en => om (items (fz d)) fun ds => .ok (.lst ds) en := by first | (rw [evIt]; done) | (rw [evIt]; rfl) | (cases xc <;> first | (rw [evIt]; done) | (rw [evIt]; rfl)) | (rw [evIt]; simp only [rb, om, Res.bind]; (repeat' (first | rfl | split)) <;> simp_all)
@[simp] theorem evIt_rng {es : List E} : evIt P cf xc (.rng es) en = rb (evs P cf xc es en) fun ds en => om (rngD ds) fun r => .ok (.lst r) en := by first | (rw [evIt]; done) | (rw [evIt]; rfl) | (cases xc <;> first | (rw [evIt]; done) | (rw [evIt]; rfl)) | (rw [evIt]; simp only [rb, om, Res.bind]; (repeat' (first | rfl | split)) <;> simp_all)
@[simp] theorem evIt_enm {it : It} : evIt P cf xc (.enm it) en = rb (evIt P cf xc it en) fun p en => .ok (mkEnm p) en := by first | (rw [evIt]; done) | (rw [evIt]; rfl) | (cases xc <;> first | (rw [evIt]; done) | (rw [evIt]; rfl)) | (rw [evIt]; simp only [rb, om, Res.bind]; (repeat' (first | rfl | split)) <;> simp_all)
@[simp] theorem evIt_zip {a b' : It} : evIt P cf xc (.zip a b') en = rb (evIt P cf xc a en) fun p en => rb (evIt P cf xc b' en) fun q en => .ok (mkZip p q) en := by first | (rw [evIt]; done) | (rw [evIt]; rfl) | (cases xc <;> first | (rw [evIt]; done) | (rw [evIt]; rfl)) | (rw [evIt]; simp only [rb, om, Res.bind]; (repeat' (first | rfl | split)) <;> simp_all)
@[simp] theorem ex_asgN {i : Nat} {e : E} : ex P cf xc (.asg (.nm i) e) en = rb (ev P cf xc false e en) fun d en => if i < en.length then .ok .nx (en.set i (some d)) else .st := by
  rw [ex]
  simp only [rb, Res.bind, bindT]
  cases ev P cf xc false e en with
  | ok d en1 =>
    dsimp only
    split
    · rename_i h
      split at h
      · cases h; rw [if_pos (by assumption)]
      · cases h
    · rename_i h
      split at h
      · cases h
      · rw [if_neg (by assumption)]
  | _ => rfl
@[simp] theorem ex_asgT {ts : List T} {e : E} : ex P cf xc (.asg (.tp ts) e) en = rb (ev P cf xc false e en) fun d en => om (bindT (.tp ts) (fz d) en) fun en => .ok .nx en := by
  rw [ex]
  simp only [rb, Res.bind, om]
  cases ev P cf xc false e en with
  | ok d en1 =>
    dsimp only
    split <;> simp_all
  | _ => rfl
@[simp] theorem ex_aug {i : Nat} {o : Bin} {e : E} : ex P cf xc (.aug i o e) en = rb (hasR i en (ev P cf xc false e en)) fun y en => om (get en i) fun x => om (augD o x y) fun z => .ok .nx (en.set i (some z)) := by first | (rw [ex]; done) | (rw [ex]; rfl) | (cases xc <;> first | (rw [ex]; done) | (rw [ex]; rfl)) | (rw [ex]; simp only [rb, om, Res.bind]; (repeat' (first | rfl | split)) <;> simp_all)
@[simp] theorem ex_sset {i : Nat} {path : List E} {k e : E} : ex P cf xc (.sset i path k e) en = rb (ev P cf xc false e en) fun y en => rb (hasR i en (evs P cf xc path en)) fun ks en => if isL en i ks then rb (ev P cf xc false k en) fun kk en => om (upSlot en i (updAt (putD kk y) ks)) fun en => .ok .nx en
    else .st := by first | (rw [ex]; done) | (rw [ex]; rfl) | (cases xc <;> first | (rw [ex]; done) | (rw [ex]; rfl)) | (rw [ex]; simp only [rb, om, Res.bind]; (repeat' (first | rfl | split)) <;> simp_all)
@[simp] theorem ex_app {i : Nat} {path : List E} {e : E} : ex P cf xc (.app i path e) en = rb (hasR i en (evs P cf xc path en)) fun ks en => if isL en i ks then rb (ev P cf xc false e en) fun y en => om (upSlot en i (updAt (appD y) ks)) fun en => .ok .nx en
    else .st := by first | (rw [ex]; done) | (rw [ex]; rfl) | (cases xc <;> first | (rw [ex]; done) | (rw [ex]; rfl)) | (rw [ex]; simp only [rb, om, Res.bind]; (repeat' (first | rfl | split)) <;> simp_all)
@[simp] theorem ex_expr {e : E} : ex P cf xc (.expr e) en = rb (ev P cf xc false e en) fun _ en => .ok .nx en := by first | (rw [ex]; done) | (rw [ex]; rfl) | (cases xc <;> first | (rw [ex]; done) | (rw [ex]; rfl)) | (rw [ex]; simp only [rb, om, Res.bind]; (repeat' (first | rfl | split)) <;> simp_all)
@[simp] theorem ex_ifs {c : E} {a e : List S} : ex P cf xc (.ifs c a e) en = rb (ev P cf xc true c en) fun d en => if truthy d then exs P cf xc a en else exs P cf xc e en := by first | (rw [ex]; done) | (rw [ex]; rfl) | (cases xc <;> first | (rw [ex]; done) | (rw [ex]; rfl)) | (rw [ex]; simp only [rb, om, Res.bind]; (repeat' (first | rfl | split)) <;> simp_all)
@[simp] theorem ex_for {t : T} {it : It} {body : List S} : ex P cf xc (.for t it body) en = rb (evIt P cf xc it en) fun p en => forP p (bindT t) (exs P cf xc body) en := by first | (rw [ex]; done) | (rw [ex]; rfl) | (cases xc <;> first | (rw [ex]; done) | (rw [ex]; rfl)) | (rw [ex]; simp only [rb, om, Res.bind]; (repeat' (first | rfl | split)) <;> simp_all)
@[simp] theorem ex_ret {e : E} : ex P cf xc (.ret e) en = rb (ev P cf xc false e en) fun d en => .ok (.rt d) en := by first | (rw [ex]; done) | (rw [ex]; rfl) | (cases xc <;> first | (rw [ex]; done) | (rw [ex]; rfl)) | (rw [ex]; simp only [rb, om, Res.bind]; (repeat' (first | rfl | split)) <;> simp_all)
@[simp] theorem ex_brk : ex P cf xc .brk en = .ok .bk en := by first | (rw [ex]; done) | (rw [ex]; rfl) | (cases xc <;> first | (rw [ex]; done) | (rw [ex]; rfl)) | (rw [ex]; simp only [rb, om, Res.bind]; (repeat' (first | rfl | split)) <;> simp_all)
@[simp] theorem ex_cont : ex P cf xc .cont en = .ok .ct en := by first | (rw [ex]; done) | (rw [ex]; rfl) | (cases xc <;> first | (rw [ex]; done) | (rw [ex]; rfl)) | (rw [ex]; simp only [rb, om, Res.bind]; (repeat' (first | rfl | split)) <;> simp_all)
@[simp] theorem ex_pass : ex P cf xc .pass en = .ok .nx en := by first | (rw [ex]; done) | (rw [ex]; rfl) | (cases xc <;> first | (rw [ex]; done) | (rw [ex]; rfl)) | (rw [ex]; simp only [rb, om, Res.bind]; (repeat' (first | rfl | split)) <;> simp_all)
@[simp] theorem ex_raise {C : Nat} {es : List E} : ex P cf xc (.raise C es) en = rb (evs P cf xc es en) fun ds en => .ex C (fzs ds) en := by first | (rw [ex]; done) | (rw [ex]; rfl) | (cases xc <;> first | (rw [ex]; done) | (rw [ex]; rfl)) | (rw [ex]; simp only [rb, om, Res.bind]; (repeat' (first | rfl | split)) <;> simp_all)
theorem ex_try {bd : List S} {Cs : List Nat} {i : Option Nat} {h : List S} : ex P cf xc (.try bd Cs i h) en = match exs P cf none bd en with
    | .ex C ds en1 => if (P.sup C).any Cs.contains then
        match exs P cf (some (C, ds)) h (clr i en1) with
          | .ok f en2 => .ok f (clr i en2)
          | _ => .st
      else .ex C ds en1
    | r => r := by first | (rw [ex]; done) | (rw [ex]; rfl) | (cases xc <;> first | (rw [ex]; done) | (rw [ex]; rfl)) | (rw [ex]; simp only [rb, om, Res.bind]; (repeat' (first | rfl | split)) <;> simp_all)
@[simp] theorem backA_n {ms : List (Option Nat)} {ps en : Env} : backA (none :: ms) ps en = backA ms ps.tail en := by
  cases ps with
  | nil =>
    show en = backA ms [] en
    cases ms with
    | nil => rfl
    | cons m ms => cases m <;> rfl
  | cons p ps => rfl
@[simp] theorem backA_0 {ps en : Env} : backA [] ps en = en := by cases ps <;> rfl
@[simp] theorem backA_s {i : Nat} {ms : List (Option Nat)} {p : Option D} {ps en : Env} : backA (some i :: ms) (p :: ps) en = backA ms ps (en.set i p) := nr rfl
end
def crR (c : CR) (ms : List (Option Nat)) (en : Env) : Res D := match c with
  | .st => .st
  | .ok d ps => .ok d (backA ms ps en)
  | .ex C ds ps => .ex C ds (backA ms ps en)
@[simp] theorem crR_ok {d : D} {ps en : Env} {ms : List (Option Nat)} : crR (.ok d ps) ms en = .ok d (backA ms ps en) := nr rfl
@[simp] theorem crR_ex {C : Nat} {ds : List D} {ps en : Env} {ms : List (Option Nat)} : crR (.ex C ds ps) ms en = .ex C ds (backA ms ps en) := nr rfl
@[simp] theorem doCall_eq {cf : CF} {f : Nat} {ds : List D} {ms : List (Option Nat)} {en : Env} : doCall cf f ds ms en = crR (cf f ds) ms en := by
  unfold doCall
  cases cf f ds <;> rfl
theorem exs_app {P : Prog} {cf : CF} {xc : Option (Nat × List D)} : ∀ {a b : List S} {en : Env}, exs P cf xc (a ++ b) en = seqF (exs P cf xc a en) (exs P cf xc b)
  | [], b, en => by simp
  | s :: a, b, en => by
    simp only [List.cons_append, exs_cons]
    cases ex P cf xc s en with
    | ok f en1 =>
      cases f with
      | nx => simp [exs_app]
      | _ => rfl
    | _ => rfl
theorem exs_cut {P : Prog} {cf : CF} {xc : Option (Nat × List D)} (n : Nat) {b : List S} {en en1 : Env} (h : exs P cf xc (b.take n) en = .ok .nx en1) : exs P cf xc b en = exs P cf xc (b.drop n) en1 := by
  rw [← List.take_append_drop n b, exs_app, h]
  simp
@[simp] theorem simpEs_nil : simpEs [] = true := nr rfl
@[simp] theorem castEq {a b : Nat} : ((a : Int) = (b : Int)) ↔ a = b := Int.ofNat_inj
@[simp] theorem castLt {a b : Nat} : ((a : Int) < (b : Int)) ↔ a < b := Int.ofNat_lt
@[simp] theorem castLe {a b : Nat} : ((a : Int) ≤ (b : Int)) ↔ a ≤ b := Int.ofNat_le
theorem cmp_lt {i j : Int} : (compare i j == Ordering.lt) = decide (i < j) := by
  rcases Int.lt_trichotomy i j with h | h | h
  · simp [compare, compareOfLessAndEq, h]
  · simp [compare, compareOfLessAndEq, h]
  · have h1 : ¬ i < j := by omega
    have h2 : ¬ i = j := by omega
    simp [compare, compareOfLessAndEq, h1, h2]
theorem cmp_gt {i j : Int} : (compare i j == Ordering.gt) = decide (j < i) := by
  rcases Int.lt_trichotomy i j with h | h | h
  · have h1 : ¬ j < i := by omega
    simp [compare, compareOfLessAndEq, h, h1]
  · simp [compare, compareOfLessAndEq, h]
  · have h1 : ¬ i < j := by omega
    have h2 : ¬ i = j := by omega
    simp [compare, compareOfLessAndEq, h1, h2, h]
@[simp] theorem ltI {i j : Int} : cmpop .lt (.int i) (.int j) = some (decide (i < j)) := by simp [cmpop, plain, alike, dcmp, cmp_lt]
@[simp] theorem gtI {i j : Int} : cmpop .gt (.int i) (.int j) = some (decide (j < i)) := by simp [cmpop, plain, alike, dcmp, cmp_gt]
@[simp] theorem leI {i j : Int} : cmpop .le (.int i) (.int j) = some (decide (i ≤ j)) := by
  have : (compare i j != Ordering.gt) = decide (i ≤ j) := by
    rw [bne, cmp_gt]
    by_cases h : i ≤ j
    · have : ¬ j < i := by omega
      simp [h]
    · simp [h]; omega
  simp [cmpop, plain, alike, dcmp, this]
@[simp] theorem geI {i j : Int} : cmpop .ge (.int i) (.int j) = some (decide (j ≤ i)) := by
  have : (compare i j != Ordering.lt) = decide (j ≤ i) := by
    rw [bne, cmp_lt]
    by_cases h : j ≤ i
    · have : ¬ i < j := by omega
      simp [h]
    · simp [h]; omega
  simp [cmpop, plain, alike, dcmp, this]
@[simp] theorem eqI {i j : Int} : cmpop .eq (.int i) (.int j) = some (decide (i = j)) := by
  simp only [cmpop, plain, deq, Bool.and_self, if_true]
  congr 1
@[simp] theorem neI {i j : Int} : cmpop .ne (.int i) (.int j) = some (!decide (i = j)) := by
  simp only [cmpop, plain, deq, Bool.and_self, if_true]
  congr 1
@[simp] theorem eqS {x y : List Nat} : cmpop .eq (.str x) (.str y) = some (decide (x = y)) := by
  simp only [cmpop, plain, deq, Bool.and_self, if_true]
  congr 1
  by_cases h : x = y
  · subst h; simp
  · simp [h]
@[simp] theorem isNonV {d : D} : cmpop .is d .non = some (isNon d) := nr rfl
@[simp] theorem isnotBl {x y : Bool} : cmpop .isnot (.bl x) (.bl y) = some (!(x == y)) := nr rfl
@[simp] theorem addI {i j : Int} : binop .add (.int i) (.int j) = some (.int (i + j)) := nr rfl
@[simp] theorem subI {i j : Int} : binop .sub (.int i) (.int j) = some (.int (i - j)) := nr rfl
@[simp] theorem modI {i j : Int} (h : 0 < j) : binop .mod (.int i) (.int j) = some (.int (i % j)) := by simp [binop, h]
@[simp] theorem fdivI {i j : Int} (h : 0 < j) (h2 : j < 1073741824) : binop .fdiv (.int i) (.int j) = some (.int (i / j)) := by simp [binop, h, h2]
theorem mulI {i j : Int} (h : smallI j = true) : binop .mul (.int i) (.int j) = some (.int (i * j)) := by simp [binop, h]
@[simp] theorem lenT {x : List D} : blt .len [.tup x] = some (.int x.length) := nr rfl
@[simp] theorem lenS {x : List Nat} : blt .len [.str x] = some (.int x.length) := nr rfl
@[simp] theorem lenL {o : Bool} {x : List D} : blt .len [.lst o x] = some (.int x.length) := nr rfl
@[simp] theorem lenScr {x : List D} : blt .len [.scr x] = some (.int x.length) := nr rfl
@[simp] theorem intI {i : Int} : blt .int [.int i] = some (.int i) := nr rfl
@[simp] theorem absI {i : Int} : blt .abs [.int i] = some (.int (if i < 0 then -i else i)) := nr rfl
@[simp] theorem tupleL {o : Bool} {x : List D} (h : lstOk x = true) : blt .tuple [.lst o x] = some (.tup x) := by simp [blt, h]
theorem blsO_map {α : Type} {xs : List α} {f : α → Bool} : blsO (xs.map fun x => .bl (f x)) = some (xs.map f) := by
  induction xs with
  | nil => rfl
  | cons x xs ih => simp [blsO, ih]
@[simp] theorem allL {α : Type} {xs : List α} {f : α → Bool} {o : Bool} : blt .all [.lst o (xs.map fun x => .bl (f x))] = some (.bl (xs.all f)) := by
  simp only [blt, blsO_map, Option.map_some]
  congr 2
  induction xs with
  | nil => rfl
  | cons x xs ih => simp [ih]
@[simp] theorem isinS {c : Nat} {y : List Nat} : cmpop .isin (.str [c]) (.str y) = some (y.contains c) := nr rfl
@[simp] theorem isinON {c : Nat} : cmpop .isin (.str [c]) (.tup [.str [111], .str [110]]) = some (c == 111 || c == 110) := by
  simp [cmpop, inop, plain, plains, dmem, deq]
  by_cases h : c = 111
  · simp [h]
  · by_cases h2 : c = 110
    · simp [h2]
    · rw [beq_eq_false_iff_ne.mpr h, beq_eq_false_iff_ne.mpr h2, beq_eq_false_iff_ne.mpr (Ne.symm h), beq_eq_false_iff_ne.mpr (Ne.symm h2)]
@[simp] theorem itemsT {x : List D} : items (.tup x) = some x := nr rfl
@[simp] theorem itemsS {x : List Nat} : items (.str x) = some (x.map fun c => .str [c]) := nr rfl
@[simp] theorem itemsScr {x : List D} : items (.scr x) = some x := nr rfl
theorem itemsL {x : List D} {o : Bool} (h : lstOk x = true) : items (.lst o x) = some x := by simp [items, h]
theorem lstOk_ints {xs : List Int} : lstOk (xs.map D.int) = true := by
  simp [lstOk, List.any_map]
@[simp] theorem itemsI {xs : List Int} {o : Bool} : items (.lst o (xs.map D.int)) = some (xs.map D.int) := itemsL lstOk_ints
theorem rangeL_eq : ∀ (n : Nat) (a : Int), rangeL a n = (List.range n).map fun (k : Nat) => D.int (a + (k : Int))
  | 0, a => rfl
  | n + 1, a => by
    rw [rangeL, rangeL_eq n, List.range_succ_eq_map]
    simp
    intro k _
    omega
@[simp] theorem rngI {n : Nat} (h : n < 1000000) : rngD [.int (n : Int)] = some ((List.range n).map fun (k : Nat) => D.int (k : Int)) := by
  have h1 : smR (n : Int) = true := by
    simp [smR, W]; omega
  have h2 : ((n : Int) < (LIM : Int)) := by show (n : Int) < 1000000; omega
  simp [rngD, h1, h2, rangeL_eq]
section
variable {b : Bool} {en : Env} {x : List D} {d y : D} {k : Nat}
theorem ixR_T (h : x[k]? = some d) (ho : own d = false) : ixR b (.tup x) (.int (k : Int)) en = .ok d en := by
  have hl : k < x.length := (List.getElem?_eq_some_iff.mp h).1
  have : ixD (.tup x) (.int (k : Int)) = some d := by
    simp [ixD, ixQ, hl]
    simpa [List.getElem?_eq_getElem hl] using h
  rw [ixR, this]
  simp [ho]
theorem ixR_L {o : Bool} (h : x[k]? = some d) (ho : own d = false) : ixR b (.lst o x) (.int (k : Int)) en = .ok d en := by
  have hl : k < x.length := (List.getElem?_eq_some_iff.mp h).1
  have : ixD (.lst o x) (.int (k : Int)) = some d := by
    simp [ixD, ixQ, hl]
    simpa [List.getElem?_eq_getElem hl] using h
  rw [ixR, this]
  simp [ho]
theorem ixR_S {s : List Nat} {c : Nat} (h : s[k]? = some c) : ixR b (.str s) (.int (k : Int)) en = .ok (.str [c]) en := by
  have hl : k < s.length := (List.getElem?_eq_some_iff.mp h).1
  have : ixD (.str s) (.int (k : Int)) = some (.str [c]) := by
    simp [ixD, ixQ, hl]
    simpa [List.getElem?_eq_getElem hl] using h
  rw [ixR, this]
  simp
@[simp] theorem ixR_T0 : ixR b (.tup (d :: x)) (.int 0) en = if own d && !b then .st else .ok d en := by
  have : ixD (.tup (d :: x)) (.int 0) = some d := by simp [ixD, ixQ]
  rw [ixR, this]
@[simp] theorem ixR_T1 : ixR b (.tup (y :: d :: x)) (.int 1) en = if own d && !b then .st else .ok d en := by
  have : ixD (.tup (y :: d :: x)) (.int 1) = some d := by
    have h : (1 : Int) < (x.length : Int) + 1 + 1 := by omega
    simp [ixD, ixQ, h]
  rw [ixR, this]
@[simp] theorem ixR_L0 {o : Bool} : ixR b (.lst o (d :: x)) (.int 0) en = if own d && !b then .st else .ok d en := by
  have : ixD (.lst o (d :: x)) (.int 0) = some d := by simp [ixD, ixQ]
  rw [ixR, this]
end
@[simp] theorem getB_eq {i : Nat} {en : Env} : getB i en = om (Q.get en i) fun d => .ok d en := by
  rw [getB]; cases Q.get en i <;> rfl
@[simp] theorem hasR_eq {α : Type} {i : Nat} {en : Env} {r : Res α} : hasR i en r = if (Q.get en i).isSome then r else .st := by
  rw [hasR]
  cases Q.get en i <;> rfl
theorem find_in {c : Nat} : ∀ {st : List Nat} {k : Nat}, c ∈ st → ∃ i, idxC c st k = some (k + i) ∧ st[i]? = some c
  | [], k, h => by cases h
  | a :: as, k, h => by
    by_cases hc : a = c
    · subst hc
      exact ⟨0, by simp [idxC], by simp⟩
    · have h2 : c ∈ as := by
        rcases List.mem_cons.mp h with h | h
        · exact absurd h.symm hc
        · exact h
      obtain ⟨i, h3, h4⟩ := find_in (k := k + 1) h2
      refine ⟨i + 1, ?_, by simpa using h4⟩
      rw [idxC, if_neg (by simpa using hc), h3]
      congr 1
      omega
def ixC (st : List Nat) (c : Nat) : Nat := (idxC c st 0).getD 0
theorem ixC_lt {st : List Nat} {c : Nat} (h : c ∈ st) : ixC st c < st.length := by
  obtain ⟨i, h1, h2⟩ := find_in (k := 0) h
  rw [ixC, h1]
  have := (List.getElem?_eq_some_iff.mp h2).1
  simpa using this
theorem findS {st : List Nat} {c : Nat} (h : c ∈ st) : mth .find (.str st) [.str [c]] = some (.int (ixC st c)) := by
  obtain ⟨i, h1, h2⟩ := find_in (k := 0) h
  simp [mth, ixC, h1]
theorem sliceFrom {x : List Nat} {k : Nat} : slice (.str x) (some (k : Int)) none = some (.str (x.drop k)) := by
  have h1 : cut x.length 0 (some (k : Int)) = min k x.length := by
    have h0 : ¬ ((k : Int) < 0) := by omega
    simp [cut, h0]
  have h2 : cut x.length x.length none = x.length := rfl
  simp only [slice, h1, h2, sliceL, List.take_length]
  congr 2
  by_cases h : k ≤ x.length
  · rw [Nat.min_eq_left h]
  · rw [Nat.min_eq_right (by omega), List.drop_eq_nil_of_le (Nat.le_refl _), List.drop_eq_nil_of_le (by omega)]
theorem zipL_map {α β : Type} {f : α → D} {g : β → D} : ∀ {xs : List α} {ys : List β}, zipL (xs.map f) (ys.map g) = (xs.zip ys).map fun p => .tup [f p.1, g p.2]
  | [], ys => by cases ys <;> rfl
  | x :: xs, [] => rfl
  | x :: xs, y :: ys => by simp [zipL, zipL_map]
theorem rep_eq {c : Nat} : ∀ n, rep n [c] = List.replicate n c
  | 0 => rfl
  | n + 1 => by rw [rep, rep_eq n, List.replicate_succ]; rfl
theorem mulSN {c n : Nat} (h : n ≤ 1000) : binop .mul (.str [c]) (.int (n : Int)) = some (.str (List.replicate n c)) := by
  have h1 : -(LIM : Int) < (n : Int) := by show -(1000000 : Int) < n; omega
  have h2 : (n : Int) < (LIM : Int) := by show (n : Int) < 1000000; omega
  have h3 : n ≤ LIM := by show n ≤ 1000000; omega
  simp [binop, h1, h2, h3, rep_eq]
theorem addSS {x y : List Nat} (h : x.length + y.length ≤ 1000) : binop .add (.str x) (.str y) = some (.str (x ++ y)) := by
  have h3 : x.length + y.length ≤ LIM := by show x.length + y.length ≤ 1000000; omega
  simp [binop, h3]
theorem addTT {x y : List D} (h : x.length + y.length ≤ 1000) : binop .add (.tup x) (.tup y) = some (.tup (x ++ y)) := by
  have h3 : x.length + y.length ≤ LIM := by show x.length + y.length ≤ 1000000; omega
  simp [binop, h3]
def isLO (o : Option D) : Bool := match o with
  | some (.lst true _) => true
  | _ => false
def appO (o : Option D) (y : D) (en : Env) (i : Nat) : Option Env := match o with
  | some (.lst true xs) => if xs.length < LIM then some (en.set i (some (.lst true (xs ++ [y])))) else none
  | _ => none
@[simp] theorem isL_nil {en : Env} {i : Nat} : isL en i [] = isLO (Q.get en i) := by
  rw [isL]
  cases h : Q.get en i with
  | none => rfl
  | some d => rfl
@[simp] theorem isLO_l {xs : List D} : isLO (some (.lst true xs)) = true := nr rfl
@[simp] theorem app_eq {en : Env} {i : Nat} {y : D} : upSlot en i (updAt (appD y) []) = appO (Q.get en i) y en i := by
  rw [upSlot]
  cases h : Q.get en i with
  | none => rfl
  | some d =>
    show (Option.map _ (updAt (appD y) [] d)) = _
    rw [updAt]
    cases d with
    | lst o xs =>
      cases o with
      | false => rfl
      | true =>
        simp only [appD, appO]
        by_cases hl : xs.length < LIM
        · simp [hl]
        · simp [hl]
    | _ => rfl
@[simp] theorem appO_l {xs : List D} {y : D} {en : Env} {i : Nat} (h : xs.length < 1000000) : appO (some (.lst true xs)) y en i = some (en.set i (some (.lst true (xs ++ [y])))) := by
  have h3 : xs.length < LIM := h
  simp [appO, h3]
theorem smallI_of {i : Int} (h0 : -1000000 < i) (h1 : i < 1000000) : smallI i = true := by
  have h2 : -BIG < i := by show -(18446744073709551616 : Int) < i; omega
  have h3 : i < BIG := by show i < (18446744073709551616 : Int); omega
  simp [smallI, h2, h3]
theorem strsO_map {cs : List Nat} : strsO (cs.map fun c => D.str [c]) = some (cs.map fun c => [c]) := by
  induction cs with
  | nil => rfl
  | cons c cs ih => simp [strsO, ih]
theorem joinL_map : ∀ {cs : List Nat}, joinL [] (cs.map fun c => [c]) = cs
  | [] => rfl
  | [c] => rfl
  | c :: d :: cs => by
    have h := joinL_map (cs := d :: cs)
    simp only [List.map_cons] at h ⊢
    rw [joinL, h]
    rfl
theorem joinS {cs : List Nat} {o : Bool} (h : cs.length ≤ 1000) : mth .join (.str []) [.lst o (cs.map fun c => D.str [c])] = some (.str cs) := by
  have h1 : cs.length ≤ LIM := by show cs.length ≤ 1000000; omega
  have h2 : (List.map ((fun x => x.length) ∘ fun c => [c]) cs).sum = cs.length := by
    have : ((fun x : List Nat => x.length) ∘ fun c : Nat => [c]) = fun _ => 1 := by funext x; rfl
    rw [this]
    clear h h1 this
    induction cs with
    | nil => rfl
    | cons c cs ih => rw [List.map_cons, List.sum_cons, ih, List.length_cons]; omega
  simp [mth, strsO_map, joinL_map, h1, h2]
def putO (o : Option D) (k y : D) (en : Env) (i : Nat) : Option Env := match o with
  | some d => (putD k y d).map fun d' => en.set i (some d')
  | none => none
@[simp] theorem put_eq {en : Env} {i : Nat} {k y : D} : upSlot en i (updAt (putD k y) []) = putO (Q.get en i) k y en i := by
  rw [upSlot]
  cases h : Q.get en i with
  | none => rfl
  | some d =>
    show (Option.map _ (updAt (putD k y) [] d)) = _
    rw [updAt]
    rfl
section
variable {a b c d y : D} {en : Env} {i : Nat}
@[simp] theorem putO_0 : putO (some (.lst true [a, b, c, d])) (.int 0) y en i = some (en.set i (some (.lst true [y, b, c, d]))) := nr rfl
@[simp] theorem putO_1 : putO (some (.lst true [a, b, c, d])) (.int 1) y en i = some (en.set i (some (.lst true [a, y, c, d]))) := nr rfl
@[simp] theorem putO_2 : putO (some (.lst true [a, b, c, d])) (.int 2) y en i = some (en.set i (some (.lst true [a, b, y, d]))) := nr rfl
@[simp] theorem putO_3 : putO (some (.lst true [a, b, c, d])) (.int 3) y en i = some (en.set i (some (.lst true [a, b, c, y]))) := nr rfl
end
def flR (r : Res Fl) (k : Env → Res Fl) (_u : Tg k := ()) : Res Fl := match r with
  | .ok .nx en => k en
  | .ok .ct en => k en
  | .ok .bk en => .ok .nx en
  | r => r
section
variable {bd : D → Env → Option Env} {body : Env → Res Fl} {k : Env → Res Fl} {en : Env} {d : D} {ds : List D} {C : Nat}
@[simp] theorem flR_nx : flR (.ok .nx en) k = k en := nr rfl
@[simp] theorem flR_ct : flR (.ok .ct en) k = k en := nr rfl
@[simp] theorem flR_bk : flR (.ok .bk en) k = .ok .nx en := nr rfl
@[simp] theorem flR_rt : flR (.ok (.rt d) en) k = .ok (.rt d) en := nr rfl
@[simp] theorem flR_ex : flR (.ex C ds en) k = .ex C ds en := nr rfl
@[simp] theorem forL_nil : forL bd body [] en = .ok .nx en := nr rfl
theorem forL_cons : forL bd body (d :: ds) en = om (bd d en) fun en1 => flR (body en1) (forL bd body ds) := by
  rw [forL]
  unfold om
  cases bd d en with
  | none => rfl
  | some en1 =>
    dsimp only
    cases body en1 with
    | ok f en2 => cases f <;> rfl
    | _ => rfl
@[simp] theorem forP_lst : forP (.lst ds) bd body en = forL bd body ds en := nr rfl
@[simp] theorem mkEnm_lst : mkEnm (.lst ds) = .lst (enmL 0 ds) := nr rfl
@[simp] theorem mkZip_lst {es : List D} : mkZip (.lst ds) (.lst es) = .lst (zipL ds es) := nr rfl
@[simp] theorem bindNm {i : Nat} : bindT (.nm i) d en = if i < en.length then some (en.set i (some d)) else none := by rw [bindT]
@[simp] theorem bindTp {ts : List T} {ds : List D} : bindT (.tp ts) (.tup ds) en = bindTs ts ds en := by rw [bindT]
@[simp] theorem bindTs_nil : bindTs [] [] en = some en := by rw [bindTs]
@[simp] theorem bindTs_cons {t : T} {ts : List T} : bindTs (t :: ts) (d :: ds) en = (bindT t d en).bind fun en1 => bindTs ts ds en1 := by
  rw [bindTs]
  cases bindT t d en <;> rfl
end
section
variable {P : Prog} {cf : CF} {xc : Option (Nat × List D)} {en en1 : Env} {b : Bool} {j : Nat} {elt key : E} {it : It} {ds : List D}
theorem for_wp {bd : D → Env → Option Env} {body : Env → Res Fl} (I : Nat → Env → Prop) : ∀ (ds : List D) (k : Nat) (en : Env), I k en → (∀ i d en, ds[i]? = some d → I (k + i) en → ∃ en1, bd d en = some en1 ∧ ∃ fl en2, body en1 = .ok fl en2 ∧ (fl = .nx ∨ fl = .ct) ∧ I (k + i + 1) en2) →
    ∃ en', forL bd body ds en = .ok .nx en' ∧ I (k + ds.length) en'
  | [], k, en, h0, _ => ⟨en, rfl, h0⟩
  | d :: ds, k, en, h0, hs => by
    obtain ⟨en1, h1, fl, en2, h2, h3, h4⟩ := hs 0 d en rfl h0
    obtain ⟨en', h5, h6⟩ := for_wp I ds (k + 1) en2 h4 fun i d en hd hI => by
      have e : k + 1 + i = k + (i + 1) := by omega
      rw [e] at hI ⊢
      exact hs (i + 1) d en (by simpa using hd) hI
    refine ⟨en', ?_, by rw [List.length_cons]; have : k + 1 + ds.length = k + (ds.length + 1) := by omega
                        rw [← this]; exact h6⟩
    rw [forL, h1]
    dsimp only
    rw [h2]
    rcases h3 with rfl | rfl <;> exact h5
theorem for_fold {α : Type} {bd : D → Env → Option Env} {body : Env → Res Fl} (F : α → Env) (st : α → D → α) : ∀ (ds : List D) (a : α), (∀ a d, d ∈ ds → ∃ en1, bd d (F a) = some en1 ∧ body en1 = .ok .nx (F (st a d))) → forL bd body ds (F a) = .ok .nx (F (ds.foldl st a))
  | [], a, _ => rfl
  | d :: ds, a, h => by
    obtain ⟨en1, h1, h2⟩ := h a d List.mem_cons_self
    rw [forL, h1]
    dsimp only
    rw [h2]
    exact for_fold F st ds (st a d) fun a d hd => h a d (List.mem_cons_of_mem _ hd)
theorem for_foldM {α β : Type} {bd : D → Env → Option Env} {body : Env → Res Fl} (g : β → D) (F : α → Env) (st : α → β → α) (I : α → Prop) : ∀ (xs : List β) (a : α), I a → (∀ a x, x ∈ xs → I a → om (bd (g x) (F a)) body = .ok .nx (F (st a x)) ∧ I (st a x)) → forL bd body (xs.map g) (F a) = .ok .nx (F (xs.foldl st a)) ∧ I (xs.foldl st a)
  | [], a, hI, _ => ⟨rfl, hI⟩
  | x :: xs, a, hI, h => by
    obtain ⟨h1, h2⟩ := h a x List.mem_cons_self hI
    have h3 := for_foldM (bd := bd) (body := body) g F st I xs (st a x) h2 fun a y hy => h a y (List.mem_cons_of_mem _ hy)
    rw [List.map_cons, forL_cons]
    refine ⟨?_, h3.2⟩
    rw [List.foldl_cons, ← h3.1]
    cases hb : bd (g x) (F a) with
    | none => rw [hb] at h1; cases h1
    | some en1 =>
      rw [hb] at h1
      have h4 : body en1 = .ok .nx (F (st a x)) := h1
      show flR (body en1) _ = _
      rw [h4]
      rfl
theorem for_idx {bd : D → Env → Option Env} {body : Env → Res Fl} (g : Nat → D) (F : Nat → Env) (N : Nat) (h : ∀ k, k < N → om (bd (g k) (F k)) body = .ok .nx (F (k + 1))) : forL bd body ((List.range N).map g) (F 0) = .ok .nx (F N) := by
  have main : ∀ (n k : Nat), k + n = N → forL bd body ((List.range' k n).map g) (F k) = .ok .nx (F N) := by
    intro n
    induction n with
    | zero => intro k hk; have e : k = N := by omega
              subst e; rfl
    | succ n ih =>
      intro k hk
      rw [List.range'_succ, List.map_cons, forL_cons]
      have h1 := h k (by omega)
      cases hb : bd (g k) (F k) with
      | none => rw [hb] at h1; cases h1
      | some en1 =>
        rw [hb] at h1
        have h4 : body en1 = .ok .nx (F (k + 1)) := h1
        show flR (body en1) _ = _
        rw [h4]
        exact ih (k + 1) (by omega)
  rw [List.range_eq_range']
  exact main N 0 (by omega)
theorem for_wpM {β : Type} {bd : D → Env → Option Env} {body : Env → Res Fl} (g : β → D) (I : Nat → Env → Prop) : ∀ (xs : List β) (k : Nat) (en : Env), I k en → (∀ i x en, xs[i]? = some x → I (k + i) en → ∃ en2, om (bd (g x) en) body = .ok .nx en2 ∧ I (k + i + 1) en2) → ∃ en', forL bd body (xs.map g) en = .ok .nx en' ∧ I (k + xs.length) en'
  | [], k, en, h0, _ => ⟨en, rfl, h0⟩
  | x :: xs, k, en, h0, hs => by
    obtain ⟨en2, h1, h2⟩ := hs 0 x en rfl h0
    obtain ⟨en', h5, h6⟩ := for_wpM (bd := bd) (body := body) g I xs (k + 1) en2 h2 fun i x en hd hI => by
      have e : k + 1 + i = k + (i + 1) := by omega
      rw [e] at hI ⊢
      exact hs (i + 1) x en (by simpa using hd) hI
    refine ⟨en', ?_, by rw [List.length_cons]; have : k + 1 + xs.length = k + (xs.length + 1) := by omega
                        rw [← this]; exact h6⟩
    rw [List.map_cons, forL_cons, ← h5]
    cases hb : bd (g x) en with
    | none => rw [hb] at h1; cases h1
    | some en1 =>
      rw [hb] at h1
      have h4 : body en1 = .ok .nx en2 := h1
      show flR (body en1) _ = _
      rw [h4]
      rfl
theorem evConds_nil : evConds P cf xc [] en = .ok true en := by rw [evConds]
theorem wipe1 : wipeE en [j] = en.set j none := rfl
theorem restore1 {old : Env} : restore old en [j] = en.set j ((old[j]?).join) := rfl
theorem compL_wp {α : Type} {bd : D → Env → Option Env} {turn : α → Env → Res α} (I : Nat → α → Env → Prop) : ∀ (ds : List D) (k : Nat) (acc : α) (en : Env), I k acc en → (∀ i d acc en, ds[i]? = some d → I (k + i) acc en → ∃ en1, bd d en = some en1 ∧ ∃ acc2 en2, turn acc en1 = .ok acc2 en2 ∧ I (k + i + 1) acc2 en2) →
    ∃ acc' en', compL bd turn ds acc en = .ok acc' en' ∧ I (k + ds.length) acc' en'
  | [], k, acc, en, h0, _ => ⟨acc, en, rfl, h0⟩
  | d :: ds, k, acc, en, h0, hs => by
    obtain ⟨en1, h1, acc2, en2, h2, h4⟩ := hs 0 d acc en rfl h0
    obtain ⟨acc', en', h5, h6⟩ := compL_wp I ds (k + 1) acc2 en2 h4 fun i d acc en hd hI => by
      have e : k + 1 + i = k + (i + 1) := by omega
      rw [e] at hI ⊢
      exact hs (i + 1) d acc en (by simpa using hd) hI
    refine ⟨acc', en', ?_, by rw [List.length_cons]; have : k + 1 + ds.length = k + (ds.length + 1) := by omega
                              rw [← this]; exact h6⟩
    rw [compL, h1]
    dsimp only
    rw [h2]
    exact h5
theorem comp_wp {R : D → Env → Prop} (I : Nat → List D → Env → Prop) (ho : ∀ d, Q.get en j = some d → own d = false) (hi : evIt P cf xc it (en.set j none) = .ok (.lst ds) en1) (hl : ds.length ≤ LIM) (h0 : I 0 [] en1)
    (hs : ∀ i acc en2 d, ds[i]? = some d → acc.length = i → I i acc en2 → ∃ v en3, j < en2.length ∧ ev P cf xc false elt ((en2.set j none).set j (some d)) = .ok v en3 ∧ I (i + 1) (acc ++ [v]) en3)
    (hq : ∀ acc en2, acc.length = ds.length → I ds.length acc en2 → R (.lst true acc) ((en2.set j none).set j ((en[j]?).join))) :
    ∃ v en', ev P cf xc b (.comp .list key elt [.mk (.nm j) it []] [j]) en = .ok v en' ∧ R v en' := by
  have main := compL_wp (bd := fun d en => bindT (.nm j) d (wipeE en (slotsG [.mk (.nm j) it []]))) (turn := fun acc en => (evConds P cf xc [] en).bind fun b en => if b then evGo P cf xc (fun acc en => rb (ev P cf xc false elt en) fun d en => if acc.length < LIM then .ok (acc ++ [d]) en else .st) [] acc en else .ok acc en)
    (fun i acc en => acc.length = i ∧ I i acc en) ds 0 [] en1 ⟨rfl, h0⟩ (by
      intro i d acc en2 hd ⟨ha, hI⟩
      have hil : i < ds.length := (List.getElem?_eq_some_iff.mp hd).1
      rw [Nat.zero_add] at hI ha ⊢
      obtain ⟨v, en3, h1, h2, h3⟩ := hs i acc en2 d hd ha hI
      refine ⟨(en2.set j none).set j (some d), ?_, acc ++ [v], en3, ?_, ?_, h3⟩
      · show (if j < (en2.set j none).length then _ else _) = _
        rw [if_pos (by simpa using h1)]
        rfl
      · rw [evConds]
        simp only [Res.bind]
        rw [if_pos trivial, evGo, h2]
        show (if acc.length < LIM then _ else _) = _
        rw [if_pos (by omega)]
      · rw [List.length_append, ha]; rfl)
  obtain ⟨acc', en', h1, h2, h3⟩ := main
  rw [Nat.zero_add] at h2 h3
  refine ⟨.lst true acc', _, ?_, hq acc' en' h2 h3⟩
  rw [ev_comp, if_pos]
  · show rb (rb (Res.calm (evGo P cf xc _ [.mk (.nm j) it []] [] (en.set j none))) _) _ = _
    rw [evGo, hi]
    show rb (rb (Res.calm (compL _ _ ds [] en1)) _) _ = _
    rw [h1]
    rfl
  · show (([j] : List Nat).all fun i => match Q.get en i with
      | some d => !own d
      | none => true) = true
    rw [List.all_cons]
    cases hg : Q.get en j with
    | none => rfl
    | some d => 
      show (!own d && _) = true
      rw [ho d hg]; rfl
theorem comp_pure (f : D → D) (hi : evIt P cf xc it (en.set j none) = .ok (.lst ds) (en.set j none)) (hl : ds.length ≤ LIM) (hj : j < en.length) (ho : ∀ d, Q.get en j = some d → own d = false)
    (hs : ∀ d, d ∈ ds → ev P cf xc false elt (en.set j (some d)) = .ok (f d) (en.set j (some d))) :
    ev P cf xc b (.comp .list key elt [.mk (.nm j) it []] [j]) en = .ok (.lst true (ds.map f)) en := by
  obtain ⟨v, en', h1, h2, h3⟩ := comp_wp (P := P) (cf := cf) (xc := xc) (b := b) (key := key) (elt := elt) (R := fun v en' => v = .lst true (ds.map f) ∧ en' = en) (fun i acc en2 => acc = (ds.take i).map f ∧ en2.set j none = en.set j none) ho hi hl ⟨by simp, by simp⟩
    (by
      intro i acc en2 d hd ha ⟨h1, h2⟩
      have hl2 : en2.length = en.length := by
        have := congrArg List.length h2
        simpa using this
      refine ⟨f d, (en.set j (some d)), by omega, ?_, ?_, by simp⟩
      · rw [h2, List.set_set]
        exact hs d (List.mem_of_getElem? hd)
      · rw [h1, List.take_add_one, hd]
        simp)
    (by
      intro acc en2 ha ⟨h1, h2⟩
      refine ⟨by rw [h1, List.take_length], ?_⟩
      rw [h2, List.set_set]
      have e : en[j]? = some en[j] := List.getElem?_eq_getElem hj
      rw [e]
      exact List.set_getElem_self _)
  rw [h1, h2, h3]
end
end QR
end
section
set_option autoImplicit false
set_option linter.all false
set_option maxRecDepth 100000
namespace QR
open _root_.Q
theorem castAdd1 {a : Nat} : ((a : Int) + 1) = ((a + 1 : Nat) : Int) := by omega
theorem int0 : (D.int 0) = D.int ((0 : Nat) : Int) := rfl
def nD (k : Nat) : D := .int (k : Int)
def nsD (ks : List Nat) : List D := ks.map nD
def oD : Option Nat → D
  | none => .non
  | some k => nD k
def pD (p : Nat × Nat) : D := .tup [nD p.1, nD p.2]
@[simp] theorem own_nD {k : Nat} : own (nD k) = false := rfl
@[simp] theorem fz_nD {k : Nat} : fz (nD k) = nD k := rfl
@[simp] theorem own_oD {k : Option Nat} : own (oD k) = false := by cases k <;> rfl
@[simp] theorem fz_oD {k : Option Nat} : fz (oD k) = oD k := by cases k <;> rfl
@[simp] theorem own_pD {p : Nat × Nat} : own (pD p) = false := rfl
@[simp] theorem fz_pD {p : Nat × Nat} : fz (pD p) = pD p := rfl
theorem fzs_id : ∀ {ds : List D}, (∀ d ∈ ds, fz d = d) → fzs ds = ds
  | [], _ => rfl
  | d :: ds, h => by
    rw [fzs_cons, h d List.mem_cons_self, fzs_id fun e he => h e (List.mem_cons_of_mem _ he)]
theorem fzs_map {α : Type} {f : α → D} {xs : List α} (h : ∀ x, fz (f x) = f x) : fzs (xs.map f) = xs.map f := fzs_id fun d hd => by
  obtain ⟨x, _, rfl⟩ := List.mem_map.mp hd
  exact h x
theorem lstOk_map {α : Type} {f : α → D} {xs : List α} (h : ∀ x, own (f x) = false) : lstOk (xs.map f) = true := by
  simp only [lstOk, Bool.not_eq_true', List.any_eq_false]
  intro d hd
  obtain ⟨x, _, rfl⟩ := List.mem_map.mp hd
  rw [h x]; decide
@[simp] theorem fzs_n {ks : List Nat} : fzs (ks.map nD) = ks.map nD := fzs_map fun _ => rfl
@[simp] theorem fzs_o {ks : List (Option Nat)} : fzs (ks.map oD) = ks.map oD := fzs_map fun _ => fz_oD
@[simp] theorem fzs_p {ks : List (Nat × Nat)} : fzs (ks.map pD) = ks.map pD := fzs_map fun _ => rfl
@[simp] theorem fzs_s {ks : List (List Nat)} : fzs (ks.map D.str) = ks.map D.str := fzs_map fun _ => rfl
@[simp] theorem ok_n {ks : List Nat} : lstOk (ks.map nD) = true := lstOk_map fun _ => rfl
@[simp] theorem ok_o {ks : List (Option Nat)} : lstOk (ks.map oD) = true := lstOk_map fun _ => own_oD
@[simp] theorem ok_p {ks : List (Nat × Nat)} : lstOk (ks.map pD) = true := lstOk_map fun _ => rfl
@[simp] theorem ok_s {ks : List (List Nat)} : lstOk (ks.map D.str) = true := lstOk_map fun _ => rfl
@[simp] theorem it_n {ks : List Nat} {o : Bool} : items (.lst o (ks.map nD)) = some (ks.map nD) := itemsL ok_n
@[simp] theorem it_p {ks : List (Nat × Nat)} {o : Bool} : items (.lst o (ks.map pD)) = some (ks.map pD) := itemsL ok_p
@[simp] theorem it_s {ks : List (List Nat)} {o : Bool} : items (.lst o (ks.map D.str)) = some (ks.map D.str) := itemsL ok_s
theorem rngN {n : Nat} (h : n < 1000000) : rngD [.int (n : Int)] = some ((List.range n).map nD) := rngI h
theorem rngN2 {a b : Nat} (h : b < 1000000) (ha : a < 1000000) : rngD [.int (a : Int), .int (b : Int)] = some ((List.range (b - a)).map fun k => nD (a + k)) := by
  have h1 : smR (a : Int) = true := by simp [smR, W]; omega
  have h2 : smR (b : Int) = true := by simp [smR, W]; omega
  have h3 : ((b : Int) - (a : Int) < (LIM : Int)) := by show (b : Int) - (a : Int) < 1000000; omega
  have e : ((b : Int) - (a : Int)).toNat = b - a := by omega
  simp only [rngD, h1, h2, h3, decide_true, Bool.and_self, if_true, rangeL_eq, e]
  congr 1
theorem ixO {α : Type} {b : Bool} {en : Env} {f : α → D} {xs : List α} {k : Nat} {x : α} {o : Bool} (h : xs[k]? = some x) (ho : own (f x) = false) : ixR b (.lst o (xs.map f)) (.int (k : Int)) en = .ok (f x) en :=
  ixR_L (by rw [List.getElem?_map, h]; rfl) ho
theorem ixT {α : Type} {b : Bool} {en : Env} {f : α → D} {xs : List α} {k : Nat} {x : α} (h : xs[k]? = some x) (ho : own (f x) = false) : ixR b (.tup (xs.map f)) (.int (k : Int)) en = .ok (f x) en :=
  ixR_T (by rw [List.getElem?_map, h]; rfl) ho
theorem ixQ_neg1 {n : Nat} (h : 0 < n) : ixQ n (-1) = some (n - 1) := by
  have h1 : ¬ ((0 : Int) ≤ -1) := by omega
  have h2 : (-(-1 : Int) ≤ (n : Int)) := by omega
  unfold ixQ
  rw [if_neg h1, if_pos h2]
  congr 1
  omega
theorem ixLast {b : Bool} {en : Env} {xs : List D} {d : D} {o : Bool} (h : xs.getLast? = some d) (ho : own d = false) : ixR b (.lst o xs) (.int (-1)) en = .ok d en := by
  have hl : 0 < xs.length := by
    cases xs with
    | nil => cases h
    | cons _ _ => simp
  have : ixD (.lst o xs) (.int (-1)) = some d := by
    simp only [ixD, ixQ_neg1 hl, Option.bind_some]
    rw [← List.getLast?_eq_getElem?, h]
  rw [ixR, this]
  simp [ho]
theorem ixLastT {b : Bool} {en : Env} {xs : List D} {d : D} (h : xs.getLast? = some d) (ho : own d = false) : ixR b (.tup xs) (.int (-1)) en = .ok d en := by
  have hl : 0 < xs.length := by
    cases xs with
    | nil => cases h
    | cons _ _ => simp
  have : ixD (.tup xs) (.int (-1)) = some d := by
    simp only [ixD, ixQ_neg1 hl, Option.bind_some]
    rw [← List.getLast?_eq_getElem?, h]
  rw [ixR, this]
  simp [ho]
theorem ixLastS {b : Bool} {en : Env} {x : List Nat} {c : Nat} (h : x.getLast? = some c) : ixR b (.str x) (.int (-1)) en = .ok (.str [c]) en := by
  have hl : 0 < x.length := by
    cases x with
    | nil => cases h
    | cons _ _ => simp
  have : ixD (.str x) (.int (-1)) = some (.str [c]) := by
    simp only [ixD, ixQ_neg1 hl, Option.bind_some]
    rw [← List.getLast?_eq_getElem?, h]
    rfl
  rw [ixR, this]
  simp
theorem putN {xs : List D} {k : Nat} {y : D} {en : Env} {i : Nat} (h : k < xs.length) : putO (some (.lst true xs)) (.int (k : Int)) y en i = some (en.set i (some (.lst true (xs.set k y)))) := by
  have e : ixQ xs.length (k : Int) = some k := by
    have h1 : (0 : Int) ≤ (k : Int) := by omega
    have h2 : (k : Int) < (xs.length : Int) := by omega
    unfold ixQ
    rw [if_pos h1, if_pos h2]
    rfl
  simp only [putO, putD, e, Option.map_some]
theorem set_map {α : Type} {f : α → D} {xs : List α} {k : Nat} {x : α} : (xs.map f).set k (f x) = (xs.set k x).map f := by rw [List.map_set]
def app1 (o : Option D) (k : D) (y : D) (en : Env) (i : Nat) : Option Env := match o with
  | some d => (updAt (appD y) [k] d).map fun d' => en.set i (some d')
  | none => none
@[simp] theorem app1_eq {en : Env} {i : Nat} {k y : D} : upSlot en i (updAt (appD y) [k]) = app1 (Q.get en i) k y en i := by
  rw [upSlot]
  cases h : Q.get en i <;> rfl
def isL1 (o : Option D) (k : D) : Bool := match o.bind (getAt [k]) with
  | some (.lst true _) => true
  | _ => false
@[simp] theorem isL1_eq {en : Env} {i : Nat} {k : D} : isL en i [k] = isL1 (Q.get en i) k := rfl
theorem ixQN {n k : Nat} (h : k < n) : ixQ n (k : Int) = some k := by
  have h1 : (0 : Int) ≤ (k : Int) := by omega
  have h2 : (k : Int) < (n : Int) := by omega
  unfold ixQ
  rw [if_pos h1, if_pos h2]
  rfl
theorem isL1N {α : Type} {f : α → D} {xs : List α} {k : Nat} {x : α} {ys : List D} (h : xs[k]? = some x) (hf : f x = .lst true ys) : isL1 (some (.lst true (xs.map f))) (.int (k : Int)) = true := by
  have hl : k < xs.length := (List.getElem?_eq_some_iff.mp h).1
  have : ixD (.lst true (xs.map f)) (.int (k : Int)) = some (f x) := by
    simp only [ixD, ixQN (n := (xs.map f).length) (by simpa using hl), Option.bind_some, List.getElem?_map, h, Option.map_some]
  simp only [isL1, Option.bind_some, getAt, this, hf]
theorem app1N {α : Type} {f : α → D} {xs : List α} {k : Nat} {x x' : α} {ys : List D} {y : D} {en : Env} {i : Nat} (h : xs[k]? = some x) (hf : f x = .lst true ys) (hl : ys.length < 1000000) (hf' : f x' = .lst true (ys ++ [y])) :
    app1 (some (.lst true (xs.map f))) (.int (k : Int)) y en i = some (en.set i (some (.lst true ((xs.set k x').map f)))) := by
  have hk : k < xs.length := (List.getElem?_eq_some_iff.mp h).1
  have hL : ys.length < LIM := hl
  simp only [app1, updAt, ixQN (n := (xs.map f).length) (by simpa using hk), Option.bind_some, List.getElem?_map, h, Option.map_some, hf, appD, if_pos hL, ← hf', List.map_set]
theorem plains_n {ks : List Nat} {m : Nat} : plains m (ks.map nD) = true := by
  induction ks with
  | nil => rfl
  | cons k ks ih => rw [List.map_cons, plains, ih]; rfl
theorem plains_s {ks : List (List Nat)} {m : Nat} : plains m (ks.map D.str) = true := by
  induction ks with
  | nil => rfl
  | cons k ks ih => rw [List.map_cons, plains, ih]; rfl
theorem plains_p {ks : List (Nat × Nat)} : plains MAXD (ks.map pD) = true := by
  induction ks with
  | nil => rfl
  | cons k ks ih => rw [List.map_cons, plains, ih]; rfl
theorem dmem_n {k : Nat} {ks : List Nat} : dmem (nD k) (ks.map nD) = decide (k ∈ ks) := by
  simp only [dmem, List.any_map]
  induction ks with
  | nil => rfl
  | cons a ks ih =>
    rw [List.any_cons, ih]
    show (decide ((a : Int) = (k : Int)) || _) = _
    by_cases h : a = k
    · subst h; simp
    · have h2 : ¬ k = a := fun e => h e.symm
      simp [h, h2]
theorem dmem_s {x : List Nat} {ks : List (List Nat)} : dmem (.str x) (ks.map D.str) = decide (x ∈ ks) := by
  simp only [dmem, List.any_map]
  induction ks with
  | nil => rfl
  | cons a ks ih =>
    rw [List.any_cons, ih]
    show ((a == x) || _) = _
    by_cases h : a = x
    · subst h; simp
    · have h2 : ¬ x = a := fun e => h e.symm
      simp [h, h2]
theorem dmem_p {p : Nat × Nat} {ks : List (Nat × Nat)} : dmem (pD p) (ks.map pD) = decide (p ∈ ks) := by
  simp only [dmem, List.any_map]
  induction ks with
  | nil => rfl
  | cons a ks ih =>
    rw [List.any_cons, ih]
    obtain ⟨a1, a2⟩ := a
    obtain ⟨p1, p2⟩ := p
    show ((((a1 : Int) == (p1 : Int)) && (((a2 : Int) == (p2 : Int)) && true)) || _) = _
    by_cases h : a1 = p1
    · by_cases h2 : a2 = p2
      · subst h h2; simp
      · have : ¬ (p1, p2) = (a1, a2) := fun e => h2 (by cases e; rfl)
        simp [h2, this]
    · have : ¬ (p1, p2) = (a1, a2) := fun e => h (by cases e; rfl)
      simp [h, this]
@[simp] theorem inN {k : Nat} {ks : List Nat} : cmpop .isin (.int (k : Int)) (.tup (ks.map nD)) = some (decide (k ∈ ks)) := by
  have h : dmem (.int (k : Int)) (ks.map nD) = decide (k ∈ ks) := dmem_n
  simp only [cmpop, inop, plain, plains_n, Bool.and_self, if_true, h]
@[simp] theorem inNL {k : Nat} {ks : List Nat} {o : Bool} : cmpop .isin (.int (k : Int)) (.lst o (ks.map nD)) = some (decide (k ∈ ks)) := by
  have h : dmem (.int (k : Int)) (ks.map nD) = decide (k ∈ ks) := dmem_n
  simp only [cmpop, inop, plain, plains_n, Bool.and_self, if_true, h]
@[simp] theorem inSL {x : List Nat} {ks : List (List Nat)} {o : Bool} : cmpop .isin (.str x) (.lst o (ks.map D.str)) = some (decide (x ∈ ks)) := by
  simp only [cmpop, inop, plain, plains_s, Bool.and_self, if_true, dmem_s]
@[simp] theorem ninSL {x : List Nat} {ks : List (List Nat)} {o : Bool} : cmpop .notin (.str x) (.lst o (ks.map D.str)) = some (!decide (x ∈ ks)) := by
  simp only [cmpop, inop, plain, plains_s, Bool.and_self, if_true, dmem_s, Option.map_some]
theorem ninPL {p : Nat × Nat} {ks : List (Nat × Nat)} {o : Bool} : cmpop .notin (pD p) (.lst o (ks.map pD)) = some (!decide (p ∈ ks)) := by
  have h1 : plain MAXD (pD p) = true := rfl
  simp only [cmpop, inop, h1, plains_p, Bool.and_self, if_true, dmem_p, Option.map_some]
theorem indexD_s {x : List Nat} : ∀ {ks : List (List Nat)} {j : Nat}, x ∈ ks → indexD (.str x) (ks.map D.str) j = some (j + ks.idxOf x)
  | [], _, h => nomatch h
  | a :: ks, j, h => by
    rw [List.map_cons, indexD]
    show (if (a == x) = true then some j else indexD (.str x) (ks.map D.str) (j + 1)) = _
    by_cases e : a = x
    · subst e; simp
    · have e2 : (a == x) = false := by simpa using e
      have h2 : x ∈ ks := by
        rcases List.mem_cons.mp h with h | h
        · exact absurd h.symm e
        · exact h
      rw [e2, if_neg (by decide), indexD_s h2, List.idxOf_cons, e2]
      simp
      omega
theorem lays_s {ks : List (List Nat)} (h : ∀ x ∈ ks, ∀ c ∈ x, c < 1114112) : lays (ks.map D.str) = true := by
  induction ks with
  | nil => rfl
  | cons a ks ih =>
    rw [List.map_cons, lays, ih fun x hx => h x (List.mem_cons_of_mem _ hx), Bool.and_true]
    show (a.all fun c => decide (c < 1114112)) = true
    rw [List.all_eq_true]
    exact fun c hc => decide_eq_true (h a List.mem_cons_self c hc)
theorem indexS {x : List Nat} {ks : List (List Nat)} {o : Bool} (h : x ∈ ks) (hl : ∀ x ∈ ks, ∀ c ∈ x, c < 1114112) : mth .index (.lst o (ks.map D.str)) [.str x] = some (.int ((ks.idxOf x : Nat) : Int)) := by
  have h1 : lay (.str x) = true := by
    show (x.all fun c => decide (c < 1114112)) = true
    rw [List.all_eq_true]
    exact fun c hc => decide_eq_true (hl x h c hc)
  simp only [mth, plain, plains_s, lays_s hl, h1, Bool.and_self, if_true, indexD_s h, Option.map_some, Nat.zero_add]
  rfl
theorem cutN {n d k : Nat} : cut n d (some (k : Int)) = min k n := by
  have h0 : ¬ ((k : Int) < 0) := by omega
  simp [cut, h0]
theorem slTo {x : List Nat} {k : Nat} : slice (.str x) none (some (k : Int)) = some (.str (x.take k)) := by
  simp only [slice, cutN, sliceL]
  congr 2
  show ((x.take (min k x.length)).drop 0) = _
  rw [List.drop_zero]
  by_cases h : k ≤ x.length
  · rw [Nat.min_eq_left h]
  · rw [Nat.min_eq_right (by omega), List.take_length, List.take_of_length_le (by omega)]
theorem slBt {x : List Nat} {i j : Nat} (hi : i ≤ x.length) (hj : j ≤ x.length) : slice (.str x) (some (i : Int)) (some (j : Int)) = some (.str (sliceL x i j)) := by
  simp only [slice, cutN]
  rw [Nat.min_eq_left hi, Nat.min_eq_left hj]
theorem while_ind {c : Env → Res D} {body : Env → Res Fl} (I : Nat → Env → Prop) (P : Env → Prop)
    (h : ∀ m en, I m en → ∃ d en1, c en = .ok d en1 ∧ ((truthy d = false ∧ P en1) ∨ (truthy d = true ∧ ∃ m' en2, m' < m ∧ body en1 = .ok .nx en2 ∧ I m' en2))) : ∀ (n m : Nat) (en : Env), m < n → I m en → ∃ en', whileL c body n en = .ok .nx en' ∧ P en'
  | 0, m, en, hm, _ => by omega
  | n + 1, m, en, hm, hI => by
    obtain ⟨d, en1, h1, h2⟩ := h m en hI
    rw [whileL, h1]
    dsimp only
    rcases h2 with ⟨h2, h3⟩ | ⟨h2, m', en2, h3, h4, h5⟩
    · exact ⟨en1, by rw [h2]; rfl, h3⟩
    · obtain ⟨en', h6, h7⟩ := while_ind I P h n m' en2 (by omega) h5
      refine ⟨en', ?_, h7⟩
      rw [if_pos h2, h4]
      exact h6
theorem nodup_le : ∀ {n : Nat} {l : List Nat}, l.Nodup → (∀ x ∈ l, x < n) → l.length ≤ n
  | 0, l, _, h => by
    cases l with
    | nil => simp
    | cons a l => exact absurd (h a List.mem_cons_self) (by omega)
  | n + 1, l, hd, h => by
    by_cases hn : n ∈ l
    · have h1 := nodup_le (n := n) (hd.erase n) fun x hx => by
        have h2 := h x (List.mem_of_mem_erase hx)
        have h3 : x ≠ n := fun e => by
          subst e
          exact (List.Nodup.not_mem_erase hd) hx
        omega
      rw [List.length_erase_of_mem hn] at h1
      omega
    · have h1 := nodup_le (n := n) hd fun x hx => by
        have h2 := h x hx
        have h3 : x ≠ n := fun e => hn (e ▸ hx)
        omega
      omega
theorem nodup_sub {α : Type} [DecidableEq α] : ∀ {l m : List α}, l.Nodup → (∀ x ∈ l, x ∈ m) → l.length ≤ m.length
  | [], m, _, _ => by simp
  | a :: l, m, hd, h => by
    have ha := h a List.mem_cons_self
    obtain ⟨h1, h2⟩ := List.nodup_cons.mp hd
    have h3 := nodup_sub (m := m.erase a) h2 fun x hx => by
      have hne : x ≠ a := fun e => h1 (e ▸ hx)
      exact (List.mem_erase_of_ne hne).mpr (h x (List.mem_cons_of_mem _ hx))
    rw [List.length_erase_of_mem ha] at h3
    have : 0 < m.length := List.length_pos_of_mem ha
    rw [List.length_cons]
    omega
end QR
namespace QR
open _root_.Q
section
variable {P : Prog} {cf : CF} {xc : Option (Nat × List D)} {en : Env} {b : Bool} {j : Nat} {elt key cnd : E} {it : It} {ds : List D}
theorem comp_filt (p : D → Bool) (f : D → D) (hi : evIt P cf xc it (en.set j none) = .ok (.lst ds) (en.set j none)) (hl : ds.length ≤ LIM) (hj : j < en.length) (ho : ∀ d, Q.get en j = some d → own d = false)
    (hc : ∀ d, d ∈ ds → ev P cf xc true cnd (en.set j (some d)) = .ok (.bl (p d)) (en.set j (some d)))
    (hs : ∀ d, d ∈ ds → p d = true → ev P cf xc false elt (en.set j (some d)) = .ok (f d) (en.set j (some d))) :
    ev P cf xc b (.comp .list key elt [.mk (.nm j) it [cnd]] [j]) en = .ok (.lst true ((ds.filter p).map f)) en := by
  have main := compL_wp (bd := fun d en => bindT (.nm j) d (wipeE en (slotsG [.mk (.nm j) it [cnd]]))) (turn := fun acc en => (evConds P cf xc [cnd] en).bind fun b en => if b then evGo P cf xc (fun acc en => rb (ev P cf xc false elt en) fun d en => if acc.length < LIM then .ok (acc ++ [d]) en else .st) [] acc en else .ok acc en)
    (fun i acc en2 => acc = ((ds.take i).filter p).map f ∧ en2.set j none = en.set j none) ds 0 [] (en.set j none) ⟨by simp, by simp⟩ (by
      intro i d acc en2 hd ⟨h1, h2⟩
      have hil : i < ds.length := (List.getElem?_eq_some_iff.mp hd).1
      have hm := List.mem_of_getElem? hd
      rw [Nat.zero_add] at h1
      have hl2 : en2.length = en.length := by
        have := congrArg List.length h2
        simpa using this
      have e2 : (en2.set j none).set j (some d) = en.set j (some d) := by rw [h2, List.set_set]
      have hal : acc.length ≤ i := by
        rw [h1, List.length_map]
        exact Nat.le_trans (List.length_filter_le _ _) (by simp; omega)
      refine ⟨en.set j (some d), ?_, ?_⟩
      · show (if j < (en2.set j none).length then _ else _) = _
        rw [if_pos (by simp; omega)]
        show some ((en2.set j none).set j (some d)) = _
        rw [e2]
      · rw [Nat.zero_add, List.take_add_one, hd]
        by_cases hp : p d = true
        · refine ⟨acc ++ [f d], en.set j (some d), ?_, ?_, by simp⟩
          · rw [evConds, hc d hm]
            simp only [Res.bind, truthy, hp, if_true]
            rw [evConds]
            show (if true = true then _ else _) = _
            rw [if_pos rfl, evGo, hs d hm hp]
            show (if acc.length < LIM then _ else _) = _
            rw [if_pos (by omega)]
          · rw [h1]; simp [hp]
        · refine ⟨acc, en.set j (some d), ?_, ?_, by simp⟩
          · rw [evConds, hc d hm]
            have hp : p d = false := by simpa using hp
            simp only [Res.bind, truthy, hp]
            rfl
          · rw [h1]; simp [hp])
  obtain ⟨acc', en', h1, h2, h3⟩ := main
  rw [Nat.zero_add, List.take_length] at h2
  have : ev P cf xc b (.comp .list key elt [.mk (.nm j) it [cnd]] [j]) en = .ok (.lst true acc') ((en'.set j none).set j ((en[j]?).join)) := by
    rw [ev_comp, if_pos]
    · show rb (rb (Res.calm (evGo P cf xc _ [.mk (.nm j) it [cnd]] [] (en.set j none))) _) _ = _
      rw [evGo, hi]
      show rb (rb (Res.calm (compL _ _ ds [] (en.set j none))) _) _ = _
      rw [h1]
      rfl
    · show (([j] : List Nat).all fun i => match Q.get en i with
        | some d => !own d
        | none => true) = true
      rw [List.all_cons]
      cases hg : Q.get en j with
      | none => rfl
      | some d =>
        show (!own d && _) = true
        rw [ho d hg]; rfl
  rw [this, h2, h3, List.set_set]
  congr 1
  have e : en[j]? = some en[j] := List.getElem?_eq_getElem hj
  rw [e]
  exact List.set_getElem_self _
end
end QR
namespace QR
open _root_.Q
section
variable {i : Nat} {e : E} {k j : Int} {d : D}
@[simp] theorem partN0 : partE (.c .non) d = some none := nr rfl
@[simp] theorem partV0 : partE (.v i) (.int k) = some (some k) := nr rfl
@[simp] theorem partG0 : partE (.neg e) (.int k) = some (some k) := nr rfl
@[simp] theorem partC0 : partE (.c (.int j)) (.int k) = some (some k) := nr rfl
end
end QR
namespace QR
open _root_.Q
theorem addLL {o o' : Bool} {xs ys : List D} (h : xs.length + ys.length ≤ 1000) (h1 : lstOk xs = true) (h2 : lstOk ys = true) : binop .add (.lst o xs) (.lst o' ys) = some (.lst true (xs ++ ys)) := by
  have e : binop .add (.lst o xs) (.lst o' ys) = if (decide (xs.length + ys.length ≤ LIM) && lstOk xs && lstOk ys) = true then some (.lst true (xs ++ ys)) else none := rfl
  have h3 : xs.length + ys.length ≤ LIM := Nat.le_trans h (by decide)
  rw [e, if_pos (by rw [h1, h2, decide_eq_true h3]; rfl)]
end QR
namespace QR
open _root_.Q
@[simp] theorem neS {x y : List Nat} : cmpop .ne (.str x) (.str y) = some (!decide (x = y)) := by
  simp only [cmpop, plain, deq, Bool.and_self, if_true]
  congr 1
  by_cases h : x = y
  · subst h; simp
  · simp [h]
end QR
end
section
set_option autoImplicit false
set_option linter.all false
set_option maxRecDepth 100000
namespace QR
def Adj (ts : List (Nat × Nat)) (u v : Nat) : Prop := (u, v) ∈ ts ∨ (v, u) ∈ ts
theorem Adj.symm {ts : List (Nat × Nat)} {u v : Nat} (h : Adj ts u v) : Adj ts v u := h.elim .inr .inl
structure Dist (ts : List (Nat × Nat)) (N s : Nat) (d : Nat → Option Nat) : Prop where
  zero : ∀ v, d v = some 0 ↔ v = s
  back : ∀ v k, d v = some (k + 1) → ∃ u, d u = some k ∧ Adj ts u v
  fwd : ∀ u v k, d u = some k → Adj ts u v → ∃ j, j ≤ k + 1 ∧ d v = some j
  lt : ∀ v k, d v = some k → k < N ∧ v < N
structure Bf where
  many : List (Option Nat)
  before : List (Option Nat)
  queue : List Nat
def bfIn (p : Nat) (S : Bf) (o : Nat) : Bf :=
  if S.many[o]? = some none then ⟨S.many.set o (some (((S.many[p]?).join).getD 0 + 1)), S.before.set o (some p), S.queue ++ [o]⟩ else S
def Bf.d (S : Bf) (v : Nat) : Option Nat := (S.many[v]?).join
structure BfI (ts : List (Nat × Nat)) (N s r : Nat) (S : Bf) : Prop where
  lm : S.many.length = N
  lb : S.before.length = N
  qn : S.queue.Nodup
  qd : ∀ v, v ∈ S.queue ↔ ∃ k, S.d v = some k
  ql : ∀ v ∈ S.queue, v < N
  h0 : ∀ v, S.d v = some 0 ↔ v = s
  mono : ∀ (i j u v a b : Nat), i ≤ j → S.queue[i]? = some u → S.queue[j]? = some v → S.d u = some a → S.d v = some b → a ≤ b
  top : ∀ (u v a b : Nat), S.queue[r]? = some u → v ∈ S.queue → S.d u = some a → S.d v = some b → b ≤ a + 1
  idx : ∀ (i v a : Nat), S.queue[i]? = some v → S.d v = some a → a ≤ i
  back : ∀ v k, S.d v = some (k + 1) → ∃ u, S.before[v]? = some (some u) ∧ S.d u = some k ∧ Adj ts u v
  done : ∀ (i u v k : Nat), i < r → S.queue[i]? = some u → S.d u = some k → Adj ts u v → ∃ j, j ≤ k + 1 ∧ S.d v = some j
  rl : r ≤ S.queue.length
structure BfJ (ts : List (Nat × Nat)) (N s r p dp : Nat) (l0 : Nat) (seen : List Nat) (S : Bf) : Prop extends BfI ts N s r S where
  at_ : S.queue[r]? = some p
  dp_ : S.d p = some dp
  saw : ∀ v ∈ seen, ∃ j, j ≤ dp + 1 ∧ S.d v = some j
theorem d_set {S : Bf} {o k v : Nat} {b : List (Option Nat)} {q : List Nat} (h : S.many[o]? = some none) : (Bf.mk (S.many.set o (some k)) b q).d v = if v = o then some k else S.d v := by
  have hl := (List.getElem?_eq_some_iff.mp h).1
  show ((S.many.set o (some k))[v]?).join = _
  by_cases e : v = o
  · subst e
    rw [List.getElem?_set_self hl, if_pos rfl]
    rfl
  · rw [List.getElem?_set_ne (fun z => e z.symm), if_neg e]
    rfl
theorem bf_step {ts : List (Nat × Nat)} {N s r p dp l0 o : Nat} {seen : List Nat} {S : Bf} (J : BfJ ts N s r p dp l0 seen S) (ho : o < N) (ha : Adj ts p o) : BfJ ts N s r p dp l0 (seen ++ [o]) (bfIn p S o) := by
  unfold bfIn
  by_cases h : S.many[o]? = some none
  · rw [if_pos h]
    have e1 : ((S.many[p]?).join).getD 0 = dp := by
      have := J.dp_
      unfold Bf.d at this
      rw [this]; rfl
    rw [e1]
    have hdo : S.d o = none := by unfold Bf.d; rw [h]; rfl
    have hq : o ∉ S.queue := fun z => by
      obtain ⟨k, hk⟩ := (J.qd o).mp z
      rw [hdo] at hk; cases hk
    have ds : ∀ {v : Nat}, (Bf.mk (S.many.set o (some (dp + 1))) (S.before.set o (some p)) (S.queue ++ [o])).d v = if v = o then some (dp + 1) else S.d v := d_set h
    have dn : ∀ {v : Nat}, v ≠ o → (Bf.mk (S.many.set o (some (dp + 1))) (S.before.set o (some p)) (S.queue ++ [o])).d v = S.d v := fun {v} hv => by rw [ds, if_neg hv]
    have dold : ∀ {v k : Nat}, S.d v = some k → (Bf.mk (S.many.set o (some (dp + 1))) (S.before.set o (some p)) (S.queue ++ [o])).d v = some k := fun {v k} hv => by
      rw [dn (fun e => by subst e; rw [hdo] at hv; cases hv)]; exact hv
    have qat : ∀ {i v : Nat}, (S.queue ++ [o])[i]? = some v → (S.queue[i]? = some v ∧ v ≠ o) ∨ (i = S.queue.length ∧ v = o) := fun {i v} hi => by
      by_cases hl : i < S.queue.length
      · rw [List.getElem?_append_left hl] at hi
        exact .inl ⟨hi, fun e => hq (e ▸ List.mem_of_getElem? hi)⟩
      · rw [List.getElem?_append_right (by omega)] at hi
        have : i - S.queue.length = 0 := by
          apply Classical.byContradiction
          intro hne
          rw [List.getElem?_eq_none (by simp; omega)] at hi
          cases hi
        rw [this] at hi
        cases hi
        exact .inr ⟨by omega, rfl⟩
    have rlt : r < S.queue.length := (List.getElem?_eq_some_iff.mp J.at_).1
    have pno : p ≠ o := fun e => by subst e; exact hq (List.mem_of_getElem? J.at_)
    refine ⟨⟨by simp [J.lm], by simp [J.lb], ?_, fun v => ?_, fun v hv => ?_, fun v => ?_, ?_, ?_, ?_, ?_, ?_, by simp; omega⟩, ?_, dold J.dp_, ?_⟩
    · rw [List.nodup_append]
      refine ⟨J.qn, by simp, fun a ha' b hb e => ?_⟩
      rw [List.mem_singleton] at hb
      rw [hb] at e
      exact hq (e ▸ ha')
    · show v ∈ S.queue ++ [o] ↔ _
      rw [List.mem_append, List.mem_singleton, ds]
      by_cases e : v = o
      · simp [e]
      · rw [if_neg e, J.qd v]; simp [e]
    · rcases List.mem_append.mp hv with z | z
      · exact J.ql v z
      · rw [List.mem_singleton.mp z]; exact ho
    · rw [ds]
      by_cases e : v = o
      · subst e
        rw [if_pos rfl]
        constructor
        · intro z; cases z
        · intro z; subst z
          have := (J.h0 v).mpr rfl
          rw [hdo] at this; cases this
      · rw [if_neg e]; exact J.h0 v
    · intro i j u v a b hij hi hj ha' hb
      rcases qat hi with ⟨hi', nu⟩ | ⟨hi', eu⟩
      · rcases qat hj with ⟨hj', nv⟩ | ⟨hj', ev⟩
        · rw [dn nu] at ha'; rw [dn nv] at hb
          exact J.mono i j u v a b hij hi' hj' ha' hb
        · rw [dn nu] at ha'
          rw [ev, ds, if_pos rfl] at hb
          cases hb
          exact J.top p u dp a J.at_ (List.mem_of_getElem? hi') J.dp_ ha'
      · rcases qat hj with ⟨hj', nv⟩ | ⟨hj', ev⟩
        · have := (List.getElem?_eq_some_iff.mp hj').1
          omega
        · rw [eu] at ha'
          rw [ev, ha'] at hb; cases hb; exact Nat.le_refl _
    · intro u v a b hu hv ha' hb
      rcases qat hu with ⟨hu, nu⟩ | ⟨hu, _⟩
      · rw [J.at_] at hu
        cases hu
        rw [dold J.dp_] at ha'
        cases ha'
        rcases List.mem_append.mp hv with z | z
        · have nv : v ≠ o := fun e => hq (e ▸ z)
          rw [dn nv] at hb
          exact J.top p v dp b J.at_ z J.dp_ hb
        · rw [List.mem_singleton.mp z, ds, if_pos rfl] at hb
          cases hb; exact Nat.le_refl _
      · omega
    · intro i v a hi ha'
      rcases qat hi with ⟨hi, nv⟩ | ⟨hi, rfl⟩
      · rw [dn nv] at ha'
        exact J.idx i v a hi ha'
      · rw [ds, if_pos rfl] at ha'
        cases ha'
        have := J.idx r p dp J.at_ J.dp_
        omega
    · intro v k hv
      have bset : ∀ {w : Nat}, w ≠ o → (S.before.set o (some p))[w]? = S.before[w]? := fun {w} hw => List.getElem?_set_ne (fun z => hw z.symm)
      by_cases e : v = o
      · subst e
        rw [ds, if_pos rfl] at hv
        cases hv
        exact ⟨p, List.getElem?_set_self (by rw [J.lb]; exact ho), dold J.dp_, ha⟩
      · rw [dn e] at hv
        obtain ⟨u, h1, h2, h3⟩ := J.back v k hv
        exact ⟨u, by rw [← h1]; exact bset e, dold h2, h3⟩
    · intro i u v k hi hu hk hav
      rcases qat hu with ⟨hu, nu⟩ | ⟨hu, _⟩
      · rw [dn nu] at hk
        obtain ⟨j, h1, h2⟩ := J.done i u v k hi hu hk hav
        exact ⟨j, h1, dold h2⟩
      · omega
    · show (S.queue ++ [o])[r]? = some p
      rw [List.getElem?_append_left rlt]
      exact J.at_
    · intro v hv
      rcases List.mem_append.mp hv with z | z
      · obtain ⟨j, h1, h2⟩ := J.saw v z
        exact ⟨j, h1, dold h2⟩
      · rw [List.mem_singleton.mp z]
        exact ⟨dp + 1, Nat.le_refl _, by rw [ds, if_pos rfl]⟩
  · rw [if_neg h]
    refine ⟨J.toBfI, J.at_, J.dp_, fun v hv => ?_⟩
    rcases List.mem_append.mp hv with z | z
    · exact J.saw v z
    · rw [List.mem_singleton.mp z]
      have hl : o < S.many.length := by rw [J.lm]; exact ho
      have hd : ∃ k, S.d o = some k := by
        unfold Bf.d
        rw [List.getElem?_eq_getElem hl] at h ⊢
        cases hk : S.many[o] with
        | none => rw [hk] at h; exact absurd rfl h
        | some k => exact ⟨k, rfl⟩
      obtain ⟨k, hk⟩ := hd
      exact ⟨k, J.top p o dp k J.at_ ((J.qd o).mpr ⟨k, hk⟩) J.dp_ hk, hk⟩
theorem bf_fold {ts : List (Nat × Nat)} {N s r p dp l0 : Nat} : ∀ {os seen : List Nat} {S : Bf}, BfJ ts N s r p dp l0 seen S → (∀ o ∈ os, o < N ∧ Adj ts p o) → BfJ ts N s r p dp l0 (seen ++ os) (os.foldl (bfIn p) S)
  | [], seen, S, J, _ => by simpa using J
  | o :: os, seen, S, J, h => by
    have h1 := bf_step J (h o List.mem_cons_self).1 (h o List.mem_cons_self).2
    have h2 := bf_fold (os := os) h1 fun o' ho' => h o' (List.mem_cons_of_mem _ ho')
    rw [List.foldl_cons]
    simpa using h2
theorem bf_turn {ts : List (Nat × Nat)} {N s r p : Nat} {os : List Nat} {S : Bf} (I : BfI ts N s r S) (hp : S.queue[r]? = some p) (ho : ∀ o, o ∈ os ↔ Adj ts p o) (hN : ∀ u v, Adj ts u v → v < N) : BfI ts N s (r + 1) (os.foldl (bfIn p) S) := by
  obtain ⟨dp, hdp⟩ := (I.qd p).mp (List.mem_of_getElem? hp)
  have J : BfJ ts N s r p dp 0 [] S := ⟨I, hp, hdp, fun v hv => nomatch hv⟩
  have K := bf_fold (os := os) J fun o h => ⟨hN p o ((ho o).mp h), (ho o).mp h⟩
  refine ⟨K.lm, K.lb, K.qn, K.qd, K.ql, K.h0, K.mono, ?_, K.idx, K.back, ?_, ?_⟩
  · intro u v a b hu hv ha hb
    have h1 := K.mono r (r + 1) p u dp a (by omega) K.at_ hu K.dp_ ha
    have h2 := K.top p v dp b K.at_ hv K.dp_ hb
    omega
  · intro i u v k hi hu hk hav
    by_cases e : i < r
    · exact K.done i u v k e hu hk hav
    · have e2 : i = r := by omega
      subst e2
      rw [K.at_] at hu
      cases hu
      rw [K.dp_] at hk
      cases hk
      exact K.saw v (by simpa using (ho v).mpr hav)
  · have := (List.getElem?_eq_some_iff.mp K.at_).1
    omega
theorem bf_init {ts : List (Nat × Nat)} {N s : Nat} (hs : s < N) : BfI ts N s 0 ⟨(List.replicate N none).set s (some 0), List.replicate N none, [s]⟩ := by
  have hr : ∀ {v : Nat}, ((List.replicate N (none : Option Nat))[v]?).join = none := fun {v} => by
    rw [List.getElem?_replicate]
    split <;> rfl
  have hd : ∀ {v : Nat}, (Bf.mk ((List.replicate N none).set s (some 0)) (List.replicate N none) [s]).d v = if v = s then some 0 else none := fun {v} => by
    show (((List.replicate N (none : Option Nat)).set s (some 0))[v]?).join = _
    by_cases e : v = s
    · subst e
      rw [List.getElem?_set_self (by simpa using hs), if_pos rfl]
      rfl
    · rw [List.getElem?_set_ne (fun z => e z.symm), if_neg e, hr]
  have at0 : ∀ {i v : Nat}, ([s] : List Nat)[i]? = some v → v = s ∧ i = 0 := fun {i v} h => by
    cases i with
    | zero => cases h; exact ⟨rfl, rfl⟩
    | succ i => simp at h
  refine ⟨by simp, by simp, by simp, fun v => ?_, fun v hv => ?_, fun v => ?_, ?_, ?_, ?_, ?_, ?_, by simp⟩
  · rw [hd, List.mem_singleton]
    by_cases e : v = s
    · simp [e]
    · simp [e]
  · rw [List.mem_singleton.mp hv]; exact hs
  · rw [hd]
    by_cases e : v = s
    · simp [e]
    · simp [e]
  · intro i j u v a b _ hi hj ha hb
    obtain ⟨rfl, _⟩ := at0 hi
    obtain ⟨rfl, _⟩ := at0 hj
    rw [ha] at hb; cases hb; exact Nat.le_refl _
  · intro u v a b hu hv ha hb
    obtain ⟨rfl, _⟩ := at0 hu
    rw [List.mem_singleton.mp hv, ha] at hb
    cases hb; omega
  · intro i v a hi ha
    obtain ⟨rfl, rfl⟩ := at0 hi
    rw [hd, if_pos rfl] at ha
    cases ha; exact Nat.le_refl _
  · intro v k hv
    rw [hd] at hv
    split at hv
    · cases hv
    · cases hv
  · intro i u v k hi
    omega
theorem bf_dist {ts : List (Nat × Nat)} {N s : Nat} {S : Bf} (I : BfI ts N s S.queue.length S) : Dist ts N s S.d := by
  refine ⟨I.h0, fun v k h => ?_, fun u v k hu ha => ?_, fun v k h => ?_⟩
  · obtain ⟨u, _, h2, h3⟩ := I.back v k h
    exact ⟨u, h2, h3⟩
  · obtain ⟨i, hi⟩ := List.mem_iff_getElem?.mp ((I.qd u).mpr ⟨k, hu⟩)
    exact I.done i u v k (List.getElem?_eq_some_iff.mp hi).1 hi hu ha
  · have hm := (I.qd v).mpr ⟨k, h⟩
    obtain ⟨i, hi⟩ := List.mem_iff_getElem?.mp hm
    have h1 := I.idx i v k hi h
    have h2 := (List.getElem?_eq_some_iff.mp hi).1
    have h3 := nodup_le I.qn I.ql
    exact ⟨by omega, I.ql v hm⟩
structure Ly where
  steps : List (Option Nat)
  found : List Nat
def lyPut (t : Nat) (edge : List Nat) (S : Ly) (a b : Nat) : Ly :=
  if a ∈ edge ∧ S.steps[b]? = some none then ⟨S.steps.set b (some t), S.found ++ [b]⟩ else S
def lyTie (t : Nat) (edge : List Nat) (S : Ly) (p : Nat × Nat) : Ly := lyPut t edge (lyPut t edge S p.1 p.2) p.2 p.1
def Ly.d (S : Ly) (v : Nat) : Option Nat := (S.steps[v]?).join
def cutd (d : Nat → Option Nat) (t v : Nat) : Option Nat := match d v with
  | some k => if k ≤ t then some k else none
  | none => none
structure LyI (d : Nat → Option Nat) (N t : Nat) (edge : List Nat) (S : Ly) (seen : List (Nat × Nat)) : Prop where
  ls : S.steps.length = N
  st : ∀ v, v < N → S.d v = cutd d t v ∨ (S.d v = some (t + 1) ∧ d v = some (t + 1))
  fd : ∀ v, v ∈ S.found ↔ v < N ∧ S.d v = some (t + 1)
  sw : ∀ a b, (a, b) ∈ seen → b < N → d a = some t → d b = some (t + 1) → S.d b = some (t + 1)
theorem cut_le {d : Nat → Option Nat} {t v k : Nat} (h : cutd d t v = some k) : k ≤ t ∧ d v = some k := by
  unfold cutd at h
  split at h
  · rename_i j e
    split at h
    · cases h; exact ⟨by assumption, e⟩
    · cases h
  · cases h
theorem ly_put {ts : List (Nat × Nat)} {N s t a b : Nat} {d : Nat → Option Nat} {edge : List Nat} {S : Ly} {seen : List (Nat × Nat)} (D : Dist ts N s d) (he : ∀ v, v ∈ edge ↔ d v = some t) (I : LyI d N t edge S seen) (hb : b < N) (hab : Adj ts a b) : LyI d N t edge (lyPut (t + 1) edge S a b) (seen ++ [(a, b)]) := by
  unfold lyPut
  by_cases h : a ∈ edge ∧ S.steps[b]? = some none
  · rw [if_pos h]
    obtain ⟨h1, h2⟩ := h
    have hda := (he a).mp h1
    obtain ⟨j, hj, hdb⟩ := D.fwd a b t hda hab
    have hSb : S.d b = none := by unfold Ly.d; rw [h2]; rfl
    have hj2 : j = t + 1 := by
      rcases I.st b hb with z | z
      · rw [hSb] at z
        unfold cutd at z
        rw [hdb] at z
        simp only at z
        split at z
        · cases z
        · omega
      · rw [hSb] at z; cases z.1
    subst hj2
    have ds : ∀ {v : Nat}, (Ly.mk (S.steps.set b (some (t + 1))) (S.found ++ [b])).d v = if v = b then some (t + 1) else S.d v := fun {v} => by
      show ((S.steps.set b (some (t + 1)))[v]?).join = _
      by_cases e : v = b
      · subst e
        rw [List.getElem?_set_self (by rw [I.ls]; exact hb), if_pos rfl]
        rfl
      · rw [List.getElem?_set_ne (fun z => e z.symm), if_neg e]
        rfl
    refine ⟨by simp [I.ls], fun v hv => ?_, fun v => ?_, fun x y hx hy hdx hdy => ?_⟩
    · rw [ds]
      by_cases e : v = b
      · subst e; rw [if_pos rfl]; exact .inr ⟨rfl, hdb⟩
      · rw [if_neg e]; exact I.st v hv
    · show v ∈ S.found ++ [b] ↔ _
      rw [ds, List.mem_append, List.mem_singleton, I.fd v]
      by_cases e : v = b
      · subst e; simp [hb]
      · simp [e]
    · rw [ds]
      by_cases e : y = b
      · rw [if_pos e]
      · rw [if_neg e]
        rcases List.mem_append.mp hx with z | z
        · exact I.sw x y z hy hdx hdy
        · rw [List.mem_singleton] at z
          cases z
          exact absurd rfl e
  · rw [if_neg h]
    refine ⟨I.ls, I.st, I.fd, fun x y hx hy hdx hdy => ?_⟩
    rcases List.mem_append.mp hx with z | z
    · exact I.sw x y z hy hdx hdy
    · rw [List.mem_singleton] at z
      cases z
      rcases I.st b hb with z | z
      · exfalso
        apply h
        refine ⟨(he a).mpr hdx, ?_⟩
        have hc : cutd d t b = none := by
          unfold cutd
          rw [hdy]
          simp
        rw [hc] at z
        unfold Ly.d at z
        have hl : b < S.steps.length := by rw [I.ls]; exact hb
        rw [List.getElem?_eq_getElem hl] at z ⊢
        have z : S.steps[b] = none := z
        rw [z]
      · exact z.1
theorem ly_fold {ts : List (Nat × Nat)} {N s t : Nat} {d : Nat → Option Nat} {edge : List Nat} (D : Dist ts N s d) (he : ∀ v, v ∈ edge ↔ d v = some t) (hN : ∀ u v, Adj ts u v → v < N) : ∀ {ps : List (Nat × Nat)} {S : Ly} {seen : List (Nat × Nat)}, (∀ p ∈ ps, p ∈ ts) → LyI d N t edge S seen → ∃ seen', LyI d N t edge (ps.foldl (lyTie (t + 1) edge) S) seen' ∧ (∀ q ∈ seen, q ∈ seen') ∧ ∀ p ∈ ps, p ∈ seen' ∧ (p.2, p.1) ∈ seen'
  | [], S, seen, _, I => ⟨seen, I, fun _ h => h, fun _ h => nomatch h⟩
  | (u, v) :: ps, S, seen, hp, I => by
    have hm : (u, v) ∈ ts := hp _ List.mem_cons_self
    have a1 : Adj ts u v := .inl hm
    have h1 := ly_put D he I (hN u v a1) a1
    have h2 := ly_put D he h1 (hN v u a1.symm) a1.symm
    obtain ⟨seen', g1, g2, g3⟩ := ly_fold D he hN (ps := ps) (fun q hq => hp q (List.mem_cons_of_mem _ hq)) h2
    refine ⟨seen', g1, fun q hq => g2 q (by simp [hq]), fun q hq => ?_⟩
    rcases List.mem_cons.mp hq with e | e
    · subst e
      exact ⟨g2 _ (by simp), g2 _ (by simp)⟩
    · exact g3 q e
theorem ly_turn {ts : List (Nat × Nat)} {N s t : Nat} {d : Nat → Option Nat} {edge : List Nat} {st : List (Option Nat)} (D : Dist ts N s d) (hN : ∀ u v, Adj ts u v → v < N) (he : ∀ v, v ∈ edge ↔ d v = some t) (hl : st.length = N) (hs : ∀ v, v < N → (st[v]?).join = cutd d t v) :
    ((ts.foldl (lyTie (t + 1) edge) ⟨st, []⟩).steps.length = N) ∧ (∀ v, v < N → ((ts.foldl (lyTie (t + 1) edge) ⟨st, []⟩).steps[v]?).join = cutd d (t + 1) v) ∧ ∀ v, v ∈ (ts.foldl (lyTie (t + 1) edge) ⟨st, []⟩).found ↔ d v = some (t + 1) := by
  have I0 : LyI d N t edge ⟨st, []⟩ [] := ⟨hl, fun v hv => .inl (hs v hv), fun v => by
    constructor
    · intro h; cases h
    · rintro ⟨h1, h2⟩
      have h2 : (st[v]?).join = some (t + 1) := h2
      rw [hs v h1] at h2
      have := (cut_le h2).1
      omega, fun _ _ h => nomatch h⟩
  obtain ⟨seen, I, _, h3⟩ := ly_fold D he hN (ps := ts) (fun p hp => hp) I0
  have key : ∀ v, v < N → d v = some (t + 1) → (ts.foldl (lyTie (t + 1) edge) ⟨st, []⟩).d v = some (t + 1) := fun v hv h => by
    obtain ⟨u, h1, h2⟩ := D.back v t h
    rcases h2 with h2 | h2
    · exact I.sw u v (h3 _ h2).1 hv h1 h
    · exact I.sw u v (h3 _ h2).2 hv h1 h
  refine ⟨I.ls, fun v hv => ?_, fun v => ?_⟩
  · show (ts.foldl (lyTie (t + 1) edge) ⟨st, []⟩).d v = _
    rcases I.st v hv with z | ⟨z, z2⟩
    · by_cases e : d v = some (t + 1)
      · rw [key v hv e]
        unfold cutd
        rw [e]
        simp
      · rw [z]
        unfold cutd
        cases hd : d v with
        | none => rfl
        | some k =>
          have : k ≠ t + 1 := fun z => e (by rw [hd, z])
          by_cases hk : k ≤ t
          · simp [hk, show k ≤ t + 1 by omega]
          · simp [hk, show ¬ k ≤ t + 1 by omega]
    · rw [z]
      unfold cutd
      rw [z2]
      simp
  · rw [I.fd v]
    constructor
    · rintro ⟨h1, h2⟩
      rcases I.st v h1 with z | z
      · rw [h2] at z
        have := (cut_le z.symm).1
        omega
      · exact z.2
    · intro h
      have hv := (D.lt v _ h).2
      exact ⟨hv, key v hv h⟩
end QR
end
section
set_option autoImplicit false
set_option linter.all false
set_option maxRecDepth 100000
namespace QR
open _root_.Q
def nx (rows : List (List Nat)) (st : List Nat) (s c : Nat) : Nat := (((rows[s]?).getD [])[ixC st c]?).getD 0
def run (rows : List (List Nat)) (st : List Nat) (s : Nat) (w : List Nat) : Nat := w.foldl (nx rows st) s
theorem run_nil {rows : List (List Nat)} {st : List Nat} {s : Nat} : run rows st s [] = s := rfl
theorem run_cons {rows : List (List Nat)} {st : List Nat} {s c : Nat} {w : List Nat} : run rows st s (c :: w) = run rows st (nx rows st s c) w := rfl
theorem run_app {rows : List (List Nat)} {st : List Nat} {s : Nat} {v w : List Nat} : run rows st s (v ++ w) = run rows st (run rows st s v) w := by
  unfold run; rw [List.foldl_append]
structure MOk (st : List Nat) (rows : List (List Nat)) (goods : List Nat) : Prop where
  few : rows.length ≤ 200
  pos : 0 < rows.length
  row : ∀ r ∈ rows, r.length = st.length ∧ ∀ s ∈ r, s < rows.length
  gs : goods.length ≤ 200
theorem MOk.nx_lt {st : List Nat} {rows : List (List Nat)} {goods : List Nat} (M : MOk st rows goods) {s c : Nat} : nx rows st s c < rows.length := by
  unfold nx
  cases h : rows[s]? with
  | none => simpa using M.pos
  | some r =>
    have hr := M.row r (List.mem_of_getElem? h)
    rw [Option.getD_some]
    cases h2 : r[ixC st c]? with
    | none => simpa using M.pos
    | some x => exact hr.2 x (List.mem_of_getElem? h2)
theorem MOk.run_lt {st : List Nat} {rows : List (List Nat)} {goods : List Nat} (M : MOk st rows goods) : ∀ {w : List Nat} {s : Nat}, s < rows.length → run rows st s w < rows.length
  | [], s, h => h
  | c :: w, s, h => by rw [run_cons]; exact M.run_lt M.nx_lt
def addN {α : Type} [DecidableEq α] (hs : List α) (x : α) : List α := if x ∈ hs then hs else hs ++ [x]
theorem addN_mem {α : Type} [DecidableEq α] {hs : List α} {x y : α} : y ∈ addN hs x ↔ y ∈ hs ∨ y = x := by
  unfold addN
  by_cases h : x ∈ hs
  · rw [if_pos h]
    exact ⟨.inl, fun z => z.elim id fun e => e ▸ h⟩
  · rw [if_neg h]; simp
def hd1 (hs : List (List Nat)) (one : List Nat) : List (List Nat) := (List.range (one.length - 1)).foldl (fun hs k => addN hs (one.take (k + 1))) hs
def hdF (tests : List (List Nat)) : List (List Nat) := tests.foldl hd1 [[]]
theorem fold_add {one : List Nat} : ∀ {ks : List Nat} {hs : List (List Nat)} {y : List Nat}, y ∈ ks.foldl (fun hs k => addN hs (one.take (k + 1))) hs ↔ y ∈ hs ∨ ∃ k ∈ ks, y = one.take (k + 1)
  | [], hs, y => by simp
  | k :: ks, hs, y => by
    rw [List.foldl_cons, fold_add, addN_mem]
    constructor
    · rintro ((h | h) | ⟨j, h1, h2⟩)
      · exact .inl h
      · exact .inr ⟨k, List.mem_cons_self, h⟩
      · exact .inr ⟨j, List.mem_cons_of_mem _ h1, h2⟩
    · rintro (h | ⟨j, h1, h2⟩)
      · exact .inl (.inl h)
      · rcases List.mem_cons.mp h1 with e | e
        · subst e; exact .inl (.inr h2)
        · exact .inr ⟨j, e, h2⟩
theorem hd1_mem {hs : List (List Nat)} {one y : List Nat} : y ∈ hd1 hs one ↔ y ∈ hs ∨ ∃ k, 1 ≤ k ∧ k < one.length ∧ y = one.take k := by
  unfold hd1
  rw [fold_add]
  constructor
  · rintro (h | ⟨k, h1, h2⟩)
    · exact .inl h
    · have := List.mem_range.mp h1
      exact .inr ⟨k + 1, by omega, by omega, h2⟩
  · rintro (h | ⟨k, h1, h2, h3⟩)
    · exact .inl h
    · exact .inr ⟨k - 1, List.mem_range.mpr (by omega), by rw [show k - 1 + 1 = k by omega]; exact h3⟩
theorem hdG_mem : ∀ {tests : List (List Nat)} {hs : List (List Nat)} {y : List Nat}, y ∈ tests.foldl hd1 hs ↔ y ∈ hs ∨ ∃ one ∈ tests, ∃ k, 1 ≤ k ∧ k < one.length ∧ y = one.take k
  | [], hs, y => by simp
  | one :: tests, hs, y => by
    rw [List.foldl_cons, hdG_mem, hd1_mem]
    constructor
    · rintro ((h | h) | ⟨o, h1, h2⟩)
      · exact .inl h
      · exact .inr ⟨one, List.mem_cons_self, h⟩
      · exact .inr ⟨o, List.mem_cons_of_mem _ h1, h2⟩
    · rintro (h | ⟨o, h1, h2⟩)
      · exact .inl (.inl h)
      · rcases List.mem_cons.mp h1 with e | e
        · subst e; exact .inl (.inr h2)
        · exact .inr ⟨o, e, h2⟩
theorem hdF_mem {tests : List (List Nat)} {y : List Nat} : y ∈ hdF tests ↔ y = [] ∨ ∃ one ∈ tests, ∃ k, 1 ≤ k ∧ k < one.length ∧ y = one.take k := by
  unfold hdF
  rw [hdG_mem]
  simp
theorem hd1_len {hs : List (List Nat)} {one : List Nat} : (hd1 hs one).length ≤ hs.length + one.length := by
  unfold hd1
  have : ∀ (ks : List Nat) (hs : List (List Nat)), (ks.foldl (fun hs k => addN hs (one.take (k + 1))) hs).length ≤ hs.length + ks.length := by
    intro ks
    induction ks with
    | nil => intro hs; simp
    | cons k ks ih =>
      intro hs
      rw [List.foldl_cons]
      have h1 := ih (addN hs (one.take (k + 1)))
      have h2 : (addN hs (one.take (k + 1))).length ≤ hs.length + 1 := by
        unfold addN
        split <;> simp
      rw [List.length_cons]
      omega
  have h := this (List.range (one.length - 1)) hs
  rw [List.length_range] at h
  omega
theorem hdF_len {tests : List (List Nat)} {n : Nat} (h : ∀ t ∈ tests, t.length ≤ n) : (hdF tests).length ≤ 1 + tests.length * n := by
  unfold hdF
  have : ∀ (ts hs : List (List Nat)), (∀ t ∈ ts, t.length ≤ n) → (ts.foldl hd1 hs).length ≤ hs.length + ts.length * n := by
    intro ts
    induction ts with
    | nil => intro hs _; simp
    | cons t ts ih =>
      intro hs ht
      rw [List.foldl_cons, List.length_cons]
      have h1 := ih (hd1 hs t) fun u hu => ht u (List.mem_cons_of_mem _ hu)
      have h2 := hd1_len (hs := hs) (one := t)
      have h3 := ht t List.mem_cons_self
      rw [Nat.succ_mul]
      omega
  exact this tests [[]] h
def trow (heads tests : List (List Nat)) (st : List Nat) (h : List Nat) : List Nat := st.map fun c => if h ++ [c] ∈ heads then heads.idxOf (h ++ [c]) else if h ++ [c] ∈ tests then heads.length else heads.length + 1
def trows (tests : List (List Nat)) (st : List Nat) : List (List Nat) := (hdF tests).map (trow (hdF tests) tests st) ++ [st.map fun _ => (hdF tests).length + 1, st.map fun _ => (hdF tests).length + 1]
def tgoods (tests : List (List Nat)) : List Nat := ((List.range (hdF tests).length).filter fun k => decide (((hdF tests)[k]?).getD [] ∈ tests)) ++ [(hdF tests).length]
def stOf (tests : List (List Nat)) (w : List Nat) : Nat := if w ∈ hdF tests then (hdF tests).idxOf w else if w ∈ tests then (hdF tests).length else (hdF tests).length + 1
theorem at_idx {st : List Nat} {c : Nat} (h : c ∈ st) : st[ixC st c]? = some c := by
  obtain ⟨i, h1, h2⟩ := find_in (k := 0) h
  rw [ixC, h1]
  simpa using h2
theorem idx_get {hs : List (List Nat)} {w : List Nat} (h : w ∈ hs) : hs[hs.idxOf w]? = some w := by
  have hl := List.idxOf_lt_length_of_mem h
  rw [List.getElem?_eq_getElem hl, List.getElem_idxOf]
theorem tree_step {tests : List (List Nat)} {st u : List Nat} {c : Nat} (hc : c ∈ st) : nx (trows tests st) st (stOf tests u) c = stOf tests (u ++ [c]) := by
  by_cases hu : u ∈ hdF tests
  · have hl := List.idxOf_lt_length_of_mem hu
    have e : (trows tests st)[stOf tests u]? = some (trow (hdF tests) tests st u) := by
      unfold trows stOf
      rw [if_pos hu, List.getElem?_append_left (by simpa using hl), List.getElem?_map, idx_get hu]
      rfl
    unfold nx
    rw [e, Option.getD_some]
    unfold trow
    rw [List.getElem?_map, at_idx hc]
    rfl
  · have hs : stOf tests u = (hdF tests).length ∨ stOf tests u = (hdF tests).length + 1 := by
      unfold stOf
      rw [if_neg hu]
      by_cases h : u ∈ tests
      · exact .inl (if_pos h)
      · exact .inr (if_neg h)
    have e : (trows tests st)[stOf tests u]? = some (st.map fun _ => (hdF tests).length + 1) := by
      unfold trows
      rcases hs with h | h
      · rw [h, List.getElem?_append_right (by simp)]; simp
      · rw [h, List.getElem?_append_right (by simp)]; simp
    unfold nx
    rw [e, Option.getD_some, List.getElem?_map, at_idx hc]
    have ne : u ≠ [] := fun z => hu (hdF_mem.mpr (.inl z))
    have n1 : u ++ [c] ∉ hdF tests := fun z => by
      rcases hdF_mem.mp z with z | ⟨one, h1, k, h2, h3, h4⟩
      · simp at z
      · apply hu
        have hk : k = u.length + 1 := by
          have := congrArg List.length h4
          simp at this
          omega
        have hul : 0 < u.length := by
          cases u with
          | nil => exact absurd rfl ne
          | cons _ _ => simp
        refine hdF_mem.mpr (.inr ⟨one, h1, u.length, by omega, by omega, ?_⟩)
        have := congrArg (List.take u.length) h4
        rw [List.take_left, List.take_take, show min u.length k = u.length by omega] at this
        exact this
    have n2 : u ++ [c] ∉ tests := fun z => by
      apply hu
      have hul : 0 < u.length := by
        cases u with
        | nil => exact absurd rfl ne
        | cons _ _ => simp
      exact hdF_mem.mpr (.inr ⟨_, z, u.length, by omega, by simp, by rw [List.take_left]⟩)
    unfold stOf
    rw [if_neg n1, if_neg n2]
    rfl
theorem tree_run {tests : List (List Nat)} {st : List Nat} : ∀ {w u : List Nat}, (∀ c ∈ w, c ∈ st) → run (trows tests st) st (stOf tests u) w = stOf tests (u ++ w)
  | [], u, _ => by rw [run_nil, List.append_nil]
  | c :: w, u, h => by
    rw [run_cons, tree_step (h c List.mem_cons_self), tree_run fun d hd => h d (List.mem_cons_of_mem _ hd)]
    simp
theorem hd1_pre {one : List Nat} : ∀ {hs : List (List Nat)} {ks : List Nat}, ∃ r, ks.foldl (fun hs k => addN hs (one.take (k + 1))) hs = hs ++ r
  | hs, [] => ⟨[], by simp⟩
  | hs, k :: ks => by
    rw [List.foldl_cons]
    obtain ⟨r, h⟩ := hd1_pre (one := one) (hs := addN hs (one.take (k + 1))) (ks := ks)
    rw [h]
    unfold addN
    split
    · exact ⟨r, rfl⟩
    · exact ⟨_, by rw [List.append_assoc]⟩
theorem hdF_pre {tests : List (List Nat)} : ∃ r, hdF tests = [] :: r := by
  unfold hdF
  have : ∀ (ts hs : List (List Nat)), ∃ r, ts.foldl hd1 hs = hs ++ r := by
    intro ts
    induction ts with
    | nil => intro hs; exact ⟨[], by simp⟩
    | cons t ts ih =>
      intro hs
      rw [List.foldl_cons]
      obtain ⟨r, h⟩ := ih (hd1 hs t)
      obtain ⟨r2, h2⟩ := hd1_pre (one := t) (hs := hs) (ks := List.range (t.length - 1))
      exact ⟨r2 ++ r, by rw [h]; unfold hd1; rw [h2, List.append_assoc]⟩
  obtain ⟨r, h⟩ := this tests [[]]
  exact ⟨r, h⟩
theorem stOf_nil {tests : List (List Nat)} : stOf tests [] = 0 := by
  obtain ⟨r, h⟩ := hdF_pre (tests := tests)
  unfold stOf
  rw [if_pos (hdF_mem.mpr (.inl rfl)), h]
  simp
theorem tree_good {tests : List (List Nat)} {st w : List Nat} (h : ∀ c ∈ w, c ∈ st) : (run (trows tests st) st 0 w ∈ tgoods tests) ↔ w ∈ tests := by
  have e := tree_run (tests := tests) (st := st) (u := []) h
  rw [stOf_nil, List.nil_append] at e
  rw [e]
  unfold tgoods
  rw [List.mem_append, List.mem_filter, List.mem_singleton, List.mem_range]
  unfold stOf
  by_cases h1 : w ∈ hdF tests
  · have hl := List.idxOf_lt_length_of_mem h1
    rw [if_pos h1, idx_get h1]
    constructor
    · rintro (⟨_, z⟩ | z)
      · simpa using z
      · omega
    · intro z
      exact .inl ⟨hl, by simpa using z⟩
  · rw [if_neg h1]
    by_cases h2 : w ∈ tests
    · rw [if_pos h2]
      exact ⟨fun _ => h2, fun _ => .inr rfl⟩
    · rw [if_neg h2]
      constructor
      · rintro (⟨z, _⟩ | z) <;> omega
      · intro z; exact absurd z h2
theorem tree_ok {tests : List (List Nat)} {st : List Nat} {n : Nat} (h : ∀ t ∈ tests, t.length ≤ n) (hn : tests.length * n ≤ 100) : MOk st (trows tests st) (tgoods tests) := by
  have hl := hdF_len h
  have len : (trows tests st).length = (hdF tests).length + 2 := by simp [trows]
  refine ⟨by omega, by omega, fun r hr => ?_, ?_⟩
  · rw [len]
    unfold trows at hr
    rcases List.mem_append.mp hr with z | z
    · obtain ⟨u, _, rfl⟩ := List.mem_map.mp z
      refine ⟨by simp [trow], fun s hs => ?_⟩
      unfold trow at hs
      obtain ⟨c, _, rfl⟩ := List.mem_map.mp hs
      split
      · rename_i g
        have := List.idxOf_lt_length_of_mem g
        omega
      · split <;> omega
    · have : r = st.map fun _ => (hdF tests).length + 1 := by simpa using z
      subst this
      refine ⟨by simp, fun s hs => ?_⟩
      obtain ⟨c, _, rfl⟩ := List.mem_map.mp hs
      omega
  · unfold tgoods
    rw [List.length_append]
    have := List.length_filter_le (fun k => decide (((hdF tests)[k]?).getD [] ∈ tests)) (List.range (hdF tests).length)
    rw [List.length_range] at this
    simp
    omega
def eRows : Nat → List (List Nat)
  | 1 => [[1, 2, 2], [2, 1, 3], [2, 2, 2], [2, 2, 2]]
  | 2 => [[1, 3], [2, 1], [3, 3], [3, 3]]
  | 3 => [[1, 1], [2, 2], [1, 1]]
  | 4 => [[1, 0], [1, 1]]
  | 5 => [[1, 3], [3, 2], [1, 3], [3, 3]]
  | _ => [[1, 0], [0, 1]]
def eGood : Nat → Nat
  | 1 => 3 | 2 => 2 | 3 => 2 | 4 => 1 | 5 => 2 | _ => 1
section
variable {p q r : Nat}
theorem col0 {st : List Nat} : ixC (p :: st) p = 0 := by simp [ixC, idxC]
theorem col1 {st : List Nat} (h : p ≠ q) : ixC (p :: q :: st) q = 1 := by
  simp [ixC, idxC, h]
theorem col2 {st : List Nat} (h : p ≠ r) (h2 : q ≠ r) : ixC (p :: q :: r :: st) r = 2 := by
  simp [ixC, idxC, h, h2]
theorem k1_2 (h1 : p ≠ q) (h2 : p ≠ r) (h3 : q ≠ r) : ∀ {m : List Nat}, (∀ c ∈ m, c ∈ [p, q, r]) → run (eRows 1) [p, q, r] 2 m = 2
  | [], _ => rfl
  | c :: m, h => by
    have hc := h c List.mem_cons_self
    have e : nx (eRows 1) [p, q, r] 2 c = 2 := by
      simp only [List.mem_cons, List.not_mem_nil, or_false] at hc
      rcases hc with rfl | rfl | rfl
      · simp [nx, col0, eRows]
      · simp [nx, col1 h1, eRows]
      · simp [nx, col2 h2 h3, eRows]
    rw [run_cons, e]
    exact k1_2 h1 h2 h3 fun d hd => h d (List.mem_cons_of_mem _ hd)
theorem k1_m (h1 : p ≠ q) (h2 : p ≠ r) (h3 : q ≠ r) : ∀ {m : List Nat}, (∀ c ∈ m, c ∈ [p, q, r]) → (m = List.replicate m.length q → run (eRows 1) [p, q, r] 1 m = 1) ∧ (m ≠ List.replicate m.length q → run (eRows 1) [p, q, r] 1 m = 2 ∨ run (eRows 1) [p, q, r] 1 m = 3)
  | [], _ => ⟨fun _ => rfl, fun h => absurd rfl h⟩
  | c :: m, h => by
    have hc := h c List.mem_cons_self
    have hm : ∀ d ∈ m, d ∈ [p, q, r] := fun d hd => h d (List.mem_cons_of_mem _ hd)
    obtain ⟨i1, i2⟩ := k1_m h1 h2 h3 hm
    rw [List.length_cons, List.replicate_succ, run_cons]
    simp only [List.mem_cons, List.not_mem_nil, or_false] at hc
    rcases hc with rfl | rfl | rfl
    · have e : nx (eRows 1) [c, q, r] 1 c = 2 := by simp [nx, col0, eRows]
      rw [e, k1_2 h1 h2 h3 hm]
      exact ⟨fun z => absurd (List.cons.inj z).1 h1, fun _ => .inl rfl⟩
    · have e : nx (eRows 1) [p, c, r] 1 c = 1 := by simp [nx, col1 h1, eRows]
      rw [e]
      exact ⟨fun z => i1 (List.cons.inj z).2, fun z => i2 fun y => z (by rw [← y])⟩
    · have e : nx (eRows 1) [p, q, c] 1 c = 3 := by simp [nx, col2 h2 h3, eRows]
      rw [e]
      refine ⟨fun z => absurd (List.cons.inj z).1.symm h3, fun _ => ?_⟩
      cases m with
      | nil => exact .inr rfl
      | cons d m =>
        have hd := hm d List.mem_cons_self
        have e2 : nx (eRows 1) [p, q, c] 3 d = 2 := by
          simp only [List.mem_cons, List.not_mem_nil, or_false] at hd
          rcases hd with rfl | rfl | rfl
          · simp [nx, col0, eRows]
          · simp [nx, col1 h1, eRows]
          · simp [nx, col2 h2 h3, eRows]
        rw [run_cons, e2]
        exact .inl (k1_2 h1 h2 h3 fun x hx => hm x (List.mem_cons_of_mem _ hx))
theorem k1_one {c : Nat} (h1 : p ≠ q) (h2 : p ≠ r) (h3 : q ≠ r) (hc : c ∈ [p, q, r]) : run (eRows 1) [p, q, r] 0 [c] ≠ 3 := by
  simp only [List.mem_cons, List.not_mem_nil, or_false] at hc
  rcases hc with rfl | rfl | rfl
  · simp [run, nx, col0, eRows]
  · simp [run, nx, col1 h1, eRows]
  · simp [run, nx, col2 h2 h3, eRows]
theorem k1_all {c e : Nat} {m : List Nat} (h1 : p ≠ q) (h2 : p ≠ r) (h3 : q ≠ r) (hc : c ∈ [p, q, r]) (he : e ∈ [p, q, r]) (hm : ∀ c ∈ m, c ∈ [p, q, r]) : run (eRows 1) [p, q, r] 0 (c :: (m ++ [e])) = 3 ↔ c = p ∧ e = r ∧ m = List.replicate m.length q := by
  have hme : ∀ x ∈ m ++ [e], x ∈ [p, q, r] := fun x hx => by
    rcases List.mem_append.mp hx with z | z
    · exact hm x z
    · rw [List.mem_singleton.mp z]; exact he
  rw [run_cons]
  simp only [List.mem_cons, List.not_mem_nil, or_false] at hc
  have far : nx (eRows 1) [p, q, r] 0 c = 2 → c ≠ p → (run (eRows 1) [p, q, r] (nx (eRows 1) [p, q, r] 0 c) (m ++ [e]) = 3 ↔ c = p ∧ e = r ∧ m = List.replicate m.length q) := fun z n => by
    rw [z, k1_2 h1 h2 h3 hme]
    exact ⟨fun y => absurd y (by decide), fun y => absurd y.1 n⟩
  rcases hc with rfl | rfl | rfl
  · have z : nx (eRows 1) [c, q, r] 0 c = 1 := by simp [nx, col0, eRows]
    rw [z, run_app]
    obtain ⟨i1, i2⟩ := k1_m h1 h2 h3 hm
    by_cases hr : m = List.replicate m.length q
    · rw [i1 hr]
      simp only [List.mem_cons, List.not_mem_nil, or_false] at he
      rcases he with rfl | rfl | rfl
      · have y : run (eRows 1) [e, q, r] 1 [e] = 2 := by simp [run, nx, col0, eRows]
        rw [y]
        exact ⟨fun z => absurd z (by decide), fun z => absurd z.2.1 h2⟩
      · have y : run (eRows 1) [c, e, r] 1 [e] = 1 := by simp [run, nx, col1 h1, eRows]
        rw [y]
        exact ⟨fun z => absurd z (by decide), fun z => absurd z.2.1 h3⟩
      · have y : run (eRows 1) [c, q, e] 1 [e] = 3 := by simp [run, nx, col2 h2 h3, eRows]
        rw [y]
        exact ⟨fun _ => ⟨rfl, rfl, hr⟩, fun _ => rfl⟩
    · have y : ∀ s, s = 2 ∨ s = 3 → run (eRows 1) [c, q, r] s [e] = 2 := by
        intro s hs
        simp only [List.mem_cons, List.not_mem_nil, or_false] at he
        rcases hs with rfl | rfl <;> rcases he with rfl | rfl | rfl
        · simp [run, nx, col0, eRows]
        · simp [run, nx, col1 h1, eRows]
        · simp [run, nx, col2 h2 h3, eRows]
        · simp [run, nx, col0, eRows]
        · simp [run, nx, col1 h1, eRows]
        · simp [run, nx, col2 h2 h3, eRows]
      rw [y _ (i2 hr)]
      exact ⟨fun z => absurd z (by decide), fun z => absurd z.2.2 hr⟩
  · exact far (by simp [nx, col1 h1, eRows]) (fun z => h1 z.symm)
  · exact far (by simp [nx, col2 h2 h3, eRows]) (fun z => h2 z.symm)
theorem k2_3 (h1 : p ≠ q) : ∀ {m : List Nat}, (∀ c ∈ m, c ∈ [p, q]) → run (eRows 2) [p, q] 3 m = 3
  | [], _ => rfl
  | c :: m, h => by
    have hc := h c List.mem_cons_self
    have e : nx (eRows 2) [p, q] 3 c = 3 := by
      simp only [List.mem_cons, List.not_mem_nil, or_false] at hc
      rcases hc with rfl | rfl
      · simp [nx, col0, eRows]
      · simp [nx, col1 h1, eRows]
    rw [run_cons, e]
    exact k2_3 h1 fun d hd => h d (List.mem_cons_of_mem _ hd)
theorem k2_m (h1 : p ≠ q) : ∀ {m : List Nat}, (∀ c ∈ m, c ∈ [p, q]) → (m = List.replicate m.length q → run (eRows 2) [p, q] 1 m = 1) ∧ (m ≠ List.replicate m.length q → run (eRows 2) [p, q] 1 m = 2 ∨ run (eRows 2) [p, q] 1 m = 3)
  | [], _ => ⟨fun _ => rfl, fun h => absurd rfl h⟩
  | c :: m, h => by
    have hc := h c List.mem_cons_self
    have hm : ∀ d ∈ m, d ∈ [p, q] := fun d hd => h d (List.mem_cons_of_mem _ hd)
    obtain ⟨i1, i2⟩ := k2_m h1 hm
    rw [List.length_cons, List.replicate_succ, run_cons]
    simp only [List.mem_cons, List.not_mem_nil, or_false] at hc
    rcases hc with rfl | rfl
    · have e : nx (eRows 2) [c, q] 1 c = 2 := by simp [nx, col0, eRows]
      rw [e]
      refine ⟨fun z => absurd (List.cons.inj z).1 h1, fun _ => ?_⟩
      cases m with
      | nil => exact .inl rfl
      | cons d m =>
        have hd := hm d List.mem_cons_self
        have e2 : nx (eRows 2) [c, q] 2 d = 3 := by
          simp only [List.mem_cons, List.not_mem_nil, or_false] at hd
          rcases hd with rfl | rfl
          · simp [nx, col0, eRows]
          · simp [nx, col1 h1, eRows]
        rw [run_cons, e2]
        exact .inr (k2_3 h1 fun x hx => hm x (List.mem_cons_of_mem _ hx))
    · have e : nx (eRows 2) [p, c] 1 c = 1 := by simp [nx, col1 h1, eRows]
      rw [e]
      exact ⟨fun z => i1 (List.cons.inj z).2, fun z => i2 fun y => z (by rw [← y])⟩
theorem k2_one {c : Nat} (h1 : p ≠ q) (hc : c ∈ [p, q]) : run (eRows 2) [p, q] 0 [c] ≠ 2 := by
  simp only [List.mem_cons, List.not_mem_nil, or_false] at hc
  rcases hc with rfl | rfl
  · simp [run, nx, col0, eRows]
  · simp [run, nx, col1 h1, eRows]
theorem k2_all {c e : Nat} {m : List Nat} (h1 : p ≠ q) (hc : c ∈ [p, q]) (he : e ∈ [p, q]) (hm : ∀ c ∈ m, c ∈ [p, q]) : run (eRows 2) [p, q] 0 (c :: (m ++ [e])) = 2 ↔ c = p ∧ e = p ∧ m = List.replicate m.length q := by
  have hme : ∀ x ∈ m ++ [e], x ∈ [p, q] := fun x hx => by
    rcases List.mem_append.mp hx with z | z
    · exact hm x z
    · rw [List.mem_singleton.mp z]; exact he
  rw [run_cons]
  simp only [List.mem_cons, List.not_mem_nil, or_false] at hc
  rcases hc with rfl | rfl
  · have z : nx (eRows 2) [c, q] 0 c = 1 := by simp [nx, col0, eRows]
    rw [z, run_app]
    obtain ⟨i1, i2⟩ := k2_m h1 hm
    by_cases hr : m = List.replicate m.length q
    · rw [i1 hr]
      simp only [List.mem_cons, List.not_mem_nil, or_false] at he
      rcases he with rfl | rfl
      · have y : run (eRows 2) [e, q] 1 [e] = 2 := by simp [run, nx, col0, eRows]
        rw [y]
        exact ⟨fun _ => ⟨rfl, rfl, hr⟩, fun _ => rfl⟩
      · have y : run (eRows 2) [c, e] 1 [e] = 1 := by simp [run, nx, col1 h1, eRows]
        rw [y]
        exact ⟨fun z => absurd z (by decide), fun z => absurd z.2.1.symm h1⟩
    · have y : ∀ s, s = 2 ∨ s = 3 → run (eRows 2) [c, q] s [e] = 3 := by
        intro s hs
        simp only [List.mem_cons, List.not_mem_nil, or_false] at he
        rcases hs with rfl | rfl <;> rcases he with rfl | rfl
        · simp [run, nx, col0, eRows]
        · simp [run, nx, col1 h1, eRows]
        · simp [run, nx, col0, eRows]
        · simp [run, nx, col1 h1, eRows]
      rw [y _ (i2 hr)]
      exact ⟨fun z => absurd z (by decide), fun z => absurd z.2.2 hr⟩
  · have z : nx (eRows 2) [p, c] 0 c = 3 := by simp [nx, col1 h1, eRows]
    rw [z, k2_3 h1 hme]
    exact ⟨fun y => absurd y (by decide), fun y => absurd y.1.symm h1⟩
theorem k3_m (h1 : p ≠ q) : ∀ {m : List Nat}, (∀ c ∈ m, c ∈ [p, q]) → run (eRows 3) [p, q] 1 m = 1 + m.length % 2 ∧ run (eRows 3) [p, q] 2 m = 2 - m.length % 2
  | [], _ => ⟨rfl, rfl⟩
  | c :: m, h => by
    have hc := h c List.mem_cons_self
    obtain ⟨i1, i2⟩ := k3_m h1 fun d hd => h d (List.mem_cons_of_mem _ hd)
    have e : nx (eRows 3) [p, q] 1 c = 2 ∧ nx (eRows 3) [p, q] 2 c = 1 := by
      simp only [List.mem_cons, List.not_mem_nil, or_false] at hc
      rcases hc with rfl | rfl
      · simp [nx, col0, eRows]
      · simp [nx, col1 h1, eRows]
    rw [run_cons, run_cons, e.1, e.2, i1, i2, List.length_cons]
    omega
theorem k3_all {w : List Nat} (h1 : p ≠ q) (hw : ∀ c ∈ w, c ∈ [p, q]) (hn : w ≠ []) : run (eRows 3) [p, q] 0 w = 2 ↔ w.length % 2 = 0 := by
  cases w with
  | nil => exact absurd rfl hn
  | cons c w =>
    have hc := hw c List.mem_cons_self
    have e : nx (eRows 3) [p, q] 0 c = 1 := by
      simp only [List.mem_cons, List.not_mem_nil, or_false] at hc
      rcases hc with rfl | rfl
      · simp [nx, col0, eRows]
      · simp [nx, col1 h1, eRows]
    rw [run_cons, e, (k3_m h1 fun d hd => hw d (List.mem_cons_of_mem _ hd)).1, List.length_cons]
    omega
theorem k4_1 (h1 : p ≠ q) : ∀ {m : List Nat}, (∀ c ∈ m, c ∈ [p, q]) → run (eRows 4) [p, q] 1 m = 1
  | [], _ => rfl
  | c :: m, h => by
    have hc := h c List.mem_cons_self
    have e : nx (eRows 4) [p, q] 1 c = 1 := by
      simp only [List.mem_cons, List.not_mem_nil, or_false] at hc
      rcases hc with rfl | rfl
      · simp [nx, col0, eRows]
      · simp [nx, col1 h1, eRows]
    rw [run_cons, e]
    exact k4_1 h1 fun d hd => h d (List.mem_cons_of_mem _ hd)
theorem k4_all (h1 : p ≠ q) : ∀ {w : List Nat}, (∀ c ∈ w, c ∈ [p, q]) → (run (eRows 4) [p, q] 0 w = 1 ↔ p ∈ w)
  | [], _ => by simp [run]
  | c :: w, h => by
    have hc := h c List.mem_cons_self
    have hw : ∀ d ∈ w, d ∈ [p, q] := fun d hd => h d (List.mem_cons_of_mem _ hd)
    have ih := k4_all h1 hw
    rw [run_cons]
    simp only [List.mem_cons, List.not_mem_nil, or_false] at hc
    rcases hc with rfl | rfl
    · have e : nx (eRows 4) [c, q] 0 c = 1 := by simp [nx, col0, eRows]
      rw [e, k4_1 h1 hw]
      simp
    · have e : nx (eRows 4) [p, c] 0 c = 0 := by simp [nx, col1 h1, eRows]
      rw [e, ih]
      simp [h1]
theorem k5_3 (h1 : p ≠ q) : ∀ {m : List Nat}, (∀ c ∈ m, c ∈ [p, q]) → run (eRows 5) [p, q] 3 m = 3
  | [], _ => rfl
  | c :: m, h => by
    have hc := h c List.mem_cons_self
    have e : nx (eRows 5) [p, q] 3 c = 3 := by
      simp only [List.mem_cons, List.not_mem_nil, or_false] at hc
      rcases hc with rfl | rfl
      · simp [nx, col0, eRows]
      · simp [nx, col1 h1, eRows]
    rw [run_cons, e]
    exact k5_3 h1 fun d hd => h d (List.mem_cons_of_mem _ hd)
theorem k5_m (h1 : p ≠ q) : ∀ (m : List Nat), (∀ c ∈ m, c ∈ [p, q]) → (run (eRows 5) [p, q] 2 m = 2 ↔ m.length % 2 = 0 ∧ m = rep (m.length / 2) [p, q])
  | [], _ => by simp [run, rep]
  | [c], h => by
    have hc := h c List.mem_cons_self
    simp only [List.mem_cons, List.not_mem_nil, or_false] at hc
    rcases hc with rfl | rfl
    · simp [run, nx, col0, eRows]
    · simp [run, nx, col1 h1, eRows]
  | c :: d :: m, h => by
    have hc := h c List.mem_cons_self
    have hd := h d (List.mem_cons_of_mem _ List.mem_cons_self)
    have hm : ∀ x ∈ m, x ∈ [p, q] := fun x hx => h x (List.mem_cons_of_mem _ (List.mem_cons_of_mem _ hx))
    have ih := k5_m h1 m hm
    have el : (c :: d :: m).length / 2 = m.length / 2 + 1 := by simp only [List.length_cons]; omega
    have el2 : (c :: d :: m).length % 2 = m.length % 2 := by simp only [List.length_cons]; omega
    rw [el, el2, rep, run_cons, run_cons]
    simp only [List.mem_cons, List.not_mem_nil, or_false] at hc hd
    have far : ∀ {s}, s = 3 → (c ≠ p ∨ d ≠ q) → (run (eRows 5) [p, q] s m = 2 ↔ m.length % 2 = 0 ∧ c :: d :: m = [p, q] ++ rep (m.length / 2) [p, q]) := fun {s} z n => by
      rw [z, k5_3 h1 hm]
      refine ⟨fun y => absurd y (by decide), fun y => ?_⟩
      have y2 := List.cons.inj y.2
      have y3 := List.cons.inj y2.2
      rcases n with n | n
      · exact absurd y2.1 n
      · exact absurd y3.1 n
    rcases hc with rfl | rfl <;> rcases hd with rfl | rfl
    · exact far (by simp [nx, col0, eRows]) (.inr h1)
    · have e : nx (eRows 5) [c, d] (nx (eRows 5) [c, d] 2 c) d = 2 := by simp [nx, col0, col1 h1, eRows]
      rw [e, ih]
      simp
    · exact far (by simp [nx, col0, col1 h1, eRows]) (.inl fun z => h1 z.symm)
    · exact far (by simp [nx, col1 h1, eRows]) (.inl fun z => h1 z.symm)
theorem k5_all {w : List Nat} (h1 : p ≠ q) (hw : ∀ c ∈ w, c ∈ [p, q]) (hn : w ≠ []) : run (eRows 5) [p, q] 0 w = 2 ↔ w.length % 2 = 0 ∧ w = rep (w.length / 2) [p, q] := by
  rw [← k5_m h1 w hw]
  cases w with
  | nil => exact absurd rfl hn
  | cons c w =>
    have : nx (eRows 5) [p, q] 0 c = nx (eRows 5) [p, q] 2 c := by
      simp [nx, eRows]
    rw [run_cons, run_cons, this]
theorem k6_m (h1 : p ≠ q) : ∀ {m : List Nat}, (∀ c ∈ m, c ∈ [p, q]) → run (eRows 6) [p, q] 0 m = (m.countP fun a => a == p) % 2 ∧ run (eRows 6) [p, q] 1 m = 1 - (m.countP fun a => a == p) % 2
  | [], _ => ⟨rfl, rfl⟩
  | c :: m, h => by
    have hc := h c List.mem_cons_self
    obtain ⟨i1, i2⟩ := k6_m h1 fun d hd => h d (List.mem_cons_of_mem _ hd)
    rw [run_cons, run_cons, List.countP_cons]
    simp only [List.mem_cons, List.not_mem_nil, or_false] at hc
    rcases hc with rfl | rfl
    · have e : nx (eRows 6) [c, q] 0 c = 1 ∧ nx (eRows 6) [c, q] 1 c = 0 := by simp [nx, col0, eRows]
      rw [e.1, e.2, i1, i2]
      simp
      omega
    · have e : nx (eRows 6) [p, c] 0 c = 0 ∧ nx (eRows 6) [p, c] 1 c = 1 := by simp [nx, col1 h1, eRows]
      have n : ¬ c = p := fun z => h1 z.symm
      rw [e.1, e.2, i1, i2]
      simp [n]
end
end QR
end
section
set_option autoImplicit false
set_option linter.all false
set_option maxRecDepth 100000
namespace QR
open _root_.Q
mutual
def niceB : D → Bool
  | .non => true | .bl _ => true | .int _ => true | .str s => decide (s.length ≤ 1000)
  | .tup ds => decide (ds.length ≤ 1000) && nicesB ds
  | .lst o ds => (!o && decide (ds.length ≤ 1000)) && nicesB ds
  | _ => false
def nicesB : List D → Bool
  | [] => true
  | d :: ds => niceB d && nicesB ds
end
theorem nicesB_iff : ∀ {ds : List D}, nicesB ds = true ↔ ∀ d ∈ ds, niceB d = true
  | [] => by simp [nicesB]
  | d :: ds => by rw [nicesB, Bool.and_eq_true, nicesB_iff]; simp
theorem own_nice {d : D} (h : niceB d = true) : own d = false := by
  cases d with
  | lst o ds => rw [niceB, Bool.and_eq_true, Bool.and_eq_true] at h; rw [own_lst]; simpa using h.1.1
  | _ => first | rfl | (simp [niceB] at h)
theorem nice_mem {ds : List D} (h : niceB (.tup ds) = true) {d : D} (hd : d ∈ ds) : niceB d = true := by
  rw [niceB, Bool.and_eq_true] at h
  exact nicesB_iff.mp h.2 d hd
theorem nice_len {ds : List D} (h : niceB (.tup ds) = true) : ds.length ≤ 1000 := by
  rw [niceB, Bool.and_eq_true] at h
  simpa using h.1
theorem nice_lenS {s : List Nat} (h : niceB (.str s) = true) : s.length ≤ 1000 := by
  simpa [niceB] using h
mutual
theorem fz_nice : ∀ (d : D), niceB d = true → fz d = d
  | .non, _ => rfl
  | .bl _, _ => rfl
  | .int _, _ => rfl
  | .str _, _ => rfl
  | .tup _, _ => rfl
  | .lst o ds, h => by
    rw [niceB, Bool.and_eq_true, Bool.and_eq_true] at h
    have ho : o = false := by simpa using h.1.1
    rw [fz_lst, fzs_nice ds h.2, ho]
  | .scr _, h => by simp [niceB] at h
  | .dct _ _ _, h => by simp [niceB] at h
  | .st _ _, h => by simp [niceB] at h
  | .ins _ _ _, h => by simp [niceB] at h
termination_by d => sizeOf d
theorem fzs_nice : ∀ (ds : List D), nicesB ds = true → fzs ds = ds
  | [], _ => rfl
  | d :: ds, h => by
    rw [nicesB, Bool.and_eq_true] at h
    rw [fzs_cons, fz_nice d h.1, fzs_nice ds h.2]
termination_by ds => sizeOf ds
end
def intB : D → Bool | .int _ => true | _ => false
def numB : D → Bool | .int i => decide (0 ≤ i) | _ => false
def ltB (n : Nat) : D → Bool | .int i => decide (0 ≤ i ∧ i < n) | _ => false
def jobB (st : List Nat) : D → Bool | .str s => s.all fun c => st.contains c | _ => false
end QR
end
section
set_option autoImplicit false
set_option linter.all false
set_option maxRecDepth 100000
namespace QR
open _root_.Q
def rwD (r : List Nat) : D := .tup (r.map nD)
def mD (st : List Nat) (rows : List (List Nat)) (goods : List Nat) : D := .tup [.str st, .tup (rows.map rwD), rwD goods]
@[simp] theorem own_rwD {r : List Nat} : own (rwD r) = false := rfl
@[simp] theorem own_mD {st : List Nat} {rows : List (List Nat)} {goods : List Nat} : own (mD st rows goods) = false := rfl
@[simp] theorem fz_rwD {r : List Nat} : fz (rwD r) = rwD r := rfl
@[simp] theorem fz_mD {st : List Nat} {rows : List (List Nat)} {goods : List Nat} : fz (mD st rows goods) = mD st rows goods := rfl
def tieR (T : List Nat → Bool) (job : List Nat) (i k : Nat) : List (Nat × Nat) := ((List.range k).filter fun j => T (sliceL job i (i + j + 1))).map fun j => (i, i + j + 1)
def tiesN (T : List Nat → Bool) (job : List Nat) (n : Nat) : List (Nat × Nat) := (List.range n).flatMap fun i => tieR T job i (job.length - i)
def tiesOf (T : List Nat → Bool) (job : List Nat) : List (Nat × Nat) := tiesN T job job.length
section
variable {T T' : List Nat → Bool} {job : List Nat} {i j k n : Nat}
theorem slice_len (h : j ≤ job.length) : (sliceL job i j).length = j - i := by
  simp [sliceL]; omega
theorem slice_succ {c : Nat} (h : job[i + k]? = some c) : sliceL job i (i + k + 1) = sliceL job i (i + k) ++ [c] := by
  unfold sliceL
  have hl := (List.getElem?_eq_some_iff.mp h).1
  rw [List.take_add_one, h, List.drop_append]
  simp
  have : i - (i + k) = 0 := by omega
  rw [Nat.min_eq_left (by omega)]
  rw [this]
  rfl
theorem slice_zero : sliceL job i i = [] := by
  unfold sliceL
  rw [List.drop_eq_nil_of_le]
  simp; omega
theorem slice_mem {c : Nat} (h : c ∈ sliceL job i j) : c ∈ job := List.mem_of_mem_take (List.mem_of_mem_drop h)
theorem tieR_succ : tieR T job i (k + 1) = tieR T job i k ++ if T (sliceL job i (i + k + 1)) then [(i, i + k + 1)] else [] := by
  unfold tieR
  rw [List.range_succ, List.filter_append, List.map_append]
  congr 1
  by_cases h : T (sliceL job i (i + k + 1)) = true
  · simp [h]
  · simp [h]
theorem tieR_zero : tieR T job i 0 = [] := rfl
theorem tieR_len : (tieR T job i k).length ≤ k := by
  unfold tieR
  rw [List.length_map]
  exact Nat.le_trans (List.length_filter_le _ _) (by simp)
theorem tiesN_succ : tiesN T job (n + 1) = tiesN T job n ++ tieR T job n (job.length - n) := by
  unfold tiesN
  rw [List.range_succ, List.flatMap_append]
  simp
theorem tiesN_len : (tiesN T job n).length ≤ n * job.length := by
  induction n with
  | zero => simp [tiesN]
  | succ n ih =>
    rw [tiesN_succ, List.length_append]
    have := tieR_len (T := T) (job := job) (i := n) (k := job.length - n)
    rw [Nat.succ_mul]
    omega
theorem tiesOf_mem {a b : Nat} : (a, b) ∈ tiesOf T job ↔ a < b ∧ b ≤ job.length ∧ T (sliceL job a b) = true := by
  unfold tiesOf tiesN tieR
  simp only [List.mem_flatMap, List.mem_map, List.mem_filter, List.mem_range, Prod.mk.injEq]
  constructor
  · rintro ⟨i, hi, k, ⟨hk, hT⟩, rfl, rfl⟩
    exact ⟨by omega, by omega, hT⟩
  · rintro ⟨h1, h2, h3⟩
    refine ⟨a, by omega, b - a - 1, ⟨by omega, ?_⟩, rfl, by omega⟩
    rw [show a + (b - a - 1) + 1 = b by omega]
    exact h3
theorem tiesOf_congr (h : ∀ i j, i < j → j ≤ job.length → T (sliceL job i j) = T' (sliceL job i j)) : tiesOf T job = tiesOf T' job := by
  have h1 : ∀ i k, i + k ≤ job.length → tieR T job i k = tieR T' job i k := by
    intro i k
    induction k with
    | zero => intro _; rfl
    | succ k ih =>
      intro hk
      rw [tieR_succ, tieR_succ, ih (by omega), h i (i + k + 1) (by omega) (by omega)]
  unfold tiesOf
  have h2 : ∀ n, n ≤ job.length → tiesN T job n = tiesN T' job n := by
    intro n
    induction n with
    | zero => intro _; rfl
    | succ n ih =>
      intro hn
      rw [tiesN_succ, tiesN_succ, ih (by omega), h1 n _ (by omega)]
  exact h2 _ (Nat.le_refl _)
theorem adj_lt {a b : Nat} (h : Adj (tiesOf T job) a b) : a < job.length + 1 ∧ b < job.length + 1 := by
  rcases h with h | h
  · have := tiesOf_mem.mp h; omega
  · have := tiesOf_mem.mp h; omega
end
def colD (st job : List Nat) : List D := (job.map (ixC st)).map nD
theorem colD_at {st job : List Nat} {b : Bool} {en : Q.Env} {k c : Nat} {o : Bool} (h : job[k]? = some c) : ixR b (.lst o (colD st job)) (.int (k : Int)) en = .ok (nD (ixC st c)) en :=
  ixO (f := nD) (xs := job.map (ixC st)) (by rw [List.getElem?_map, h]; rfl) rfl
@[simp] theorem fzs_col {st job : List Nat} : fzs (colD st job) = colD st job := fzs_n
theorem colD_eq {st job : List Nat} : colD st job = job.map fun c => D.int (ixC st c : Nat) := by
  unfold colD; rw [List.map_map]; rfl
def addL (ls : List (List Nat)) (a b : Nat) : List (List Nat) := ls.set a ((ls[a]?).getD [] ++ [b])
def link1 (ls : List (List Nat)) (p : Nat × Nat) : List (List Nat) := addL (addL ls p.1 p.2) p.2 p.1
def linksF (n : Nat) (ts : List (Nat × Nat)) : List (List Nat) := ts.foldl link1 (List.replicate n [])
section
variable {ls : List (List Nat)} {a b c n : Nat} {ts : List (Nat × Nat)}
@[simp] theorem addL_len : (addL ls a b).length = ls.length := by simp [addL]
theorem addL_get (h : a < ls.length) : ((addL ls a b)[c]?).getD [] = (ls[c]?).getD [] ++ if c = a then [b] else [] := by
  unfold addL
  by_cases e : c = a
  · subst e
    rw [List.getElem?_set_self h, if_pos rfl]
    rfl
  · rw [List.getElem?_set_ne (fun z => e z.symm), if_neg e, List.append_nil]
theorem linkF_len : (ts.foldl link1 ls).length = ls.length := by
  induction ts generalizing ls with
  | nil => rfl
  | cons p ts ih => rw [List.foldl_cons, ih]; simp [link1]
theorem linkF_mem : ∀ {ts : List (Nat × Nat)} {ls : List (List Nat)}, (∀ p ∈ ts, p.1 < ls.length ∧ p.2 < ls.length) → (b ∈ ((ts.foldl link1 ls)[a]?).getD [] ↔ b ∈ (ls[a]?).getD [] ∨ Adj ts a b)
  | [], ls, _ => by simp [Adj]
  | (u, v) :: ts, ls, h => by
    obtain ⟨h1, h2⟩ := h (u, v) List.mem_cons_self
    rw [List.foldl_cons, linkF_mem (ts := ts) (fun p hp => by
      have := h p (List.mem_cons_of_mem _ hp)
      simpa [link1] using this)]
    unfold link1
    rw [addL_get (by simpa using h2), addL_get h1]
    unfold Adj
    simp only [List.mem_append, List.mem_cons, Prod.mk.injEq]
    by_cases e1 : a = u <;> by_cases e2 : a = v <;> simp [e1, e2] <;> grind
theorem linksF_mem (h : ∀ p ∈ ts, p.1 < n ∧ p.2 < n) : b ∈ ((linksF n ts)[a]?).getD [] ↔ Adj ts a b := by
  unfold linksF
  rw [linkF_mem (by simpa using h)]
  have : ((List.replicate n ([] : List Nat))[a]?).getD [] = [] := by
    rw [List.getElem?_replicate]
    split <;> rfl
  rw [this]
  simp
theorem linkF_row : ∀ {ts : List (Nat × Nat)} {ls : List (List Nat)} {m : Nat}, (∀ r ∈ ls, r.length ≤ m) → ∀ r ∈ ts.foldl link1 ls, r.length ≤ m + 2 * ts.length
  | [], ls, m, h => by simpa using h
  | p :: ts, ls, m, h => by
    have add : ∀ {ls : List (List Nat)} {a b m : Nat}, (∀ r ∈ ls, r.length ≤ m) → ∀ r ∈ addL ls a b, r.length ≤ m + 1 := by
      intro ls a b m h r hr
      unfold addL at hr
      rcases List.mem_or_eq_of_mem_set hr with z | z
      · have := h r z; omega
      · subst z
        rw [List.length_append]
        cases e : ls[a]? with
        | none => simp
        | some x =>
          have := h x (List.mem_of_getElem? e)
          simp; omega
    rw [List.foldl_cons]
    have h1 := linkF_row (ts := ts) (ls := link1 ls p) (m := m + 1 + 1) (add (add h))
    intro r hr
    have := h1 r hr
    rw [List.length_cons]
    omega
end
end QR
namespace QR
theorem Dist.le {ts : List (Nat × Nat)} {N s : Nat} {d d' : Nat → Option Nat} (D : Dist ts N s d) (D' : Dist ts N s d') : ∀ (k v : Nat), d v = some k → ∃ j, j ≤ k ∧ d' v = some j
  | 0, v, h => ⟨0, Nat.le_refl _, (D'.zero v).mpr ((D.zero v).mp h)⟩
  | k + 1, v, h => by
    obtain ⟨u, h1, h2⟩ := D.back v k h
    obtain ⟨j, h3, h4⟩ := Dist.le D D' k u h1
    obtain ⟨i, h5, h6⟩ := D'.fwd u v j h4 h2
    exact ⟨i, by omega, h6⟩
theorem Dist.uniq {ts : List (Nat × Nat)} {N s : Nat} {d d' : Nat → Option Nat} (D : Dist ts N s d) (D' : Dist ts N s d') : d = d' := by
  funext v
  cases h : d v with
  | none =>
    cases h' : d' v with
    | none => rfl
    | some k =>
      obtain ⟨j, _, z⟩ := D'.le D k v h'
      rw [h] at z; cases z
  | some k =>
    obtain ⟨j, hj, z⟩ := D.le D' k v h
    obtain ⟨i, hi, y⟩ := D'.le D j v z
    rw [h] at y
    cases y
    rw [z, show j = k by omega]
structure Walk (ts : List (Nat × Nat)) (a b : Nat) (ws : List Nat) : Prop where
  hd : ws.head? = some a
  ls : ws.getLast? = some b
  st : ∀ (k u v : Nat), ws[k]? = some u → ws[k + 1]? = some v → Adj ts u v
theorem many_eq {N : Nat} {S : Bf} (h : S.many.length = N) : S.many = (List.range N).map S.d := by
  apply List.ext_getElem?
  intro i
  rw [List.getElem?_map]
  by_cases hi : i < N
  · rw [List.getElem?_range hi]
    show _ = some ((S.many[i]?).join)
    rw [List.getElem?_eq_getElem (by omega)]
    rfl
  · rw [List.getElem?_eq_none (by omega), List.getElem?_eq_none (by simp; omega)]
    rfl
structure Back (ts : List (Nat × Nat)) (b : Nat) (ws : List Nat) : Prop where
  hd : ws.head? = some b
  st : ∀ (k u v : Nat), ws[k]? = some u → ws[k + 1]? = some v → Adj ts u v
theorem Back.walk {ts : List (Nat × Nat)} {a b : Nat} {ws : List Nat} (B : Back ts b ws) (h : ws.getLast? = some a) : Walk ts a b ws.reverse := by
  refine ⟨by rw [List.head?_reverse]; exact h, by rw [List.getLast?_reverse]; exact B.hd, fun k u v hu hv => ?_⟩
  have hl := (List.getElem?_eq_some_iff.mp hv).1
  rw [List.length_reverse] at hl
  rw [List.getElem?_reverse (by omega)] at hu hv
  exact (B.st (ws.length - 1 - (k + 1)) v u hv (by rw [show ws.length - 1 - (k + 1) + 1 = ws.length - 1 - k by omega]; exact hu)).symm
theorem Back.push {ts : List (Nat × Nat)} {b v u : Nat} {ws : List Nat} (B : Back ts b ws) (h : ws.getLast? = some v) (ha : Adj ts u v) : Back ts b (ws ++ [u]) := by
  have ne : ws ≠ [] := fun z => by rw [z] at h; cases h
  refine ⟨by rw [List.head?_append, B.hd]; rfl, fun k x y hx hy => ?_⟩
  by_cases hk : k + 1 < ws.length
  · rw [List.getElem?_append_left (by omega)] at hx
    rw [List.getElem?_append_left hk] at hy
    exact B.st k x y hx hy
  · have hl := (List.getElem?_eq_some_iff.mp hy).1
    rw [List.length_append] at hl
    simp at hl
    have hlen : 0 < ws.length := by
      cases ws with
      | nil => exact absurd rfl ne
      | cons _ _ => simp
    have e : k + 1 = ws.length := by omega
    rw [e, List.getElem?_append_right (by omega)] at hy
    simp at hy
    subst hy
    rw [List.getElem?_append_left (by omega)] at hx
    rw [List.getLast?_eq_getElem?, show ws.length - 1 = k by omega, hx] at h
    cases h
    exact ha.symm
end QR
namespace QR
inductive Chain (ts : List (Nat × Nat)) : Nat → Nat → Nat → Prop
  | nil (a : Nat) : Chain ts a a 0
  | snoc {a u v k : Nat} : Chain ts a u k → Adj ts u v → Chain ts a v (k + 1)
theorem Chain.cons {ts : List (Nat × Nat)} {a b c k : Nat} (h : Adj ts a b) (C : Chain ts b c k) : Chain ts a c (k + 1) := by
  induction C with
  | nil => exact .snoc (.nil _) h
  | snoc C h2 ih => exact .snoc ih h2
theorem Chain.symm {ts : List (Nat × Nat)} {a b k : Nat} (C : Chain ts a b k) : Chain ts b a k := by
  induction C with
  | nil => exact .nil _
  | snoc C h ih => exact .cons h.symm ih
theorem Dist.chain {ts : List (Nat × Nat)} {N s : Nat} {f : Nat → Option Nat} (D : Dist ts N s f) : ∀ (k v : Nat), f v = some k → Chain ts s v k
  | 0, v, h => by rw [(D.zero v).mp h]; exact .nil s
  | k + 1, v, h => by
    obtain ⟨u, h1, h2⟩ := D.back v k h
    exact .snoc (Dist.chain D k u h1) h2
theorem Dist.short {ts : List (Nat × Nat)} {N s v k : Nat} {f : Nat → Option Nat} (D : Dist ts N s f) (C : Chain ts s v k) : ∃ j, j ≤ k ∧ f v = some j := by
  induction C with
  | nil => exact ⟨0, Nat.le_refl _, (D.zero _).mpr rfl⟩
  | snoc C h ih =>
    obtain ⟨j, h1, h2⟩ := ih
    obtain ⟨i, h3, h4⟩ := D.fwd _ _ j h2 h
    exact ⟨i, by omega, h4⟩
theorem dist_sym {ts : List (Nat × Nat)} {N i j : Nat} {f g : Nat → Option Nat} (Df : Dist ts N i f) (Dg : Dist ts N j g) : g i = f j := by
  cases h : f j with
  | none =>
    cases h' : g i with
    | none => rfl
    | some k =>
      obtain ⟨l, _, z⟩ := Df.short (Dg.chain k i h').symm
      rw [h] at z; cases z
  | some k =>
    obtain ⟨l, hl, z⟩ := Dg.short (Df.chain k j h).symm
    obtain ⟨m, hm, y⟩ := Df.short (Dg.chain l i z).symm
    rw [h] at y
    cases y
    rw [z, show l = k by omega]
end QR
end
section
set_option maxRecDepth 100000
set_option autoImplicit false
namespace Pk07
open Q
def f_is_integer : Fn :=
  { np := 1, ns := 1, fx := [true], body := [.ret (.and (.isi (.v 0) [.int]) (.not (.isi (.v 0) [.bool])))] }
def f_is_number : Fn :=
  { np := 1, ns := 1, fx := [true], body := [.ret (.and (.call 0 [.va 0]) (.cmp .ge (.v 0) (.c (.int 0))))] }
def f_is_job : Fn :=
  { np := 2, ns := 3, fx := [true, true], body := [.ret (.and (.isi (.v 1) [.str]) (.blt .all [.comp .list (.c .non) (.cmp .isin (.v 2) (.v 0)) [.mk (.nm 2) (.val (.v 1)) []] [2]]))] }
def f_demand : Fn :=
  { np := 2, ns := 2, fx := [true, true], body := [.ifs (.not (.v 1))
   [.raise 4 [.v 0, .neg (.c (.int 1))]]
   []] }
def f_is_place : Fn :=
  { np := 2, ns := 2, fx := [true, true], body := [.ret (.and (.call 1 [.va 1]) (.cmp .le (.v 1) (.blt .len [.v 0])))] }
def f_demand_web : Fn :=
  { np := 3, ns := 5, fx := [true, true, true], body := [.expr (.call 3 [.c (.str [106, 111, 98]), .call 2 [.ixv 0 (.c (.int 0)), .va 1]]),
    .for (.tp [.nm 3, .nm 4]) (.val (.v 2))
   [.expr (.call 3 [.va 3, .call 4 [.va 1, .va 4]])]] }
def f_tie_list : Fn :=
  { np := 2, ns := 11, fx := [true, true], body := [.asg (.tp [.nm 2, .nm 3, .nm 4]) (.v 0),
    .asg (.nm 5) (.fz (.comp .list (.c .non) (.mth .find (.v 2) [.v 10]) [.mk (.nm 10) (.val (.v 1)) []] [10])),
    .asg (.nm 6) (.lst []),
    .for (.nm 7) (.rng [.blt .len [.v 1]])
   [.asg (.nm 8) (.c (.int 0)),
    .for (.nm 9) (.rng [.v 7, .blt .len [.v 1]])
   [.asg (.nm 8) (.fz (.ix (.ixv 3 (.v 8)) (.ixv 5 (.v 9)))),
    .ifs (.cmp .isin (.v 8) (.v 4))
   [.app 6 [] (.tup [.v 7, .bin .add (.v 9) (.c (.int 1))])]
   []]],
    .ret (.mv 6)] }
def f_links_of : Fn :=
  { np := 2, ns := 6, fx := [true, true], body := [.asg (.nm 2) (.comp .list (.c .non) (.lst []) [.mk (.nm 5) (.rng [.v 0]) []] [5]),
    .for (.tp [.nm 3, .nm 4]) (.val (.v 1))
   [.app 2 [.v 3] (.v 4),
    .app 2 [.v 4] (.v 3)],
    .ret (.mv 2)] }
def f_flood_from : Fn :=
  { np := 3, ns := 10, fx := [true, true, true], body := [.asg (.nm 3) (.fz (.call 7 [.bin .add (.blt .len [.v 1]) (.c (.int 1)), .call 6 [.va 0, .va 1]])),
    .asg (.nm 4) (.bin .mul (.lst [.c (.non)]) (.bin .add (.blt .len [.v 1]) (.c (.int 1)))),
    .asg (.nm 5) (.bin .mul (.lst [.c (.non)]) (.bin .add (.blt .len [.v 1]) (.c (.int 1)))),
    .sset 4 [] (.v 2) (.c (.int 0)),
    .asg (.nm 6) (.lst [.v 2]),
    .asg (.nm 7) (.c (.int 0)),
    .while (.cmp .lt (.v 7) (.blt .len [.v 6]))
   [.asg (.nm 8) (.fz (.ixv 6 (.v 7))),
    .aug 7 .add (.c (.int 1)),
    .for (.nm 9) (.val (.ixv 3 (.v 8)))
   [.ifs (.cmp .is (.ixv 4 (.v 9)) (.c (.non)))
   [.sset 4 [] (.v 9) (.bin .add (.ixv 4 (.v 8)) (.c (.int 1))),
    .sset 5 [] (.v 9) (.v 8),
    .app 6 [] (.v 9)]
   []]],
    .ret (.tup [.v 4, .v 5])] }
def f_walk_of : Fn :=
  { np := 4, ns := 7, fx := [true, true, true, true], body := [.expr (.call 5 [.va 0, .va 1, .tup [.tup [.c (.str [104, 101, 114, 101]), .v 2], .tup [.c (.str [116, 104, 101, 114, 101]), .v 3]]]),
    .asg (.tp [.nm 4, .nm 5]) (.call 8 [.va 0, .va 1, .va 2]),
    .ifs (.cmp .is (.ixv 4 (.v 3)) (.c (.non)))
   [.ret (.c (.non))]
   [],
    .asg (.nm 6) (.lst [.v 3]),
    .while (.cmp .ne (.ixv 6 (.neg (.c (.int 1)))) (.v 2))
   [.app 6 [] (.ixv 5 (.ixv 6 (.neg (.c (.int 1)))))],
    .ret (.blt .tuple [.rev (.v 6)])] }
def f_ties_between : Fn :=
  { np := 3, ns := 5, fx := [true, true, true], body := [.expr (.call 5 [.va 0, .va 1, .tup [.tup [.c (.str [104, 101, 114, 101]), .v 2]]]),
    .asg (.tp [.nm 3, .nm 4]) (.call 8 [.va 0, .va 1, .va 2]),
    .ret (.blt .tuple [.v 3])] }
def f__law_pool : Fn :=
  { np := 1, ns := 4, fx := [true], body := [.ifs (.cmp .eq (.blt .len [.v 0]) (.c (.int 0)))
   [.ret (.lst [.c (.int 0), .neg (.c (.int 1))])]
   [],
    .asg (.nm 1) (.c (.int 7103)),
    .asg (.nm 2) (.c (.int 0)),
    .for (.nm 3) (.val (.v 0))
   [.asg (.nm 1) (.fz (.bin .mod (.blt .int [.bin .add (.bin .add (.bin .mul (.v 1) (.c (.int 6151))) (.bin .mod (.blt .int [.v 3]) (.c (.int 2147483587)))) (.c (.int 1277))]) (.c (.int 2147483587)))),
    .ifs (.and (.cmp .eq (.v 2) (.c (.int 0))) (.cmp .ge (.v 3) (.bin .pow (.c (.int 10)) (.c (.int 18)))))
   [.asg (.nm 2) (.v 3)]
   []],
    .ret (.lst [.v 2, .v 1])] }
def f__law_next : Fn :=
  { np := 2, ns := 3, fx := [true, true], body := [.ifs (.cmp .lt (.ixv 0 (.c (.int 1))) (.c (.int 0)))
   [.ret (.c (.int 0))]
   [],
    .ifs (.cmp .ge (.ixv 0 (.c (.int 0))) (.v 1))
   [.asg (.nm 2) (.fz (.bin .mod (.blt .int [.ixv 0 (.c (.int 0))]) (.v 1))),
    .sset 0 [] (.c (.int 0)) (.bin .fdiv (.ixv 0 (.c (.int 0))) (.v 1)),
    .ret (.mv 2)]
   [],
    .sset 0 [] (.c (.int 1)) (.bin .mod (.blt .int [.bin .add (.bin .mul (.ixv 0 (.c (.int 1))) (.c (.int 50021))) (.c (.int 17011))]) (.c (.int 2147483587))),
    .ret (.bin .mod (.blt .int [.bin .fdiv (.ixv 0 (.c (.int 1))) (.c (.int 89))]) (.v 1))] }
def f__law_letters : Fn :=
  { np := 2, ns := 5, fx := [true, true], body := [.asg (.nm 2) (.fz (.call 12 [.va 0, .c (.int 17)])),
    .asg (.nm 3) (.c (.str [])),
    .for (.nm 4) (.rng [.v 1])
   [.asg (.nm 3) (.fz (.bin .add (.v 3) (.ix (.c (.str [97, 98, 99, 100, 101, 102, 103, 104, 105, 106, 107, 108, 109, 110, 111, 112, 113, 114, 115, 116, 117, 118, 119, 120, 121, 122])) (.v 2)))),
    .asg (.nm 2) (.fz (.bin .add (.bin .add (.v 2) (.c (.int 1))) (.call 12 [.va 0, .c (.int 3)])))],
    .ret (.mv 3)] }
def f__law_reader : Fn :=
  { np := 2, ns := 12, fx := [true, true], body := [.asg (.nm 2) (.lst [.c (.str [])]),
    .for (.nm 3) (.val (.v 1))
   [.for (.nm 9) (.rng [.c (.int 1), .blt .len [.v 3]])
   [.ifs (.cmp .notin (.sl (.v 3) (.c .non) (.v 9)) (.v 2))
   [.app 2 [] (.sl (.v 3) (.c .non) (.v 9))]
   []]],
    .asg (.nm 4) (.fz (.blt .len [.v 2])),
    .asg (.nm 5) (.lst []),
    .for (.nm 6) (.val (.v 2))
   [.asg (.nm 10) (.lst []),
    .for (.nm 11) (.val (.v 0))
   [.ifs (.cmp .isin (.bin .add (.v 6) (.v 11)) (.v 2))
   [.app 10 [] (.mth .index (.v 2) [.bin .add (.v 6) (.v 11)])]
   [.ifs (.cmp .isin (.bin .add (.v 6) (.v 11)) (.v 1))
   [.app 10 [] (.v 4)]
   [.app 10 [] (.bin .add (.v 4) (.c (.int 1)))]]],
    .app 5 [] (.blt .tuple [.v 10])],
    .asg (.nm 7) (.fz (.blt .tuple [.comp .list (.c .non) (.bin .add (.v 4) (.c (.int 1))) [.mk (.nm 11) (.val (.v 0)) []] [11]])),
    .asg (.nm 8) (.comp .list (.c .non) (.v 9) [.mk (.nm 9) (.rng [.v 4]) [.cmp .isin (.ixv 2 (.v 9)) (.v 1)]] [9]),
    .app 8 [] (.v 4),
    .ret (.tup [.v 0, .blt .tuple [.bin .add (.v 5) (.lst [.v 7, .v 7])], .blt .tuple [.v 8]])] }
def f__law_endless : Fn :=
  { np := 2, ns := 5, fx := [true, true], body := [.asg (.nm 2) (.fz (.ixv 1 (.c (.int 0)))),
    .asg (.nm 3) (.fz (.ixv 1 (.c (.int 1)))),
    .asg (.nm 4) (.fz (.ixv 1 (.neg (.c (.int 1))))),
    .ifs (.cmp .eq (.v 0) (.c (.int 1)))
   [.ret (.tup [.tup [.tup [.c (.int 1), .c (.int 2), .c (.int 2)], .tup [.c (.int 2), .c (.int 1), .c (.int 3)], .tup [.c (.int 2), .c (.int 2), .c (.int 2)], .tup [.c (.int 2), .c (.int 2), .c (.int 2)]], .tup [.c (.int 3)], .lst [.bin .add (.v 2) (.v 4), .bin .add (.bin .add (.v 2) (.v 3)) (.v 4), .bin .add (.bin .add (.bin .add (.v 2) (.v 3)) (.v 3)) (.v 4)]])]
   [],
    .ifs (.cmp .eq (.v 0) (.c (.int 2)))
   [.ret (.tup [.tup [.tup [.c (.int 1), .c (.int 3)], .tup [.c (.int 2), .c (.int 1)], .tup [.c (.int 3), .c (.int 3)], .tup [.c (.int 3), .c (.int 3)]], .tup [.c (.int 2)], .lst [.bin .add (.v 2) (.v 2), .bin .add (.bin .add (.v 2) (.v 3)) (.v 2), .bin .add (.bin .add (.bin .add (.v 2) (.v 3)) (.v 3)) (.v 2)]])]
   [],
    .ifs (.cmp .eq (.v 0) (.c (.int 3)))
   [.ret (.tup [.tup [.tup [.c (.int 1), .c (.int 1)], .tup [.c (.int 2), .c (.int 2)], .tup [.c (.int 1), .c (.int 1)]], .tup [.c (.int 2)], .lst [.bin .add (.v 2) (.v 3), .bin .add (.v 3) (.v 3), .bin .add (.v 2) (.v 2)]])]
   [],
    .ifs (.cmp .eq (.v 0) (.c (.int 4)))
   [.ret (.tup [.tup [.tup [.c (.int 1), .c (.int 0)], .tup [.c (.int 1), .c (.int 1)]], .tup [.c (.int 1)], .lst [.v 2, .bin .add (.v 3) (.v 2), .bin .add (.v 2) (.v 3), .v 3]])]
   [],
    .ifs (.cmp .eq (.v 0) (.c (.int 5)))
   [.ret (.tup [.tup [.tup [.c (.int 1), .c (.int 3)], .tup [.c (.int 3), .c (.int 2)], .tup [.c (.int 1), .c (.int 3)], .tup [.c (.int 3), .c (.int 3)]], .tup [.c (.int 2)], .lst [.bin .add (.v 2) (.v 3), .bin .add (.bin .add (.bin .add (.v 2) (.v 3)) (.v 2)) (.v 3), .v 3]])]
   [],
    .ret (.tup [.tup [.tup [.c (.int 1), .c (.int 0)], .tup [.c (.int 0), .c (.int 1)]], .tup [.c (.int 1)], .lst [.v 2, .bin .add (.bin .add (.v 3) (.v 2)) (.v 3), .bin .add (.v 2) (.v 3), .v 3]])] }
def f__law_scene : Fn :=
  { np := 1, ns := 1, fx := [true], body := [.ifs (.cmp .eq (.v 0) (.c (.int 0)))
   [.ret (.tup [.c (.str [97, 98, 99]), .lst [.c (.str [97, 98]), .c (.str [98]), .c (.str [98, 99])], .c (.str [97, 98, 99])])]
   [],
    .ifs (.cmp .eq (.v 0) (.c (.int 1)))
   [.ret (.tup [.c (.str [97, 98]), .lst [.c (.str [97, 98, 97]), .c (.str [98, 97])], .c (.str [97, 98, 97, 98, 97])])]
   [],
    .ifs (.cmp .eq (.v 0) (.c (.int 2)))
   [.ret (.tup [.c (.str [97]), .lst [.c (.str [97, 97]), .c (.str [97, 97, 97, 97, 97])], .c (.str [97, 97, 97, 97, 97, 97, 97])])]
   [],
    .ifs (.cmp .eq (.v 0) (.c (.int 3)))
   [.ret (.tup [.c (.str [98, 120]), .lst [.c (.str [98, 120]), .c (.str [120, 120])], .c (.str [98, 98, 120, 120, 98, 120])])]
   [],
    .ret (.tup [.c (.str [97, 98]), .lst [], .c (.str [97, 98])])] }
def f__law_world : Fn :=
  { np := 1, ns := 11, fx := [true], body := [.asg (.nm 1) (.fz (.call 12 [.va 0, .c (.int 14)])),
    .ifs (.cmp .eq (.v 1) (.c (.int 0)))
   [.asg (.nm 6) (.fz (.call 16 [.call 12 [.va 0, .c (.int 5)]])),
    .ret (.tup [.ixv 6 (.c (.int 0)), .call 14 [.ixv 6 (.c (.int 0)), .ixv 6 (.c (.int 1))], .c (.int 0), .ixv 6 (.c (.int 1)), .ixv 6 (.c (.int 2))])]
   [],
    .ifs (.cmp .lt (.v 1) (.c (.int 7)))
   [.asg (.nm 2) (.fz (.call 13 [.va 0, .bin .add (.c (.int 2)) (.blt .int [.cmp .eq (.v 1) (.c (.int 1))])])),
    .asg (.nm 7) (.fz (.call 15 [.va 1, .va 2])),
    .ret (.tup [.v 2, .tup [.v 2, .ixv 7 (.c (.int 0)), .ixv 7 (.c (.int 1))], .v 1, .ixv 7 (.c (.int 2)), .c (.non)])]
   [],
    .asg (.nm 2) (.fz (.call 13 [.va 0, .ix (.tup [.c (.int 2), .c (.int 3), .c (.int 2), .c (.int 1), .c (.int 2), .c (.int 4), .c (.int 2), .c (.int 3)]) (.call 12 [.va 0, .c (.int 8)])])),
    .asg (.nm 3) (.fz (.ix (.tup [.c (.int 3), .c (.int 2), .c (.int 4), .c (.int 1), .c (.int 2), .c (.int 3), .c (.int 0), .c (.int 4)]) (.call 12 [.va 0, .c (.int 8)]))),
    .asg (.nm 4) (.lst []),
    .for (.nm 5) (.rng [.v 3])
   [.asg (.nm 8) (.fz (.bin .add (.c (.int 1)) (.call 12 [.va 0, .bin .add (.c (.int 3)) (.bin .mul (.c (.int 5)) (.blt .int [.cmp .eq (.v 3) (.c (.int 1))]))]))),
    .asg (.nm 9) (.c (.str [])),
    .for (.nm 10) (.rng [.v 8])
   [.asg (.nm 9) (.fz (.bin .add (.v 9) (.ixv 2 (.call 12 [.va 0, .blt .len [.v 2]]))))],
    .ifs (.cmp .notin (.v 9) (.v 4))
   [.app 4 [] (.v 9)]
   []],
    .ret (.tup [.v 2, .call 14 [.va 2, .va 4], .c (.int 0), .v 4, .c (.non)])] }
def f__law_deed : Fn :=
  { np := 3, ns := 9, fx := [true, true, true], body := [.ifs (.cmp .isnot (.ixv 1 (.c (.int 4))) (.c (.non)))
   [.ret (.sl (.ixv 1 (.c (.int 4))) (.c .non) (.v 2))]
   [],
    .ifs (.cmp .eq (.call 12 [.va 0, .c (.int 24)]) (.c (.int 7)))
   [.ret (.c (.str []))]
   [],
    .asg (.nm 3) (.c (.str [])),
    .for (.nm 4) (.rng [.bin .add (.c (.int 2)) (.call 12 [.va 0, .c (.int 5)])])
   [.asg (.nm 5) (.fz (.call 12 [.va 0, .c (.int 5)])),
    .ifs (.or (.cmp .eq (.v 5) (.c (.int 0))) (.cmp .eq (.blt .len [.ixv 1 (.c (.int 3))]) (.c (.int 0))))
   [.asg (.nm 3) (.fz (.bin .add (.v 3) (.ix (.ixv 1 (.c (.int 0))) (.call 12 [.va 0, .blt .len [.ixv 1 (.c (.int 0))]]))))]
   [.asg (.nm 6) (.fz (.ix (.ixv 1 (.c (.int 3))) (.call 12 [.va 0, .blt .len [.ixv 1 (.c (.int 3))]]))),
    .asg (.nm 7) (.c (.int 0)),
    .for (.nm 8) (.rng [.c (.int 1), .blt .len [.v 6]])
   [.ifs (.and (.cmp .gt (.v 5) (.c (.int 2))) (.mth .endswith (.v 3) [.sl (.v 6) (.c .non) (.v 8)]))
   [.asg (.nm 7) (.v 8)]
   []],
    .asg (.nm 3) (.fz (.bin .add (.v 3) (.sl (.v 6) (.v 7) (.c .non))))]],
    .ret (.sl (.v 3) (.c .non) (.v 2))] }
def f__law_test : Fn :=
  { np := 2, ns := 4, fx := [true, true], body := [.asg (.nm 2) (.fz (.ixv 0 (.c (.int 2)))),
    .asg (.nm 3) (.fz (.ix (.ixv 0 (.c (.int 0))) (.c (.int 0)))),
    .ifs (.or (.cmp .eq (.v 2) (.c (.int 0))) (.cmp .eq (.blt .len [.v 1]) (.c (.int 0))))
   [.ret (.cmp .isin (.v 1) (.ixv 0 (.c (.int 3))))]
   [],
    .ifs (.cmp .lt (.v 2) (.c (.int 3)))
   [.ifs (.or (.cmp .lt (.blt .len [.v 1]) (.c (.int 2))) (.or (.cmp .ne (.ixv 1 (.c (.int 0))) (.v 3)) (.cmp .ne (.ixv 1 (.neg (.c (.int 1)))) (.ix (.ixv 0 (.c (.int 0))) (.bin .sub (.c (.int 4)) (.bin .mul (.c (.int 2)) (.v 2)))))))
   [.ret (.c (.bl false))]
   [],
    .ret (.cmp .eq (.sl (.v 1) (.c (.int 1)) (.neg (.c (.int 1)))) (.bin .mul (.ix (.ixv 0 (.c (.int 0))) (.c (.int 1))) (.bin .sub (.blt .len [.v 1]) (.c (.int 2)))))]
   [],
    .ifs (.cmp .eq (.v 2) (.c (.int 3)))
   [.ret (.cmp .eq (.bin .mod (.blt .len [.v 1]) (.c (.int 2))) (.c (.int 0)))]
   [],
    .ifs (.cmp .eq (.v 2) (.c (.int 4)))
   [.ret (.cmp .isin (.v 3) (.v 1))]
   [],
    .ifs (.cmp .eq (.v 2) (.c (.int 5)))
   [.ret (.and (.cmp .eq (.bin .mod (.blt .len [.v 1]) (.c (.int 2))) (.c (.int 0))) (.cmp .eq (.v 1) (.bin .mul (.ixv 0 (.c (.int 0))) (.bin .fdiv (.blt .len [.v 1]) (.c (.int 2))))))]
   [],
    .ret (.cmp .eq (.bin .mod (.mth .count (.v 1) [.v 3]) (.c (.int 2))) (.c (.int 1)))] }
def f__law_ties : Fn :=
  { np := 2, ns := 5, fx := [true, true], body := [.asg (.nm 2) (.lst []),
    .for (.nm 3) (.rng [.blt .len [.v 1]])
   [.for (.nm 4) (.rng [.bin .add (.v 3) (.c (.int 1)), .bin .add (.blt .len [.v 1]) (.c (.int 1))])
   [.ifs (.call 19 [.va 0, .sl (.v 1) (.v 3) (.v 4)])
   [.app 2 [] (.tup [.v 3, .v 4])]
   []]],
    .ret (.mv 2)] }
def f__law_same : Fn :=
  { np := 2, ns := 3, fx := [true, true], body := [.ifs (.isi (.v 1) [.tuple])
   [.ifs (.or (.not (.isi (.v 0) [.tuple])) (.cmp .ne (.blt .len [.v 0]) (.blt .len [.v 1])))
   [.ret (.c (.bl false))]
   [],
    .for (.nm 2) (.rng [.blt .len [.v 1]])
   [.ifs (.not (.call 21 [.ixv 0 (.v 2), .ixv 1 (.v 2)]))
   [.ret (.c (.bl false))]
   []],
    .ret (.c (.bl true))]
   [],
    .ifs (.or (.isi (.v 1) [.bool]) (.isi (.v 0) [.bool]))
   [.ret (.and (.isi (.v 1) [.bool]) (.and (.isi (.v 0) [.bool]) (.cmp .eq (.v 0) (.v 1))))]
   [],
    .ifs (.isi (.v 1) [.int])
   [.ret (.and (.isi (.v 0) [.int]) (.cmp .eq (.v 0) (.v 1)))]
   [],
    .ifs (.isi (.v 1) [.str])
   [.ret (.and (.isi (.v 0) [.str]) (.cmp .eq (.v 0) (.v 1)))]
   [],
    .ret (.and (.cmp .is (.v 0) (.c (.non))) (.cmp .is (.v 1) (.c (.non))))] }
def f__law_steps : Fn :=
  { np := 3, ns := 9, fx := [true, true, true], body := [.asg (.nm 3) (.comp .list (.c .non) (.c (.non)) [.mk (.nm 8) (.rng [.v 0]) []] [8]),
    .sset 3 [] (.v 2) (.c (.int 0)),
    .asg (.nm 4) (.fz (.lst [.v 2])),
    .for (.nm 5) (.rng [.c (.int 1), .bin .add (.v 0) (.c (.int 1))])
   [.asg (.nm 6) (.lst []),
    .for (.nm 7) (.val (.v 1))
   [.for (.nm 8) (.rng [.c (.int 2)])
   [.ifs (.and (.cmp .isin (.ixv 7 (.v 8)) (.v 4)) (.cmp .is (.ixv 3 (.ixv 7 (.bin .sub (.c (.int 1)) (.v 8)))) (.c (.non))))
   [.sset 3 [] (.ixv 7 (.bin .sub (.c (.int 1)) (.v 8))) (.v 5),
    .app 6 [] (.ixv 7 (.bin .sub (.c (.int 1)) (.v 8)))]
   []]],
    .asg (.nm 4) (.v 6)],
    .ret (.mv 3)] }
def f__law_walk : Fn :=
  { np := 5, ns := 7, fx := [true, true, true, true, true], body := [.ifs (.cmp .is (.v 4) (.c (.non)))
   [.ret (.cmp .is (.v 0) (.c (.non)))]
   [],
    .ifs (.or (.not (.isi (.v 0) [.tuple])) (.cmp .ne (.blt .len [.v 0]) (.bin .add (.v 4) (.c (.int 1)))))
   [.ret (.c (.bl false))]
   [],
    .for (.nm 5) (.val (.v 0))
   [.ifs (.or (.not (.isi (.v 5) [.int])) (.isi (.v 5) [.bool]))
   [.ret (.c (.bl false))]
   []],
    .ifs (.or (.cmp .ne (.ixv 0 (.c (.int 0))) (.v 2)) (.cmp .ne (.ixv 0 (.neg (.c (.int 1)))) (.v 3)))
   [.ret (.c (.bl false))]
   [],
    .for (.nm 6) (.rng [.v 4])
   [.ifs (.cmp .notin (.tup [.blt .min2 [.ixv 0 (.v 6), .ixv 0 (.bin .add (.v 6) (.c (.int 1)))], .blt .max2 [.ixv 0 (.v 6), .ixv 0 (.bin .add (.v 6) (.c (.int 1)))]]) (.v 1))
   [.ret (.c (.bl false))]
   []],
    .ret (.c (.bl true))] }
def f__law_walks : Fn :=
  { np := 4, ns := 9, fx := [true, true, true, true], body := [.asg (.nm 4) (.fz (.bin .add (.blt .len [.v 2]) (.c (.int 1)))),
    .for (.nm 5) (.rng [.v 4])
   [.asg (.nm 6) (.fz (.call 22 [.va 4, .va 3, .va 5])),
    .ifs (.not (.call 21 [.call 10 [.va 1, .va 2, .va 5], .blt .tuple [.v 6]]))
   [.ret (.c (.bl false))]
   [],
    .asg (.nm 7) (.fz (.of .list (.rng [.v 4]))),
    .ifs (.cmp .gt (.v 4) (.c (.int 6)))
   [.asg (.nm 7) (.fz (.lst [.v 5, .call 12 [.va 0, .va 4], .call 12 [.va 0, .va 4], .blt .len [.v 2]]))]
   [],
    .for (.nm 8) (.val (.v 7))
   [.ifs (.not (.call 23 [.call 9 [.va 1, .va 2, .va 5, .va 8], .va 3, .va 5, .va 8, .ixv 6 (.v 8)]))
   [.ret (.c (.bl false))]
   []]],
    .ret (.c (.bl true))] }
def f__law_refuses : Fn :=
  { np := 6, ns := 7, fx := [true, true, true, true, true, true], body := [.try [.ifs (.cmp .eq (.v 0) (.c (.int 0)))
   [.expr (.call 9 [.va 1, .va 2, .va 3, .va 4])]
   [.expr (.call 10 [.va 1, .va 2, .va 3])]] [4] (some 6) [.ifs (.or (.not (.xisi [2])) (.or (.not (.xisi [0])) (.xisi [3])))
   [.ret (.c (.bl false))]
   [],
    .ret (.and (.callh 28 [.xattr 0, .v 5]) (.callh 28 [.xattr 1, .neg (.c (.int 1))]))],
    .ret (.c (.bl false))] }
def f__law_refusals : Fn :=
  { np := 3, ns := 9, fx := [true, true, true], body := [.asg (.nm 3) (.fz (.ixv 1 (.c (.int 0)))),
    .asg (.nm 4) (.fz (.ix (.comp .list (.c .non) (.v 8) [.mk (.nm 8) (.val (.c (.str [118, 119, 120, 121, 122]))) [.cmp .notin (.v 8) (.v 3)]] [8]) (.c (.int 0)))),
    .asg (.nm 5) (.fz (.call 12 [.va 0, .bin .add (.blt .len [.v 2]) (.c (.int 1))])),
    .asg (.nm 6) (.fz (.ix (.fz (.lst [.bin .add (.bin .add (.sl (.v 2) (.c .non) (.v 5)) (.v 4)) (.sl (.v 2) (.v 5) (.c .non)), .c (.non), .c (.int 3), .c (.bl false), .tup [.v 2, .c (.str [])], .blt .list [.v 2], .bin .add (.v 3) (.c (.str [45])), .bin .add (.mth .upper (.ixv 3 (.c (.int 0))) []) (.v 2)])) (.call 12 [.va 0, .c (.int 8)]))),
    .asg (.nm 7) (.fz (.ix (.fz (.lst [.bin .add (.blt .len [.v 2]) (.c (.int 1)), .neg (.c (.int 1)), .c (.bl true), .c (.non), .c (.bl false), .c (.str []), .tup [.v 5], .lst [.v 5], .bin .sub (.neg (.c (.int 1))) (.v 5)])) (.call 12 [.va 0, .c (.int 9)]))),
    .ifs (.or (.not (.call 25 [.c (.int 0), .va 1, .va 6, .va 7, .va 5, .c (.str [106, 111, 98])])) (.not (.call 25 [.c (.int 1), .va 1, .va 6, .va 7, .c (.int 0), .c (.str [106, 111, 98])])))
   [.ret (.c (.bl false))]
   [],
    .ifs (.or (.not (.call 25 [.c (.int 0), .va 1, .va 6, .c (.int 0), .va 7, .c (.str [106, 111, 98])])) (.not (.call 25 [.c (.int 0), .va 1, .va 2, .va 7, .va 7, .c (.str [104, 101, 114, 101])])))
   [.ret (.c (.bl false))]
   [],
    .ifs (.or (.not (.call 25 [.c (.int 0), .va 1, .va 2, .va 7, .va 5, .c (.str [104, 101, 114, 101])])) (.not (.call 25 [.c (.int 1), .va 1, .va 2, .va 7, .c (.int 0), .c (.str [104, 101, 114, 101])])))
   [.ret (.c (.bl false))]
   [],
    .ret (.call 25 [.c (.int 0), .va 1, .va 2, .va 5, .va 7, .c (.str [116, 104, 101, 114, 101])])] }
def f_law : Fn :=
  { np := 1, ns := 11, fx := [true], body := [.asg (.nm 1) (.call 11 [.va 0]),
    .asg (.nm 2) (.fz (.call 17 [.va 1])),
    .asg (.nm 3) (.fz (.call 18 [.va 1, .va 2, .ix (.tup [.c (.int 6), .c (.int 7), .c (.int 5), .c (.int 8), .c (.int 9), .c (.int 12), .c (.int 6), .c (.int 7)]) (.call 12 [.va 1, .c (.int 8)])])),
    .asg (.nm 4) (.fz (.ixv 2 (.c (.int 1)))),
    .asg (.nm 5) (.fz (.call 20 [.va 2, .va 3])),
    .ifs (.not (.call 24 [.va 1, .va 4, .va 3, .va 5]))
   [.ret (.c (.bl false))]
   [],
    .asg (.nm 6) (.tup [.ixv 4 (.c (.int 0)), .tup [.blt .tuple [.comp .list (.c .non) (.c (.int 0)) [.mk (.nm 10) (.val (.ixv 4 (.c (.int 0)))) []] [10]]], .tup []]),
    .ifs (.not (.call 21 [.call 9 [.va 6, .va 3, .c (.int 0), .c (.int 0)], .tup [.c (.int 0)]]))
   [.ret (.c (.bl false))]
   [],
    .ifs (.and (.cmp .gt (.blt .len [.v 3]) (.c (.int 0))) (.cmp .isnot (.call 9 [.va 6, .va 3, .c (.int 0), .blt .len [.v 3]]) (.c (.non))))
   [.ret (.c (.bl false))]
   [],
    .ifs (.not (.call 26 [.va 1, .va 4, .va 3]))
   [.ret (.c (.bl false))]
   [],
    .asg (.nm 7) (.fz (.call 12 [.va 1, .bin .add (.blt .len [.v 3]) (.c (.int 1))])),
    .asg (.nm 8) (.fz (.call 12 [.va 1, .bin .add (.blt .len [.v 3]) (.c (.int 1))])),
    .asg (.nm 9) (.fz (.call 22 [.bin .add (.blt .len [.v 3]) (.c (.int 1)), .va 5, .va 7])),
    .ifs (.not (.call 21 [.callk 10 [2, 1, 0] [.v 7, .v 3, .v 4], .blt .tuple [.v 9]]))
   [.ret (.c (.bl false))]
   [],
    .ifs (.not (.call 23 [.callk 9 [3, 1, 2, 0] [.v 8, .v 3, .v 7, .v 4], .va 5, .va 7, .va 8, .ixv 9 (.v 8)]))
   [.ret (.c (.bl false))]
   [],
    .ret (.call 23 [.call 9 [.va 4, .va 3, .va 8, .va 7], .va 5, .va 8, .va 7, .ixv 9 (.v 8)])] }
def f__law_same_H : Fn :=
  { np := 2, ns := 3, fx := [true, true], body := [.ifs (.isi (.v 1) [.tuple])
   [.stk]
   [], .ifs (.or (.isi (.v 1) [.bool]) (.isi (.v 0) [.bool]))
   [.ret (.and (.isi (.v 1) [.bool]) (.and (.isi (.v 0) [.bool]) (.cmp .eq (.v 0) (.v 1))))]
   [], .ifs (.isi (.v 1) [.int])
   [.ret (.and (.isi (.v 0) [.int]) (.cmp .eq (.v 0) (.v 1)))]
   [], .ifs (.isi (.v 1) [.str])
   [.ret (.and (.isi (.v 0) [.str]) (.cmp .eq (.v 0) (.v 1)))]
   [], .ret (.and (.cmp .is (.v 0) (.c (.non))) (.cmp .is (.v 1) (.c (.non))))] }
def hds : List FDat := [⟨"_law_same", ["_law_got", "_law_due", "_law_k"], 2, 31⟩]
def supL : List (List Nat) := [[0, 1000], [1, 0, 1000], [2, 0, 1000], [3, 1, 0, 1000], [4, 2, 0, 1000]]
def fnmL : List (List Nat) := [[], [], [], [0, 1], [0, 1]]
def prog : Prog := ⟨[f_is_integer, f_is_number, f_is_job, f_demand, f_is_place, f_demand_web, f_tie_list, f_links_of, f_flood_from, f_walk_of, f_ties_between, f__law_pool, f__law_next, f__law_letters, f__law_reader, f__law_endless, f__law_scene, f__law_world, f__law_deed, f__law_test, f__law_ties, f__law_same, f__law_steps, f__law_walk, f__law_walks, f__law_refuses, f__law_refusals, f_law, f__law_same_H], [], fun C => supL.getD C [], fun C => fnmL.getD C []⟩
def fds : List FDat := [⟨"is_integer", ["thing"], 1, 7⟩, ⟨"is_number", ["thing"], 1, 8⟩, ⟨"is_job", ["stock", "thing", "letter"], 2, 9⟩, ⟨"demand", ["word", "good"], 2, 11⟩, ⟨"is_place", ["job", "thing"], 2, 12⟩, ⟨"demand_web", ["suite", "job", "places", "word", "thing"], 3, 13⟩, ⟨"tie_list", ["suite", "job", "stock", "moves", "goods", "columns", "ties", "start", "state", "place", "command"], 2, 14⟩, ⟨"links_of", ["many", "ties", "links", "one", "other", "place"], 2, 15⟩, ⟨"flood_from", ["suite", "job", "here", "links", "many", "before", "queue", "reached", "place", "other"], 3, 17⟩, ⟨"walk_of", ["suite", "job", "here", "there", "many", "before", "places"], 4, 18⟩, ⟨"ties_between", ["suite", "job", "here", "many", "before"], 3, 19⟩, ⟨"_law_pool", ["_law_script", "_law_number", "_law_great", "_law_cell"], 1, 21⟩, ⟨"_law_next", ["_law_pool_here", "_law_many", "_law_value"], 2, 22⟩, ⟨"_law_letters", ["_law_pool_here", "_law_size", "_law_spot", "_law_found", "_law_k"], 2, 23⟩, ⟨"_law_reader", ["_law_letters_here", "_law_tests", "_law_heads", "_law_one", "_law_many", "_law_rows", "_law_head", "_law_dead", "_law_good", "_law_k", "_law_row", "_law_letter"], 2, 24⟩, ⟨"_law_endless", ["_law_kind", "_law_letters_here", "_law_p", "_law_q", "_law_r"], 2, 25⟩, ⟨"_law_scene", ["_law_which"], 1, 26⟩, ⟨"_law_world", ["_law_pool_here", "_law_kind", "_law_letters_here", "_law_many", "_law_tests", "_law_k", "_law_scene_here", "_law_made", "_law_size", "_law_one", "_law_m"], 1, 27⟩, ⟨"_law_deed", ["_law_pool_here", "_law_world_here", "_law_most", "_law_made", "_law_k", "_law_how", "_law_seed", "_law_cut", "_law_size"], 3, 28⟩, ⟨"_law_test", ["_law_world_here", "_law_part", "_law_kind", "_law_p"], 2, 29⟩, ⟨"_law_ties", ["_law_world_here", "_law_deed_here", "_law_found", "_law_i", "_law_j"], 2, 30⟩, ⟨"_law_same", ["_law_got", "_law_due", "_law_k"], 2, 31⟩, ⟨"_law_steps", ["_law_many", "_law_ties_here", "_law_start", "_law_steps_here", "_law_edge", "_law_turn", "_law_found", "_law_tie", "_law_k"], 3, 32⟩, ⟨"_law_walk", ["_law_got", "_law_ties_here", "_law_i", "_law_j", "_law_least", "_law_spot", "_law_k"], 5, 33⟩, ⟨"_law_walks", ["_law_pool_here", "_law_suit", "_law_deed_here", "_law_ties_here", "_law_many", "_law_i", "_law_steps_here", "_law_spots", "_law_j"], 4, 34⟩, ⟨"_law_refuses", ["_law_which", "_law_suit", "_law_deed_here", "_law_i", "_law_j", "_law_name", "e"], 6, 35⟩, ⟨"_law_refusals", ["_law_pool_here", "_law_suit", "_law_deed_here", "_law_letters_here", "_law_other", "_law_cut", "_law_bad", "_law_wrong", "_law_letter"], 3, 36⟩, ⟨"law", ["_law_script", "_law_pool_here", "_law_world_here", "_law_deed_here", "_law_suit", "_law_ties_here", "_law_bare", "_law_i", "_law_j", "_law_steps_here", "_law_letter"], 1, 37⟩]
def fnN : List PySem.Str := [("is_integer" : PySem.Str), ("is_number" : PySem.Str), ("is_job" : PySem.Str), ("demand" : PySem.Str), ("is_place" : PySem.Str), ("demand_web" : PySem.Str), ("tie_list" : PySem.Str), ("links_of" : PySem.Str), ("flood_from" : PySem.Str), ("walk_of" : PySem.Str), ("ties_between" : PySem.Str), ("_law_pool" : PySem.Str), ("_law_next" : PySem.Str), ("_law_letters" : PySem.Str), ("_law_reader" : PySem.Str), ("_law_endless" : PySem.Str), ("_law_scene" : PySem.Str), ("_law_world" : PySem.Str), ("_law_deed" : PySem.Str), ("_law_test" : PySem.Str), ("_law_ties" : PySem.Str), ("_law_same" : PySem.Str), ("_law_steps" : PySem.Str), ("_law_walk" : PySem.Str), ("_law_walks" : PySem.Str), ("_law_refuses" : PySem.Str), ("_law_refusals" : PySem.Str), ("law" : PySem.Str)]
def gls : List PySem.Str := []
def clsN : List PySem.Str := [("EndsError" : PySem.Str), ("PaperError" : PySem.Str), ("BenchError" : PySem.Str), ("InvalidPaper" : PySem.Str), ("NotUsable" : PySem.Str)]
def fldN : List PySem.Str := [("word" : PySem.Str), ("at" : PySem.Str), ("job" : PySem.Str), ("event" : PySem.Str), ("reason" : PySem.Str), ("steps" : PySem.Str), ("line" : PySem.Str), ("field" : PySem.Str), ("row" : PySem.Str)]
def kwsN : List (Nat × List PySem.Str × List Nat) := [(10, [("here" : PySem.Str), ("job" : PySem.Str), ("suite" : PySem.Str)], [2, 1, 0]), (9, [("there" : PySem.Str), ("job" : PySem.Str), ("here" : PySem.Str), ("suite" : PySem.Str)], [3, 1, 2, 0])]
def nfN : List Nat := fnmL.map List.length
def hotN : List (Nat × PySem.Str) := [(28, ("_law_same" : PySem.Str))]
def tab (fr : List PySem.Str) : Tab := ⟨fr, fnN, gls, clsN, fldN, kwsN, nfN, hotN⟩
def iLaw : Nat := 27
end Pk07
end
section
set_option autoImplicit false
set_option linter.all false
set_option maxRecDepth 100000
namespace Pk07
open Q QR
@[simp] theorem fx_0 : fxOf prog 0 = [true] := rfl
@[simp] theorem fx_1 : fxOf prog 1 = [true] := rfl
@[simp] theorem fx_2 : fxOf prog 2 = [true, true] := rfl
@[simp] theorem fx_3 : fxOf prog 3 = [true, true] := rfl
@[simp] theorem fx_4 : fxOf prog 4 = [true, true] := rfl
@[simp] theorem fx_5 : fxOf prog 5 = [true, true, true] := rfl
@[simp] theorem fx_6 : fxOf prog 6 = [true, true] := rfl
@[simp] theorem fx_7 : fxOf prog 7 = [true, true] := rfl
@[simp] theorem fx_8 : fxOf prog 8 = [true, true, true] := rfl
@[simp] theorem fx_9 : fxOf prog 9 = [true, true, true, true] := rfl
@[simp] theorem fx_10 : fxOf prog 10 = [true, true, true] := rfl
@[simp] theorem fx_11 : fxOf prog 11 = [true] := rfl
@[simp] theorem fx_12 : fxOf prog 12 = [true, true] := rfl
@[simp] theorem fx_13 : fxOf prog 13 = [true, true] := rfl
@[simp] theorem fx_14 : fxOf prog 14 = [true, true] := rfl
@[simp] theorem fx_15 : fxOf prog 15 = [true, true] := rfl
@[simp] theorem fx_16 : fxOf prog 16 = [true] := rfl
@[simp] theorem fx_17 : fxOf prog 17 = [true] := rfl
@[simp] theorem fx_18 : fxOf prog 18 = [true, true, true] := rfl
@[simp] theorem fx_19 : fxOf prog 19 = [true, true] := rfl
@[simp] theorem fx_20 : fxOf prog 20 = [true, true] := rfl
@[simp] theorem fx_21 : fxOf prog 21 = [true, true] := rfl
@[simp] theorem fx_22 : fxOf prog 22 = [true, true, true] := rfl
@[simp] theorem fx_23 : fxOf prog 23 = [true, true, true, true, true] := rfl
@[simp] theorem fx_24 : fxOf prog 24 = [true, true, true, true] := rfl
@[simp] theorem fx_25 : fxOf prog 25 = [true, true, true, true, true, true] := rfl
@[simp] theorem fx_26 : fxOf prog 26 = [true, true, true] := rfl
@[simp] theorem fx_27 : fxOf prog 27 = [true] := rfl
@[simp] theorem fx_28 : fxOf prog 28 = [true, true] := rfl
end Pk07
end
section
set_option autoImplicit false
set_option linter.all false
set_option maxRecDepth 100000
namespace Pk07
open Q QR
section
variable {L : Nat} {d : D} {st : List Nat}
theorem is_integer_s (hL : 1 ≤ L) (ho : own d = false) : callF prog L 0 [d] = .ok (.bl (intB d)) [some d] := by
  obtain ⟨m, rfl⟩ : ∃ m, L = m + 1 := ⟨L - 1, by omega⟩
  rw [callF_s (fn := f_is_integer) rfl rfl]
  cases d <;> simp_all [f_is_integer, startE, typ, fin, maskP, intB]
theorem is_number_s (hL : 2 ≤ L) (ho : own d = false) : callF prog L 1 [d] = .ok (.bl (numB d)) [some d] := by
  obtain ⟨m, rfl⟩ : ∃ m, L = m + 1 := ⟨L - 1, by omega⟩
  have h0 := is_integer_s (L := m) (by omega) ho
  rw [callF_s (fn := f_is_number) rfl rfl]
  cases d <;> simp_all [f_is_number, startE, typ, fin, maskP, intB, numB, fillA]
theorem is_job_s (hL : 1 ≤ L) (ho : niceB d = true) : callF prog L 2 [.str st, d] = .ok (.bl (jobB st d)) [some (.str st), some d] := by
  obtain ⟨m, rfl⟩ : ∃ m, L = m + 1 := ⟨L - 1, by omega⟩
  rw [callF_s (fn := f_is_job) rfl rfl]
  cases d with
  | str s =>
    simp [f_is_job, startE, typ]
    rw [comp_pure (ds := s.map fun c => D.str [c]) (f := fun d => .bl (jobB st d))]
    · simp [fin, maskP, jobB, Function.comp_def]
    · simp
    · rw [List.length_map]; exact Nat.le_trans (nice_lenS ho) (by decide)
    · simp
    · simp
    · intro d hd
      obtain ⟨c, hc, rfl⟩ := List.mem_map.mp hd
      simp [jobB]
  | _ => simp_all [f_is_job, startE, typ, fin, maskP, jobB, own_nice ho]
def placeB (n : Nat) : D → Bool | .int i => decide (0 ≤ i) && decide (i ≤ n) | _ => false
theorem is_place_s (hL : 3 ≤ L) {job : List Nat} (ho : own d = false) : callF prog L 4 [.str job, d] = .ok (.bl (placeB job.length d)) [some (.str job), some d] := by
  obtain ⟨m, rfl⟩ : ∃ m, L = m + 1 := ⟨L - 1, by omega⟩
  have h0 := is_number_s (L := m) (by omega) ho
  rw [callF_s (fn := f_is_place) rfl rfl]
  cases d with
  | int i => by_cases h : 0 ≤ i <;> simp [f_is_place, startE, fin, maskP, fillA, h0, numB, placeB, h]
  | _ => simp_all [f_is_place, startE, fin, maskP, fillA, numB, placeB]
theorem demand_s (hL : 1 ≤ L) {w : List Nat} {b : Bool} : callF prog L 3 [.str w, .bl b] = if b then .ok .non [some (.str w), some (.bl b)] else .ex 4 [.str w, .int (-1)] [some (.str w), some (.bl b)] := by
  obtain ⟨m, rfl⟩ : ∃ m, L = m + 1 := ⟨L - 1, by omega⟩
  rw [callF_s (fn := f_demand) rfl rfl]
  cases b <;> simp [f_demand, startE, fin, maskP]
def jlen : D → Nat | .str j => j.length | _ => 0
@[simp] theorem jlen_s {j : List Nat} : jlen (.str j) = j.length := rfl
def wJob : List Nat := [106, 111, 98]
def badP (n : Nat) : List (List Nat × D) → Option (List Nat)
  | [] => none
  | (w, d) :: r => if placeB n d then badP n r else some w
def plD (p : List Nat × D) : D := .tup [.str p.1, p.2]
theorem dw_loop {m : Nat} {job : List Nat} {s0 : Option D} (hm : 3 ≤ m) : ∀ (ps : List (List Nat × D)) (s2 o3 o4 : Option D), (∀ p ∈ ps, niceB p.2 = true) → ∃ o3' o4', forL (bindT (.tp [.nm 3, .nm 4])) (exs prog (callF prog m) none [.expr (.call 3 [.va 3, .call 4 [.va 1, .va 4]])]) (ps.map plD) [s0, some (.str job), s2, o3, o4] = (match badP job.length ps with
      | none => .ok .nx [s0, some (.str job), s2, o3', o4']
      | some w => .ex 4 [.str w, .int (-1)] [s0, some (.str job), s2, o3', o4'])
  | [], s2, o3, o4, _ => ⟨o3, o4, by simp [badP]⟩
  | (w, d) :: ps, s2, o3, o4, h => by
    have hn := h (w, d) List.mem_cons_self
    have h1 := is_place_s (L := m) hm (job := job) (own_nice hn)
    have h2 := demand_s (L := m) (by omega) (w := w) (b := placeB job.length d)
    rw [List.map_cons, forL_cons, badP]
    by_cases hp : placeB job.length d = true
    · obtain ⟨o3', o4', h3⟩ := dw_loop hm ps s2 (some (.str w)) (some d) (fun p hp => h p (List.mem_cons_of_mem _ hp)) (s0 := s0)
      refine ⟨o3', o4', ?_⟩
      rw [if_pos hp, ← h3]
      rw [hp] at h1 h2
      simp [plD, fillA, own_nice hn, h1, h2]
    · refine ⟨some (.str w), some d, ?_⟩
      have hp : placeB job.length d = false := by simpa using hp
      rw [hp] at h1 h2
      simp [plD, fillA, own_nice hn, h1, h2, hp]
theorem demand_web_s (hL : 4 ≤ L) {rest : List D} {ps : List (List Nat × D)} (hj : niceB d = true) (hp : ∀ p ∈ ps, niceB p.2 = true) : callF prog L 5 [.tup (.str st :: rest), d, .tup (ps.map plD)] = (match (if jobB st d then badP (jlen d) ps else some wJob) with
      | none => .ok .non [some (.tup (.str st :: rest)), some d, some (.tup (ps.map plD))]
      | some w => .ex 4 [.str w, .int (-1)] [some (.tup (.str st :: rest)), some d, some (.tup (ps.map plD))]) := by
  obtain ⟨m, rfl⟩ : ∃ m, L = m + 1 := ⟨L - 1, by omega⟩
  rw [callF_s (fn := f_demand_web) rfl rfl]
  have h1 := is_job_s (L := m) (st := st) (by omega) hj
  have h2 := demand_s (L := m) (by omega) (w := wJob) (b := jobB st d)
  unfold wJob at h2
  by_cases hb : jobB st d = true
  · rw [hb] at h1 h2
    cases d with
    | str j =>
      obtain ⟨o3, o4, h3⟩ := dw_loop (m := m) (job := j) (s0 := some (.tup (.str st :: rest))) (by omega) ps (some (.tup (ps.map plD))) none none hp
      simp [f_demand_web, startE, fillA, h1, h2, hb]
      rw [h3]
      cases badP j.length ps <;> simp [fin, maskP, f_demand_web]
    | _ => simp [jobB] at hb
  · have hb : jobB st d = false := by simpa using hb
    rw [hb] at h1 h2
    simp [f_demand_web, startE, fillA, own_nice hj, h1, h2, hb, fin, maskP, wJob]
def pl (a b : Int) : D := .lst true [.int a, .int b]
@[simp] theorem own_pl {a b : Int} : own (pl a b) = true := rfl
theorem ten18 : binop .pow (.int 10) (.int 18) = some (.int 1000000000000000000) := by
  have h : smallI 10 = true := smallI_of (by omega) (by omega)
  simp [binop, h]
theorem sm {j : Int} (h0 : -1000000 < j) (h1 : j < 1000000) {i : Int} : binop .mul (.int i) (.int j) = some (.int (i * j)) := mulI (smallI_of h0 h1)
theorem put2_0 {a b y : D} {en : Env} {i : Nat} : putO (some (.lst true [a, b])) (.int 0) y en i = some (en.set i (some (.lst true [y, b]))) := rfl
theorem put2_1 {a b y : D} {en : Env} {i : Nat} : putO (some (.lst true [a, b])) (.int 1) y en i = some (en.set i (some (.lst true [a, y]))) := rfl
theorem ixR_L1 {b : Bool} {o : Bool} {x y : D} {en : Env} (h : own y = false) : ixR b (.lst o [x, y]) (.int 1) en = .ok y en := ixR_L (k := 1) (x := [x, y]) rfl h
theorem pool_s (hL : 1 ≤ L) {ns : List Int} : ∃ a b, callF prog L 11 [.scr (ns.map .int)] = .ok (pl a b) [some (.scr (ns.map .int))] := by
  obtain ⟨m, rfl⟩ : ∃ m, L = m + 1 := ⟨L - 1, by omega⟩
  rw [callF_s (fn := f__law_pool) rfl rfl]
  by_cases hn : ns = []
  · subst hn
    exact ⟨0, -1, by simp [f__law_pool, startE, fin, maskP, pl]⟩
  · have hl : ¬ ((ns.length : Int) = 0) := by
      cases ns with
      | nil => exact absurd rfl hn
      | cons _ _ => simp; omega
    obtain ⟨en', h1, n, g, o3, rfl⟩ := for_wpM (bd := bindT (.nm 3)) (body := exs prog (callF prog m) none [.asg (.nm 1) (.fz (.bin .mod (.blt .int [.bin .add (.bin .add (.bin .mul (.v 1) (.c (.int 6151))) (.bin .mod (.blt .int [.v 3]) (.c (.int 2147483587)))) (.c (.int 1277))]) (.c (.int 2147483587)))),
    .ifs (.and (.cmp .eq (.v 2) (.c (.int 0))) (.cmp .ge (.v 3) (.bin .pow (.c (.int 10)) (.c (.int 18)))))
   [.asg (.nm 2) (.v 3)]
   []]) D.int
      (fun _ en => ∃ (n g : Int) (o3 : Option D), en = [some (.scr (ns.map .int)), some (.int n), some (.int g), o3]) ns 0 [some (.scr (ns.map .int)), some (.int 7103), some (.int 0), none] ⟨7103, 0, none, rfl⟩ (by
        rintro i x en hx ⟨n, g, o3, rfl⟩
        have s1 : ∀ i, binop .mul (.int i) (.int 6151) = some (.int (i * 6151)) := fun i => sm (by omega) (by omega)
        refine ⟨[some (.scr (ns.map .int)), some (.int ((n * 6151 + x % 2147483587 + 1277) % 2147483587)), some (.int (if g = 0 ∧ 1000000000000000000 ≤ x then x else g)), some (.int x)], ?_, _, _, _, rfl⟩
        by_cases h1 : g = 0
        · by_cases h2 : 1000000000000000000 ≤ x
          · simp [s1, ten18, h1, h2]
          · simp [s1, ten18, h1, h2]
        · simp [s1, ten18, h1])
    refine ⟨g, n, ?_⟩
    simp [f__law_pool, startE, hn]
    rw [h1]
    simp [fin, maskP, pl]
theorem next_s (hL : 1 ≤ L) {a b k : Int} (hk : 0 < k) (hk2 : k < 1000) : ∃ (v : Nat) (a' b' : Int), callF prog L 12 [pl a b, .int k] = .ok (.int (v : Int)) [some (pl a' b'), some (.int k)] ∧ (v : Int) < k := by
  obtain ⟨m, rfl⟩ : ∃ m, L = m + 1 := ⟨L - 1, by omega⟩
  rw [callF_s (fn := f__law_next) rfl rfl]
  have hm : ∀ i : Int, binop .mod (.int i) (.int k) = some (.int (i % k)) := fun i => modI hk
  have tn : ∀ i : Int, ∃ v : Nat, i % k = (v : Int) ∧ (v : Int) < k := fun i => ⟨(i % k).toNat, by have := Int.emod_nonneg i (show k ≠ 0 by omega); omega, by have := Int.emod_nonneg i (show k ≠ 0 by omega); have := Int.emod_lt_of_pos i hk; omega⟩
  by_cases h1 : b < 0
  · refine ⟨0, a, b, ?_, by simpa using hk⟩
    simp [f__law_next, startE, fin, maskP, pl, ixR_L1, h1]
  · by_cases h2 : k ≤ a
    · obtain ⟨v, hv, hv2⟩ := tn a
      refine ⟨v, a / k, b, ?_, hv2⟩
      have hd : binop .fdiv (.int a) (.int k) = some (.int (a / k)) := fdivI (by omega) (by omega)
      simp [f__law_next, startE, fin, maskP, pl, ixR_L1, h1, h2, hm, hd, put2_0, hv]
    · have s1 : ∀ i, binop .mul (.int i) (.int 50021) = some (.int (i * 50021)) := fun i => sm (by omega) (by omega)
      have hd : ∀ i, binop .fdiv (.int i) (.int 89) = some (.int (i / 89)) := fun i => fdivI (by omega) (by omega)
      obtain ⟨v, hv, hv2⟩ := tn ((b * 50021 + 17011) % 2147483587 / 89)
      refine ⟨v, a, (b * 50021 + 17011) % 2147483587, ?_, hv2⟩
      simp [f__law_next, startE, fin, maskP, pl, ixR_L1, h1, h2, hm, hd, s1, put2_1, hv]
end
end Pk07
end
section
set_option autoImplicit false
set_option linter.all false
set_option maxRecDepth 100000
namespace Pk07
open Q QR
section
variable {L : Nat} {d : D} {st : List Nat} {rows : List (List Nat)} {goods job : List Nat}
def Tm (rows : List (List Nat)) (st goods : List Nat) (w : List Nat) : Bool := decide (run rows st 0 w ∈ goods)
theorem ix_rows (M : MOk st rows goods) {s c : Nat} (hs : s < rows.length) (hc : c ∈ st) : ∃ r, rows[s]? = some r ∧ r[ixC st c]? = some (nx rows st s c) := by
  have h1 : rows[s]? = some rows[s] := List.getElem?_eq_getElem hs
  have h2 := (M.row _ (List.getElem_mem hs)).1
  have h3 : ixC st c < rows[s].length := by rw [h2]; exact ixC_lt hc
  refine ⟨_, h1, ?_⟩
  unfold nx
  rw [h1, Option.getD_some, List.getElem?_eq_getElem h3]
  rfl
def tlF (st : List Nat) (rows : List (List Nat)) (goods job : List Nat) (ts : List (Nat × Nat)) (i : Nat) (o9 : Option D) (k : Nat) : Q.Env :=
  [some (mD st rows goods), some (.str job), some (.str st), some (.tup (rows.map rwD)), some (rwD goods), some (.lst false (colD st job)), some (.lst true ((ts ++ tieR (Tm rows st goods) job i k).map pD)), some (nD i), some (nD (run rows st 0 (sliceL job i (i + k)))), (match k with | 0 => o9 | k + 1 => some (nD (i + k))), none]
theorem tl_in {m i : Nat} {ts : List (Nat × Nat)} {o9 : Option D} (M : MOk st rows goods) (hj : ∀ c ∈ job, c ∈ st) (hi : i ≤ job.length) (hts : ts.length + job.length ≤ 100000) : forL (bindT (.nm 9)) (exs prog (callF prog m) none [.asg (.nm 8) (.fz (.ix (.ixv 3 (.v 8)) (.ixv 5 (.v 9)))),
    .ifs (.cmp .isin (.v 8) (.v 4))
   [.app 6 [] (.tup [.v 7, .bin .add (.v 9) (.c (.int 1))])]
   []]) ((List.range (job.length - i)).map fun k => nD (i + k)) (tlF st rows goods job ts i o9 0) = .ok .nx (tlF st rows goods job ts i o9 (job.length - i)) := by
  refine for_idx (bd := bindT (.nm 9)) (body := exs prog (callF prog m) none [.asg (.nm 8) (.fz (.ix (.ixv 3 (.v 8)) (.ixv 5 (.v 9)))),
    .ifs (.cmp .isin (.v 8) (.v 4))
   [.app 6 [] (.tup [.v 7, .bin .add (.v 9) (.c (.int 1))])]
   []]) (fun k => nD (i + k)) (tlF st rows goods job ts i o9) (job.length - i) fun k hk => ?_
  have hik : i + k < job.length := by omega
  have hc : job[i + k]? = some job[i + k] := List.getElem?_eq_getElem hik
  have hcs := hj _ (List.getElem_mem hik)
  have hs : run rows st 0 (sliceL job i (i + k)) < rows.length := M.run_lt M.pos
  obtain ⟨r, hr1, hr2⟩ := ix_rows M hs hcs
  have e1 : ∀ b en, ixR b (.tup (rows.map rwD)) (.int ((run rows st 0 (sliceL job i (i + k)) : Nat) : Int)) en = .ok (rwD r) en := fun b en => ixT hr1 rfl
  have e2 : ∀ b en, ixR b (.lst false (colD st job)) (.int ((i : Int) + (k : Int))) en = .ok (nD (ixC st job[i + k])) en := fun b en => by
    have := colD_at (st := st) (b := b) (en := en) (o := false) hc
    rw [show ((i + k : Nat) : Int) = (i : Int) + (k : Int) by omega] at this
    exact this
  have e3 : ∀ b en, ixR b (rwD r) (.int ((ixC st job[i + k] : Nat) : Int)) en = .ok (nD (nx rows st (run rows st 0 (sliceL job i (i + k))) job[i + k])) en := fun b en => ixT hr2 rfl
  have e4 : run rows st 0 (sliceL job i (i + k + 1)) = nx rows st (run rows st 0 (sliceL job i (i + k))) job[i + k] := by
    rw [slice_succ hc, run_app]; rfl
  have e5 : i + (k + 1) = i + k + 1 := by omega
  have hl : (ts ++ tieR (Tm rows st goods) job i k).length < 1000000 := by
    have := tieR_len (T := Tm rows st goods) (job := job) (i := i) (k := k)
    rw [List.length_append]
    omega
  have hl' : ts.length + (tieR (Tm rows st goods) job i k).length < 1000000 := by simpa using hl
  unfold tlF
  rw [e5, e4, tieR_succ]
  have eT : Tm rows st goods (sliceL job i (i + k + 1)) = decide (nx rows st (run rows st 0 (sliceL job i (i + k))) job[i + k] ∈ goods) := by
    unfold Tm; rw [e4]
  rw [eT]
  have inG : ∀ x : Nat, cmpop .isin (.int (x : Int)) (rwD goods) = some (decide (x ∈ goods)) := fun x => inN
  by_cases hg : nx rows st (run rows st 0 (sliceL job i (i + k))) job[i + k] ∈ goods
  · simp [nD, e1, e2, e3, inG, hg, hl', pD]
  · simp [nD, e1, e2, e3, inG, hg]
theorem tie_list_s (hL : 1 ≤ L) (M : MOk st rows goods) (hj : ∀ c ∈ job, c ∈ st) (hl : job.length ≤ 100) : callF prog L 6 [mD st rows goods, .str job] = .ok (.lst true ((tiesOf (Tm rows st goods) job).map pD)) [some (mD st rows goods), some (.str job)] := by
  obtain ⟨m, rfl⟩ : ∃ m, L = m + 1 := ⟨L - 1, by omega⟩
  rw [callF_s (fn := f_tie_list) rfl rfl]
  have hcol : ∀ b, ev prog (callF prog m) none b (.comp .list (.c .non) (.mth .find (.v 2) [.v 10]) [.mk (.nm 10) (.val (.v 1)) []] [10]) [some (mD st rows goods), some (.str job), some (.str st), some (.tup (rows.map rwD)), some (rwD goods), none, none, none, none, none, none] = .ok (.lst true (colD st job)) [some (mD st rows goods), some (.str job), some (.str st), some (.tup (rows.map rwD)), some (rwD goods), none, none, none, none, none, none] := fun b => by
    rw [comp_pure (ds := job.map fun c => D.str [c]) (f := fun d => match d with | .str [c] => nD (ixC st c) | d => d)]
    · simp [Function.comp_def, colD_eq, nD]
    · simp
    · rw [List.length_map]; exact Nat.le_trans hl (by decide)
    · simp
    · simp
    · intro d hd
      obtain ⟨c, hc, rfl⟩ := List.mem_map.mp hd
      simp [mthTy, findS (hj c hc), nD]
  rw [exs_cut 3 (en1 := [some (mD st rows goods), some (.str job), some (.str st), some (.tup (rows.map rwD)), some (rwD goods), some (.lst false (colD st job)), some (.lst true []), none, none, none, none]) (by
    simp [f_tie_list, startE]
    have e : ∀ en : Q.Env, 4 < en.length → bindTs [.nm 2, .nm 3, .nm 4] [.str st, .tup (rows.map rwD), rwD goods] en = some (((en.set 2 (some (.str st))).set 3 (some (.tup (rows.map rwD)))).set 4 (some (rwD goods))) := fun en h => by
      have h2 : 2 < en.length := by omega
      have h3 : 3 < en.length := by omega
      simp [h2, h3, h]
    simp only [mD, bindTp]
    rw [e _ (by simp)]
    simp only [om_some, seq_nx, List.set_cons_succ, List.set_cons_zero, exs_cons]
    have h2 := hcol false
    unfold mD at h2
    simp [h2])]
  have key := for_wpM (bd := bindT (.nm 7)) (body := exs prog (callF prog m) none [.asg (.nm 8) (.c (.int 0)),
    .for (.nm 9) (.rng [.v 7, .blt .len [.v 1]])
   [.asg (.nm 8) (.fz (.ix (.ixv 3 (.v 8)) (.ixv 5 (.v 9)))),
    .ifs (.cmp .isin (.v 8) (.v 4))
   [.app 6 [] (.tup [.v 7, .bin .add (.v 9) (.c (.int 1))])]
   []]]) nD
    (fun i en => ∃ o7 o8 o9, en = [some (mD st rows goods), some (.str job), some (.str st), some (.tup (rows.map rwD)), some (rwD goods), some (.lst false (colD st job)), some (.lst true ((tiesN (Tm rows st goods) job i).map pD)), o7, o8, o9, none]) (List.range job.length) 0 [some (mD st rows goods), some (.str job), some (.str st), some (.tup (rows.map rwD)), some (rwD goods), some (.lst false (colD st job)), some (.lst true []), none, none, none, none] ⟨none, none, none, rfl⟩ (by
      rintro i x en hx ⟨o7, o8, o9, rfl⟩
      obtain ⟨hi, hx⟩ := List.getElem?_eq_some_iff.mp hx
      simp at hi hx
      subst hx
      rw [Nat.zero_add]
      have hi2 : i ≤ job.length := by omega
      have hb := tiesN_len (T := Tm rows st goods) (job := job) (n := i)
      have hb2 : i * job.length ≤ 100 * 100 := Nat.mul_le_mul (by omega) hl
      have h1 := tl_in (m := m) (ts := tiesN (Tm rows st goods) job i) (o9 := o9) M hj hi2 (by omega)
      have hr : rngD [.int (i : Int), .int (job.length : Int)] = some ((List.range (job.length - i)).map fun k => nD (i + k)) := rngN2 (by omega) (by omega)
      unfold tlF at h1
      rw [tieR_zero, List.append_nil, show i + 0 = i from rfl, slice_zero] at h1
      have h1 := h1
      simp only [run_nil] at h1
      refine ⟨tlF st rows goods job (tiesN (Tm rows st goods) job i) i o9 (job.length - i), ?_, ?_⟩
      · have e0 : ((0 : Nat) : Int) = 0 := rfl
        simp only [nD, e0] at h1
        simp [hr, nD]
        simp only [Int.natCast_add] at h1
        rw [h1]
        simp [tlF, nD]
      · unfold tlF
        rw [tiesN_succ]
        exact ⟨_, _, _, rfl⟩)
  obtain ⟨en', h1, o7, o8, o9, rfl⟩ := key
  have hr : rngD [.int (job.length : Int)] = some ((List.range job.length).map nD) := rngN (by omega)
  have e : f_tie_list.body.drop 3 = [.for (.nm 7) (.rng [.blt .len [.v 1]]) [.asg (.nm 8) (.c (.int 0)),
    .for (.nm 9) (.rng [.v 7, .blt .len [.v 1]])
   [.asg (.nm 8) (.fz (.ix (.ixv 3 (.v 8)) (.ixv 5 (.v 9)))),
    .ifs (.cmp .isin (.v 8) (.v 4))
   [.app 6 [] (.tup [.v 7, .bin .add (.v 9) (.c (.int 1))])]
   []]], .ret (.mv 6)] := rfl
  rw [e]
  simp [hr]
  rw [h1]
  simp [fin, maskP, f_tie_list, tiesOf]
end
end Pk07
end
section
set_option autoImplicit false
set_option linter.all false
set_option maxRecDepth 100000
namespace Pk07
open Q QR
def lkD (r : List Nat) : D := .lst true (r.map nD)
def lkF (r : List Nat) : D := .lst false (r.map nD)
@[simp] theorem fz_lkD {r : List Nat} : fz (lkD r) = lkF r := by simp [lkD, lkF]
@[simp] theorem own_lkF {r : List Nat} : own (lkF r) = false := rfl
theorem fzs_lk : ∀ {ls : List (List Nat)}, fzs (ls.map lkD) = ls.map lkF
  | [] => rfl
  | r :: ls => by rw [List.map_cons, fzs_cons, fz_lkD, fzs_lk, List.map_cons]
section
variable {L : Nat} {d : D} {st : List Nat} {rows : List (List Nat)} {goods job : List Nat} {ts : List (Nat × Nat)}
theorem app_row {ls : List (List Nat)} {a b : Nat} {en : Q.Env} {i : Nat} (ha : a < ls.length) (hl : ∀ r ∈ ls, r.length < 1000000) : app1 (some (.lst true (ls.map lkD))) (.int (a : Int)) (.int (b : Int)) en i = some (en.set i (some (.lst true ((addL ls a b).map lkD)))) := by
  have h1 : ls[a]? = some ls[a] := List.getElem?_eq_getElem ha
  have h2 := app1N (f := lkD) (x := ls[a]) (x' := ls[a] ++ [b]) (ys := ls[a].map nD) (y := .int (b : Int)) (en := en) (i := i) h1 rfl (by rw [List.length_map]; exact hl _ (List.getElem_mem ha)) (by simp [lkD, nD])
  rw [h2]
  unfold addL
  rw [h1]
  rfl
theorem isl_row {ls : List (List Nat)} {a : Nat} (ha : a < ls.length) : isL1 (some (.lst true (ls.map lkD))) (.int (a : Int)) = true := isL1N (f := lkD) (List.getElem?_eq_getElem ha) rfl
theorem links_of_s (hL : 1 ≤ L) {n : Nat} (hn : n ≤ 1000) (ht : ts.length ≤ 100000) (hp : ∀ p ∈ ts, p.1 < n ∧ p.2 < n) : ∃ ps, callF prog L 7 [.int (n : Int), .lst true (ts.map pD)] = .ok (.lst true ((linksF n ts).map lkD)) ps := by
  obtain ⟨m, rfl⟩ : ∃ m, L = m + 1 := ⟨L - 1, by omega⟩
  rw [callF_s (fn := f_links_of) rfl rfl]
  have hr : rngD [.int (n : Int)] = some ((List.range n).map nD) := rngN (by omega)
  have hc : ∀ b, ev prog (callF prog m) none b (.comp .list (.c .non) (.lst []) [.mk (.nm 5) (.rng [.v 0]) []] [5]) [some (.int (n : Int)), some (.lst true (ts.map pD)), none, none, none, none] = .ok (.lst true ((List.replicate n []).map lkD)) [some (.int (n : Int)), some (.lst true (ts.map pD)), none, none, none, none] := fun b => by
    rw [comp_pure (ds := (List.range n).map nD) (f := fun _ => lkD [])]
    · have e : ((List.range n).map nD).map (fun _ => lkD []) = (List.replicate n []).map lkD := by
        apply List.ext_getElem?
        intro i
        simp only [List.getElem?_map, List.getElem?_replicate]
        by_cases h : i < n
        · simp [h]
        · simp [h]
      rw [e]
    · simp [hr]
    · simp; exact Nat.le_trans hn (by decide)
    · simp
    · simp
    · intro d hd
      simp [lkD]
  obtain ⟨en', h1, o3, o4, rfl⟩ := for_wpM (bd := bindT (.tp [.nm 3, .nm 4])) (body := exs prog (callF prog m) none [.app 2 [.v 3] (.v 4),
    .app 2 [.v 4] (.v 3)]) pD
    (fun i en => ∃ o3 o4, en = [some (.int (n : Int)), some (.lst false (ts.map pD)), some (.lst true (((ts.take i).foldl link1 (List.replicate n [])).map lkD)), o3, o4, none]) ts 0 [some (.int (n : Int)), some (.lst false (ts.map pD)), some (.lst true ((List.replicate n []).map lkD)), none, none, none] ⟨none, none, rfl⟩ (by
      rintro i ⟨a, b⟩ en hx ⟨o3, o4, rfl⟩
      obtain ⟨ha, hb⟩ := hp _ (List.mem_of_getElem? hx)
      rw [Nat.zero_add]
      obtain ⟨ls, hls⟩ : ∃ ls, ls = (ts.take i).foldl link1 (List.replicate n []) := ⟨_, rfl⟩
      have hll : ls.length = n := by rw [hls, linkF_len, List.length_replicate]
      have hrow : ∀ r ∈ ls, r.length ≤ 200000 := by
        intro r hr
        rw [hls] at hr
        have := linkF_row (ts := ts.take i) (ls := List.replicate n []) (m := 0) (by
          intro r hr
          rw [(List.mem_replicate.mp hr).2]; simp) r hr
        rw [List.length_take] at this
        omega
      have e : (ts.take (i + 1)).foldl link1 (List.replicate n []) = addL (addL ls a b) b a := by
        rw [List.take_add_one, hx, List.foldl_append, ← hls]
        rfl
      have hrow2 : ∀ r ∈ addL ls a b, r.length < 1000000 := by
        intro r hr
        unfold addL at hr
        rcases List.mem_or_eq_of_mem_set hr with z | z
        · have := hrow r z; omega
        · subst z
          rw [List.length_append]
          have : ((ls[a]?).getD []).length ≤ 200000 := by
            rw [List.getElem?_eq_getElem (by omega)]
            exact hrow _ (List.getElem_mem _)
          simp; omega
      rw [← hls, e]
      have q1 : ∀ en i, app1 (some (.lst true (ls.map lkD))) (.int (a : Int)) (.int (b : Int)) en i = some (en.set i (some (.lst true ((addL ls a b).map lkD)))) := fun en i => app_row (by omega) fun r hr => by have := hrow r hr; omega
      have q2 : ∀ en i, app1 (some (.lst true ((addL ls a b).map lkD))) (.int (b : Int)) (.int (a : Int)) en i = some (en.set i (some (.lst true ((addL (addL ls a b) b a).map lkD)))) := fun en i => app_row (by simp; omega) hrow2
      have q3 : isL1 (some (.lst true (ls.map lkD))) (.int (a : Int)) = true := isl_row (by omega)
      have q4 : isL1 (some (.lst true ((addL ls a b).map lkD))) (.int (b : Int)) = true := isl_row (by simp; omega)
      refine ⟨[some (.int (n : Int)), some (.lst false (ts.map pD)), some (.lst true ((addL (addL ls a b) b a).map lkD)), some (nD a), some (nD b), none], ?_, _, _, rfl⟩
      simp [pD, nD, q1, q2, q3, q4])
  rw [Nat.zero_add, List.take_length] at h1
  refine ⟨[some (.int (n : Int)), some (.lst false (ts.map pD))], ?_⟩
  simp [-List.map_replicate, f_links_of, startE, hc]
  rw [h1]
  simp [fin, linksF, maskP]
def flE (s0 s1 s2 : Option D) (ls : List (List Nat)) (S : Bf) (r : Nat) (o8 o9 : Option D) : Q.Env :=
  [s0, s1, s2, some (.lst false (ls.map lkF)), some (.lst true (S.many.map oD)), some (.lst true (S.before.map oD)), some (.lst true (S.queue.map nD)), some (.int (r : Int)), o8, o9]
theorem fl_in {m N s r p dp : Nat} {s0 s1 s2 o9 : Option D} {ls : List (List Nat)} {S : Bf} {os : List Nat} (hN : N ≤ 1000) (J : BfJ ts N s r p dp 0 [] S) (ho : ∀ o ∈ os, o < N ∧ Adj ts p o) : ∃ o9', forL (bindT (.nm 9)) (exs prog (callF prog m) none [.ifs (.cmp .is (.ixv 4 (.v 9)) (.c (.non)))
   [.sset 4 [] (.v 9) (.bin .add (.ixv 4 (.v 8)) (.c (.int 1))),
    .sset 5 [] (.v 9) (.v 8),
    .app 6 [] (.v 9)]
   []]) (os.map nD) (flE s0 s1 s2 ls S (r + 1) (some (nD p)) o9) = .ok .nx (flE s0 s1 s2 ls (os.foldl (bfIn p) S) (r + 1) (some (nD p)) o9') := by
  obtain ⟨en', h1, o9', rfl⟩ := for_wpM (bd := bindT (.nm 9)) (body := exs prog (callF prog m) none [.ifs (.cmp .is (.ixv 4 (.v 9)) (.c (.non)))
   [.sset 4 [] (.v 9) (.bin .add (.ixv 4 (.v 8)) (.c (.int 1))),
    .sset 5 [] (.v 9) (.v 8),
    .app 6 [] (.v 9)]
   []]) nD
    (fun k en => ∃ o9, en = flE s0 s1 s2 ls ((os.take k).foldl (bfIn p) S) (r + 1) (some (nD p)) o9) os 0 (flE s0 s1 s2 ls S (r + 1) (some (nD p)) o9) ⟨o9, rfl⟩ (by
      rintro k o en hx ⟨o9, rfl⟩
      rw [Nat.zero_add]
      have hk := bf_fold (os := os.take k) J fun o h => ho o (List.mem_of_mem_take h)
      rw [List.nil_append] at hk
      have e : (os.take (k + 1)).foldl (bfIn p) S = bfIn p ((os.take k).foldl (bfIn p) S) o := by
        rw [List.take_add_one, hx, List.foldl_append]
        rfl
      rw [e]
      generalize (os.take k).foldl (bfIn p) S = S' at hk ⊢
      have hoN := (ho o (List.mem_of_getElem? hx)).1
      have hpN := hk.ql p (List.mem_of_getElem? hk.at_)
      have hol : o < S'.many.length := by rw [hk.lm]; exact hoN
      have g1 : S'.many[o]? = some S'.many[o] := List.getElem?_eq_getElem hol
      have g2 : S'.many[p]? = some (some dp) := by
        have := hk.dp_
        unfold Bf.d at this
        have hl : p < S'.many.length := by rw [hk.lm]; exact hpN
        rw [List.getElem?_eq_getElem hl] at this ⊢
        have : S'.many[p] = some dp := this
        rw [this]
      have i1 : ∀ b en, ixR b (.lst true (S'.many.map oD)) (.int (o : Int)) en = .ok (oD S'.many[o]) en := fun b en => ixO g1 own_oD
      have hq : S'.queue.length ≤ N := nodup_le hk.qn hk.ql
      refine ⟨flE s0 s1 s2 ls (bfIn p S' o) (r + 1) (some (nD p)) (some (nD o)), ?_, _, rfl⟩
      unfold bfIn flE
      cases hm : S'.many[o] with
      | none =>
        rw [hm] at g1 i1
        rw [if_pos g1, g2]
        have i2 : ∀ b en, ixR b (.lst true (S'.many.map oD)) (.int (p : Int)) en = .ok (.int (dp : Int)) en := fun b en => ixO (f := oD) g2 own_oD
        have p1 : ∀ en i, putO (some (.lst true (S'.many.map oD))) (.int (o : Int)) (.int ((dp : Int) + 1)) en i = some (en.set i (some (.lst true ((S'.many.set o (some (dp + 1))).map oD)))) := fun en i => by
          rw [putN (by simp [hk.lm]; exact hoN), List.map_set]
          rfl
        have p2 : ∀ en i, putO (some (.lst true (S'.before.map oD))) (.int (o : Int)) (.int (p : Int)) en i = some (en.set i (some (.lst true ((S'.before.set o (some p)).map oD)))) := fun en i => by
          rw [putN (by simp [hk.lb]; exact hoN), List.map_set]
          rfl
        have hq2 : S'.queue.length < 1000000 := by omega
        simp [nD, i1, i2, oD, isNon, p1, p2, hq2]
      | some k =>
        rw [hm] at g1 i1
        rw [if_neg (by rw [g1]; simp)]
        simp [nD, i1, oD, isNon])
  rw [Nat.zero_add, List.take_length] at h1
  exact ⟨o9', h1⟩
theorem none_rep {n : Nat} : rep n [D.non] = (List.replicate n none).map oD := by
  induction n with
  | zero => rfl
  | succ n ih => rw [rep, ih, List.replicate_succ]; rfl
theorem mulNone {n : Nat} (h : n ≤ 1000) : binop .mul (.lst true [D.non]) (.int (n : Int)) = some (.lst true ((List.replicate n none).map oD)) := by
  have h1 : -(LIM : Int) < (n : Int) := by show -(1000000 : Int) < n; omega
  have h2 : (n : Int) < (LIM : Int) := by show (n : Int) < 1000000; omega
  have h3 : n ≤ LIM := by show n ≤ 1000000; omega
  have h4 : lstOk [D.non] = true := rfl
  simp [binop, h1, h2, h3, h4, none_rep]
theorem flood_s (hL : 3 ≤ L) {s : Nat} (M : MOk st rows goods) (hj : ∀ c ∈ job, c ∈ st) (hl : job.length ≤ 100) (hs : s < job.length + 1) : ∃ S ps, BfI (tiesOf (Tm rows st goods) job) (job.length + 1) s S.queue.length S ∧ callF prog L 8 [mD st rows goods, .str job, .int (s : Int)] = .ok (.tup [.lst false (S.many.map oD), .lst false (S.before.map oD)]) ps := by
  obtain ⟨m, rfl⟩ : ∃ m, L = m + 1 := ⟨L - 1, by omega⟩
  rw [callF_s (fn := f_flood_from) rfl rfl]
  have t1 := tie_list_s (L := m) (by omega) M hj hl
  obtain ⟨ts, hts⟩ : ∃ ts, ts = tiesOf (Tm rows st goods) job := ⟨_, rfl⟩
  have hadj : ∀ p ∈ ts, p.1 < job.length + 1 ∧ p.2 < job.length + 1 := fun p hp => by
    rw [hts] at hp
    exact adj_lt (.inl hp)
  have hlen : ts.length ≤ 10000 := by
    rw [hts]
    have := tiesN_len (T := Tm rows st goods) (job := job) (n := job.length)
    have h2 : job.length * job.length ≤ 100 * 100 := Nat.mul_le_mul hl hl
    unfold tiesOf
    omega
  rw [← hts] at t1 ⊢
  obtain ⟨ps2, t2⟩ := links_of_s (L := m) (by omega) (n := job.length + 1) (by omega) (by omega) hadj
  have e1 : ((job.length : Int) + 1) = ((job.length + 1 : Nat) : Int) := by omega
  obtain ⟨ls, hls⟩ : ∃ ls, ls = linksF (job.length + 1) ts := ⟨_, rfl⟩
  have hmem : ∀ {a b : Nat}, b ∈ ((ls[a]?).getD []) ↔ Adj ts a b := fun {a b} => by
    rw [hls]; exact linksF_mem hadj
  have hll : ls.length = job.length + 1 := by rw [hls]; unfold linksF; rw [linkF_len, List.length_replicate]
  rw [← hls] at t2
  have mn : binop .mul (.lst true [D.non]) (.int ((job.length : Int) + 1)) = some (.lst true ((List.replicate (job.length + 1) none).map oD)) := by
    rw [e1]; exact mulNone (by omega)
  have pn : ∀ en i, putO (some (.lst true ((List.replicate (job.length + 1) none).map oD))) (.int (s : Int)) (.int 0) en i = some (en.set i (some (.lst true (((List.replicate (job.length + 1) none).set s (some 0)).map oD)))) := fun en i => by
    rw [putN (by simpa using hs), List.map_set]
    rfl
  rw [e1.symm] at t2
  have e2 : ((0 : Nat) : Int) = 0 := rfl
  rw [exs_cut 6 (en1 := flE (some (mD st rows goods)) (some (.str job)) (some (.int (s : Int))) ls ⟨(List.replicate (job.length + 1) none).set s (some 0), List.replicate (job.length + 1) none, [s]⟩ 0 none none) (by
    simp [-List.map_replicate, -List.map_set, f_flood_from, startE, fillA, t1, t2, mn, fzs_lk, pn]
    simp [-List.map_replicate, -List.map_set, flE, nD])]
  have main := while_ind (c := ev prog (callF prog m) none true (.cmp .lt (.v 7) (.blt .len [.v 6]))) (body := exs prog (callF prog m) none [.asg (.nm 8) (.fz (.ixv 6 (.v 7))),
    .aug 7 .add (.c (.int 1)),
    .for (.nm 9) (.val (.ixv 3 (.v 8)))
   [.ifs (.cmp .is (.ixv 4 (.v 9)) (.c (.non)))
   [.sset 4 [] (.v 9) (.bin .add (.ixv 4 (.v 8)) (.c (.int 1))),
    .sset 5 [] (.v 9) (.v 8),
    .app 6 [] (.v 9)]
   []]])
    (fun k en => ∃ S r o8 o9, en = flE (some (mD st rows goods)) (some (.str job)) (some (.int (s : Int))) ls S r o8 o9 ∧ BfI ts (job.length + 1) s r S ∧ k = job.length + 1 - r)
    (fun en => ∃ S o8 o9, en = flE (some (mD st rows goods)) (some (.str job)) (some (.int (s : Int))) ls S S.queue.length o8 o9 ∧ BfI ts (job.length + 1) s S.queue.length S) (by
      rintro k en ⟨S, r, o8, o9, rfl, I, rfl⟩
      refine ⟨.bl (decide (r < S.queue.length)), flE (some (mD st rows goods)) (some (.str job)) (some (.int (s : Int))) ls S r o8 o9, by simp [flE], ?_⟩
      by_cases hr : r < S.queue.length
      · right
        refine ⟨by simp [hr], ?_⟩
        have hq : S.queue.length ≤ job.length + 1 := nodup_le I.qn I.ql
        have hp : S.queue[r]? = some S.queue[r] := List.getElem?_eq_getElem hr
        generalize hpp : S.queue[r] = p at hp
        have hpN := I.ql p (List.mem_of_getElem? hp)
        obtain ⟨dp, hdp⟩ := (I.qd p).mp (List.mem_of_getElem? hp)
        obtain ⟨os, hos⟩ : ∃ os, ls[p]? = some os := ⟨_, List.getElem?_eq_getElem (by omega)⟩
        have hoa : ∀ o, o ∈ os ↔ Adj ts p o := fun o => by
          have := hmem (a := p) (b := o)
          rw [hos] at this
          exact this
        have hoN : ∀ u v, Adj ts u v → v < job.length + 1 := fun u v h => by
          rcases h with h | h
          · exact (hadj _ h).2
          · exact (hadj _ h).1
        obtain ⟨o9', h3⟩ := fl_in (m := m) (s0 := some (mD st rows goods)) (s1 := some (.str job)) (s2 := some (.int (s : Int))) (o9 := o9) (ls := ls) (os := os) (by omega) ⟨I, hp, hdp, fun v hv => nomatch hv⟩ fun o h => ⟨hoN p o ((hoa o).mp h), (hoa o).mp h⟩
        refine ⟨job.length + 1 - (r + 1), flE (some (mD st rows goods)) (some (.str job)) (some (.int (s : Int))) ls (os.foldl (bfIn p) S) (r + 1) (some (nD p)) o9', by omega, ?_, _, _, _, _, rfl, bf_turn I hp hoa hoN, rfl⟩
        have i1 : ∀ b en, ixR b (.lst true (S.queue.map nD)) (.int (r : Int)) en = .ok (nD p) en := fun b en => ixO hp rfl
        have i2 : ∀ b en, ixR b (.lst false (ls.map lkF)) (.int (p : Int)) en = .ok (lkF os) en := fun b en => ixO hos rfl
        have i3 : items (fz (lkF os)) = some (os.map nD) := by simp [lkF]
        unfold flE at h3 ⊢
        simp only [Int.natCast_add, Int.natCast_one] at h3 ⊢
        simp only [nD] at h3 i1
        simp [i1, i2, i3, augD, nD, h3]
      · left
        have : r = S.queue.length := by have := I.rl; omega
        subst this
        exact ⟨by simp, S, o8, o9, rfl, I⟩) 1000000 (job.length + 1) (flE (some (mD st rows goods)) (some (.str job)) (some (.int (s : Int))) ls ⟨(List.replicate (job.length + 1) none).set s (some 0), List.replicate (job.length + 1) none, [s]⟩ 0 none none) (by omega) ⟨_, 0, none, none, rfl, bf_init hs, by omega⟩
  obtain ⟨en', h1, S, o8, o9, rfl, I⟩ := main
  refine ⟨S, [some (mD st rows goods), some (.str job), some (.int (s : Int))], I, ?_⟩
  have e3 : f_flood_from.body.drop 6 = [.while (.cmp .lt (.v 7) (.blt .len [.v 6])) [.asg (.nm 8) (.fz (.ixv 6 (.v 7))),
    .aug 7 .add (.c (.int 1)),
    .for (.nm 9) (.val (.ixv 3 (.v 8)))
   [.ifs (.cmp .is (.ixv 4 (.v 9)) (.c (.non)))
   [.sset 4 [] (.v 9) (.bin .add (.ixv 4 (.v 8)) (.c (.int 1))),
    .sset 5 [] (.v 9) (.v 8),
    .app 6 [] (.v 9)]
   []]], .ret (.tup [.v 4, .v 5])] := rfl
  have e4 : ∀ en, ex prog (callF prog m) none (.while (.cmp .lt (.v 7) (.blt .len [.v 6])) [.asg (.nm 8) (.fz (.ixv 6 (.v 7))),
    .aug 7 .add (.c (.int 1)),
    .for (.nm 9) (.val (.ixv 3 (.v 8)))
   [.ifs (.cmp .is (.ixv 4 (.v 9)) (.c (.non)))
   [.sset 4 [] (.v 9) (.bin .add (.ixv 4 (.v 8)) (.c (.int 1))),
    .sset 5 [] (.v 9) (.v 8),
    .app 6 [] (.v 9)]
   []]]) en = whileL (ev prog (callF prog m) none true (.cmp .lt (.v 7) (.blt .len [.v 6]))) (exs prog (callF prog m) none [.asg (.nm 8) (.fz (.ixv 6 (.v 7))),
    .aug 7 .add (.c (.int 1)),
    .for (.nm 9) (.val (.ixv 3 (.v 8)))
   [.ifs (.cmp .is (.ixv 4 (.v 9)) (.c (.non)))
   [.sset 4 [] (.v 9) (.bin .add (.ixv 4 (.v 8)) (.c (.int 1))),
    .sset 5 [] (.v 9) (.v 8),
    .app 6 [] (.v 9)]
   []]]) 1000000 en := fun en => by
    rw [ex]; rfl
  rw [e3, exs_cons, e4, h1]
  simp [flE, fin, f_flood_from, maskP]
end
end Pk07
end
section
set_option autoImplicit false
set_option linter.all false
set_option maxRecDepth 100000
namespace Pk07
open Q QR
def wHere : List Nat := [104, 101, 114, 101]
def wThere : List Nat := [116, 104, 101, 114, 101]
section
variable {L : Nat} {d d' : D} {st : List Nat} {rows : List (List Nat)} {goods job : List Nat} {ts : List (Nat × Nat)}
theorem job_ok (hj : ∀ c ∈ job, c ∈ st) : jobB st (.str job) = true := by
  show (job.all fun c => st.contains c) = true
  rw [List.all_eq_true]
  intro c hc
  simpa using hj c hc
theorem place_ok {n s : Nat} (h : s < n + 1) : placeB n (.int (s : Int)) = true := by
  have h1 : (0 : Int) ≤ (s : Int) := by omega
  have h2 : (s : Int) ≤ (n : Int) := by omega
  simp [placeB]; omega
theorem ties_between_s (hL : 5 ≤ L) {s : Nat} (M : MOk st rows goods) (hj : ∀ c ∈ job, c ∈ st) (hl : job.length ≤ 100) (hs : s < job.length + 1) : ∃ f ps, Dist (tiesOf (Tm rows st goods) job) (job.length + 1) s f ∧ callF prog L 10 [mD st rows goods, .str job, .int (s : Int)] = .ok (.tup (((List.range (job.length + 1)).map f).map oD)) ps := by
  obtain ⟨m, rfl⟩ : ∃ m, L = m + 1 := ⟨L - 1, by omega⟩
  rw [callF_s (fn := f_ties_between) rfl rfl]
  obtain ⟨S, ps, I, t1⟩ := flood_s (L := m) (by omega) M hj hl hs
  have h1 := demand_web_s (L := m) (by omega) (st := st) (rest := [.tup (rows.map rwD), rwD goods]) (d := .str job) (ps := [(wHere, .int (s : Int))]) (by simp [niceB]; omega) (by simp [niceB])
  rw [job_ok hj] at h1
  simp only [badP, jlen_s, place_ok hs, if_true, plD, List.map_cons, List.map_nil, wHere] at h1
  refine ⟨S.d, [some (mD st rows goods), some (.str job), some (.int (s : Int))], bf_dist I, ?_⟩
  have h1 : callF prog m 5 [mD st rows goods, .str job, .tup [.tup [.str [104, 101, 114, 101], .int (s : Int)]]] = _ := h1
  rw [← many_eq I.lm]
  simp [f_ties_between, startE, fillA, h1, t1, fin, maskP]
theorem walk_of_s (hL : 5 ≤ L) {s e : Nat} (M : MOk st rows goods) (hj : ∀ c ∈ job, c ∈ st) (hl : job.length ≤ 100) (hs : s < job.length + 1) (he : e < job.length + 1) : ∃ f ps, Dist (tiesOf (Tm rows st goods) job) (job.length + 1) s f ∧ (match f e with
    | none => callF prog L 9 [mD st rows goods, .str job, .int (s : Int), .int (e : Int)] = .ok .non ps
    | some k => ∃ ws, callF prog L 9 [mD st rows goods, .str job, .int (s : Int), .int (e : Int)] = .ok (.tup (ws.map nD)) ps ∧ ws.length = k + 1 ∧ Walk (tiesOf (Tm rows st goods) job) s e ws) := by
  obtain ⟨m, rfl⟩ : ∃ m, L = m + 1 := ⟨L - 1, by omega⟩
  rw [callF_s (fn := f_walk_of) rfl rfl]
  obtain ⟨S, ps, I, t1⟩ := flood_s (L := m) (by omega) M hj hl hs
  have h1 := demand_web_s (L := m) (by omega) (st := st) (rest := [.tup (rows.map rwD), rwD goods]) (d := .str job) (ps := [(wHere, .int (s : Int)), (wThere, .int (e : Int))]) (by simp [niceB]; omega) (by simp [niceB])
  rw [job_ok hj] at h1
  simp only [badP, jlen_s, place_ok hs, place_ok he, if_true, plD, List.map_cons, List.map_nil, wHere, wThere] at h1
  have h1 : callF prog m 5 [mD st rows goods, .str job, .tup [.tup [.str [104, 101, 114, 101], .int (s : Int)], .tup [.str [116, 104, 101, 114, 101], .int (e : Int)]]] = _ := h1
  refine ⟨S.d, [some (mD st rows goods), some (.str job), some (.int (s : Int)), some (.int (e : Int))], bf_dist I, ?_⟩
  have hel : e < S.many.length := by rw [I.lm]; exact he
  have g1 : S.many[e]? = some S.many[e] := List.getElem?_eq_getElem hel
  have i1 : ∀ b en, ixR b (.lst false (S.many.map oD)) (.int (e : Int)) en = .ok (oD S.many[e]) en := fun b en => ixO g1 own_oD
  have hde : S.d e = S.many[e] := by unfold Bf.d; rw [g1]; rfl
  rw [hde]
  cases hm : S.many[e] with
  | none =>
    rw [hm] at i1
    simp [f_walk_of, startE, fillA, h1, t1, i1, oD, isNon, fin, maskP]
  | some k0 =>
    rw [hm] at i1 hde
    rw [exs_cut 4 (en1 := [some (mD st rows goods), some (.str job), some (.int (s : Int)), some (.int (e : Int)), some (.lst false (S.many.map oD)), some (.lst false (S.before.map oD)), some (.lst true [.int (e : Int)])]) (by
      simp [f_walk_of, startE, fillA, h1, t1, i1, oD, nD, isNon])]
    have main := while_ind (c := ev prog (callF prog m) none true (.cmp .ne (.ixv 6 (.neg (.c (.int 1)))) (.v 2))) (body := exs prog (callF prog m) none [.app 6 [] (.ixv 5 (.ixv 6 (.neg (.c (.int 1)))))])
      (fun k en => ∃ ws v, en = [some (mD st rows goods), some (.str job), some (.int (s : Int)), some (.int (e : Int)), some (.lst false (S.many.map oD)), some (.lst false (S.before.map oD)), some (.lst true (ws.map nD))] ∧ ws.getLast? = some v ∧ S.d v = some k ∧ ws.length + k = k0 + 1 ∧ Back (tiesOf (Tm rows st goods) job) e ws)
      (fun en => ∃ ws, en = [some (mD st rows goods), some (.str job), some (.int (s : Int)), some (.int (e : Int)), some (.lst false (S.many.map oD)), some (.lst false (S.before.map oD)), some (.lst true (ws.map nD))] ∧ ws.getLast? = some s ∧ ws.length = k0 + 1 ∧ Back (tiesOf (Tm rows st goods) job) e ws) (by
        rintro k en ⟨ws, v, rfl, hv, hd, hlen, B⟩
        have j1 : ∀ b en, ixR b (.lst true (ws.map nD)) (.int (-1)) en = .ok (.int (v : Int)) en := fun b en => ixLast (by rw [List.getLast?_map, hv]; rfl) rfl
        refine ⟨.bl (!decide (v = s)), [some (mD st rows goods), some (.str job), some (.int (s : Int)), some (.int (e : Int)), some (.lst false (S.many.map oD)), some (.lst false (S.before.map oD)), some (.lst true (ws.map nD))], by simp [j1], ?_⟩
        by_cases h : v = s
        · left
          subst h
          have hz := (I.h0 v).mpr rfl
          rw [hd] at hz
          cases hz
          exact ⟨by simp, ws, rfl, hv, by omega, B⟩
        · right
          refine ⟨by simp [h], ?_⟩
          cases k with
          | zero => exact absurd ((I.h0 v).mp hd) h
          | succ k =>
            obtain ⟨u, hb, hu, ha⟩ := I.back v k hd
            refine ⟨k, [some (mD st rows goods), some (.str job), some (.int (s : Int)), some (.int (e : Int)), some (.lst false (S.many.map oD)), some (.lst false (S.before.map oD)), some (.lst true ((ws ++ [u]).map nD))], by omega, ?_, ws ++ [u], u, rfl, by simp, hu, by simp; omega, B.push hv ha⟩
            have j2 : ∀ b en, ixR b (.lst false (S.before.map oD)) (.int (v : Int)) en = .ok (.int (u : Int)) en := fun b en => ixO (f := oD) hb own_oD
            have hk0 : k0 < job.length + 1 := ((bf_dist I).lt e k0 hde).1
            have hl2 : ws.length < 1000000 := by omega
            simp [j1, j2, hl2, nD]) 1000000 k0 [some (mD st rows goods), some (.str job), some (.int (s : Int)), some (.int (e : Int)), some (.lst false (S.many.map oD)), some (.lst false (S.before.map oD)), some (.lst true [.int (e : Int)])] (by have := ((bf_dist I).lt e k0 hde).1; omega) ⟨[e], e, rfl, rfl, hde, by simp; omega, ⟨rfl, fun k u v hu hv => by simp at hv⟩⟩
    obtain ⟨en', q1, ws, rfl, q2, q3, B⟩ := main
    have e3 : f_walk_of.body.drop 4 = [.while (.cmp .ne (.ixv 6 (.neg (.c (.int 1)))) (.v 2)) [.app 6 [] (.ixv 5 (.ixv 6 (.neg (.c (.int 1)))))], .ret (.blt .tuple [.rev (.v 6)])] := rfl
    have e4 : ∀ en, ex prog (callF prog m) none (.while (.cmp .ne (.ixv 6 (.neg (.c (.int 1)))) (.v 2)) [.app 6 [] (.ixv 5 (.ixv 6 (.neg (.c (.int 1)))))]) en = whileL (ev prog (callF prog m) none true (.cmp .ne (.ixv 6 (.neg (.c (.int 1)))) (.v 2))) (exs prog (callF prog m) none [.app 6 [] (.ixv 5 (.ixv 6 (.neg (.c (.int 1)))))]) 1000000 en := fun en => by
      rw [ex]; rfl
    refine ⟨ws.reverse, ?_, by simp [q3], B.walk q2⟩
    have e5 : revD (.lst true (ws.map nD)) = some (.lst true (ws.reverse.map nD)) := by
      simp [revD]
    rw [e3, exs_cons, e4, q1]
    simp [-List.map_reverse, e5, fin, f_walk_of, maskP]
theorem walk_of_bad (hL : 5 ≤ L) {rest : List D} {d1 d2 : D} {w : List Nat} (hd : niceB d = true) (h1 : niceB d1 = true) (h2 : niceB d2 = true) (h : (if jobB st d then badP (jlen d) [(wHere, d1), (wThere, d2)] else some wJob) = some w) : ∃ ps, callF prog L 9 [.tup (.str st :: rest), d, d1, d2] = .ex 4 [.str w, .int (-1)] ps := by
  obtain ⟨m, rfl⟩ : ∃ m, L = m + 1 := ⟨L - 1, by omega⟩
  rw [callF_s (fn := f_walk_of) rfl rfl]
  have q := demand_web_s (L := m) (by omega) (st := st) (rest := rest) (ps := [(wHere, d1), (wThere, d2)]) hd (by
    intro p hp
    simp only [List.mem_cons, List.not_mem_nil, or_false] at hp
    rcases hp with rfl | rfl <;> assumption)
  rw [h] at q
  simp only [plD, List.map_cons, List.map_nil, wHere, wThere] at q
  refine ⟨[some (.tup (.str st :: rest)), some d, some d1, some d2], ?_⟩
  simp [f_walk_of, startE, fillA, own_nice hd, own_nice h1, own_nice h2, fz_nice _ h1, fz_nice _ h2, q, fin, maskP]
theorem ties_between_bad (hL : 5 ≤ L) {rest : List D} {d1 : D} {w : List Nat} (hd : niceB d = true) (h1 : niceB d1 = true) (h : (if jobB st d then badP (jlen d) [(wHere, d1)] else some wJob) = some w) : ∃ ps, callF prog L 10 [.tup (.str st :: rest), d, d1] = .ex 4 [.str w, .int (-1)] ps := by
  obtain ⟨m, rfl⟩ : ∃ m, L = m + 1 := ⟨L - 1, by omega⟩
  rw [callF_s (fn := f_ties_between) rfl rfl]
  have q := demand_web_s (L := m) (by omega) (st := st) (rest := rest) (ps := [(wHere, d1)]) hd (by
    intro p hp
    simp only [List.mem_cons, List.not_mem_nil, or_false] at hp
    rcases hp with rfl; assumption)
  rw [h] at q
  simp only [plD, List.map_cons, List.map_nil, wHere] at q
  refine ⟨[some (.tup (.str st :: rest)), some d, some d1], ?_⟩
  simp [f_ties_between, startE, fillA, own_nice hd, own_nice h1, fz_nice _ h1, q, fin, maskP]
end
end Pk07
end
section
set_option autoImplicit false
set_option linter.all false
set_option maxRecDepth 100000
namespace Pk07
open Q QR
structure LOk (st : List Nat) : Prop where
  asc : st.Pairwise (· < ·)
  low : ∀ c ∈ st, 97 ≤ c ∧ c ≤ 122
  pos : 0 < st.length
  few : st.length ≤ 4
theorem LOk.nd {st : List Nat} (h : LOk st) : st.Nodup := h.asc.imp fun h => Nat.ne_of_lt h
section
variable {L : Nat} {d : D} {st : List Nat} {tests : List (List Nat)}
theorem alpha_at {s : Nat} (h : s < 26) : ([97, 98, 99, 100, 101, 102, 103, 104, 105, 106, 107, 108, 109, 110, 111, 112, 113, 114, 115, 116, 117, 118, 119, 120, 121, 122] : List Nat)[s]? = some (97 + s) := by
  have : ∀ s : Fin 26, ([97, 98, 99, 100, 101, 102, 103, 104, 105, 106, 107, 108, 109, 110, 111, 112, 113, 114, 115, 116, 117, 118, 119, 120, 121, 122] : List Nat)[s.val]? = some (97 + s.val) := by decide
  exact this ⟨s, h⟩
theorem letters_s (hL : 2 ≤ L) {a b : Int} {k : Nat} (hk : 0 < k) (hk2 : k ≤ 4) : ∃ st a' b', callF prog L 13 [pl a b, .int (k : Int)] = .ok (.str st) [some (pl a' b'), some (.int (k : Int))] ∧ LOk st ∧ st.length = k := by
  obtain ⟨m, rfl⟩ : ∃ m, L = m + 1 := ⟨L - 1, by omega⟩
  rw [callF_s (fn := f__law_letters) rfl rfl]
  obtain ⟨v, a1, b1, t1, hv⟩ := next_s (L := m) (by omega) (a := a) (b := b) (k := 17) (by omega) (by omega)
  obtain ⟨en', h1, a', b', spot, found, o4, rfl, h2, h3, h4, h5, h6⟩ := for_wpM (bd := bindT (.nm 4)) (body := exs prog (callF prog m) none [.asg (.nm 3) (.fz (.bin .add (.v 3) (.ix (.c (.str [97, 98, 99, 100, 101, 102, 103, 104, 105, 106, 107, 108, 109, 110, 111, 112, 113, 114, 115, 116, 117, 118, 119, 120, 121, 122])) (.v 2)))),
    .asg (.nm 2) (.fz (.bin .add (.bin .add (.v 2) (.c (.int 1))) (.call 12 [.va 0, .c (.int 3)])))]) nD
    (fun i en => ∃ (a b : Int) (spot : Nat) (found : List Nat) (o4 : Option D), en = [some (pl a b), some (.int (k : Int)), some (.int (spot : Int)), some (.str found), o4] ∧ found.length = i ∧ spot ≤ 16 + 3 * i ∧ found.Pairwise (· < ·) ∧ (∀ c ∈ found, 97 ≤ c ∧ c ≤ 122) ∧ ∀ c ∈ found, c < 97 + spot) (List.range k) 0 [some (pl a1 b1), some (.int (k : Int)), some (.int (v : Int)), some (.str []), none] ⟨a1, b1, v, [], none, rfl, rfl, by omega, by simp, by simp, by simp⟩ (by
      rintro i x en hx ⟨a, b, spot, found, o4, rfl, h2, h3, h4, h5, h6⟩
      obtain ⟨hi, hx⟩ := List.getElem?_eq_some_iff.mp hx
      simp at hi hx
      subst hx
      rw [Nat.zero_add] at h2 h3 ⊢
      have hs : spot < 26 := by omega
      have g : ∀ b en, ixR b (.str [97, 98, 99, 100, 101, 102, 103, 104, 105, 106, 107, 108, 109, 110, 111, 112, 113, 114, 115, 116, 117, 118, 119, 120, 121, 122]) (.int (spot : Int)) en = .ok (.str [97 + spot]) en := fun b en => ixR_S (alpha_at hs)
      obtain ⟨w, a2, b2, t2, hw⟩ := next_s (L := m) (by omega) (a := a) (b := b) (k := 3) (by omega) (by omega)
      have hadd : binop .add (.str found) (.str [97 + spot]) = some (.str (found ++ [97 + spot])) := addSS (by simp; omega)
      refine ⟨[some (pl a2 b2), some (.int (k : Int)), some (.int ((spot + 1 + w : Nat) : Int)), some (.str (found ++ [97 + spot])), some (nD i)], ?_, a2, b2, spot + 1 + w, found ++ [97 + spot], some (nD i), rfl, by simp [h2], by omega, ?_, ?_, ?_⟩
      · simp [fillA, g, hadd, t2]
      · rw [List.pairwise_append]
        exact ⟨h4, by simp, fun c hc e he => by rw [List.mem_singleton.mp he]; exact h6 c hc⟩
      · intro c hc
        rcases List.mem_append.mp hc with z | z
        · exact h5 c z
        · rw [List.mem_singleton.mp z]; omega
      · intro c hc
        rcases List.mem_append.mp hc with z | z
        · have := h6 c z; omega
        · rw [List.mem_singleton.mp z]; omega)
  rw [Nat.zero_add, List.length_range] at h2
  have hr : rngD [.int (k : Int)] = some ((List.range k).map nD) := rngN (by omega)
  refine ⟨found, a', b', ?_, ⟨h4, h5, by omega, by omega⟩, h2⟩
  simp [f__law_letters, startE, fillA, t1, hr]
  rw [h1]
  simp [fin, maskP]
def Nw (o : Option D) : Prop := ∀ d, o = some d → own d = false
theorem Nw.non : Nw none := fun d h => nomatch h
theorem Nw.som {d : D} (h : own d = false) : Nw (some d) := fun e he => by cases he; exact h
def ssD (o : Bool) (ts : List (List Nat)) : D := .lst o (ts.map D.str)
@[simp] theorem own_ssD {o : Bool} {ts : List (List Nat)} : own (ssD o ts) = o := rfl
@[simp] theorem fz_ssD {o : Bool} {ts : List (List Nat)} : fz (ssD o ts) = ssD false ts := by simp [ssD]
theorem rd_in {m : Nat} {s0 s1 o4 o5 o6 o7 o8 o10 o11 o9 : Option D} {hs : List (List Nat)} {one : List Nat} (hl : hs.length + one.length ≤ 1000) (hw : Nw o9) : ∃ o9', Nw o9' ∧ forL (bindT (.nm 9)) (exs prog (callF prog m) none [.ifs (.cmp .notin (.sl (.v 3) (.c .non) (.v 9)) (.v 2))
   [.app 2 [] (.sl (.v 3) (.c .non) (.v 9))]
   []]) ((List.range (one.length - 1)).map fun k => nD (1 + k)) [s0, s1, some (ssD true hs), some (.str one), o4, o5, o6, o7, o8, o9, o10, o11] = .ok .nx [s0, s1, some (ssD true (hd1 hs one)), some (.str one), o4, o5, o6, o7, o8, o9', o10, o11] := by
  obtain ⟨en', h1, hs', o9', rfl, h2, h3, h4⟩ := for_wpM (bd := bindT (.nm 9)) (body := exs prog (callF prog m) none [.ifs (.cmp .notin (.sl (.v 3) (.c .non) (.v 9)) (.v 2))
   [.app 2 [] (.sl (.v 3) (.c .non) (.v 9))]
   []]) (fun k => nD (1 + k))
    (fun i en => ∃ (hs' : List (List Nat)) (o9 : Option D), en = [s0, s1, some (ssD true hs'), some (.str one), o4, o5, o6, o7, o8, o9, o10, o11] ∧ hs' = (List.range i).foldl (fun hs k => addN hs (one.take (k + 1))) hs ∧ hs'.length ≤ hs.length + i ∧ Nw o9) (List.range (one.length - 1)) 0 [s0, s1, some (ssD true hs), some (.str one), o4, o5, o6, o7, o8, o9, o10, o11] ⟨hs, o9, rfl, rfl, by omega, hw⟩ (by
      rintro i x en hx ⟨hs', o9, rfl, h2, h3, h4⟩
      obtain ⟨hi, hx⟩ := List.getElem?_eq_some_iff.mp hx
      simp at hi hx
      subst hx
      rw [Nat.zero_add] at h2 h3 ⊢
      have hsl : slice (.str one) none (some (1 + (i : Int))) = some (.str (one.take (i + 1))) := by
        have := slTo (x := one) (k := i + 1)
        rw [show ((i + 1 : Nat) : Int) = 1 + (i : Int) by omega] at this
        exact this
      have e : (List.range (i + 1)).foldl (fun hs k => addN hs (one.take (k + 1))) hs = addN hs' (one.take (i + 1)) := by
        rw [List.range_succ, List.foldl_append, ← h2]
        rfl
      refine ⟨[s0, s1, some (ssD true (addN hs' (one.take (i + 1)))), some (.str one), o4, o5, o6, o7, o8, some (nD (1 + i)), o10, o11], ?_, addN hs' (one.take (i + 1)), some (nD (1 + i)), rfl, e.symm, ?_, Nw.som rfl⟩
      · unfold addN
        have hl2 : hs'.length < 1000000 := by omega
        by_cases h : one.take (i + 1) ∈ hs'
        · simp [nD, ssD, hsl, h]
        · simp [nD, ssD, hsl, h, hl2]
      · unfold addN
        split
        · omega
        · rw [List.length_append]; simp; omega)
  rw [Nat.zero_add, List.length_range] at h2
  refine ⟨o9', h4, ?_⟩
  rw [h1, h2]
  rfl
def trD (heads tests : List (List Nat)) (st h : List Nat) : D := rwD (trow heads tests st h)
theorem rd_row {m : Nat} {heads : List (List Nat)} {s3 o5 o7 o8 o9 o11 : Option D} {h : List Nat} (hst : st.length ≤ 4) (hlen : h.length ≤ 500) (hu : ∀ x ∈ heads, ∀ c ∈ x, c < 1114112) (hw : Nw o11) : ∃ o11', Nw o11' ∧ forL (bindT (.nm 11)) (exs prog (callF prog m) none [.ifs (.cmp .isin (.bin .add (.v 6) (.v 11)) (.v 2))
   [.app 10 [] (.mth .index (.v 2) [.bin .add (.v 6) (.v 11)])]
   [.ifs (.cmp .isin (.bin .add (.v 6) (.v 11)) (.v 1))
   [.app 10 [] (.v 4)]
   [.app 10 [] (.bin .add (.v 4) (.c (.int 1)))]]]) (st.map fun c => D.str [c]) [some (.str st), some (ssD false tests), some (ssD false heads), s3, some (.int (heads.length : Int)), o5, some (.str h), o7, o8, o9, some (.lst true []), o11] = .ok .nx [some (.str st), some (ssD false tests), some (ssD false heads), s3, some (.int (heads.length : Int)), o5, some (.str h), o7, o8, o9, some (.lst true ((trow heads tests st h).map nD)), o11'] := by
  obtain ⟨en', h1, o11', rfl, h4⟩ := for_wpM (bd := bindT (.nm 11)) (body := exs prog (callF prog m) none [.ifs (.cmp .isin (.bin .add (.v 6) (.v 11)) (.v 2))
   [.app 10 [] (.mth .index (.v 2) [.bin .add (.v 6) (.v 11)])]
   [.ifs (.cmp .isin (.bin .add (.v 6) (.v 11)) (.v 1))
   [.app 10 [] (.v 4)]
   [.app 10 [] (.bin .add (.v 4) (.c (.int 1)))]]]) (fun c => D.str [c])
    (fun i en => ∃ o11, en = [some (.str st), some (ssD false tests), some (ssD false heads), s3, some (.int (heads.length : Int)), o5, some (.str h), o7, o8, o9, some (.lst true ((trow heads tests (st.take i) h).map nD)), o11] ∧ Nw o11) st 0 [some (.str st), some (ssD false tests), some (ssD false heads), s3, some (.int (heads.length : Int)), o5, some (.str h), o7, o8, o9, some (.lst true []), o11] ⟨o11, rfl, hw⟩ (by
      rintro i c en hx ⟨o11, rfl, h4⟩
      have hi := (List.getElem?_eq_some_iff.mp hx).1
      rw [Nat.zero_add]
      have hadd : binop .add (.str h) (.str [c]) = some (.str (h ++ [c])) := addSS (by simp; omega)
      have e : trow heads tests (st.take (i + 1)) h = trow heads tests (st.take i) h ++ [if h ++ [c] ∈ heads then heads.idxOf (h ++ [c]) else if h ++ [c] ∈ tests then heads.length else heads.length + 1] := by
        unfold trow
        rw [List.take_add_one, hx, List.map_append]
        rfl
      have hl2 : ((trow heads tests (st.take i) h)).length < 1000000 := by
        unfold trow
        rw [List.length_map, List.length_take]
        omega
      refine ⟨[some (.str st), some (ssD false tests), some (ssD false heads), s3, some (.int (heads.length : Int)), o5, some (.str h), o7, o8, o9, some (.lst true ((trow heads tests (st.take (i + 1)) h).map nD)), some (.str [c])], ?_, _, rfl, Nw.som rfl⟩
      rw [e]
      by_cases g : h ++ [c] ∈ heads
      · have hmt : ∀ xs : List D, mthTy .index (.lst false xs) = true := fun _ => rfl
        have hix : ∀ o, mth .index (.lst o (heads.map D.str)) [.str (h ++ [c])] = some (.int ((heads.idxOf (h ++ [c]) : Nat) : Int)) := fun o => indexS g hu
        simp [ssD, hadd, g, hix, hmt, hl2, nD]
      · by_cases g2 : h ++ [c] ∈ tests
        · simp [ssD, hadd, g, g2, hl2, nD]
        · simp [ssD, hadd, g, g2, hl2, nD])
  rw [Nat.zero_add, List.take_length] at h1
  exact ⟨o11', h4, h1⟩
theorem reader_s (hL : 1 ≤ L) {o : Bool} {n : Nat} (hst : st.length ≤ 4) (hn : ∀ t ∈ tests, t.length ≤ n) (hb : tests.length * n ≤ 100) (hu : ∀ t ∈ tests, ∀ c ∈ t, c < 1114112) : callF prog L 14 [.str st, ssD o tests] = .ok (mD st (trows tests st) (tgoods tests)) [some (.str st), some (ssD false tests)] := by
  obtain ⟨m, rfl⟩ : ∃ m, L = m + 1 := ⟨L - 1, by omega⟩
  rw [callF_s (fn := f__law_reader) rfl rfl]
  
  obtain ⟨en1, h1, o3, o9, rfl, hw9⟩ := for_wpM (bd := bindT (.nm 3)) (body := exs prog (callF prog m) none [.for (.nm 9) (.rng [.c (.int 1), .blt .len [.v 3]])
   [.ifs (.cmp .notin (.sl (.v 3) (.c .non) (.v 9)) (.v 2))
   [.app 2 [] (.sl (.v 3) (.c .non) (.v 9))]
   []]]) D.str
    (fun i en => ∃ o3 o9, en = [some (.str st), some (ssD false tests), some (ssD true ((tests.take i).foldl hd1 [[]])), o3, none, none, none, none, none, o9, none, none] ∧ Nw o9) tests 0 [some (.str st), some (ssD false tests), some (ssD true [[]]), none, none, none, none, none, none, none, none, none] ⟨none, none, rfl, Nw.non⟩ (by
      rintro i one en hx ⟨o3, o9, rfl, h4⟩
      have hi := (List.getElem?_eq_some_iff.mp hx).1
      have ho := hn one (List.mem_of_getElem? hx)
      rw [Nat.zero_add]
      obtain ⟨hs, ehs⟩ : ∃ hs, hs = (tests.take i).foldl hd1 [[]] := ⟨_, rfl⟩
      have hl := hdF_len (tests := tests.take i) (n := n) fun t ht => hn t (List.mem_of_mem_take ht)
      have hl2 : hs.length ≤ 1 + 100 := by
        rw [ehs]
        have h3 : (tests.take i).length * n ≤ tests.length * n := Nat.mul_le_mul_right _ (by simp; omega)
        unfold hdF at hl
        omega
      have hon : one.length ≤ 100 := by
        have : 0 < tests.length := by omega
        have := Nat.le_mul_of_pos_left n this
        omega
      have e : (tests.take (i + 1)).foldl hd1 [[]] = hd1 hs one := by
        rw [List.take_add_one, hx, List.foldl_append, ← ehs]
        rfl
      rw [← ehs, e]
      obtain ⟨o9', hw', h2⟩ := rd_in (m := m) (s0 := some (.str st)) (s1 := some (ssD false tests)) (o4 := none) (o5 := none) (o6 := none) (o7 := none) (o8 := none) (o9 := o9) (o10 := none) (o11 := none) (hs := hs) (one := one) (by omega) h4
      refine ⟨[some (.str st), some (ssD false tests), some (ssD true (hd1 hs one)), some (.str one), none, none, none, none, none, o9', none, none], ?_, _, _, rfl, hw'⟩
      have hr : rngD [.int 1, .int (one.length : Int)] = some ((List.range (one.length - 1)).map fun k => nD (1 + k)) := rngN2 (a := 1) (by omega) (by omega)
      simp [hr]
      rw [h2]
      simp)
  rw [Nat.zero_add, List.take_length] at h1
  have hlen := hdF_len hn
  have hpre : ∀ h ∈ hdF tests, h.length ≤ 100 := fun h hh => by
    rcases hdF_mem.mp hh with z | ⟨one, z1, k, z2, z3, z4⟩
    · rw [z]; simp
    · rw [z4, List.length_take]
      have := hn one z1
      have : 0 < tests.length := List.length_pos_of_mem z1
      have := Nat.le_mul_of_pos_left n this
      omega
  have hun : ∀ x ∈ hdF tests, ∀ c ∈ x, c < 1114112 := fun h hh c hc => by
    rcases hdF_mem.mp hh with z | ⟨one, z1, k, z2, z3, z4⟩
    · rw [z] at hc; cases hc
    · rw [z4] at hc
      exact hu one z1 c (List.mem_of_mem_take hc)
  
  obtain ⟨en2, h2, o6, o10, o11, rfl, hw11⟩ := for_wpM (bd := bindT (.nm 6)) (body := exs prog (callF prog m) none [.asg (.nm 10) (.lst []),
    .for (.nm 11) (.val (.v 0))
   [.ifs (.cmp .isin (.bin .add (.v 6) (.v 11)) (.v 2))
   [.app 10 [] (.mth .index (.v 2) [.bin .add (.v 6) (.v 11)])]
   [.ifs (.cmp .isin (.bin .add (.v 6) (.v 11)) (.v 1))
   [.app 10 [] (.v 4)]
   [.app 10 [] (.bin .add (.v 4) (.c (.int 1)))]]],
    .app 5 [] (.blt .tuple [.v 10])]) D.str
    (fun i en => ∃ o6 o10 o11, en = [some (.str st), some (ssD false tests), some (ssD false (hdF tests)), o3, some (.int ((hdF tests).length : Int)), some (.lst true ((((hdF tests).take i).map (trow (hdF tests) tests st)).map rwD)), o6, none, none, o9, o10, o11] ∧ Nw o11) (hdF tests) 0 [some (.str st), some (ssD false tests), some (ssD false (hdF tests)), o3, some (.int ((hdF tests).length : Int)), some (.lst true []), none, none, none, o9, none, none] ⟨none, none, none, rfl, Nw.non⟩ (by
      rintro i h en hx ⟨o6, o10, o11, rfl, h4⟩
      have hi := (List.getElem?_eq_some_iff.mp hx).1
      rw [Nat.zero_add]
      obtain ⟨o11', hw', h3⟩ := rd_row (m := m) (st := st) (tests := tests) (heads := hdF tests) (s3 := o3) (o5 := some (.lst true ((((hdF tests).take i).map (trow (hdF tests) tests st)).map rwD))) (o7 := none) (o8 := none) (o9 := o9) (o11 := o11) (h := h) hst (by have := hpre h (List.mem_of_getElem? hx); omega) hun h4
      have e : ((hdF tests).take (i + 1)).map (trow (hdF tests) tests st) = ((hdF tests).take i).map (trow (hdF tests) tests st) ++ [trow (hdF tests) tests st h] := by
        rw [List.take_add_one, hx, List.map_append]
        rfl
      refine ⟨[some (.str st), some (ssD false tests), some (ssD false (hdF tests)), o3, some (.int ((hdF tests).length : Int)), some (.lst true ((((hdF tests).take (i + 1)).map (trow (hdF tests) tests st)).map rwD)), some (.str h), none, none, o9, some (.lst true ((trow (hdF tests) tests st h).map nD)), o11'], ?_, _, _, _, rfl, hw'⟩
      rw [e]
      have hl3 : min i (hdF tests).length < 1000000 := by omega
      simp [-List.map_map, -List.map_take]
      rw [h3]
      simp [-List.map_map, -List.map_take, hl3, rwD])
  rw [Nat.zero_add, List.take_length] at h2
  have hr : rngD [.int ((hdF tests).length : Int)] = some ((List.range (hdF tests).length).map nD) := rngN (by omega)
  obtain ⟨rs, hrs⟩ : ∃ rs, rs = (hdF tests).map (trow (hdF tests) tests st) := ⟨_, rfl⟩
  rw [← hrs] at h2
  have hcd : ∀ b, ev prog (callF prog m) none b (.comp .list (.c .non) (.bin .add (.v 4) (.c (.int 1))) [.mk (.nm 11) (.val (.v 0)) []] [11]) [some (.str st), some (ssD false tests), some (ssD false (hdF tests)), o3, some (.int ((hdF tests).length : Int)), some (.lst true (rs.map rwD)), o6, none, none, o9, o10, o11] = .ok (.lst true ((st.map fun _ => (hdF tests).length + 1).map nD)) [some (.str st), some (ssD false tests), some (ssD false (hdF tests)), o3, some (.int ((hdF tests).length : Int)), some (.lst true (rs.map rwD)), o6, none, none, o9, o10, o11] := fun b => by
    rw [comp_pure (ds := st.map fun c => D.str [c]) (f := fun _ => nD ((hdF tests).length + 1))]
    · rw [List.map_map, List.map_map]; rfl
    · simp
    · rw [List.length_map]; exact Nat.le_trans hst (by decide)
    · simp
    · intro d hd
      have := hw11 d
      simpa using this hd
    · intro d hd
      obtain ⟨c, hc, rfl⟩ := List.mem_map.mp hd
      simp [nD]
  have hcg : ∀ b, ev prog (callF prog m) none b (.comp .list (.c .non) (.v 9) [.mk (.nm 9) (.rng [.v 4]) [.cmp .isin (.ixv 2 (.v 9)) (.v 1)]] [9]) [some (.str st), some (ssD false tests), some (ssD false (hdF tests)), o3, some (.int ((hdF tests).length : Int)), some (.lst true (rs.map rwD)), o6, some (rwD (st.map fun _ => (hdF tests).length + 1)), none, o9, o10, o11] = .ok (.lst true (((List.range (hdF tests).length).filter fun k => decide (((hdF tests)[k]?).getD [] ∈ tests)).map nD)) [some (.str st), some (ssD false tests), some (ssD false (hdF tests)), o3, some (.int ((hdF tests).length : Int)), some (.lst true (rs.map rwD)), o6, some (rwD (st.map fun _ => (hdF tests).length + 1)), none, o9, o10, o11] := fun b => by
    rw [comp_filt (ds := (List.range (hdF tests).length).map nD) (p := fun d => match d with | .int i => decide (((hdF tests)[i.toNat]?).getD [] ∈ tests) | _ => false) (f := fun d => d)]
    · rw [List.filter_map, List.map_map]
      rfl
    · simp [hr]
    · rw [List.length_map, List.length_range]; exact Nat.le_trans (show _ ≤ 1000 by omega) (by decide)
    · simp
    · intro d hd
      have := hw9 d
      simpa using this hd
    · intro d hd
      obtain ⟨k, hk, rfl⟩ := List.mem_map.mp hd
      have hk := List.mem_range.mp hk
      have g : (hdF tests)[k]? = some (hdF tests)[k] := List.getElem?_eq_getElem hk
      have g2 : ∀ b en, ixR b (.lst false ((hdF tests).map D.str)) (.int (k : Int)) en = .ok (.str (hdF tests)[k]) en := fun b en => ixO (f := D.str) g rfl
      have g3 : ((hdF tests)[k]?).getD [] = (hdF tests)[k] := by rw [g]; rfl
      simp [nD, ssD, g2]
      rw [g3]
    · intro d hd _
      obtain ⟨k, hk, rfl⟩ := List.mem_map.mp hd
      simp [nD]
  have hl3 : rs.length + 2 ≤ 1000 := by rw [hrs, List.length_map]; omega
  have se : simpE (.lst [.v 7, .v 7]) = false := rfl
  have fr : fzs (rs.map rwD) = rs.map rwD := fzs_map fun _ => rfl
  have hlr : ∀ o, binop .add (.lst o (rs.map rwD)) (.lst true [rwD (st.map fun _ => (hdF tests).length + 1), rwD (st.map fun _ => (hdF tests).length + 1)]) = some (.lst true ((trows tests st).map rwD)) := fun o => by
    rw [addLL (by simp; omega) (lstOk_map fun _ => rfl) rfl]
    unfold trows
    rw [← hrs, List.map_append]
    rfl
  have hfl : (((List.range (hdF tests).length).filter fun k => decide (((hdF tests)[k]?).getD [] ∈ tests))).length < 1000000 := by
    have := List.length_filter_le (fun k => decide (((hdF tests)[k]?).getD [] ∈ tests)) (List.range (hdF tests).length)
    rw [List.length_range] at this
    omega
  have hrw : ∀ o, blt .tuple [.lst o ((st.map fun _ => (hdF tests).length + 1).map nD)] = some (rwD (st.map fun _ => (hdF tests).length + 1)) := fun o => tupleL ok_n
  have hrt : ∀ o, blt .tuple [.lst o ((trows tests st).map rwD)] = some (.tup ((trows tests st).map rwD)) := fun o => tupleL (lstOk_map fun _ => rfl)
  have hgt : ∀ o, blt .tuple [.lst o ((tgoods tests).map nD)] = some (rwD (tgoods tests)) := fun o => tupleL ok_n
  have egd : (((List.range (hdF tests).length).filter fun k => decide (((hdF tests)[k]?).getD [] ∈ tests)).map nD) ++ [.int ((hdF tests).length : Int)] = (tgoods tests).map nD := by
    unfold tgoods
    rw [List.map_append]
    rfl
  rw [exs_cut 2 (en1 := [some (.str st), some (ssD false tests), some (ssD true (hdF tests)), o3, none, none, none, none, none, o9, none, none]) (by
    have h1 : forL (bindT (.nm 3)) (exs prog (callF prog m) none [.for (.nm 9) (.rng [.c (.int 1), .blt .len [.v 3]])
   [.ifs (.cmp .notin (.sl (.v 3) (.c .non) (.v 9)) (.v 2))
   [.app 2 [] (.sl (.v 3) (.c .non) (.v 9))]
   []]]) (tests.map D.str) [some (.str st), some (.lst false (tests.map D.str)), some (.lst true [.str []]), none, none, none, none, none, none, none, none, none] = _ := h1
    cases o with
    | false => simp [f__law_reader, startE, ssD]; rw [h1]; simp [hdF, ssD]
    | true => simp [f__law_reader, startE, ssD]; rw [h1]; simp [hdF, ssD])]
  rw [exs_cut 3 (en1 := [some (.str st), some (ssD false tests), some (ssD false (hdF tests)), o3, some (.int ((hdF tests).length : Int)), some (.lst true (rs.map rwD)), o6, none, none, o9, o10, o11]) (by
    have h2 : forL (bindT (.nm 6)) (exs prog (callF prog m) none [.asg (.nm 10) (.lst []),
    .for (.nm 11) (.val (.v 0))
   [.ifs (.cmp .isin (.bin .add (.v 6) (.v 11)) (.v 2))
   [.app 10 [] (.mth .index (.v 2) [.bin .add (.v 6) (.v 11)])]
   [.ifs (.cmp .isin (.bin .add (.v 6) (.v 11)) (.v 1))
   [.app 10 [] (.v 4)]
   [.app 10 [] (.bin .add (.v 4) (.c (.int 1)))]]],
    .app 5 [] (.blt .tuple [.v 10])]) ((hdF tests).map D.str) [some (.str st), some (ssD false tests), some (.lst false ((hdF tests).map D.str)), o3, some (.int ((hdF tests).length : Int)), some (.lst true []), none, none, none, o9, none, none] = _ := h2
    simp [f__law_reader, ssD]
    simp only [ssD] at h2
    rw [h2]
    simp)]
  simp [f__law_reader]
  rw [hcd]
  simp [-List.map_map, hrw]
  rw [hcg]
  simp [-List.map_map, hfl, egd, se, fr, hlr, hrt, hgt, fin, maskP, mD]
end
end Pk07
end
section
set_option autoImplicit false
set_option linter.all false
set_option maxRecDepth 100000
namespace Pk07
open Q QR
def wD (st : List Nat) (rows : List (List Nat)) (goods : List Nat) (kind : Nat) (tests : List (List Nat)) (sc : D) : D := .tup [.str st, mD st rows goods, .int (kind : Int), ssD false tests, sc]
structure TOk (st : List Nat) (tests : List (List Nat)) : Prop where
  len : ∀ t ∈ tests, t.length ≤ 8
  few : tests.length ≤ 4
  mem : ∀ t ∈ tests, ∀ c ∈ t, c ∈ st
  ne : ∀ t ∈ tests, t ≠ []
structure WOk (st : List Nat) (rows : List (List Nat)) (goods : List Nat) (kind : Nat) (tests : List (List Nat)) (sc : D) : Prop where
  lo : LOk st
  mo : MOk st rows goods
  to : TOk st tests
  scn : sc = .non ∨ ∃ s, sc = .str s ∧ s.length ≤ 20 ∧ ∀ c ∈ s, c ∈ st
  test : ∀ (L : Nat) (w : List Nat), 1 ≤ L → w ≠ [] → (∀ c ∈ w, c ∈ st) → w.length ≤ 500 → callF prog L 19 [wD st rows goods kind tests sc, .str w] = .ok (.bl (Tm rows st goods w)) [some (wD st rows goods kind tests sc), some (.str w)]
section
variable {L : Nat} {d sc : D} {st : List Nat} {tests : List (List Nat)} {rows : List (List Nat)} {goods : List Nat}
theorem ixR_S0 {b : Bool} {en : Q.Env} {c : Nat} {x : List Nat} : ixR b (.str (c :: x)) (.int 0) en = .ok (.str [c]) en := ixR_S (k := 0) rfl
theorem ixR_S1 {b : Bool} {en : Q.Env} {c e : Nat} {x : List Nat} : ixR b (.str (c :: e :: x)) (.int 1) en = .ok (.str [e]) en := ixR_S (k := 1) rfl
theorem ixR_S2 {b : Bool} {en : Q.Env} {c e f : Nat} {x : List Nat} : ixR b (.str (c :: e :: f :: x)) (.int 2) en = .ok (.str [f]) en := ixR_S (k := 2) rfl
theorem sl_mid {c e : Nat} {m : List Nat} : slice (.str (c :: (m ++ [e]))) (some 1) (some (-1)) = some (.str m) := by
  have h1 : cut (c :: (m ++ [e])).length 0 (some 1) = 1 := by simp [cut]
  have h2 : cut (c :: (m ++ [e])).length (c :: (m ++ [e])).length (some (-1)) = m.length + 1 := by simp [cut]
  simp only [slice, h1, h2, sliceL]
  simp
theorem nonempty_test (hw : TOk st tests) {w : List Nat} : w ∈ tests → w ≠ [] := fun h => hw.ne w h
theorem tup2 {b : Bool} {x0 x1 x2 x3 x4 : D} {en : Q.Env} : ixR b (.tup [x0, x1, x2, x3, x4]) (.int 2) en = if own x2 && !b then .st else .ok x2 en := rfl
theorem tup3 {b : Bool} {x0 x1 x2 x3 x4 : D} {en : Q.Env} : ixR b (.tup [x0, x1, x2, x3, x4]) (.int 3) en = if own x3 && !b then .st else .ok x3 en := rfl
theorem tup4 {b : Bool} {x0 x1 x2 x3 x4 : D} {en : Q.Env} : ixR b (.tup [x0, x1, x2, x3, x4]) (.int 4) en = if own x4 && !b then .st else .ok x4 en := rfl
@[simp] theorem wD_0 {b : Bool} {en : Q.Env} {kind : Nat} : ixR b (wD st rows goods kind tests sc) (.int 0) en = .ok (.str st) en := by simp [wD]
@[simp] theorem wD_1 {b : Bool} {en : Q.Env} {kind : Nat} : ixR b (wD st rows goods kind tests sc) (.int 1) en = .ok (mD st rows goods) en := by simp [wD]
@[simp] theorem wD_2 {b : Bool} {en : Q.Env} {kind : Nat} : ixR b (wD st rows goods kind tests sc) (.int 2) en = .ok (.int (kind : Int)) en := by simp [wD, tup2]
@[simp] theorem wD_3 {b : Bool} {en : Q.Env} {kind : Nat} : ixR b (wD st rows goods kind tests sc) (.int 3) en = .ok (ssD false tests) en := by simp [wD, tup3]
theorem wD_4 {b : Bool} {en : Q.Env} {kind : Nat} (h : own sc = false) : ixR b (wD st rows goods kind tests sc) (.int 4) en = .ok sc en := by simp [wD, tup4, h]
@[simp] theorem own_wD {kind : Nat} : own (wD st rows goods kind tests sc) = false := rfl
@[simp] theorem fz_wD {kind : Nat} : fz (wD st rows goods kind tests sc) = wD st rows goods kind tests sc := rfl
theorem test_0 (hL : 1 ≤ L) (hst : 0 < st.length) {w : List Nat} (hw : w ≠ []) (hm : ∀ c ∈ w, c ∈ st) : callF prog L 19 [wD st (trows tests st) (tgoods tests) 0 tests sc, .str w] = .ok (.bl (Tm (trows tests st) st (tgoods tests) w)) [some (wD st (trows tests st) (tgoods tests) 0 tests sc), some (.str w)] := by
  obtain ⟨m, rfl⟩ : ∃ m, L = m + 1 := ⟨L - 1, by omega⟩
  rw [callF_s (fn := f__law_test) rfl rfl]
  have e : Tm (trows tests st) st (tgoods tests) w = decide (w ∈ tests) := by
    unfold Tm
    exact decide_eq_decide.mpr (tree_good hm)
  rw [e]
  cases st with
  | nil => simp at hst
  | cons p st => simp [f__law_test, startE, fin, maskP, ixR_S0, ssD]
theorem not_nil {w : List Nat} (hw : w ≠ []) : ¬ ((w.length : Int) = 0) := by
  cases w with
  | nil => exact absurd rfl hw
  | cons _ _ => rw [List.length_cons]; omega
theorem Tm_one {rows : List (List Nat)} {st w : List Nat} {g : Nat} {b : Bool} (h : run rows st 0 w = g ↔ b = true) : Tm rows st [g] w = b := by
  unfold Tm
  rw [Bool.eq_iff_iff, decide_eq_true_eq, List.mem_singleton]
  exact h
theorem test_1 {p q r : Nat} (hL : 1 ≤ L) (h1 : p ≠ q) (h2 : p ≠ r) (h3 : q ≠ r) {w : List Nat} (hw : w ≠ []) (hm : ∀ c ∈ w, c ∈ [p, q, r]) (hl : w.length ≤ 500) : callF prog L 19 [wD [p, q, r] (eRows 1) [3] 1 tests sc, .str w] = .ok (.bl (Tm (eRows 1) [p, q, r] [3] w)) [some (wD [p, q, r] (eRows 1) [3] 1 tests sc), some (.str w)] := by
  obtain ⟨m, rfl⟩ : ∃ m, L = m + 1 := ⟨L - 1, by omega⟩
  rw [callF_s (fn := f__law_test) rfl rfl]
  have n0 := not_nil hw
  have m2 : binop .mul (.int 2) (.int 1) = some (.int 2) := rfl
  cases w with
  | nil => exact absurd rfl hw
  | cons c t =>
    rcases List.eq_nil_or_concat t with rfl | ⟨s, e, rfl⟩
    · have : Tm (eRows 1) [p, q, r] [3] [c] = false := Tm_one ⟨fun z => absurd z (k1_one h1 h2 h3 (hm c List.mem_cons_self)), fun z => nomatch z⟩
      rw [this]
      simp [f__law_test, startE, fin, maskP, ixR_S0]
    · rw [List.concat_eq_append] at hm hl ⊢
      have hc := hm c List.mem_cons_self
      have he := hm e (by simp)
      have hs : ∀ x ∈ s, x ∈ [p, q, r] := fun x hx => hm x (by simp [hx])
      have eT : Tm (eRows 1) [p, q, r] [3] (c :: (s ++ [e])) = (decide (c = p) && (decide (e = r) && decide (s = List.replicate s.length q))) := Tm_one (by
        rw [k1_all h1 h2 h3 hc he hs]
        simp)
      rw [eT]
      have hsl : s.length ≤ 500 := by simp at hl; omega
      have l1 : ∀ b en, ixR b (.str (c :: (s ++ [e]))) (.int (-1)) en = .ok (.str [e]) en := fun b en => ixLastS (by rw [show c :: (s ++ [e]) = (c :: s) ++ [e] from rfl, List.getLast?_append]; rfl)
      have l2 : ¬ ((s.length : Int) + 1 + 1 < 2) := by omega
      have l3 : (s.length : Int) + 1 + 1 - 2 = (s.length : Int) := by omega
      have l4 : binop .mul (.str [q]) (.int (s.length : Int)) = some (.str (List.replicate s.length q)) := mulSN (by omega)
      have l5 : ¬ ((s.length : Int) + 1 + 1 = 0) := by omega
      by_cases a1 : c = p
      · subst a1
        by_cases a2 : e = r
        · subst a2
          simp [f__law_test, startE, fin, maskP, ixR_S0, ixR_S1, ixR_S2, l1, l2, l3, l4, l5, m2, sl_mid]
        · simp [f__law_test, startE, fin, maskP, ixR_S0, ixR_S1, ixR_S2, l1, l2, l3, l4, l5, m2, a2, sl_mid]
      · simp [f__law_test, startE, fin, maskP, ixR_S0, ixR_S1, ixR_S2, l1, l2, l3, l4, l5, m2, a1, sl_mid]
theorem test_2 {p q : Nat} (hL : 1 ≤ L) (h1 : p ≠ q) {w : List Nat} (hw : w ≠ []) (hm : ∀ c ∈ w, c ∈ [p, q]) (hl : w.length ≤ 500) : callF prog L 19 [wD [p, q] (eRows 2) [2] 2 tests sc, .str w] = .ok (.bl (Tm (eRows 2) [p, q] [2] w)) [some (wD [p, q] (eRows 2) [2] 2 tests sc), some (.str w)] := by
  obtain ⟨m, rfl⟩ : ∃ m, L = m + 1 := ⟨L - 1, by omega⟩
  rw [callF_s (fn := f__law_test) rfl rfl]
  have m2 : binop .mul (.int 2) (.int 2) = some (.int 4) := rfl
  cases w with
  | nil => exact absurd rfl hw
  | cons c t =>
    rcases List.eq_nil_or_concat t with rfl | ⟨s, e, rfl⟩
    · have : Tm (eRows 2) [p, q] [2] [c] = false := Tm_one ⟨fun z => absurd z (k2_one h1 (hm c List.mem_cons_self)), fun z => nomatch z⟩
      rw [this]
      simp [f__law_test, startE, fin, maskP, ixR_S0]
    · rw [List.concat_eq_append] at hm hl ⊢
      have hc := hm c List.mem_cons_self
      have he := hm e (by simp)
      have hs : ∀ x ∈ s, x ∈ [p, q] := fun x hx => hm x (by simp [hx])
      have eT : Tm (eRows 2) [p, q] [2] (c :: (s ++ [e])) = (decide (c = p) && (decide (e = p) && decide (s = List.replicate s.length q))) := Tm_one (by
        rw [k2_all h1 hc he hs]
        simp)
      rw [eT]
      have hsl : s.length ≤ 500 := by simp at hl; omega
      have l1 : ∀ b en, ixR b (.str (c :: (s ++ [e]))) (.int (-1)) en = .ok (.str [e]) en := fun b en => ixLastS (by rw [show c :: (s ++ [e]) = (c :: s) ++ [e] from rfl, List.getLast?_append]; rfl)
      have l2 : ¬ ((s.length : Int) + 1 + 1 < 2) := by omega
      have l3 : (s.length : Int) + 1 + 1 - 2 = (s.length : Int) := by omega
      have l4 : binop .mul (.str [q]) (.int (s.length : Int)) = some (.str (List.replicate s.length q)) := mulSN (by omega)
      have l5 : ¬ ((s.length : Int) + 1 + 1 = 0) := by omega
      by_cases a1 : c = p
      · subst a1
        by_cases a2 : e = c
        · subst a2
          simp [f__law_test, startE, fin, maskP, ixR_S0, ixR_S1, ixR_S2, l1, l2, l3, l4, l5, m2, sl_mid]
        · simp [f__law_test, startE, fin, maskP, ixR_S0, ixR_S1, ixR_S2, l1, l2, l3, l4, l5, m2, a2, sl_mid]
      · simp [f__law_test, startE, fin, maskP, ixR_S0, ixR_S1, ixR_S2, l1, l2, l3, l4, l5, m2, a1, sl_mid]
theorem test_3 {p q : Nat} (hL : 1 ≤ L) (h1 : p ≠ q) {w : List Nat} (hw : w ≠ []) (hm : ∀ c ∈ w, c ∈ [p, q]) : callF prog L 19 [wD [p, q] (eRows 3) [2] 3 tests sc, .str w] = .ok (.bl (Tm (eRows 3) [p, q] [2] w)) [some (wD [p, q] (eRows 3) [2] 3 tests sc), some (.str w)] := by
  obtain ⟨m, rfl⟩ : ∃ m, L = m + 1 := ⟨L - 1, by omega⟩
  rw [callF_s (fn := f__law_test) rfl rfl]
  have n0 := not_nil hw
  have eT : Tm (eRows 3) [p, q] [2] w = decide ((w.length : Int) % 2 = 0) := Tm_one (by
    rw [k3_all h1 hm hw, decide_eq_true_eq]
    omega)
  rw [eT]
  simp [f__law_test, startE, fin, maskP, ixR_S0, hw]
theorem test_4 {p q : Nat} (hL : 1 ≤ L) (h1 : p ≠ q) {w : List Nat} (hw : w ≠ []) (hm : ∀ c ∈ w, c ∈ [p, q]) : callF prog L 19 [wD [p, q] (eRows 4) [1] 4 tests sc, .str w] = .ok (.bl (Tm (eRows 4) [p, q] [1] w)) [some (wD [p, q] (eRows 4) [1] 4 tests sc), some (.str w)] := by
  obtain ⟨m, rfl⟩ : ∃ m, L = m + 1 := ⟨L - 1, by omega⟩
  rw [callF_s (fn := f__law_test) rfl rfl]
  have eT : Tm (eRows 4) [p, q] [1] w = w.contains p := Tm_one (by
    rw [k4_all h1 hm, List.contains_iff_mem])
  rw [eT]
  simp [f__law_test, startE, fin, maskP, ixR_S0, hw]
theorem test_5 {p q : Nat} (hL : 1 ≤ L) (h1 : p ≠ q) {w : List Nat} (hw : w ≠ []) (hm : ∀ c ∈ w, c ∈ [p, q]) (hl : w.length ≤ 500) : callF prog L 19 [wD [p, q] (eRows 5) [2] 5 tests sc, .str w] = .ok (.bl (Tm (eRows 5) [p, q] [2] w)) [some (wD [p, q] (eRows 5) [2] 5 tests sc), some (.str w)] := by
  obtain ⟨m, rfl⟩ : ∃ m, L = m + 1 := ⟨L - 1, by omega⟩
  rw [callF_s (fn := f__law_test) rfl rfl]
  have eT : Tm (eRows 5) [p, q] [2] w = (decide ((w.length : Int) % 2 = 0) && decide (w = rep (w.length / 2) [p, q])) := Tm_one (by
    rw [k5_all h1 hm hw, Bool.and_eq_true, decide_eq_true_eq, decide_eq_true_eq]
    constructor
    · rintro ⟨z1, z2⟩; exact ⟨by omega, z2⟩
    · rintro ⟨z1, z2⟩; exact ⟨by omega, z2⟩)
  rw [eT]
  have hd : (w.length : Int) / 2 = ((w.length / 2 : Nat) : Int) := by omega
  have hmul : binop .mul (.str [p, q]) (.int ((w.length : Int) / 2)) = some (.str (rep (w.length / 2) [p, q])) := by
    rw [hd]
    have a1 : -(LIM : Int) < ((w.length / 2 : Nat) : Int) := by show -(1000000 : Int) < _; omega
    have a2 : ((w.length / 2 : Nat) : Int) < (LIM : Int) := by show _ < (1000000 : Int); omega
    have a3 : [p, q].length * (((w.length / 2 : Nat) : Int)).toNat ≤ LIM := by
      rw [Int.toNat_natCast]
      show 2 * (w.length / 2) ≤ 1000000
      omega
    have e : binop .mul (.str [p, q]) (.int ((w.length / 2 : Nat) : Int)) = if (decide (-(LIM : Int) < ((w.length / 2 : Nat) : Int)) && decide (((w.length / 2 : Nat) : Int) < (LIM : Int)) && decide ([p, q].length * (((w.length / 2 : Nat) : Int)).toNat ≤ LIM)) = true then some (.str (rep (((w.length / 2 : Nat) : Int)).toNat [p, q])) else none := rfl
    rw [e, if_pos (by rw [decide_eq_true a1, decide_eq_true a2, decide_eq_true a3]; rfl), Int.toNat_natCast]
  by_cases z : (w.length : Int) % 2 = 0
  · simp [f__law_test, startE, fin, maskP, ixR_S0, hw, z, hmul]
  · simp [f__law_test, startE, fin, maskP, ixR_S0, hw, z]
theorem test_6 {p q : Nat} (hL : 1 ≤ L) (h1 : p ≠ q) {w : List Nat} (hw : w ≠ []) (hm : ∀ c ∈ w, c ∈ [p, q]) : callF prog L 19 [wD [p, q] (eRows 6) [1] 6 tests sc, .str w] = .ok (.bl (Tm (eRows 6) [p, q] [1] w)) [some (wD [p, q] (eRows 6) [1] 6 tests sc), some (.str w)] := by
  obtain ⟨m, rfl⟩ : ∃ m, L = m + 1 := ⟨L - 1, by omega⟩
  rw [callF_s (fn := f__law_test) rfl rfl]
  have eT : Tm (eRows 6) [p, q] [1] w = decide (((w.countP fun a => a == p : Nat) : Int) % 2 = 1) := Tm_one (by
    rw [(k6_m h1 hm).1, decide_eq_true_eq]
    omega)
  rw [eT]
  have hc : mth .count (.str w) [.str [p]] = some (.int ((w.countP fun a => a == p : Nat) : Int)) := rfl
  simp [f__law_test, startE, fin, maskP, ixR_S0, hw, hc, mthTy]
end
end Pk07
end
section
set_option autoImplicit false
set_option linter.all false
set_option maxRecDepth 100000
namespace Pk07
open Q QR
section
variable {L : Nat} {d sc : D} {st : List Nat} {tests : List (List Nat)} {rows : List (List Nat)} {goods : List Nat}
theorem add2 {x y : List Nat} (h : x.length + y.length ≤ 1000) : binop .add (.str x) (.str y) = some (.str (x ++ y)) := addSS h
theorem eRow_ok {kind : Nat} {st : List Nat} (h : (kind = 1 ∧ st.length = 3) ∨ (2 ≤ kind ∧ kind ≤ 6 ∧ st.length = 2)) : MOk st (eRows kind) [eGood kind] := by
  have key : ∀ k : Fin 7, 1 ≤ k.val → (eRows k.val).length ≤ 200 ∧ 0 < (eRows k.val).length ∧ ∀ r ∈ eRows k.val, r.length = (if k.val = 1 then 3 else 2) ∧ ∀ s ∈ r, s < (eRows k.val).length := by decide
  have hk : kind < 7 := by omega
  obtain ⟨h1, h2, h3⟩ := key ⟨kind, hk⟩ (by show 1 ≤ kind; omega)
  refine ⟨h1, h2, fun r hr => ?_, by simp⟩
  obtain ⟨h4, h5⟩ := h3 r hr
  refine ⟨?_, h5⟩
  rw [h4]
  rcases h with ⟨a, b⟩ | ⟨a, b, c⟩
  · rw [b]; simp [a]
  · rw [c]; simp; omega
theorem two_st (h : LOk st) (hl : st.length = 2) : ∃ p q, st = [p, q] ∧ p ≠ q := by
  match st, hl with
  | [p, q], _ =>
    refine ⟨p, q, rfl, ?_⟩
    have := h.nd
    simpa using this
theorem three_st (h : LOk st) (hl : st.length = 3) : ∃ p q r, st = [p, q, r] ∧ p ≠ q ∧ p ≠ r ∧ q ≠ r := by
  match st, hl with
  | [p, q, r], _ =>
    refine ⟨p, q, r, rfl, ?_⟩
    have := h.nd
    simp at this
    exact ⟨this.1.1, this.1.2, this.2⟩
theorem endless_s (hL : 1 ≤ L) {kind : Nat} (hk : (kind = 1 ∧ st.length = 3) ∨ (2 ≤ kind ∧ kind ≤ 6 ∧ st.length = 2)) (hs : LOk st) : ∃ tests, TOk st tests ∧ ∃ ps, callF prog L 15 [.int (kind : Int), .str st] = .ok (.tup [.tup ((eRows kind).map rwD), rwD [eGood kind], ssD false tests]) ps := by
  obtain ⟨m, rfl⟩ : ∃ m, L = m + 1 := ⟨L - 1, by omega⟩
  rw [callF_s (fn := f__law_endless) rfl rfl]
  rcases hk with ⟨rfl, h3⟩ | ⟨h1, h2, h3⟩
  · obtain ⟨p, q, r, rfl, _⟩ := three_st hs h3
    refine ⟨[[p, r], [p, q, r], [p, q, q, r]], ⟨by simp, by simp, by simp, by simp⟩, [some (.int ((1 : Nat) : Int)), some (.str [p, q, r])], ?_⟩
    have l1 : ∀ b en, ixR b (.str [p, q, r]) (.int (-1)) en = .ok (.str [r]) en := fun b en => ixLastS rfl
    have a1 : ∀ x y : List Nat, x.length + y.length ≤ 1000 → binop .add (.str x) (.str y) = some (.str (x ++ y)) := fun x y h => addSS h
    simp [f__law_endless, startE, ixR_S0, ixR_S1, l1, a1, fin, maskP, eRows, eGood, rwD, ssD, nD]
  · obtain ⟨p, q, rfl, hpq⟩ := two_st hs h3
    have l1 : ∀ b en, ixR b (.str [p, q]) (.int (-1)) en = .ok (.str [q]) en := fun b en => ixLastS rfl
    have a1 : ∀ x y : List Nat, x.length + y.length ≤ 1000 → binop .add (.str x) (.str y) = some (.str (x ++ y)) := fun x y h => addSS h
    have hc : kind = 2 ∨ kind = 3 ∨ kind = 4 ∨ kind = 5 ∨ kind = 6 := by omega
    rcases hc with rfl | rfl | rfl | rfl | rfl
    · refine ⟨[[p, p], [p, q, p], [p, q, q, p]], ⟨by simp, by simp, by simp, by simp⟩, [some (.int ((2 : Nat) : Int)), some (.str [p, q])], ?_⟩
      simp [f__law_endless, startE, ixR_S0, ixR_S1, l1, a1, fin, maskP, eRows, eGood, rwD, ssD, nD]
    · refine ⟨[[p, q], [q, q], [p, p]], ⟨by simp, by simp, by simp, by simp⟩, [some (.int ((3 : Nat) : Int)), some (.str [p, q])], ?_⟩
      simp [f__law_endless, startE, ixR_S0, ixR_S1, l1, a1, fin, maskP, eRows, eGood, rwD, ssD, nD]
    · refine ⟨[[p], [q, p], [p, q], [q]], ⟨by simp, by simp, by simp, by simp⟩, [some (.int ((4 : Nat) : Int)), some (.str [p, q])], ?_⟩
      simp [f__law_endless, startE, ixR_S0, ixR_S1, l1, a1, fin, maskP, eRows, eGood, rwD, ssD, nD]
    · refine ⟨[[p, q], [p, q, p, q], [q]], ⟨by simp, by simp, by simp, by simp⟩, [some (.int ((5 : Nat) : Int)), some (.str [p, q])], ?_⟩
      simp [f__law_endless, startE, ixR_S0, ixR_S1, l1, a1, fin, maskP, eRows, eGood, rwD, ssD, nD]
    · refine ⟨[[p], [q, p, q], [p, q], [q]], ⟨by simp, by simp, by simp, by simp⟩, [some (.int ((6 : Nat) : Int)), some (.str [p, q])], ?_⟩
      simp [f__law_endless, startE, ixR_S0, ixR_S1, l1, a1, fin, maskP, eRows, eGood, rwD, ssD, nD]
theorem endless_test (hL : 1 ≤ L) {kind : Nat} (hk : (kind = 1 ∧ st.length = 3) ∨ (2 ≤ kind ∧ kind ≤ 6 ∧ st.length = 2)) (hs : LOk st) {w : List Nat} (hw : w ≠ []) (hm : ∀ c ∈ w, c ∈ st) (hl : w.length ≤ 500) : callF prog L 19 [wD st (eRows kind) [eGood kind] kind tests sc, .str w] = .ok (.bl (Tm (eRows kind) st [eGood kind] w)) [some (wD st (eRows kind) [eGood kind] kind tests sc), some (.str w)] := by
  rcases hk with ⟨rfl, h3⟩ | ⟨h1, h2, h3⟩
  · obtain ⟨p, q, r, rfl, a, b, c⟩ := three_st hs h3
    exact test_1 hL a b c hw hm hl
  · obtain ⟨p, q, rfl, hpq⟩ := two_st hs h3
    have hc : kind = 2 ∨ kind = 3 ∨ kind = 4 ∨ kind = 5 ∨ kind = 6 := by omega
    rcases hc with rfl | rfl | rfl | rfl | rfl
    · exact test_2 hL hpq hw hm hl
    · exact test_3 hL hpq hw hm
    · exact test_4 hL hpq hw hm
    · exact test_5 hL hpq hw hm hl
    · exact test_6 hL hpq hw hm
theorem asc_ok {st : List Nat} (h : (decide (st.Pairwise (· < ·)) && st.all (fun c => decide (97 ≤ c) && decide (c ≤ 122)) && decide (0 < st.length) && decide (st.length ≤ 4)) = true) : LOk st := by
  simp only [Bool.and_eq_true, decide_eq_true_eq, List.all_eq_true] at h
  obtain ⟨⟨⟨a, b⟩, c⟩, d⟩ := h
  exact ⟨a, b, c, d⟩
theorem tok_of {st : List Nat} {tests : List (List Nat)} (h : (tests.all (fun t => decide (t.length ≤ 8) && t.all (fun c => decide (c ∈ st)) && decide (t ≠ [])) && decide (tests.length ≤ 4)) = true) : TOk st tests := by
  simp only [Bool.and_eq_true, decide_eq_true_eq, List.all_eq_true] at h
  exact ⟨fun t ht => (h.1 t ht).1.1, h.2, fun t ht c hc => (h.1 t ht).1.2 c hc, fun t ht => (h.1 t ht).2⟩
theorem scene_s (hL : 1 ≤ L) {v : Nat} (hv : v < 5) : ∃ st tests s, LOk st ∧ TOk st tests ∧ s.length ≤ 20 ∧ (∀ c ∈ s, c ∈ st) ∧ ∃ ps, callF prog L 16 [.int (v : Int)] = .ok (.tup [.str st, ssD false tests, .str s]) ps := by
  obtain ⟨m, rfl⟩ : ∃ m, L = m + 1 := ⟨L - 1, by omega⟩
  rw [callF_s (fn := f__law_scene) rfl rfl]
  have hc : v = 0 ∨ v = 1 ∨ v = 2 ∨ v = 3 ∨ v = 4 := by omega
  rcases hc with rfl | rfl | rfl | rfl | rfl
  · exact ⟨[97, 98, 99], [[97, 98], [98], [98, 99]], [97, 98, 99], asc_ok (by decide), tok_of (by decide), by decide, by decide, _, by simp [f__law_scene, startE, fin, maskP, ssD]; rfl⟩
  · exact ⟨[97, 98], [[97, 98, 97], [98, 97]], [97, 98, 97, 98, 97], asc_ok (by decide), tok_of (by decide), by decide, by decide, _, by simp [f__law_scene, startE, fin, maskP, ssD]; rfl⟩
  · exact ⟨[97], [[97, 97], [97, 97, 97, 97, 97]], [97, 97, 97, 97, 97, 97, 97], asc_ok (by decide), tok_of (by decide), by decide, by decide, _, by simp [f__law_scene, startE, fin, maskP, ssD]; rfl⟩
  · exact ⟨[98, 120], [[98, 120], [120, 120]], [98, 98, 120, 120, 98, 120], asc_ok (by decide), tok_of (by decide), by decide, by decide, _, by simp [f__law_scene, startE, fin, maskP, ssD]; rfl⟩
  · exact ⟨[97, 98], [], [97, 98], asc_ok (by decide), tok_of (by decide), by decide, by decide, _, by simp [f__law_scene, startE, fin, maskP, ssD]; rfl⟩
theorem tree_world (hs : LOk st) (ht : TOk st tests) (hsc : sc = .non ∨ ∃ s, sc = .str s ∧ s.length ≤ 20 ∧ ∀ c ∈ s, c ∈ st) : WOk st (trows tests st) (tgoods tests) 0 tests sc :=
  ⟨hs, tree_ok ht.len (by have := ht.few; omega), ht, hsc, fun L w hL hw hm _ => test_0 hL hs.pos hw hm⟩
theorem code_ok (hs : LOk st) (ht : TOk st tests) : ∀ t ∈ tests, ∀ c ∈ t, c < 1114112 := fun t h c hc => by
  have := (hs.low c (ht.mem t h c hc)).2
  omega
theorem ix8 {b : Bool} {en : Q.Env} {xs : List Int} {v : Nat} {lo hi : Int} (hv : v < xs.length) (h : ∀ x ∈ xs, lo ≤ x ∧ x ≤ hi) : ∃ x : Int, (∀ b en, ixR b (.tup (xs.map D.int)) (.int (v : Int)) en = .ok (.int x) en) ∧ lo ≤ x ∧ x ≤ hi := by
  refine ⟨xs[v], fun b en => ixT (f := D.int) (List.getElem?_eq_getElem hv) rfl, ?_⟩
  exact h _ (List.getElem_mem hv)
theorem word_in {m n : Nat} {s1 s3 s4 s5 s6 s7 o10 : Option D} {a b : Int} (hm : 1 ≤ m) (hs : LOk st) (hn : n ≤ 8) : ∃ w a' b' o10', forL (bindT (.nm 10)) (exs prog (callF prog m) none [.asg (.nm 9) (.fz (.bin .add (.v 9) (.ixv 2 (.call 12 [.va 0, .blt .len [.v 2]]))))]) ((List.range n).map nD) [some (pl a b), s1, some (.str st), s3, s4, s5, s6, s7, some (.int (n : Int)), some (.str []), o10] = .ok .nx [some (pl a' b'), s1, some (.str st), s3, s4, s5, s6, s7, some (.int (n : Int)), some (.str w), o10'] ∧ w.length = n ∧ ∀ c ∈ w, c ∈ st := by
  obtain ⟨en', h1, w, a', b', o10', rfl, h2, h3⟩ := for_wpM (bd := bindT (.nm 10)) (body := exs prog (callF prog m) none [.asg (.nm 9) (.fz (.bin .add (.v 9) (.ixv 2 (.call 12 [.va 0, .blt .len [.v 2]]))))]) nD
    (fun i en => ∃ w a b o10, en = [some (pl a b), s1, some (.str st), s3, s4, s5, s6, s7, some (.int (n : Int)), some (.str w), o10] ∧ w.length = i ∧ ∀ c ∈ w, c ∈ st) (List.range n) 0 [some (pl a b), s1, some (.str st), s3, s4, s5, s6, s7, some (.int (n : Int)), some (.str []), o10] ⟨[], a, b, o10, rfl, rfl, by simp⟩ (by
      rintro i x en hx ⟨w, a, b, o10, rfl, h2, h3⟩
      obtain ⟨hi, hx⟩ := List.getElem?_eq_some_iff.mp hx
      simp at hi hx
      subst hx
      rw [Nat.zero_add] at h2 ⊢
      obtain ⟨v, a1, b1, t1, hv⟩ := next_s (L := m) hm (a := a) (b := b) (k := (st.length : Int)) (by have := hs.pos; omega) (by have := hs.few; omega)
      have hv' : v < st.length := by omega
      have g : ∀ b en, ixR b (.str st) (.int (v : Int)) en = .ok (.str [st[v]]) en := fun b en => ixR_S (List.getElem?_eq_getElem hv')
      have hadd : binop .add (.str w) (.str [st[v]]) = some (.str (w ++ [st[v]])) := addSS (by simp; omega)
      refine ⟨[some (pl a1 b1), s1, some (.str st), s3, s4, s5, s6, s7, some (.int (n : Int)), some (.str (w ++ [st[v]])), some (nD i)], ?_, _, _, _, _, rfl, by simp [h2], ?_⟩
      · simp [fillA, t1, g, hadd]
      · intro c hc
        rcases List.mem_append.mp hc with z | z
        · exact h3 c z
        · rw [List.mem_singleton.mp z]; exact List.getElem_mem hv')
  rw [Nat.zero_add, List.length_range] at h2
  exact ⟨w, a', b', o10', h1, h2, h3⟩
theorem world_s (hL : 3 ≤ L) {a b : Int} : ∃ st rows goods kind tests sc a' b', callF prog L 17 [pl a b] = .ok (wD st rows goods kind tests sc) [some (pl a' b')] ∧ WOk st rows goods kind tests sc := by
  obtain ⟨m, rfl⟩ : ∃ m, L = m + 1 := ⟨L - 1, by omega⟩
  rw [callF_s (fn := f__law_world) rfl rfl]
  obtain ⟨kind, a1, b1, t1, hk⟩ := next_s (L := m) (by omega) (a := a) (b := b) (k := 14) (by omega) (by omega)
  by_cases k0 : kind = 0
  · subst k0
    obtain ⟨v, a2, b2, t2, hv⟩ := next_s (L := m) (by omega) (a := a1) (b := b1) (k := 5) (by omega) (by omega)
    obtain ⟨st, tests, s, h1, h2, h3, h4, ps, t3⟩ := scene_s (L := m) (by omega) (v := v) (by omega)
    have t4 := reader_s (L := m) (by omega) (st := st) (tests := tests) (o := false) (n := 8) h1.few h2.len (by have := h2.few; omega) (code_ok h1 h2)
    refine ⟨st, trows tests st, tgoods tests, 0, tests, .str s, a2, b2, ?_, tree_world h1 h2 (.inr ⟨s, rfl, h3, h4⟩)⟩
    have i2 : ∀ b en, ixR b (.tup [.str st, ssD false tests, .str s]) (.int 2) en = .ok (.str s) en := fun b en => rfl
    simp [f__law_world, startE, fillA, t1, t2, t3, t4, i2, fin, maskP, wD]
  · by_cases k7 : kind < 7
    · have hn : ∃ n : Nat, n = (if kind = 1 then 3 else 2) ∧ (2 : Int) + (if kind = 1 then 1 else 0) = (n : Int) := ⟨_, rfl, by split <;> rfl⟩
      obtain ⟨n, hn1, hn2⟩ := hn
      obtain ⟨st, a2, b2, t2, hs, hl⟩ := letters_s (L := m) (by omega) (a := a1) (b := b1) (k := n) (by rw [hn1]; split <;> omega) (by rw [hn1]; split <;> omega)
      have hkk : (kind = 1 ∧ st.length = 3) ∨ (2 ≤ kind ∧ kind ≤ 6 ∧ st.length = 2) := by
        rw [hl, hn1]
        by_cases z : kind = 1
        · exact .inl ⟨z, by rw [if_pos z]⟩
        · exact .inr ⟨by omega, by omega, by rw [if_neg z]⟩
      obtain ⟨tests, ht, ps, t3⟩ := endless_s (L := m) (by omega) hkk hs
      refine ⟨st, eRows kind, [eGood kind], kind, tests, .non, a2, b2, ?_, ⟨hs, eRow_ok hkk, ht, .inl rfl, fun L w hL hw hm hl => endless_test hL hkk hs hw hm hl⟩⟩
      have i0 : ∀ b en, ixR b (.tup [.tup ((eRows kind).map rwD), rwD [eGood kind], ssD false tests]) (.int 2) en = .ok (ssD false tests) en := fun b en => rfl
      have k7' : (kind : Int) < 7 := by omega
      have bi : blt .int [.bl (decide (kind = 1))] = some (.int (if kind = 1 then 1 else 0)) := by
        by_cases z : kind = 1 <;> simp [z, blt, b2i]
      have cz : ((kind : Int) = 1) ↔ kind = 1 := by omega
      have c7 : ((kind : Int) < 7) ↔ kind < 7 := by omega
      simp [f__law_world, startE, fillA, t1, k0, k7, c7, cz, bi, hn2, t2, t3, i0, fin, maskP, wD, mD]
    · obtain ⟨v, a2, b2, t2, hv⟩ := next_s (L := m) (by omega) (a := a1) (b := b1) (k := 8) (by omega) (by omega)
      obtain ⟨x, hx, hx1, hx2⟩ := ix8 (b := true) (en := []) (xs := [2, 3, 2, 1, 2, 4, 2, 3]) (v := v) (lo := 1) (hi := 4) (by simp; omega) (by decide)
      obtain ⟨n, rfl⟩ : ∃ n : Nat, x = (n : Int) := ⟨x.toNat, by omega⟩
      obtain ⟨st, a3, b3, t3, hs, hl⟩ := letters_s (L := m) (by omega) (a := a2) (b := b2) (k := n) (by omega) (by omega)
      obtain ⟨v2, a4, b4, t4, hv2⟩ := next_s (L := m) (by omega) (a := a3) (b := b3) (k := 8) (by omega) (by omega)
      obtain ⟨y, hy, hy1, hy2⟩ := ix8 (b := true) (en := []) (xs := [3, 2, 4, 1, 2, 3, 0, 4]) (v := v2) (lo := 0) (hi := 4) (by simp; omega) (by decide)
      obtain ⟨many, rfl⟩ : ∃ n : Nat, y = (n : Int) := ⟨y.toNat, by omega⟩
      simp only [List.map_cons, List.map_nil] at hx hy
      have c7 : ((kind : Int) < 7) ↔ kind < 7 := by omega
      rw [exs_cut 6 (en1 := [some (pl a4 b4), some (.int (kind : Int)), some (.str st), some (.int (many : Int)), some (ssD true []), none, none, none, none, none, none]) (by
        simp [f__law_world, startE, fillA, t1, k0, k7, c7, t2, hx, t3, t4, hy, ssD])]
      obtain ⟨en', h1, tests, a5, b5, o5, o8, o9, o10, rfl, ht, hlen⟩ := for_wpM (bd := bindT (.nm 5)) (body := exs prog (callF prog m) none [.asg (.nm 8) (.fz (.bin .add (.c (.int 1)) (.call 12 [.va 0, .bin .add (.c (.int 3)) (.bin .mul (.c (.int 5)) (.blt .int [.cmp .eq (.v 3) (.c (.int 1))]))]))),
    .asg (.nm 9) (.c (.str [])),
    .for (.nm 10) (.rng [.v 8])
   [.asg (.nm 9) (.fz (.bin .add (.v 9) (.ixv 2 (.call 12 [.va 0, .blt .len [.v 2]]))))],
    .ifs (.cmp .notin (.v 9) (.v 4))
   [.app 4 [] (.v 9)]
   []]) nD
        (fun i en => ∃ (tests : List (List Nat)) (a b : Int) (o5 o8 o9 o10 : Option D), en = [some (pl a b), some (.int (kind : Int)), some (.str st), some (.int (many : Int)), some (ssD true tests), o5, none, none, o8, o9, o10] ∧ (∀ t ∈ tests, t.length ≤ 8 ∧ (∀ c ∈ t, c ∈ st) ∧ t ≠ []) ∧ tests.length ≤ i) (List.range many) 0 [some (pl a4 b4), some (.int (kind : Int)), some (.str st), some (.int (many : Int)), some (ssD true []), none, none, none, none, none, none] ⟨[], a4, b4, none, none, none, none, rfl, by simp, by simp⟩ (by
          rintro i x en hx ⟨tests, a, b, o5, o8, o9, o10, rfl, ht, hlen⟩
          obtain ⟨hi, hx⟩ := List.getElem?_eq_some_iff.mp hx
          simp at hi hx
          subst hx
          rw [Nat.zero_add] at hlen ⊢
          have bi : blt .int [.bl (decide (many = 1))] = some (.int (if many = 1 then 1 else 0)) := by
            by_cases z : many = 1 <;> simp [z, blt, b2i]
          have cz : ((many : Int) = 1) ↔ many = 1 := by omega
          have m5 : binop .mul (.int 5) (.int (if many = 1 then 1 else 0)) = some (.int (if many = 1 then 5 else 0)) := by
            by_cases z : many = 1 <;> simp [z] <;> rfl
          obtain ⟨v, a1, b1, t1, hv⟩ := next_s (L := m) (by omega) (a := a) (b := b) (k := 3 + (if many = 1 then 5 else 0)) (by split <;> omega) (by split <;> omega)
          have hv8 : v < 8 := by split at hv <;> omega
          obtain ⟨w, a2, b2, o10', h2, hw1, hw2⟩ := word_in (m := m) (n := v + 1) (st := st) (s1 := some (.int (kind : Int))) (s3 := some (.int (many : Int))) (s4 := some (ssD true tests)) (s5 := some (nD i)) (s6 := none) (s7 := none) (o10 := o10) (a := a1) (b := b1) (by omega) hs (by omega)
          have hr : rngD [.int (1 + (v : Int))] = some ((List.range (v + 1)).map nD) := by
            have := rngN (n := v + 1) (by omega)
            rw [show ((v + 1 : Nat) : Int) = 1 + (v : Int) by omega] at this
            exact this
          rw [show ((v + 1 : Nat) : Int) = 1 + (v : Int) by omega] at h2
          have hwn : w ≠ [] := fun z => by rw [z] at hw1; simp at hw1
          refine ⟨[some (pl a2 b2), some (.int (kind : Int)), some (.str st), some (.int (many : Int)), some (ssD true (if w ∈ tests then tests else tests ++ [w])), some (nD i), none, none, some (.int (1 + (v : Int))), some (.str w), o10'], ?_, _, a2, b2, _, _, _, _, rfl, ?_, ?_⟩
          · have hl2 : tests.length < 1000000 := by omega
            simp [fillA, cz, bi, m5, t1, hr]
            rw [h2]
            by_cases z : w ∈ tests
            · simp [ssD, z]
            · simp [ssD, z, hl2]
          · intro t h
            by_cases z : w ∈ tests
            · rw [if_pos z] at h; exact ht t h
            · rw [if_neg z] at h
              rcases List.mem_append.mp h with y | y
              · exact ht t y
              · rw [List.mem_singleton.mp y]; exact ⟨by omega, hw2, hwn⟩
          · split
            · omega
            · rw [List.length_append]; simp; omega)
      rw [Nat.zero_add, List.length_range] at hlen
      have hT : TOk st tests := ⟨fun t h => (ht t h).1, by omega, fun t h => (ht t h).2.1, fun t h => (ht t h).2.2⟩
      have t6 := reader_s (L := m) (by omega) (st := st) (tests := tests) (o := true) (n := 8) hs.few hT.len (by have := hT.few; omega) (code_ok hs hT)
      have hr : rngD [.int (many : Int)] = some ((List.range many).map nD) := rngN (by omega)
      refine ⟨st, trows tests st, tgoods tests, 0, tests, .non, a5, b5, ?_, tree_world hs hT (.inl rfl)⟩
      simp [f__law_world, hr]
      rw [h1]
      simp [fillA, t6, fin, maskP, wD]
end
end Pk07
end
section
set_option autoImplicit false
set_option linter.all false
set_option maxRecDepth 100000
namespace Pk07
open Q QR
section
variable {L : Nat} {d sc : D} {st : List Nat} {tests : List (List Nat)} {rows : List (List Nat)} {goods job : List Nat} {kind : Nat}
theorem WOk.own_sc (W : WOk st rows goods kind tests sc) : own sc = false := by
  rcases W.scn with rfl | ⟨s, rfl, _⟩ <;> rfl
theorem cut_in {m how : Nat} {s0 s1 s2 s4 o8 : Option D} {made seed : List Nat} (hl : seed.length ≤ 8) : ∃ cutv o8', forL (bindT (.nm 8)) (exs prog (callF prog m) none [.ifs (.and (.cmp .gt (.v 5) (.c (.int 2))) (.mth .endswith (.v 3) [.sl (.v 6) (.c .non) (.v 8)]))
   [.asg (.nm 7) (.v 8)]
   []]) ((List.range (seed.length - 1)).map fun k => nD (1 + k)) [s0, s1, s2, some (.str made), s4, some (.int (how : Int)), some (.str seed), some (.int 0), o8] = .ok .nx [s0, s1, s2, some (.str made), s4, some (.int (how : Int)), some (.str seed), some (.int ((cutv : Nat) : Int)), o8'] := by
  obtain ⟨en', h1, cv, o8', rfl⟩ := for_wpM (bd := bindT (.nm 8)) (body := exs prog (callF prog m) none [.ifs (.and (.cmp .gt (.v 5) (.c (.int 2))) (.mth .endswith (.v 3) [.sl (.v 6) (.c .non) (.v 8)]))
   [.asg (.nm 7) (.v 8)]
   []]) (fun k => nD (1 + k))
    (fun i en => ∃ (cv : Nat) (o8 : Option D), en = [s0, s1, s2, some (.str made), s4, some (.int (how : Int)), some (.str seed), some (.int (cv : Int)), o8]) (List.range (seed.length - 1)) 0 [s0, s1, s2, some (.str made), s4, some (.int (how : Int)), some (.str seed), some (.int 0), o8] ⟨0, o8, rfl⟩ (by
      rintro i x en hx ⟨cv, o8, rfl⟩
      have hsl : slice (.str seed) none (some (1 + (x : Int))) = some (.str (seed.take (x + 1))) := by
        have := slTo (x := seed) (k := x + 1)
        rw [show ((x + 1 : Nat) : Int) = 1 + (x : Int) by omega] at this
        exact this
      have e1 : ((1 + x : Nat) : Int) = 1 + (x : Int) := by omega
      have he : mth .endswith (.str made) [.str (seed.take (x + 1))] = some (.bl (isPre (seed.take (x + 1)).reverse made.reverse)) := rfl
      by_cases h1 : 2 < how
      · cases h2 : isPre (seed.take (x + 1)).reverse made.reverse with
        | true =>
          rw [h2] at he
          refine ⟨[s0, s1, s2, some (.str made), s4, some (.int (how : Int)), some (.str seed), some (.int ((1 + x : Nat) : Int)), some (nD (1 + x))], ?_, _, _, rfl⟩
          have h1' : (2 : Int) < (how : Int) := by omega
          simp [nD, hsl, he, h1', mthTy]
        | false =>
          rw [h2] at he
          refine ⟨[s0, s1, s2, some (.str made), s4, some (.int (how : Int)), some (.str seed), some (.int (cv : Int)), some (nD (1 + x))], ?_, _, _, rfl⟩
          have h1' : (2 : Int) < (how : Int) := by omega
          simp [nD, hsl, he, h1', mthTy]
      · refine ⟨[s0, s1, s2, some (.str made), s4, some (.int (how : Int)), some (.str seed), some (.int (cv : Int)), some (nD (1 + x))], ?_, _, _, rfl⟩
        have h1' : ¬ (2 : Int) < (how : Int) := by omega
        simp [nD, h1'])
  exact ⟨cv, o8', h1⟩
theorem deed_s (hL : 2 ≤ L) {a b : Int} {most : Nat} (W : WOk st rows goods kind tests sc) : ∃ job a' b', callF prog L 18 [pl a b, wD st rows goods kind tests sc, .int (most : Int)] = .ok (.str job) [some (pl a' b'), some (wD st rows goods kind tests sc), some (.int (most : Int))] ∧ (∀ c ∈ job, c ∈ st) ∧ job.length ≤ most := by
  obtain ⟨m, rfl⟩ : ∃ m, L = m + 1 := ⟨L - 1, by omega⟩
  rw [callF_s (fn := f__law_deed) rfl rfl]
  have i4 : ∀ b en, ixR b (wD st rows goods kind tests sc) (.int 4) en = .ok sc en := fun b en => wD_4 W.own_sc
  rcases W.scn with hsc | ⟨s, hsc, h2, h3⟩
  · subst hsc
    obtain ⟨v, a1, b1, t1, hv⟩ := next_s (L := m) (by omega) (a := a) (b := b) (k := 24) (by omega) (by omega)
    by_cases h7 : v = 7
    · subst h7
      refine ⟨[], a1, b1, ?_, by simp, by simp⟩
      have nn : cmpop .isnot .non .non = some false := rfl
      simp [f__law_deed, startE, i4, nn, fillA, t1, fin, maskP]
    · obtain ⟨v2, a2, b2, t2, hv2⟩ := next_s (L := m) (by omega) (a := a1) (b := b1) (k := 5) (by omega) (by omega)
      have c7 : ((v : Int) = 7) ↔ v = 7 := by omega
      have nn : cmpop .isnot .non .non = some false := rfl
      obtain ⟨en', q1, made, a3, b3, o4, o5, o6, o7, o8, rfl, q2, q3⟩ := for_wpM (bd := bindT (.nm 4)) (body := exs prog (callF prog m) none [.asg (.nm 5) (.fz (.call 12 [.va 0, .c (.int 5)])),
    .ifs (.or (.cmp .eq (.v 5) (.c (.int 0))) (.cmp .eq (.blt .len [.ixv 1 (.c (.int 3))]) (.c (.int 0))))
   [.asg (.nm 3) (.fz (.bin .add (.v 3) (.ix (.ixv 1 (.c (.int 0))) (.call 12 [.va 0, .blt .len [.ixv 1 (.c (.int 0))]]))))]
   [.asg (.nm 6) (.fz (.ix (.ixv 1 (.c (.int 3))) (.call 12 [.va 0, .blt .len [.ixv 1 (.c (.int 3))]]))),
    .asg (.nm 7) (.c (.int 0)),
    .for (.nm 8) (.rng [.c (.int 1), .blt .len [.v 6]])
   [.ifs (.and (.cmp .gt (.v 5) (.c (.int 2))) (.mth .endswith (.v 3) [.sl (.v 6) (.c .non) (.v 8)]))
   [.asg (.nm 7) (.v 8)]
   []],
    .asg (.nm 3) (.fz (.bin .add (.v 3) (.sl (.v 6) (.v 7) (.c .non))))]]) nD
        (fun i en => ∃ (made : List Nat) (a b : Int) (o4 o5 o6 o7 o8 : Option D), en = [some (pl a b), some (wD st rows goods kind tests .non), some (.int (most : Int)), some (.str made), o4, o5, o6, o7, o8] ∧ (∀ c ∈ made, c ∈ st) ∧ made.length ≤ 8 * i) (List.range (v2 + 2)) 0 [some (pl a2 b2), some (wD st rows goods kind tests .non), some (.int (most : Int)), some (.str []), none, none, none, none, none] ⟨[], a2, b2, none, none, none, none, none, rfl, by simp, by simp⟩ (by
          rintro i x en hx ⟨made, a, b, o4, o5, o6, o7, o8, rfl, q2, q3⟩
          obtain ⟨hi, hx⟩ := List.getElem?_eq_some_iff.mp hx
          simp at hi hx
          subst hx
          rw [Nat.zero_add] at q3 ⊢
          obtain ⟨how, a1, b1, t1, hv⟩ := next_s (L := m) (by omega) (a := a) (b := b) (k := 5) (by omega) (by omega)
          have c0 : ((how : Int) = 0) ↔ how = 0 := by omega
          have plain1 : how = 0 ∨ tests = [] → ∃ en2, om (bindT (.nm 4) (nD i) [some (pl a b), some (wD st rows goods kind tests .non), some (.int (most : Int)), some (.str made), o4, o5, o6, o7, o8]) (exs prog (callF prog m) none [.asg (.nm 5) (.fz (.call 12 [.va 0, .c (.int 5)])),
    .ifs (.or (.cmp .eq (.v 5) (.c (.int 0))) (.cmp .eq (.blt .len [.ixv 1 (.c (.int 3))]) (.c (.int 0))))
   [.asg (.nm 3) (.fz (.bin .add (.v 3) (.ix (.ixv 1 (.c (.int 0))) (.call 12 [.va 0, .blt .len [.ixv 1 (.c (.int 0))]]))))]
   [.asg (.nm 6) (.fz (.ix (.ixv 1 (.c (.int 3))) (.call 12 [.va 0, .blt .len [.ixv 1 (.c (.int 3))]]))),
    .asg (.nm 7) (.c (.int 0)),
    .for (.nm 8) (.rng [.c (.int 1), .blt .len [.v 6]])
   [.ifs (.and (.cmp .gt (.v 5) (.c (.int 2))) (.mth .endswith (.v 3) [.sl (.v 6) (.c .non) (.v 8)]))
   [.asg (.nm 7) (.v 8)]
   []],
    .asg (.nm 3) (.fz (.bin .add (.v 3) (.sl (.v 6) (.v 7) (.c .non))))]]) = .ok .nx en2 ∧ ∃ (made : List Nat) (a b : Int) (o4 o5 o6 o7 o8 : Option D), en2 = [some (pl a b), some (wD st rows goods kind tests .non), some (.int (most : Int)), some (.str made), o4, o5, o6, o7, o8] ∧ (∀ c ∈ made, c ∈ st) ∧ made.length ≤ 8 * (i + 1) := by
            intro hor
            obtain ⟨v, a2, b2, t2, hv⟩ := next_s (L := m) (by omega) (a := a1) (b := b1) (k := (st.length : Int)) (by have := W.lo.pos; omega) (by have := W.lo.few; omega)
            have hv' : v < st.length := by omega
            have g : ∀ b en, ixR b (.str st) (.int (v : Int)) en = .ok (.str [st[v]]) en := fun b en => ixR_S (List.getElem?_eq_getElem hv')
            have hadd : binop .add (.str made) (.str [st[v]]) = some (.str (made ++ [st[v]])) := addSS (by simp; omega)
            refine ⟨[some (pl a2 b2), some (wD st rows goods kind tests .non), some (.int (most : Int)), some (.str (made ++ [st[v]])), some (nD i), some (.int (how : Int)), o6, o7, o8], ?_, made ++ [st[v]], a2, b2, some (nD i), _, _, _, _, rfl, ?_, ?_⟩
            · by_cases z : how = 0
              · subst z
                simp [fillA, t1, t2, g, hadd]
              · have z2 : tests = [] := hor.resolve_left z
                subst z2
                simp [fillA, t1, t2, g, hadd, z, ssD]
            · intro c hc
              rcases List.mem_append.mp hc with y | y
              · exact q2 c y
              · rw [List.mem_singleton.mp y]; exact List.getElem_mem hv'
            · rw [List.length_append]; simp; omega
          by_cases z : how = 0
          · exact plain1 (.inl z)
          · by_cases z2 : tests = []
            · exact plain1 (.inr z2)
            · have tl : 0 < tests.length := by
                cases tests with
                | nil => exact absurd rfl z2
                | cons _ _ => simp
              obtain ⟨v, a2, b2, t2, hv⟩ := next_s (L := m) (by omega) (a := a1) (b := b1) (k := (tests.length : Int)) (by omega) (by have := W.to.few; omega)
              have hv' : v < tests.length := by omega
              have hseed := List.getElem_mem hv'
              have g : ∀ b en, ixR b (.lst false (tests.map D.str)) (.int (v : Int)) en = .ok (.str tests[v]) en := fun b en => ixO (f := D.str) (List.getElem?_eq_getElem hv') rfl
              generalize tests[v] = seed at hseed g
              have hs8 := W.to.len seed hseed
              obtain ⟨cv, o8', h5⟩ := cut_in (m := m) (how := how) (s0 := some (pl a2 b2)) (s1 := some (wD st rows goods kind tests .non)) (s2 := some (.int (most : Int))) (s4 := some (nD i)) (o8 := o8) (made := made) (seed := seed) hs8
              have hr : rngD [.int 1, .int (seed.length : Int)] = some ((List.range (seed.length - 1)).map fun k => nD (1 + k)) := rngN2 (a := 1) (by omega) (by omega)
              have hsf : slice (.str seed) (some (cv : Int)) none = some (.str (seed.drop cv)) := sliceFrom
              have hadd : binop .add (.str made) (.str (seed.drop cv)) = some (.str (made ++ seed.drop cv)) := addSS (by simp; omega)
              have tl0 : ¬ ((tests.length : Int) = 0) := by omega
              refine ⟨[some (pl a2 b2), some (wD st rows goods kind tests .non), some (.int (most : Int)), some (.str (made ++ seed.drop cv)), some (nD i), some (.int (how : Int)), some (.str seed), some (.int (cv : Int)), o8'], ?_, made ++ seed.drop cv, a2, b2, some (nD i), _, _, _, _, rfl, ?_, ?_⟩
              · simp [fillA, t1, c0, z, z2, ssD, t2, g, hr]
                rw [h5]
                simp [hsf, hadd]
              · intro c hc
                rcases List.mem_append.mp hc with y | y
                · exact q2 c y
                · exact W.to.mem seed hseed c (List.mem_of_mem_drop y)
              · rw [List.length_append, List.length_drop]; omega)
      rw [Nat.zero_add, List.length_range] at q3
      have hr : rngD [.int (2 + (v2 : Int))] = some ((List.range (v2 + 2)).map nD) := by
        have := rngN (n := v2 + 2) (by omega)
        rw [show ((v2 + 2 : Nat) : Int) = 2 + (v2 : Int) by omega] at this
        exact this
      refine ⟨made.take most, a3, b3, ?_, fun c hc => q2 c (List.mem_of_mem_take hc), by simp; omega⟩
      have hsl := slTo (x := made) (k := most)
      simp [f__law_deed, startE, i4, nn, fillA, t1, c7, h7, t2, hr]
      rw [q1]
      simp [hsl, fin, maskP]
  · subst hsc
    refine ⟨s.take most, a, b, ?_, fun c hc => h3 c (List.mem_of_mem_take hc), by simp; omega⟩
    have nn : cmpop .isnot (.str s) .non = some true := rfl
    have hsl := slTo (x := s) (k := most)
    simp [f__law_deed, startE, i4, nn, hsl, fin, maskP]
theorem lt_in {m i : Nat} {ts : List (Nat × Nat)} {o4 : Option D} (hm : 1 ≤ m) (W : WOk st rows goods kind tests sc) (hj : ∀ c ∈ job, c ∈ st) (hl : job.length ≤ 100) (hi : i ≤ job.length) (hts : ts.length ≤ 100000) : ∃ o4', forL (bindT (.nm 4)) (exs prog (callF prog m) none [.ifs (.call 19 [.va 0, .sl (.v 1) (.v 3) (.v 4)])
   [.app 2 [] (.tup [.v 3, .v 4])]
   []]) ((List.range (job.length - i)).map fun k => nD (i + 1 + k)) [some (wD st rows goods kind tests sc), some (.str job), some (.lst true (ts.map pD)), some (.int (i : Int)), o4] = .ok .nx [some (wD st rows goods kind tests sc), some (.str job), some (.lst true ((ts ++ tieR (Tm rows st goods) job i (job.length - i)).map pD)), some (.int (i : Int)), o4'] := by
  obtain ⟨en', h1, o4', rfl⟩ := for_wpM (bd := bindT (.nm 4)) (body := exs prog (callF prog m) none [.ifs (.call 19 [.va 0, .sl (.v 1) (.v 3) (.v 4)])
   [.app 2 [] (.tup [.v 3, .v 4])]
   []]) (fun k => nD (i + 1 + k))
    (fun k en => ∃ o4, en = [some (wD st rows goods kind tests sc), some (.str job), some (.lst true ((ts ++ tieR (Tm rows st goods) job i k).map pD)), some (.int (i : Int)), o4]) (List.range (job.length - i)) 0 [some (wD st rows goods kind tests sc), some (.str job), some (.lst true (ts.map pD)), some (.int (i : Int)), o4] ⟨o4, by simp [tieR]⟩ (by
      rintro k x en hx ⟨o4, rfl⟩
      obtain ⟨hk, hx⟩ := List.getElem?_eq_some_iff.mp hx
      simp at hk hx
      subst hx
      rw [Nat.zero_add]
      have hsl : slice (.str job) (some (i : Int)) (some ((i : Int) + 1 + (k : Int))) = some (.str (sliceL job i (i + k + 1))) := by
        have := slBt (x := job) (i := i) (j := i + k + 1) hi (by omega)
        rw [show ((i + k + 1 : Nat) : Int) = (i : Int) + 1 + (k : Int) by omega] at this
        exact this
      have hln := slice_len (job := job) (i := i) (j := i + k + 1) (by omega)
      have t1 := W.test m (sliceL job i (i + k + 1)) hm (fun z => by rw [z, List.length_nil] at hln; omega) (fun c hc => hj c (slice_mem hc)) (by omega)
      have hlen : (ts ++ tieR (Tm rows st goods) job i k).length < 1000000 := by
        have := tieR_len (T := Tm rows st goods) (job := job) (i := i) (k := k)
        rw [List.length_append]; omega
      have hlen' : ts.length + (tieR (Tm rows st goods) job i k).length < 1000000 := by simpa using hlen
      refine ⟨[some (wD st rows goods kind tests sc), some (.str job), some (.lst true ((ts ++ tieR (Tm rows st goods) job i (k + 1)).map pD)), some (.int (i : Int)), some (nD (i + 1 + k))], ?_, _, rfl⟩
      rw [tieR_succ]
      have e6 : (i : Int) + 1 + (k : Int) = (i : Int) + (k : Int) + 1 := by omega
      cases hT : Tm rows st goods (sliceL job i (i + k + 1)) with
      | true =>
        rw [hT] at t1
        rw [e6] at hsl
        simp [nD, hsl, fillA, t1, hlen', pD, e6]
      | false =>
        rw [hT] at t1
        simp [nD, hsl, fillA, t1])
  rw [Nat.zero_add, List.length_range] at h1
  exact ⟨o4', h1⟩
theorem law_ties_s (hL : 2 ≤ L) (W : WOk st rows goods kind tests sc) (hj : ∀ c ∈ job, c ∈ st) (hl : job.length ≤ 100) : callF prog L 20 [wD st rows goods kind tests sc, .str job] = .ok (.lst true ((tiesOf (Tm rows st goods) job).map pD)) [some (wD st rows goods kind tests sc), some (.str job)] := by
  obtain ⟨m, rfl⟩ : ∃ m, L = m + 1 := ⟨L - 1, by omega⟩
  rw [callF_s (fn := f__law_ties) rfl rfl]
  obtain ⟨en', h1, o3, o4, rfl⟩ := for_wpM (bd := bindT (.nm 3)) (body := exs prog (callF prog m) none [.for (.nm 4) (.rng [.bin .add (.v 3) (.c (.int 1)), .bin .add (.blt .len [.v 1]) (.c (.int 1))])
   [.ifs (.call 19 [.va 0, .sl (.v 1) (.v 3) (.v 4)])
   [.app 2 [] (.tup [.v 3, .v 4])]
   []]]) nD
    (fun i en => ∃ o3 o4, en = [some (wD st rows goods kind tests sc), some (.str job), some (.lst true ((tiesN (Tm rows st goods) job i).map pD)), o3, o4]) (List.range job.length) 0 [some (wD st rows goods kind tests sc), some (.str job), some (.lst true []), none, none] ⟨none, none, rfl⟩ (by
      rintro i x en hx ⟨o3, o4, rfl⟩
      obtain ⟨hi, hx⟩ := List.getElem?_eq_some_iff.mp hx
      simp at hi hx
      subst hx
      rw [Nat.zero_add]
      have hb := tiesN_len (T := Tm rows st goods) (job := job) (n := i)
      have hb2 : i * job.length ≤ 100 * 100 := Nat.mul_le_mul (by omega) hl
      obtain ⟨o4', h2⟩ := lt_in (m := m) (i := i) (ts := tiesN (Tm rows st goods) job i) (o4 := o4) (by omega) W hj hl (by omega) (by omega)
      have hr : rngD [.int ((i : Int) + 1), .int ((job.length : Int) + 1)] = some ((List.range (job.length - i)).map fun k => nD (i + 1 + k)) := by
        have := rngN2 (a := i + 1) (b := job.length + 1) (by omega) (by omega)
        rw [show job.length + 1 - (i + 1) = job.length - i by omega] at this
        exact this
      refine ⟨[some (wD st rows goods kind tests sc), some (.str job), some (.lst true ((tiesN (Tm rows st goods) job (i + 1)).map pD)), some (nD i), o4'], ?_, _, _, rfl⟩
      rw [tiesN_succ]
      simp only [nD]
      simp [-List.map_append, hr]
      rw [h2]
      simp)
  have hr : rngD [.int (job.length : Int)] = some ((List.range job.length).map nD) := rngN (by omega)
  rw [Nat.zero_add, List.length_range] at h1
  simp [f__law_ties, startE, hr]
  rw [h1]
  simp [fin, maskP, tiesOf]
end
end Pk07
end
section
set_option autoImplicit false
set_option linter.all false
set_option maxRecDepth 100000
namespace Pk07
open Q QR
section
variable {L : Nat} {d sc : D} {st : List Nat} {tests : List (List Nat)} {rows : List (List Nat)} {goods job : List Nat} {kind : Nat} {ts : List (Nat × Nat)}
theorem same_o (hL : 1 ≤ L) {a : Option Nat} : callF prog L 21 [oD a, oD a] = .ok (.bl true) [some (oD a), some (oD a)] := by
  obtain ⟨m, rfl⟩ : ∃ m, L = m + 1 := ⟨L - 1, by omega⟩
  rw [callF_s (fn := f__law_same) rfl rfl]
  cases a with
  | none => simp [f__law_same, startE, fin, maskP, oD, typ, isNon]
  | some k => simp [f__law_same, startE, fin, maskP, oD, nD, typ]
theorem same_os (hL : 2 ≤ L) {xs : List (Option Nat)} (hl : xs.length ≤ 1000) : callF prog L 21 [.tup (xs.map oD), .tup (xs.map oD)] = .ok (.bl true) [some (.tup (xs.map oD)), some (.tup (xs.map oD))] := by
  obtain ⟨m, rfl⟩ : ∃ m, L = m + 1 := ⟨L - 1, by omega⟩
  rw [callF_s (fn := f__law_same) rfl rfl]
  obtain ⟨en', h1, o2, rfl⟩ := for_wpM (bd := bindT (.nm 2)) (body := exs prog (callF prog m) none [.ifs (.not (.call 21 [.ixv 0 (.v 2), .ixv 1 (.v 2)]))
   [.ret (.c (.bl false))]
   []]) nD
    (fun i en => ∃ o2, en = [some (.tup (xs.map oD)), some (.tup (xs.map oD)), o2]) (List.range xs.length) 0 [some (.tup (xs.map oD)), some (.tup (xs.map oD)), none] ⟨none, rfl⟩ (by
      rintro i x en hx ⟨o2, rfl⟩
      obtain ⟨hi, hx⟩ := List.getElem?_eq_some_iff.mp hx
      simp at hi hx
      subst hx
      have g : ∀ b en, ixR b (.tup (xs.map oD)) (.int (i : Int)) en = .ok (oD xs[i]) en := fun b en => ixT (List.getElem?_eq_getElem hi) own_oD
      have h1 := same_o (L := m) (by omega) (a := xs[i])
      refine ⟨[some (.tup (xs.map oD)), some (.tup (xs.map oD)), some (nD i)], ?_, _, rfl⟩
      simp [nD, g, fillA, h1])
  have hr : rngD [.int (xs.length : Int)] = some ((List.range xs.length).map nD) := rngN (by omega)
  simp [f__law_same, startE, typ, hr]
  rw [h1]
  simp [fin, maskP]
def stE (s0 s1 s2 : Option D) (S : Ly) (edge : List Nat) (t : Nat) (o7 o8 : Option D) : Q.Env :=
  [s0, s1, s2, some (.lst true (S.steps.map oD)), some (.lst false (edge.map nD)), some (.int (t : Int)), some (.lst true (S.found.map nD)), o7, o8]
theorem rng2 : rngD [.int 2] = some [.int 0, .int 1] := by
  have h := rngN (n := 2) (by omega)
  exact h
theorem pD_0 {b : Bool} {en : Q.Env} {p : Nat × Nat} : ixR b (pD p) (.int 0) en = .ok (.int (p.1 : Int)) en := by simp [pD, nD]
theorem pD_1 {b : Bool} {en : Q.Env} {p : Nat × Nat} : ixR b (pD p) (.int 1) en = .ok (.int (p.2 : Int)) en := by simp [pD, nD]
theorem put_in {m t a b : Nat} {s0 s1 s2 o8 : Option D} {S : Ly} {edge : List Nat} {p : Nat × Nat} {k : Int} (hb : b < S.steps.length) (hf : S.found.length < 900000)
    (h1 : ∀ b en, ixR b (pD p) (.int k) en = .ok (.int (a : Int)) en) (h2 : ∀ c en, ixR c (pD p) (.int (1 - k)) en = .ok (.int (b : Int)) en) :
    om (bindT (.nm 8) (.int k) (stE s0 s1 s2 S edge t (some (pD p)) o8)) (exs prog (callF prog m) none [.ifs (.and (.cmp .isin (.ixv 7 (.v 8)) (.v 4)) (.cmp .is (.ixv 3 (.ixv 7 (.bin .sub (.c (.int 1)) (.v 8)))) (.c (.non))))
   [.sset 3 [] (.ixv 7 (.bin .sub (.c (.int 1)) (.v 8))) (.v 5),
    .app 6 [] (.ixv 7 (.bin .sub (.c (.int 1)) (.v 8)))]
   []]) = .ok .nx (stE s0 s1 s2 (lyPut t edge S a b) edge t (some (pD p)) (some (.int k))) := by
  have g : S.steps[b]? = some S.steps[b] := List.getElem?_eq_getElem hb
  have g2 : ∀ b' en, ixR b' (.lst true (S.steps.map oD)) (.int (b : Int)) en = .ok (oD S.steps[b]) en := fun b' en => ixO g own_oD
  unfold lyPut stE
  rw [g]
  by_cases h : a ∈ edge
  · cases hs : S.steps[b] with
    | none =>
      rw [hs] at g2
      have p1 : ∀ en i, putO (some (.lst true (S.steps.map oD))) (.int (b : Int)) (.int (t : Int)) en i = some (en.set i (some (.lst true ((S.steps.set b (some t)).map oD)))) := fun en i => by
        rw [putN (by simpa using hb), List.map_set]
        rfl
      have hf2 : S.found.length < 1000000 := by omega
      simp [-List.map_set, h1, h2, h, g2, oD, isNon, p1, hf2, nD]
    | some j =>
      rw [hs] at g2
      simp [h1, h2, h, g2, oD, nD, isNon]
  · simp [h1, h2, h]
theorem lyPut_len {t a b : Nat} {edge : List Nat} {S : Ly} : (lyPut t edge S a b).steps.length = S.steps.length ∧ (lyPut t edge S a b).found.length ≤ S.found.length + 1 := by
  unfold lyPut
  split <;> simp
theorem tie_in {m t : Nat} {s0 s1 s2 o7 o8 : Option D} {S : Ly} {edge : List Nat} {p : Nat × Nat} (ha : p.1 < S.steps.length) (hb : p.2 < S.steps.length) (hf : S.found.length < 800000) :
    om (bindT (.nm 7) (pD p) (stE s0 s1 s2 S edge t o7 o8)) (exs prog (callF prog m) none [.for (.nm 8) (.rng [.c (.int 2)])
   [.ifs (.and (.cmp .isin (.ixv 7 (.v 8)) (.v 4)) (.cmp .is (.ixv 3 (.ixv 7 (.bin .sub (.c (.int 1)) (.v 8)))) (.c (.non))))
   [.sset 3 [] (.ixv 7 (.bin .sub (.c (.int 1)) (.v 8))) (.v 5),
    .app 6 [] (.ixv 7 (.bin .sub (.c (.int 1)) (.v 8)))]
   []]]) = .ok .nx (stE s0 s1 s2 (lyTie t edge S p) edge t (some (pD p)) (some (.int 1))) := by
  have h1 := put_in (m := m) (t := t) (s0 := s0) (s1 := s1) (s2 := s2) (o8 := o8) (S := S) (edge := edge) (p := p) (k := 0) (a := p.1) (b := p.2) hb (by omega) (fun b en => pD_0) (fun b en => pD_1)
  obtain ⟨l1, l2⟩ := lyPut_len (t := t) (a := p.1) (b := p.2) (edge := edge) (S := S)
  have h2 := put_in (m := m) (t := t) (s0 := s0) (s1 := s1) (s2 := s2) (o8 := some (.int 0)) (S := lyPut t edge S p.1 p.2) (edge := edge) (p := p) (k := 1) (a := p.2) (b := p.1) (by omega) (by omega) (fun b en => pD_1) (fun b en => pD_0)
  have e : bindT (.nm 7) (pD p) (stE s0 s1 s2 S edge t o7 o8) = some (stE s0 s1 s2 S edge t (some (pD p)) o8) := by simp [stE]
  rw [e, om_some, exs_cons, ex_for]
  have e2 : evIt prog (callF prog m) none (.rng [.c (.int 2)]) (stE s0 s1 s2 S edge t (some (pD p)) o8) = .ok (.lst [.int 0, .int 1]) (stE s0 s1 s2 S edge t (some (pD p)) o8) := by simp [rng2]
  rw [e2, rb_ok, forP_lst, forL_cons]
  have b1 : ∀ (S : Ly) (o8 : Option D) (k : Int), bindT (.nm 8) (.int k) (stE s0 s1 s2 S edge t (some (pD p)) o8) = some (stE s0 s1 s2 S edge t (some (pD p)) (some (.int k))) := fun S o8 k => by simp [stE]
  rw [b1, om_some] at h1 h2 ⊢
  rw [h1, flR_nx, forL_cons, b1, om_some, h2, flR_nx, forL_nil, seq_nx, exs_nil]
  rfl
theorem lyTie_len {t : Nat} {edge : List Nat} {S : Ly} {p : Nat × Nat} : (lyTie t edge S p).steps.length = S.steps.length ∧ (lyTie t edge S p).found.length ≤ S.found.length + 2 := by
  unfold lyTie
  obtain ⟨a, b⟩ := lyPut_len (t := t) (a := p.1) (b := p.2) (edge := edge) (S := S)
  obtain ⟨a2, b2⟩ := lyPut_len (t := t) (a := p.2) (b := p.1) (edge := edge) (S := lyPut t edge S p.1 p.2)
  exact ⟨by omega, by omega⟩
theorem lyF_len {t : Nat} {edge : List Nat} : ∀ {ps : List (Nat × Nat)} {S : Ly}, (ps.foldl (lyTie t edge) S).steps.length = S.steps.length ∧ (ps.foldl (lyTie t edge) S).found.length ≤ S.found.length + 2 * ps.length
  | [], S => ⟨rfl, by simp⟩
  | p :: ps, S => by
    obtain ⟨a, b⟩ := lyTie_len (t := t) (edge := edge) (S := S) (p := p)
    obtain ⟨a2, b2⟩ := lyF_len (t := t) (edge := edge) (ps := ps) (S := lyTie t edge S p)
    rw [List.foldl_cons, List.length_cons]
    exact ⟨by omega, by omega⟩
theorem steps_s (hL : 1 ≤ L) {N s : Nat} {f : Nat → Option Nat} (hN : N ≤ 1000) (hs : s < N) (ht : ts.length ≤ 100000) (ha : ∀ u v, Adj ts u v → v < N) (Df : Dist ts N s f) : callF prog L 22 [.int (N : Int), .lst false (ts.map pD), .int (s : Int)] = .ok (.lst true (((List.range N).map f).map oD)) [some (.int (N : Int)), some (.lst false (ts.map pD)), some (.int (s : Int))] := by
  obtain ⟨m, rfl⟩ : ∃ m, L = m + 1 := ⟨L - 1, by omega⟩
  rw [callF_s (fn := f__law_steps) rfl rfl]
  have hr : rngD [.int (N : Int)] = some ((List.range N).map nD) := rngN (by omega)
  have hr1 : rngD [.int 1, .int ((N : Int) + 1)] = some ((List.range N).map fun k => nD (1 + k)) := by
    have := rngN2 (a := 1) (b := N + 1) (by omega) (by omega)
    rw [show N + 1 - 1 = N by omega] at this
    exact this
  have hc : ∀ b, ev prog (callF prog m) none b (.comp .list (.c .non) (.c .non) [.mk (.nm 8) (.rng [.v 0]) []] [8]) [some (.int (N : Int)), some (.lst false (ts.map pD)), some (.int (s : Int)), none, none, none, none, none, none] = .ok (.lst true ((List.replicate N none).map oD)) [some (.int (N : Int)), some (.lst false (ts.map pD)), some (.int (s : Int)), none, none, none, none, none, none] := fun b => by
    rw [comp_pure (ds := (List.range N).map nD) (f := fun _ => .non)]
    · have e : ((List.range N).map nD).map (fun _ => D.non) = (List.replicate N none).map oD := by
        apply List.ext_getElem?
        intro i
        simp only [List.getElem?_map, List.getElem?_replicate]
        by_cases h : i < N
        · simp [h, oD]
        · simp [h]
      rw [e]
    · simp [hr]
    · simp; exact Nat.le_trans hN (by decide)
    · simp
    · simp
    · intro d hd
      simp
  have pn : ∀ en i, putO (some (.lst true ((List.replicate N none).map oD))) (.int (s : Int)) (.int 0) en i = some (en.set i (some (.lst true (((List.replicate N none).set s (some 0)).map oD)))) := fun en i => by
    rw [putN (by simpa using hs), List.map_set]
    rfl
  have hD0 : ∀ v, v < N → (((List.replicate N (none : Option Nat)).set s (some 0))[v]?).join = cutd f 0 v := fun v hv => by
    by_cases e : v = s
    · subst e
      rw [List.getElem?_set_self (by simpa using hs)]
      unfold cutd
      rw [(Df.zero v).mpr rfl]
      rfl
    · rw [List.getElem?_set_ne (fun z => e z.symm), List.getElem?_replicate, if_pos hv]
      unfold cutd
      cases hf : f v with
      | none => rfl
      | some k =>
        cases k with
        | zero => exact absurd ((Df.zero v).mp hf) e
        | succ k => simp
  have hE0 : ∀ v, v ∈ [s] ↔ f v = some 0 := fun v => by rw [Df.zero v, List.mem_singleton]
  obtain ⟨en', h1, stp, edge, o5, o6, o7, o8, rfl, h2, h3, h4⟩ := for_wpM (bd := bindT (.nm 5)) (body := exs prog (callF prog m) none [.asg (.nm 6) (.lst []),
    .for (.nm 7) (.val (.v 1))
   [.for (.nm 8) (.rng [.c (.int 2)])
   [.ifs (.and (.cmp .isin (.ixv 7 (.v 8)) (.v 4)) (.cmp .is (.ixv 3 (.ixv 7 (.bin .sub (.c (.int 1)) (.v 8)))) (.c (.non))))
   [.sset 3 [] (.ixv 7 (.bin .sub (.c (.int 1)) (.v 8))) (.v 5),
    .app 6 [] (.ixv 7 (.bin .sub (.c (.int 1)) (.v 8)))]
   []]],
    .asg (.nm 4) (.v 6)]) (fun k => nD (1 + k))
    (fun i en => ∃ (stp : List (Option Nat)) (edge : List Nat) (o5 o6 o7 o8 : Option D), en = [some (.int (N : Int)), some (.lst false (ts.map pD)), some (.int (s : Int)), some (.lst true (stp.map oD)), some (.lst false (edge.map nD)), o5, o6, o7, o8] ∧ stp.length = N ∧ (∀ v, v < N → (stp[v]?).join = cutd f i v) ∧ ∀ v, v ∈ edge ↔ f v = some i) (List.range N) 0 [some (.int (N : Int)), some (.lst false (ts.map pD)), some (.int (s : Int)), some (.lst true (((List.replicate N none).set s (some 0)).map oD)), some (.lst false ([s].map nD)), none, none, none, none] ⟨_, _, none, none, none, none, rfl, by simp, hD0, hE0⟩ (by
      rintro i x en hx ⟨stp, edge, o5, o6, o7, o8, rfl, h2, h3, h4⟩
      obtain ⟨hi, hx⟩ := List.getElem?_eq_some_iff.mp hx
      simp at hi hx
      subst hx
      rw [Nat.zero_add] at h3 h4 ⊢
      obtain ⟨g1, g2, g3⟩ := ly_turn Df ha h4 h2 h3
      obtain ⟨en2, q1, o7', o8', rfl⟩ := for_wpM (bd := bindT (.nm 7)) (body := exs prog (callF prog m) none [.for (.nm 8) (.rng [.c (.int 2)])
   [.ifs (.and (.cmp .isin (.ixv 7 (.v 8)) (.v 4)) (.cmp .is (.ixv 3 (.ixv 7 (.bin .sub (.c (.int 1)) (.v 8)))) (.c (.non))))
   [.sset 3 [] (.ixv 7 (.bin .sub (.c (.int 1)) (.v 8))) (.v 5),
    .app 6 [] (.ixv 7 (.bin .sub (.c (.int 1)) (.v 8)))]
   []]]) pD
        (fun k en => ∃ o7 o8, en = stE (some (.int (N : Int))) (some (.lst false (ts.map pD))) (some (.int (s : Int))) ((ts.take k).foldl (lyTie (i + 1) edge) ⟨stp, []⟩) edge (i + 1) o7 o8) ts 0 (stE (some (.int (N : Int))) (some (.lst false (ts.map pD))) (some (.int (s : Int))) ⟨stp, []⟩ edge (i + 1) o7 o8) ⟨o7, o8, rfl⟩ (by
          rintro k p en hp ⟨o7, o8, rfl⟩
          rw [Nat.zero_add]
          obtain ⟨l1, l2⟩ := lyF_len (t := i + 1) (edge := edge) (ps := ts.take k) (S := ⟨stp, []⟩)
          have hpm := List.mem_of_getElem? hp
          obtain ⟨pa, pb⟩ := p
          have ad : Adj ts pa pb := .inl hpm
          have l3 : (ts.take k).length ≤ 100000 := by rw [List.length_take]; omega
          have l1' : ((ts.take k).foldl (lyTie (i + 1) edge) ⟨stp, []⟩).steps.length = N := by rw [l1]; exact h2
          have l2' : ((ts.take k).foldl (lyTie (i + 1) edge) ⟨stp, []⟩).found.length ≤ 200000 := by
            have : (Ly.mk stp ([] : List Nat)).found.length = 0 := rfl
            omega
          have e9 : (ts.take (k + 1)).foldl (lyTie (i + 1) edge) ⟨stp, []⟩ = lyTie (i + 1) edge ((ts.take k).foldl (lyTie (i + 1) edge) ⟨stp, []⟩) (pa, pb) := by
            rw [List.take_add_one, hp, List.foldl_append]
            rfl
          rw [e9]
          exact ⟨_, tie_in (m := m) (p := (pa, pb)) (by rw [l1']; exact ha pb pa ad.symm) (by rw [l1']; exact ha pa pb ad) (by omega), _, _, rfl⟩)
      rw [Nat.zero_add, List.take_length] at q1
      obtain ⟨S', hS'⟩ : ∃ S', S' = ts.foldl (lyTie (i + 1) edge) ⟨stp, []⟩ := ⟨_, rfl⟩
      rw [← hS'] at q1 g1 g2 g3
      refine ⟨[some (.int (N : Int)), some (.lst false (ts.map pD)), some (.int (s : Int)), some (.lst true (S'.steps.map oD)), some (.lst false (S'.found.map nD)), some (.int ((i + 1 : Nat) : Int)), some (.lst false (S'.found.map nD)), o7', o8'], ?_, S'.steps, S'.found, _, _, _, _, rfl, g1, g2, g3⟩
      have e7 : (1 : Int) + (i : Int) = ((i + 1 : Nat) : Int) := by omega
      simp only [stE, List.map_nil] at q1
      rw [show ((i + 1 : Nat) : Int) = (1 : Int) + (i : Int) by omega] at q1 ⊢
      simp [nD]
      rw [q1]
      simp)
  rw [Nat.zero_add, List.length_range] at h3 h4
  have hst : stp = (List.range N).map f := by
    apply List.ext_getElem?
    intro v
    rw [List.getElem?_map]
    by_cases hv : v < N
    · rw [List.getElem?_range hv]
      have := h3 v hv
      rw [List.getElem?_eq_getElem (by omega)] at this ⊢
      have this : stp[v] = cutd f N v := this
      rw [this]
      unfold cutd
      cases hf : f v with
      | none => simp [hf]
      | some k =>
        have := (Df.lt v k hf).1
        simp [hf, show k ≤ N by omega]
    · rw [List.getElem?_eq_none (by omega), List.getElem?_eq_none (by simp; omega)]
      rfl
  rw [← hst]
  rw [exs_cut 3 (en1 := [some (.int (N : Int)), some (.lst false (ts.map pD)), some (.int (s : Int)), some (.lst true (((List.replicate N none).set s (some 0)).map oD)), some (.lst false ([s].map nD)), none, none, none, none]) (by
    simp [-List.map_replicate, -List.map_set, f__law_steps, startE, hc, pn, nD])]
  simp [-List.map_replicate, -List.map_set, f__law_steps, hr1]
  rw [show ([nD s] : List D) = [s].map nD from rfl, h1]
  simp [fin, maskP]
end
end Pk07
end
section
set_option autoImplicit false
set_option linter.all false
set_option maxRecDepth 100000
namespace Pk07
open Q QR
section
variable {L : Nat} {d sc : D} {st : List Nat} {tests : List (List Nat)} {rows : List (List Nat)} {goods job : List Nat} {kind : Nat} {ts : List (Nat × Nat)}
theorem min2I {a b : Int} : blt .min2 [.int a, .int b] = some (.int (if b < a then b else a)) := rfl
theorem max2I {a b : Int} : blt .max2 [.int a, .int b] = some (.int (if b > a then b else a)) := rfl
theorem walk_none (hL : 1 ≤ L) {s e : Nat} : callF prog L 23 [.non, .lst false (ts.map pD), .int (s : Int), .int (e : Int), .non] = .ok (.bl true) [some .non, some (.lst false (ts.map pD)), some (.int (s : Int)), some (.int (e : Int)), some .non] := by
  obtain ⟨m, rfl⟩ : ∃ m, L = m + 1 := ⟨L - 1, by omega⟩
  rw [callF_s (fn := f__law_walk) rfl rfl]
  simp [f__law_walk, startE, isNon, fin, maskP]
theorem walk_yes (hL : 1 ≤ L) {s e k : Nat} {ws : List Nat} (ho : ∀ p ∈ ts, p.1 < p.2) (hl : ws.length = k + 1) (hk : k ≤ 1000) (Wk : Walk ts s e ws) : callF prog L 23 [.tup (ws.map nD), .lst false (ts.map pD), .int (s : Int), .int (e : Int), .int (k : Int)] = .ok (.bl true) [some (.tup (ws.map nD)), some (.lst false (ts.map pD)), some (.int (s : Int)), some (.int (e : Int)), some (.int (k : Int))] := by
  obtain ⟨m, rfl⟩ : ∃ m, L = m + 1 := ⟨L - 1, by omega⟩
  rw [callF_s (fn := f__law_walk) rfl rfl]
  obtain ⟨en1, h1, o5, rfl⟩ := for_wpM (bd := bindT (.nm 5)) (body := exs prog (callF prog m) none [.ifs (.or (.not (.isi (.v 5) [.int])) (.isi (.v 5) [.bool]))
   [.ret (.c (.bl false))]
   []]) nD
    (fun i en => ∃ o5, en = [some (.tup (ws.map nD)), some (.lst false (ts.map pD)), some (.int (s : Int)), some (.int (e : Int)), some (.int (k : Int)), o5, none]) ws 0 [some (.tup (ws.map nD)), some (.lst false (ts.map pD)), some (.int (s : Int)), some (.int (e : Int)), some (.int (k : Int)), none, none] ⟨none, rfl⟩ (by
      rintro i x en hx ⟨o5, rfl⟩
      refine ⟨[some (.tup (ws.map nD)), some (.lst false (ts.map pD)), some (.int (s : Int)), some (.int (e : Int)), some (.int (k : Int)), some (nD x), none], ?_, _, rfl⟩
      simp [nD, typ])
  obtain ⟨en2, h2, o6, rfl⟩ := for_wpM (bd := bindT (.nm 6)) (body := exs prog (callF prog m) none [.ifs (.cmp .notin (.tup [.blt .min2 [.ixv 0 (.v 6), .ixv 0 (.bin .add (.v 6) (.c (.int 1)))], .blt .max2 [.ixv 0 (.v 6), .ixv 0 (.bin .add (.v 6) (.c (.int 1)))]]) (.v 1))
   [.ret (.c (.bl false))]
   []]) nD
    (fun i en => ∃ o6, en = [some (.tup (ws.map nD)), some (.lst false (ts.map pD)), some (.int (s : Int)), some (.int (e : Int)), some (.int (k : Int)), o5, o6]) (List.range k) 0 [some (.tup (ws.map nD)), some (.lst false (ts.map pD)), some (.int (s : Int)), some (.int (e : Int)), some (.int (k : Int)), o5, none] ⟨none, rfl⟩ (by
      rintro i x en hx ⟨o6, rfl⟩
      obtain ⟨hi, hx⟩ := List.getElem?_eq_some_iff.mp hx
      simp at hi hx
      subst hx
      have g1 : ws[i]? = some ws[i] := List.getElem?_eq_getElem (by omega)
      have g2 : ws[i + 1]? = some ws[i + 1] := List.getElem?_eq_getElem (by omega)
      have ha := Wk.st i _ _ g1 g2
      generalize ws[i] = u at g1 ha
      generalize ws[i + 1] = v at g2 ha
      have i1 : ∀ b en, ixR b (.tup (ws.map nD)) (.int (i : Int)) en = .ok (.int (u : Int)) en := fun b en => ixT (f := nD) g1 rfl
      have i2 : ∀ b en, ixR b (.tup (ws.map nD)) (.int ((i : Int) + 1)) en = .ok (.int (v : Int)) en := fun b en => by
        have := ixT (b := b) (en := en) (f := nD) g2 rfl
        exact this
      have hin : cmpop .notin (.tup [.int (if (v : Int) < u then (v : Int) else u), .int (if (u : Int) < v then (v : Int) else u)]) (.lst false (ts.map pD)) = some false := by
        rcases ha with ha | ha
        · have hlt : u < v := ho _ ha
          have c1 : ¬ ((v : Int) < u) := by omega
          have c2 : (u : Int) < v := by omega
          rw [if_neg c1, if_pos c2]
          have := ninPL (p := (u, v)) (ks := ts) (o := false)
          rw [decide_eq_true ha] at this
          exact this
        · have hlt : v < u := ho _ ha
          have c1 : (v : Int) < u := by omega
          have c2 : ¬ ((u : Int) < v) := by omega
          rw [if_pos c1, if_neg c2]
          have := ninPL (p := (v, u)) (ks := ts) (o := false)
          rw [decide_eq_true ha] at this
          exact this
      refine ⟨[some (.tup (ws.map nD)), some (.lst false (ts.map pD)), some (.int (s : Int)), some (.int (e : Int)), some (.int (k : Int)), o5, some (nD i)], ?_, _, rfl⟩
      simp only [castLt] at hin
      simp [nD, i1, i2, min2I, max2I, hin])
  have hh : ∀ b en, ixR b (.tup (ws.map nD)) (.int 0) en = .ok (.int (s : Int)) en := fun b en => by
    have h := Wk.hd
    cases ws with
    | nil => simp at hl
    | cons w ws =>
      cases h
      simp [nD]
  have hz : ∀ b en, ixR b (.tup (ws.map nD)) (.int (-1)) en = .ok (.int (e : Int)) en := fun b en => ixLastT (by rw [List.getLast?_map, Wk.ls]; rfl) rfl
  have hr : rngD [.int (k : Int)] = some ((List.range k).map nD) := rngN (by omega)
  have hl' : (ws.length : Int) = (k : Int) + 1 := by omega
  simp [f__law_walk, startE, isNon, typ, hl']
  rw [h1]
  simp [hh, hz, hr]
  rw [h2]
  simp [fin, maskP]
theorem walk_let (hL : 5 ≤ L) {s e : Nat} {f : Nat → Option Nat} (M : MOk st rows goods) (hj : ∀ c ∈ job, c ∈ st) (hl : job.length ≤ 100) (hs : s < job.length + 1) (he : e < job.length + 1) (Df : Dist (tiesOf (Tm rows st goods) job) (job.length + 1) s f) : ∃ v ps, callF prog L 9 [mD st rows goods, .str job, .int (s : Int), .int (e : Int)] = .ok v ps ∧ own v = false ∧ fz v = v ∧
    ∀ K, 1 ≤ K → callF prog K 23 [v, .lst false ((tiesOf (Tm rows st goods) job).map pD), .int (s : Int), .int (e : Int), oD (f e)] = .ok (.bl true) [some v, some (.lst false ((tiesOf (Tm rows st goods) job).map pD)), some (.int (s : Int)), some (.int (e : Int)), some (oD (f e))] := by
  obtain ⟨f', ps, D', h⟩ := walk_of_s hL M hj hl hs he
  have ef := D'.uniq Df
  subst ef
  have ho : ∀ p ∈ tiesOf (Tm rows st goods) job, p.1 < p.2 := fun p hp => (tiesOf_mem.mp (show (p.1, p.2) ∈ _ from hp)).1
  cases hf : f' e with
  | none =>
    rw [hf] at h
    exact ⟨.non, ps, h, rfl, rfl, fun K hK => walk_none hK⟩
  | some k =>
    rw [hf] at h
    obtain ⟨ws, h1, h2, h3⟩ := h
    have hk := (D'.lt e k hf).1
    exact ⟨.tup (ws.map nD), ps, h1, rfl, rfl, fun K hK => walk_yes hK ho h2 (by omega) h3⟩
theorem spots_in {m N s : Nat} {s0 o8 : Option D} {f : Nat → Option Nat} {xs : List Nat} (hm : 6 ≤ m) (M : MOk st rows goods) (hj : ∀ c ∈ job, c ∈ st) (hl : job.length ≤ 100) (hN : N = job.length + 1) (hs : s < N) (hx : ∀ x ∈ xs, x < N) (Df : Dist (tiesOf (Tm rows st goods) job) N s f) : ∃ o8', forL (bindT (.nm 8)) (exs prog (callF prog m) none [.ifs (.not (.call 23 [.call 9 [.va 1, .va 2, .va 5, .va 8], .va 3, .va 5, .va 8, .ixv 6 (.v 8)]))
   [.ret (.c (.bl false))]
   []]) (xs.map nD) [s0, some (mD st rows goods), some (.str job), some (.lst false ((tiesOf (Tm rows st goods) job).map pD)), some (.int (N : Int)), some (.int (s : Int)), some (.lst false (((List.range N).map f).map oD)), some (.lst false (xs.map nD)), o8] = .ok .nx [s0, some (mD st rows goods), some (.str job), some (.lst false ((tiesOf (Tm rows st goods) job).map pD)), some (.int (N : Int)), some (.int (s : Int)), some (.lst false (((List.range N).map f).map oD)), some (.lst false (xs.map nD)), o8'] := by
  subst hN
  obtain ⟨en', h1, o8', rfl⟩ := for_wpM (bd := bindT (.nm 8)) (body := exs prog (callF prog m) none [.ifs (.not (.call 23 [.call 9 [.va 1, .va 2, .va 5, .va 8], .va 3, .va 5, .va 8, .ixv 6 (.v 8)]))
   [.ret (.c (.bl false))]
   []]) nD
    (fun i en => ∃ o8, en = [s0, some (mD st rows goods), some (.str job), some (.lst false ((tiesOf (Tm rows st goods) job).map pD)), some (.int ((job.length + 1 : Nat) : Int)), some (.int (s : Int)), some (.lst false (((List.range (job.length + 1)).map f).map oD)), some (.lst false (xs.map nD)), o8]) xs 0 [s0, some (mD st rows goods), some (.str job), some (.lst false ((tiesOf (Tm rows st goods) job).map pD)), some (.int ((job.length + 1 : Nat) : Int)), some (.int (s : Int)), some (.lst false (((List.range (job.length + 1)).map f).map oD)), some (.lst false (xs.map nD)), o8] ⟨o8, rfl⟩ (by
      rintro i x en hxi ⟨o8, rfl⟩
      have hx2 := hx x (List.mem_of_getElem? hxi)
      obtain ⟨v, ps, t1, hv, hv2, t2⟩ := walk_let (L := m) (by omega) M hj hl hs hx2 Df
      have t3 := t2 m (by omega)
      have g : ∀ b en, ixR b (.lst false (((List.range (job.length + 1)).map f).map oD)) (.int (x : Int)) en = .ok (oD (f x)) en := fun b en => ixO (f := oD) (by rw [List.getElem?_map, List.getElem?_range hx2]; rfl) own_oD
      refine ⟨[s0, some (mD st rows goods), some (.str job), some (.lst false ((tiesOf (Tm rows st goods) job).map pD)), some (.int ((job.length + 1 : Nat) : Int)), some (.int (s : Int)), some (.lst false (((List.range (job.length + 1)).map f).map oD)), some (.lst false (xs.map nD)), some (nD x)], ?_, _, rfl⟩
      simp [-List.map_map, nD, fillA, t1, g, t3])
  exact ⟨o8', h1⟩
theorem walks_s (hL : 7 ≤ L) {a b : Int} (M : MOk st rows goods) (hj : ∀ c ∈ job, c ∈ st) (hl : job.length ≤ 50) : ∃ a' b', callF prog L 24 [pl a b, mD st rows goods, .str job, .lst false ((tiesOf (Tm rows st goods) job).map pD)] = .ok (.bl true) [some (pl a' b'), some (mD st rows goods), some (.str job), some (.lst false ((tiesOf (Tm rows st goods) job).map pD))] := by
  obtain ⟨m, rfl⟩ : ∃ m, L = m + 1 := ⟨L - 1, by omega⟩
  rw [callF_s (fn := f__law_walks) rfl rfl]
  have hlen : (tiesOf (Tm rows st goods) job).length ≤ 100000 := by
    have := tiesN_len (T := Tm rows st goods) (job := job) (n := job.length)
    have h2 : job.length * job.length ≤ 50 * 50 := Nat.mul_le_mul hl hl
    unfold tiesOf
    omega
  have hadj : ∀ u v, Adj (tiesOf (Tm rows st goods) job) u v → v < job.length + 1 := fun u v h => (adj_lt h).2
  have hr : rngD [.int ((job.length : Int) + 1)] = some ((List.range (job.length + 1)).map nD) := rngN (n := job.length + 1) (by omega)
  obtain ⟨en', h1, a', b', o5, o6, o7, o8, rfl⟩ := for_wpM (bd := bindT (.nm 5)) (body := exs prog (callF prog m) none [.asg (.nm 6) (.fz (.call 22 [.va 4, .va 3, .va 5])),
    .ifs (.not (.call 21 [.call 10 [.va 1, .va 2, .va 5], .blt .tuple [.v 6]]))
   [.ret (.c (.bl false))]
   [],
    .asg (.nm 7) (.fz (.of .list (.rng [.v 4]))),
    .ifs (.cmp .gt (.v 4) (.c (.int 6)))
   [.asg (.nm 7) (.fz (.lst [.v 5, .call 12 [.va 0, .va 4], .call 12 [.va 0, .va 4], .blt .len [.v 2]]))]
   [],
    .for (.nm 8) (.val (.v 7))
   [.ifs (.not (.call 23 [.call 9 [.va 1, .va 2, .va 5, .va 8], .va 3, .va 5, .va 8, .ixv 6 (.v 8)]))
   [.ret (.c (.bl false))]
   []]]) nD
    (fun i en => ∃ (a b : Int) (o5 o6 o7 o8 : Option D), en = [some (pl a b), some (mD st rows goods), some (.str job), some (.lst false ((tiesOf (Tm rows st goods) job).map pD)), some (.int ((job.length : Int) + 1)), o5, o6, o7, o8]) (List.range (job.length + 1)) 0 [some (pl a b), some (mD st rows goods), some (.str job), some (.lst false ((tiesOf (Tm rows st goods) job).map pD)), some (.int ((job.length : Int) + 1)), none, none, none, none] ⟨a, b, none, none, none, none, rfl⟩ (by
      rintro i x en hx ⟨a, b, o5, o6, o7, o8, rfl⟩
      obtain ⟨hi, hx⟩ := List.getElem?_eq_some_iff.mp hx
      simp at hi hx
      subst hx
      obtain ⟨f, ps, Df, t1⟩ := ties_between_s (L := m) (by omega) M hj (by omega) (s := i) hi
      have t2 := steps_s (L := m) (by omega) (N := job.length + 1) (by omega) hi hlen hadj Df
      have t3 := same_os (L := m) (by omega) (xs := (List.range (job.length + 1)).map f) (by simp; omega)
      rw [show ((job.length + 1 : Nat) : Int) = (job.length : Int) + 1 by omega] at t2
      have e4 : blt .tuple [.lst false (((List.range (job.length + 1)).map f).map oD)] = some (.tup (((List.range (job.length + 1)).map f).map oD)) := tupleL ok_o
      by_cases h6 : 6 < job.length + 1
      · obtain ⟨v1, a1, b1, q1, hv1⟩ := next_s (L := m) (by omega) (a := a) (b := b) (k := (job.length : Int) + 1) (by omega) (by omega)
        obtain ⟨v2, a2, b2, q2, hv2⟩ := next_s (L := m) (by omega) (a := a1) (b := b1) (k := (job.length : Int) + 1) (by omega) (by omega)
        obtain ⟨o8', h2⟩ := spots_in (m := m) (N := job.length + 1) (s := i) (s0 := some (pl a2 b2)) (o8 := o8) (xs := [i, v1, v2, job.length]) (by omega) M hj (by omega) rfl hi (by
          intro x hx
          simp only [List.mem_cons, List.not_mem_nil, or_false] at hx
          rcases hx with rfl | rfl | rfl | rfl <;> omega) Df
        refine ⟨[some (pl a2 b2), some (mD st rows goods), some (.str job), some (.lst false ((tiesOf (Tm rows st goods) job).map pD)), some (.int ((job.length : Int) + 1)), some (.int (i : Int)), some (.lst false (((List.range (job.length + 1)).map f).map oD)), some (.lst false ([i, v1, v2, job.length].map nD)), o8'], ?_, _, _, _, _, _, _, rfl⟩
        have h6' : (6 : Int) < (job.length : Int) + 1 := by omega
        have bl : ∀ xs : List D, blt .list [.tup xs] = some (.lst true xs) := fun _ => rfl
        rw [show ((job.length + 1 : Nat) : Int) = (job.length : Int) + 1 by omega] at h2
        simp only [List.map_cons, List.map_nil, nD] at h2
        have it4 : items (.lst false [.int (i : Int), .int (v1 : Int), .int (v2 : Int), .int (job.length : Int)]) = some [.int (i : Int), .int (v1 : Int), .int (v2 : Int), .int (job.length : Int)] := rfl
        simp [-List.map_map, nD, fillA, t1, t2, e4, t3, hr, bl, h6', q1, q2, it4]
        rw [h2]
        simp
      · obtain ⟨o8', h2⟩ := spots_in (m := m) (N := job.length + 1) (s := i) (s0 := some (pl a b)) (o8 := o8) (xs := List.range (job.length + 1)) (by omega) M hj (by omega) rfl hi (by
          intro x hx
          exact List.mem_range.mp hx) Df
        refine ⟨[some (pl a b), some (mD st rows goods), some (.str job), some (.lst false ((tiesOf (Tm rows st goods) job).map pD)), some (.int ((job.length : Int) + 1)), some (.int (i : Int)), some (.lst false (((List.range (job.length + 1)).map f).map oD)), some (.lst false ((List.range (job.length + 1)).map nD)), o8'], ?_, _, _, _, _, _, _, rfl⟩
        have h6' : ¬ (6 : Int) < (job.length : Int) + 1 := by omega
        have bl : ∀ xs : List D, blt .list [.tup xs] = some (.lst true xs) := fun _ => rfl
        rw [show ((job.length + 1 : Nat) : Int) = (job.length : Int) + 1 by omega] at h2
        simp [-List.map_map, nD, fillA, t1, t2, e4, t3, hr, bl, h6']
        rw [h2]
        simp)
  refine ⟨a', b', ?_⟩
  simp [f__law_walks, startE, hr]
  rw [h1]
  simp [fin, maskP]
end
end Pk07
end
section
set_option autoImplicit false
set_option linter.all false
set_option maxRecDepth 100000
namespace Pk07
open Q QR
section
variable {L : Nat} {d sc : D} {st : List Nat} {tests : List (List Nat)} {rows : List (List Nat)} {goods job : List Nat} {kind : Nat} {ts : List (Nat × Nat)}
theorem sameH_str (hL : 1 ≤ L) {w : List Nat} : callF prog L 28 [.str w, .str w] = .ok (.bl true) [some (.str w), some (.str w)] := by
  obtain ⟨m, rfl⟩ : ∃ m, L = m + 1 := ⟨L - 1, by omega⟩
  rw [callF_s (fn := f__law_same_H) rfl rfl]
  simp [f__law_same_H, startE, fin, maskP, typ]
theorem sameH_int (hL : 1 ≤ L) {i : Int} : callF prog L 28 [.int i, .int i] = .ok (.bl true) [some (.int i), some (.int i)] := by
  obtain ⟨m, rfl⟩ : ∃ m, L = m + 1 := ⟨L - 1, by omega⟩
  rw [callF_s (fn := f__law_same_H) rfl rfl]
  simp [f__law_same_H, startE, fin, maskP, typ]
theorem sup_any : (prog.sup 4).any [4].contains = true := by decide
theorem fld_0 {x y : D} : fieldOf 0 (prog.fnm 4) [x, y] = some x := rfl
theorem fld_1 {x y : D} : fieldOf 1 (prog.fnm 4) [x, y] = some y := rfl
theorem hand_s {m : Nat} {en : Q.Env} {w : List Nat} (hm : 1 ≤ m) (h5 : Q.get en 5 = some (.str w)) : exs prog (callF prog m) (some (4, [.str w, .int (-1)])) [.ifs (.or (.not (.xisi [2])) (.or (.not (.xisi [0])) (.xisi [3])))
   [.ret (.c (.bl false))]
   [],
    .ret (.and (.callh 28 [.xattr 0, .v 5]) (.callh 28 [.xattr 1, .neg (.c (.int 1))]))] en = .ok (.rt (.bl true)) en := by
  have h1 := sameH_str (L := m) hm (w := w)
  have h2 := sameH_int (L := m) hm (i := -1)
  have s2 : 2 ∈ prog.sup 4 := by decide
  have s0 : 0 ∈ prog.sup 4 := by decide
  have s3 : ¬ 3 ∈ prog.sup 4 := by decide
  simp [s2, s0, s3, fld_0, fld_1, h5, h1, h2]
theorem ref0_s (hL : 6 ≤ L) {rest : List D} {d1 d2 : D} {w : List Nat} (hd : niceB d = true) (h1 : niceB d1 = true) (h2 : niceB d2 = true) (h : (if jobB st d then badP (jlen d) [(wHere, d1), (wThere, d2)] else some wJob) = some w) : ∃ ps, callF prog L 25 [.int 0, .tup (.str st :: rest), d, d1, d2, .str w] = .ok (.bl true) ps := by
  obtain ⟨m, rfl⟩ : ∃ m, L = m + 1 := ⟨L - 1, by omega⟩
  rw [callF_s (fn := f__law_refuses) rfl rfl]
  obtain ⟨ps, t⟩ := walk_of_bad (L := m) (by omega) (rest := rest) hd h1 h2 h
  refine ⟨[some (.int 0), some (.tup (.str st :: rest)), some d, some d1, some d2, some (.str w)], ?_⟩
  have hb : exs prog (callF prog m) none [.ifs (.cmp .eq (.v 0) (.c (.int 0)))
   [.expr (.call 9 [.va 1, .va 2, .va 3, .va 4])]
   [.expr (.call 10 [.va 1, .va 2, .va 3])]] [some (.int 0), some (.tup (.str st :: rest)), some d, some d1, some d2, some (.str w), none] = .ex 4 [.str w, .int (-1)] [some (.int 0), some (.tup (.str st :: rest)), some d, some d1, some d2, some (.str w), none] := by
    simp [fillA, own_nice hd, own_nice h1, own_nice h2, t]
  have hh := hand_s (m := m) (en := [some (.int 0), some (.tup (.str st :: rest)), some d, some d1, some d2, some (.str w), none]) (w := w) (by omega) (by simp)
  have sa := sup_any
  simp only [f__law_refuses, startE, exs_cons, ex_try]
  rw [show (List.map some [D.int 0, D.tup (D.str st :: rest), d, d1, d2, D.str w] ++ List.replicate (7 - 6) none) = [some (D.int 0), some (.tup (.str st :: rest)), some d, some d1, some d2, some (.str w), none] from rfl]
  simp only [← exs_cons]
  rw [hb]
  simp only [sa, if_true, clr, List.set_cons_succ, List.set_cons_zero]
  rw [hh]
  simp [fin, maskP, clr]
theorem ref1_s (hL : 6 ≤ L) {rest : List D} {d1 d2 : D} {w : List Nat} (hd : niceB d = true) (h1 : niceB d1 = true) (h2 : niceB d2 = true) (h : (if jobB st d then badP (jlen d) [(wHere, d1)] else some wJob) = some w) : ∃ ps, callF prog L 25 [.int 1, .tup (.str st :: rest), d, d1, d2, .str w] = .ok (.bl true) ps := by
  obtain ⟨m, rfl⟩ : ∃ m, L = m + 1 := ⟨L - 1, by omega⟩
  rw [callF_s (fn := f__law_refuses) rfl rfl]
  obtain ⟨ps, t⟩ := ties_between_bad (L := m) (by omega) (rest := rest) hd h1 h
  refine ⟨[some (.int 1), some (.tup (.str st :: rest)), some d, some d1, some d2, some (.str w)], ?_⟩
  have hb : exs prog (callF prog m) none [.ifs (.cmp .eq (.v 0) (.c (.int 0)))
   [.expr (.call 9 [.va 1, .va 2, .va 3, .va 4])]
   [.expr (.call 10 [.va 1, .va 2, .va 3])]] [some (.int 1), some (.tup (.str st :: rest)), some d, some d1, some d2, some (.str w), none] = .ex 4 [.str w, .int (-1)] [some (.int 1), some (.tup (.str st :: rest)), some d, some d1, some d2, some (.str w), none] := by
    simp [fillA, own_nice hd, own_nice h1, own_nice h2, t]
  have hh := hand_s (m := m) (en := [some (.int 1), some (.tup (.str st :: rest)), some d, some d1, some d2, some (.str w), none]) (w := w) (by omega) (by simp)
  have sa := sup_any
  simp only [f__law_refuses, startE, exs_cons, ex_try]
  rw [show (List.map some [D.int 1, D.tup (D.str st :: rest), d, d1, d2, D.str w] ++ List.replicate (7 - 6) none) = [some (D.int 1), some (.tup (.str st :: rest)), some d, some d1, some d2, some (.str w), none] from rfl]
  simp only [← exs_cons]
  rw [hb]
  simp only [sa, if_true, clr, List.set_cons_succ, List.set_cons_zero]
  rw [hh]
  simp [fin, maskP, clr]
end
end Pk07
end
section
set_option autoImplicit false
set_option linter.all false
set_option maxRecDepth 100000
namespace Pk07
open Q QR
section
variable {L : Nat} {d sc : D} {st : List Nat} {tests : List (List Nat)} {rows : List (List Nat)} {goods job : List Nat} {kind : Nat} {ts : List (Nat × Nat)}
def oth (st : List Nat) : List Nat := [118, 119, 120, 121, 122].filter fun c => !st.contains c
theorem oth_ne (h : LOk st) : ∃ o r, oth st = o :: r ∧ o ∉ st := by
  cases e : oth st with
  | nil =>
    have h1 : ∀ x ∈ [118, 119, 120, 121, 122], x ∈ st := fun x hx => by
      apply Classical.byContradiction
      intro hn
      have : x ∈ oth st := by
        unfold oth
        rw [List.mem_filter]
        exact ⟨hx, by simpa using hn⟩
      rw [e] at this
      cases this
    have h2 := nodup_sub (l := [118, 119, 120, 121, 122]) (m := st) (by decide) h1
    have := h.few
    simp at h2
    omega
  | cons o r =>
    refine ⟨o, r, rfl, ?_⟩
    have : o ∈ oth st := by rw [e]; exact List.mem_cons_self
    unfold oth at this
    rw [List.mem_filter] at this
    simpa using this.2
theorem not_job {w : List Nat} {c : Nat} (hc : c ∈ w) (hn : c ∉ st) : jobB st (.str w) = false := by
  show (w.all fun c => st.contains c) = false
  rw [List.all_eq_false]
  exact ⟨c, hc, by simpa using hn⟩
theorem nice_str {w : List Nat} (h : w.length ≤ 1000) : niceB (.str w) = true := by simp [niceB, h]
theorem nice_chars {w : List Nat} (h : w.length ≤ 1000) : niceB (.lst false (w.map fun c => D.str [c])) = true := by
  have : nicesB (w.map fun c => D.str [c]) = true := nicesB_iff.mpr fun d hd => by
    obtain ⟨c, _, rfl⟩ := List.mem_map.mp hd
    rfl
  simp [niceB, this, h]
theorem fzs_chars {w : List Nat} : fzs (w.map fun c => D.str [c]) = w.map fun c => D.str [c] := fzs_map fun _ => rfl
theorem pick {b : Bool} {en : Q.Env} {xs : List D} {v : Nat} (P : D → Prop) (h : ∀ x ∈ xs, own x = false ∧ P x) (hv : v < xs.length) : ∃ x, (∀ b en, ixR b (.lst false xs) (.int (v : Int)) en = .ok x en) ∧ P x := by
  have hx := h _ (List.getElem_mem hv)
  exact ⟨xs[v], fun b en => ixR_L (List.getElem?_eq_getElem hv) hx.1, hx.2⟩
theorem refusals_s (hL : 7 ≤ L) {a b : Int} (hs : LOk st) (hj : ∀ c ∈ job, c ∈ st) (hl : job.length ≤ 50) : ∃ a' b', callF prog L 26 [pl a b, mD st rows goods, .str job] = .ok (.bl true) [some (pl a' b'), some (mD st rows goods), some (.str job)] := by
  obtain ⟨m, rfl⟩ : ∃ m, L = m + 1 := ⟨L - 1, by omega⟩
  rw [callF_s (fn := f__law_refusals) rfl rfl]
  obtain ⟨o, r, ho, hon⟩ := oth_ne hs
  obtain ⟨cv, a1, b1, t1, hcv⟩ := next_s (L := m) (by omega) (a := a) (b := b) (k := (job.length : Int) + 1) (by omega) (by omega)
  obtain ⟨v1, a2, b2, t2, hv1⟩ := next_s (L := m) (by omega) (a := a1) (b := b1) (k := 8) (by omega) (by omega)
  obtain ⟨v2, a3, b3, t3, hv2⟩ := next_s (L := m) (by omega) (a := a2) (b := b2) (k := 9) (by omega) (by omega)
  obtain ⟨c0, st', rfl⟩ : ∃ c0 st', st = c0 :: st' := by
    cases st with
    | nil => have := hs.pos; simp at this
    | cons c0 st' => exact ⟨c0, st', rfl⟩
  have nin : ∀ c : Nat, cmpop .notin (.str [c]) (.str (c0 :: st')) = some (!(c0 :: st').contains c) := fun _ => rfl
  have hcomp : ∀ bb, ev prog (callF prog m) none bb (.comp .list (.c .non) (.v 8) [.mk (.nm 8) (.val (.c (.str [118, 119, 120, 121, 122]))) [.cmp .notin (.v 8) (.v 3)]] [8]) [some (pl a b), some (mD (c0 :: st') rows goods), some (.str job), some (.str (c0 :: st')), none, none, none, none, none] = .ok (.lst true ((oth (c0 :: st')).map fun c => D.str [c])) [some (pl a b), some (mD (c0 :: st') rows goods), some (.str job), some (.str (c0 :: st')), none, none, none, none, none] := fun bb => by
    rw [comp_filt (ds := ([118, 119, 120, 121, 122]).map fun c => D.str [c]) (p := fun d => match d with | .str [c] => !(c0 :: st').contains c | _ => false) (f := fun d => d)]
    · unfold oth
      rw [List.filter_map, List.map_map]
      rfl
    · simp
    · decide
    · simp
    · simp
    · intro d hd
      obtain ⟨c, _, rfl⟩ := List.mem_map.mp hd
      simp [nin]
    · intro d hd _
      obtain ⟨c, _, rfl⟩ := List.mem_map.mp hd
      simp
  rw [ho] at hcomp
  have s1 : slice (.str job) none (some (cv : Int)) = some (.str (job.take cv)) := slTo
  have s2 : slice (.str job) (some (cv : Int)) none = some (.str (job.drop cv)) := sliceFrom
  have q1 : binop .add (.str (job.take cv)) (.str [o]) = some (.str (job.take cv ++ [o])) := addSS (by simp; omega)
  have q2 : binop .add (.str (job.take cv ++ [o])) (.str (job.drop cv)) = some (.str (job.take cv ++ [o] ++ job.drop cv)) := addSS (by simp; omega)
  have hf4 := hs.few
  have q3 : binop .add (.str (c0 :: st')) (.str [45]) = some (.str (c0 :: st' ++ [45])) := addSS (by simp at hf4 ⊢; omega)
  have lc0 := hs.low c0 List.mem_cons_self
  have up : mth .upper (.str [c0]) [] = some (.str [upC c0]) := by
    have h1 : c0 < 128 := by omega
    have e : mth .upper (.str [c0]) [] = if ([c0].all (fun c => decide (c < 128)) && decide ([c0].length ≤ LIM)) = true then some (.str ([c0].map upC)) else none := rfl
    rw [e, if_pos (by simp [h1, LIM])]
    rfl
  have q4 : binop .add (.str [upC c0]) (.str job) = some (.str (upC c0 :: job)) := addSS (x := [upC c0]) (by simp; omega)
  have hup : upC c0 = c0 - 32 := by unfold upC; rw [if_pos ⟨lc0.1, lc0.2⟩]
  have nup : upC c0 ∉ c0 :: st' := fun z => by
    have := (hs.low _ z).1
    rw [hup] at this
    omega
  have n45 : 45 ∉ c0 :: st' := fun z => by
    have := (hs.low _ z).1
    omega
  have ll : blt .list [.str job] = some (.lst true (job.map fun c => D.str [c])) := rfl
  
  obtain ⟨bad, hb, hbn, hbj⟩ := pick (b := true) (en := []) (xs := [.str (job.take cv ++ [o] ++ job.drop cv), .non, .int 3, .bl false, .tup [.str job, .str []], .lst false (job.map fun c => D.str [c]), .str (c0 :: st' ++ [45]), .str (upC c0 :: job)]) (v := v1) (fun x => niceB x = true ∧ jobB (c0 :: st') x = false) (by
    intro x hx
    simp only [List.mem_cons, List.not_mem_nil, or_false] at hx
    rcases hx with rfl | rfl | rfl | rfl | rfl | rfl | rfl | rfl
    · exact ⟨rfl, nice_str (by simp; omega), not_job (c := o) (by simp) hon⟩
    · exact ⟨rfl, rfl, rfl⟩
    · exact ⟨rfl, rfl, rfl⟩
    · exact ⟨rfl, rfl, rfl⟩
    · refine ⟨rfl, ?_, rfl⟩
      simp [niceB, nicesB]; omega
    · exact ⟨rfl, nice_chars (by omega), rfl⟩
    · exact ⟨rfl, nice_str (by simp at hf4 ⊢; omega), not_job (c := 45) (by simp) n45⟩
    · exact ⟨rfl, nice_str (by simp; omega), not_job (c := upC c0) (by simp) nup⟩) (by simp; omega)
  
  obtain ⟨wr, hw, hwn, hwp⟩ := pick (b := true) (en := []) (xs := [.int ((job.length : Int) + 1), .int (-1), .bl true, .non, .bl false, .str [], .tup [.int (cv : Int)], .lst false [.int (cv : Int)], .int (-1 - (cv : Int))]) (v := v2) (fun x => niceB x = true ∧ placeB job.length x = false) (by
    intro x hx
    simp only [List.mem_cons, List.not_mem_nil, or_false] at hx
    rcases hx with rfl | rfl | rfl | rfl | rfl | rfl | rfl | rfl | rfl
    · refine ⟨rfl, rfl, ?_⟩
      have c1 : ¬ ((job.length : Int) + 1 ≤ (job.length : Int)) := by omega
      simp [placeB]; omega
    · exact ⟨rfl, rfl, rfl⟩
    · exact ⟨rfl, rfl, rfl⟩
    · exact ⟨rfl, rfl, rfl⟩
    · exact ⟨rfl, rfl, rfl⟩
    · exact ⟨rfl, rfl, rfl⟩
    · exact ⟨rfl, rfl, rfl⟩
    · exact ⟨rfl, rfl, rfl⟩
    · refine ⟨rfl, rfl, ?_⟩
      have c1 : ¬ ((0 : Int) ≤ -1 - (cv : Int)) := by omega
      simp [placeB]; omega) (by simp; omega)
  have hcvp : placeB job.length (.int (cv : Int)) = true := place_ok (by omega)
  have hjn : niceB (.str job) = true := nice_str (by omega)
  have jo := job_ok hj
  have nc : niceB (.int (cv : Int)) = true := rfl
  have n0 : niceB (.int 0) = true := rfl
  obtain ⟨p1, r1⟩ := ref0_s (L := m) (by omega) (st := c0 :: st') (rest := [.tup (rows.map rwD), rwD goods]) (d := bad) (d1 := wr) (d2 := .int (cv : Int)) (w := wJob) hbn hwn nc (by rw [hbj]; rfl)
  obtain ⟨p2, r2⟩ := ref1_s (L := m) (by omega) (st := c0 :: st') (rest := [.tup (rows.map rwD), rwD goods]) (d := bad) (d1 := wr) (d2 := .int 0) (w := wJob) hbn hwn n0 (by rw [hbj]; rfl)
  obtain ⟨p3, r3⟩ := ref0_s (L := m) (by omega) (st := c0 :: st') (rest := [.tup (rows.map rwD), rwD goods]) (d := bad) (d1 := .int 0) (d2 := wr) (w := wJob) hbn n0 hwn (by rw [hbj]; rfl)
  obtain ⟨p4, r4⟩ := ref0_s (L := m) (by omega) (st := c0 :: st') (rest := [.tup (rows.map rwD), rwD goods]) (d := .str job) (d1 := wr) (d2 := wr) (w := wHere) hjn hwn hwn (by rw [jo]; simp [badP, hwp])
  obtain ⟨p5, r5⟩ := ref0_s (L := m) (by omega) (st := c0 :: st') (rest := [.tup (rows.map rwD), rwD goods]) (d := .str job) (d1 := wr) (d2 := .int (cv : Int)) (w := wHere) hjn hwn nc (by rw [jo]; simp [badP, hwp])
  obtain ⟨p6, r6⟩ := ref1_s (L := m) (by omega) (st := c0 :: st') (rest := [.tup (rows.map rwD), rwD goods]) (d := .str job) (d1 := wr) (d2 := .int 0) (w := wHere) hjn hwn n0 (by rw [jo]; simp [badP, hwp])
  obtain ⟨p7, r7⟩ := ref0_s (L := m) (by omega) (st := c0 :: st') (rest := [.tup (rows.map rwD), rwD goods]) (d := .str job) (d1 := .int (cv : Int)) (d2 := wr) (w := wThere) hjn nc hwn (by rw [jo]; simp [badP, hwp, hcvp])
  have em : (D.tup (.str (c0 :: st') :: [.tup (rows.map rwD), rwD goods])) = mD (c0 :: st') rows goods := rfl
  rw [em] at r1 r2 r3 r4 r5 r6 r7
  unfold wJob at r1 r2 r3
  unfold wHere at r4 r5 r6
  unfold wThere at r7
  have i0 : ∀ b en, ixR b (mD (c0 :: st') rows goods) (.int 0) en = .ok (.str (c0 :: st')) en := fun b en => by simp [mD]
  have ow : own wr = false := own_nice hwn
  have ob : own bad = false := own_nice hbn
  have fw := fz_nice wr hwn
  have fb := fz_nice bad hbn
  refine ⟨a3, b3, ?_⟩
  have mt : ∀ x : List Nat, mthTy .upper (.str x) = true := fun _ => rfl
  rw [exs_cut 5 (en1 := [some (pl a3 b3), some (mD (c0 :: st') rows goods), some (.str job), some (.str (c0 :: st')), some (.str [o]), some (.int (cv : Int)), some bad, some wr, none]) (by
    simp [f__law_refusals, startE, i0]
    rw [hcomp]
    simp [fillA, t1, s1, s2, q1, q2, q3, ll, mt, ixR_S0, up, q4, t2, fzs_chars]
    have hb' := hb
    have hw' := hw
    simp only [List.cons_append, List.append_assoc, List.nil_append] at hb'
    simp [hb', hw', fb, fw, fillA, t3])]
  simp [f__law_refusals, fillA, ow, ob, r1, r2, r3, r4, r5, r6, r7, fin, maskP]
end
end Pk07
end
section
set_option autoImplicit false
set_option linter.all false
set_option maxRecDepth 100000
namespace Pk07
open Q QR
section
variable {L : Nat} {d sc : D} {st : List Nat} {tests : List (List Nat)} {rows : List (List Nat)} {goods job : List Nat} {kind : Nat} {ts : List (Nat × Nat)}
theorem bare_ok {st : List Nat} : MOk st [st.map fun _ => 0] [] := ⟨by simp, by simp, fun r hr => by
  rw [List.mem_singleton.mp hr]
  refine ⟨by simp, fun s hs => ?_⟩
  obtain ⟨c, _, rfl⟩ := List.mem_map.mp hs
  simp, by simp⟩
theorem bare_ties {st job : List Nat} {rows : List (List Nat)} : tiesOf (Tm rows st []) job = [] := by
  apply List.eq_nil_iff_forall_not_mem.mpr
  rintro ⟨a, b⟩ h
  have := (tiesOf_mem.mp h).2.2
  simp [Tm] at this
theorem bare_dist {N s : Nat} (hs : s < N) : Dist [] N s (fun v => if v = s then some 0 else none) := by
  refine ⟨fun v => ?_, fun v k h => ?_, fun u v k hu ha => ?_, fun v k h => ?_⟩
  · by_cases e : v = s <;> simp [e]
  · by_cases e : v = s <;> simp [e] at h
  · rcases ha with ha | ha <;> cases ha
  · by_cases e : v = s
    · simp [e] at h
      subst e h
      exact ⟨by omega, hs⟩
    · simp [e] at h
theorem law_s (hL : 9 ≤ L) {ns : List Int} : ∃ ps, callF prog L iLaw [.scr (ns.map .int)] = .ok (.bl true) ps := by
  obtain ⟨m, rfl⟩ : ∃ m, L = m + 1 := ⟨L - 1, by omega⟩
  show ∃ ps, callF prog (m + 1) 27 [.scr (ns.map .int)] = .ok (.bl true) ps
  rw [callF_s (fn := f_law) rfl rfl]
  obtain ⟨a0, b0, t0⟩ := pool_s (L := m) (by omega) (ns := ns)
  obtain ⟨st, rows, goods, kind, tests, sc, a1, b1, t1, W⟩ := world_s (L := m) (by omega) (a := a0) (b := b0)
  obtain ⟨v, a2, b2, t2, hv⟩ := next_s (L := m) (by omega) (a := a1) (b := b1) (k := 8) (by omega) (by omega)
  obtain ⟨x, hx, hx1, hx2⟩ := ix8 (b := true) (en := []) (xs := [6, 7, 5, 8, 9, 12, 6, 7]) (v := v) (lo := 5) (hi := 12) (by simp; omega) (by decide)
  obtain ⟨most, rfl⟩ : ∃ n : Nat, x = (n : Int) := ⟨x.toNat, by omega⟩
  simp only [List.map_cons, List.map_nil] at hx
  obtain ⟨job, a3, b3, t3, hj, hl⟩ := deed_s (L := m) (by omega) (a := a2) (b := b2) (most := most) W
  have hl12 : job.length ≤ 12 := by omega
  have t4 := law_ties_s (L := m) (by omega) W hj (by omega)
  obtain ⟨a5, b5, t5⟩ := walks_s (L := m) (by omega) (a := a3) (b := b3) W.mo hj (by omega)
  have i0 : ∀ b en, ixR b (mD st rows goods) (.int 0) en = .ok (.str st) en := fun b en => by simp [mD]
  
  have hcb : ∀ b e7 e8 e9, ev prog (callF prog m) none b (.comp .list (.c .non) (.c (.int 0)) [.mk (.nm 10) (.val (.ixv 4 (.c (.int 0)))) []] [10]) [some (.scr (ns.map .int)), some (pl a5 b5), some (wD st rows goods kind tests sc), some (.str job), some (mD st rows goods), some (.lst false ((tiesOf (Tm rows st goods) job).map pD)), none, e7, e8, e9, none] = .ok (.lst true ((st.map fun _ => 0).map nD)) [some (.scr (ns.map .int)), some (pl a5 b5), some (wD st rows goods kind tests sc), some (.str job), some (mD st rows goods), some (.lst false ((tiesOf (Tm rows st goods) job).map pD)), none, e7, e8, e9, none] := fun b e7 e8 e9 => by
    rw [comp_pure (ds := st.map fun c => D.str [c]) (f := fun _ => .int 0)]
    · rw [List.map_map, List.map_map]; rfl
    · simp [i0]
    · rw [List.length_map]; exact Nat.le_trans W.lo.few (by decide)
    · simp
    · simp
    · intro d hd
      simp
  have eb : ∀ o, blt .tuple [.lst o ((st.map fun _ => 0).map nD)] = some (rwD (st.map fun _ => 0)) := fun o => tupleL ok_n
  have em : D.tup [.str st, .tup [rwD (st.map fun _ => 0)], .tup []] = mD st [st.map fun _ => 0] [] := rfl
  have M0 : MOk st [st.map fun _ => 0] [] := bare_ok
  have D0 : Dist (tiesOf (Tm [st.map fun _ => 0] st []) job) (job.length + 1) 0 (fun v => if v = 0 then some 0 else none) := by
    rw [bare_ties]; exact bare_dist (by omega)
  obtain ⟨f0, ps0, D0', w0⟩ := walk_of_s (L := m) (by omega) (s := 0) (e := 0) M0 hj (by omega) (by omega) (by omega)
  have ef0 := D0'.uniq D0
  subst ef0
  simp only [if_true] at w0
  obtain ⟨ws, w1, w2, w3⟩ := w0
  have ews : ws = [0] := by
    match ws, w2 with
    | [z], _ =>
      have := w3.hd
      simpa using this
  subst ews
  have w1 : callF prog m 9 [mD st [st.map fun _ => 0] [], .str job, .int 0, .int 0] = .ok (.tup [.int 0]) ps0 := w1
  have s1 : callF prog m 21 [.tup [.int 0], .tup [.int 0]] = _ := same_os (L := m) (by omega) (xs := [some 0]) (by simp)
  have wN : 0 < job.length → ∃ ps, callF prog m 9 [mD st [st.map fun _ => 0] [], .str job, .int 0, .int (job.length : Int)] = .ok .non ps := fun hp => by
    obtain ⟨f1, ps1, D1, w4⟩ := walk_of_s (L := m) (by omega) (s := 0) (e := job.length) M0 hj (by omega) (by omega) (by omega)
    have ef1 := D1.uniq D0
    subst ef1
    have hne : ¬ job.length = 0 := by omega
    simp only [if_neg hne] at w4
    exact ⟨ps1, w4⟩
  obtain ⟨a6, b6, t6⟩ := refusals_s (L := m) (by omega) (a := a5) (b := b5) (rows := rows) (goods := goods) W.lo hj (by omega)
  obtain ⟨i, a7, b7, t7, hi⟩ := next_s (L := m) (by omega) (a := a6) (b := b6) (k := (job.length : Int) + 1) (by omega) (by omega)
  obtain ⟨j, a8, b8, t8, hjj⟩ := next_s (L := m) (by omega) (a := a7) (b := b7) (k := (job.length : Int) + 1) (by omega) (by omega)
  have hi' : i < job.length + 1 := by omega
  have hj' : j < job.length + 1 := by omega
  obtain ⟨f, psb, Df, tb⟩ := ties_between_s (L := m) (by omega) W.mo hj (by omega) (s := i) hi'
  have hlen : (tiesOf (Tm rows st goods) job).length ≤ 100000 := by
    have := tiesN_len (T := Tm rows st goods) (job := job) (n := job.length)
    have h2 : job.length * job.length ≤ 12 * 12 := Nat.mul_le_mul hl12 hl12
    unfold tiesOf
    omega
  have hadj : ∀ u v, Adj (tiesOf (Tm rows st goods) job) u v → v < job.length + 1 := fun u v h => (adj_lt h).2
  have ts := steps_s (L := m) (by omega) (N := job.length + 1) (by omega) hi' hlen hadj Df
  rw [show ((job.length + 1 : Nat) : Int) = (job.length : Int) + 1 by omega] at ts
  have e4 : blt .tuple [.lst false (((List.range (job.length + 1)).map f).map oD)] = some (.tup (((List.range (job.length + 1)).map f).map oD)) := tupleL ok_o
  have tsm := same_os (L := m) (by omega) (xs := (List.range (job.length + 1)).map f) (by simp; omega)
  obtain ⟨vw, psw, tw, hvo, hvf, tl⟩ := walk_let (L := m) (by omega) W.mo hj (by omega) hi' hj' Df
  have tl1 := tl m (by omega)
  
  obtain ⟨g, psg, Dg, tg⟩ := ties_between_s (L := m) (by omega) W.mo hj (by omega) (s := j) hj'
  obtain ⟨vw2, psw2, tw2, hvo2, hvf2, tl2⟩ := walk_let (L := m) (by omega) W.mo hj (by omega) hj' hi' Dg
  have tl3 := tl2 m (by omega)
  have gf : g i = f j := dist_sym Df Dg
  rw [gf] at tl3
  have gx : ∀ b en, ixR b (.lst false (((List.range (job.length + 1)).map f).map oD)) (.int (j : Int)) en = .ok (oD (f j)) en := fun b en => ixO (f := oD) (by rw [List.getElem?_map, List.getElem?_range hj']; rfl) own_oD
  refine ⟨[some (.scr (ns.map .int))], ?_⟩
  have i1 : ∀ b en, ixR b (wD st rows goods kind tests sc) (.int 1) en = .ok (mD st rows goods) en := fun b en => wD_1
  rw [exs_cut 6 (en1 := [some (.scr (ns.map .int)), some (pl a5 b5), some (wD st rows goods kind tests sc), some (.str job), some (mD st rows goods), some (.lst false ((tiesOf (Tm rows st goods) job).map pD)), none, none, none, none, none]) (by
    simp [f_law, startE, fillA, t0, t1, t2, hx, t3, t4, t5])]
  rw [exs_cut 1 (en1 := [some (.scr (ns.map .int)), some (pl a5 b5), some (wD st rows goods kind tests sc), some (.str job), some (mD st rows goods), some (.lst false ((tiesOf (Tm rows st goods) job).map pD)), some (mD st [st.map fun _ => 0] []), none, none, none, none]) (by
    simp [-List.map_map, f_law, i0]
    rw [hcb]
    simp [-List.map_map, eb]
    exact em)]
  rw [exs_cut 3 (en1 := [some (.scr (ns.map .int)), some (pl a6 b6), some (wD st rows goods kind tests sc), some (.str job), some (mD st rows goods), some (.lst false ((tiesOf (Tm rows st goods) job).map pD)), some (mD st [st.map fun _ => 0] []), none, none, none, none]) (by
    have nn : cmpop .isnot .non .non = some false := rfl
    by_cases hp : 0 < job.length
    · obtain ⟨ps1, w5⟩ := wN hp
      simp [f_law, fillA, w1, s1, hp, w5, nn, t6]
    · simp [f_law, fillA, w1, s1]
      rw [if_neg hp, decide_eq_false hp]
      simp [fillA, t6])]
  simp [-List.map_map, f_law, fillA, t7, t8, ts, e4, allSome, permL, tb, tsm, tw, tl1, gx, tw2, tl3, hvo, hvo2, hvf, hvf2, fin, maskP]
end
theorem plain12 : ∀ ns : List Int, ns.length ≤ 63 → ∃ ps, callF prog 12 iLaw [.scr (ns.map .int)] = .ok (.bl true) ps := fun ns _ => law_s (by omega)
end Pk07
end
def Pk07.lvl : Nat := 12
open Q in
theorem Pk07_plain : ∀ ns : List Int, ns.length ≤ 63 → ∃ ps, callF Pk07.prog Pk07.lvl Pk07.iLaw [.scr (ns.map .int)] = .ok (.bl true) ps := Pk07.plain12
namespace HPk07
open PySem PySem.Spec PyProof.Rows L2 Q
def top (i : Nat) : Stmt := PySem.Challenge.pw_endstied_k07_whole_walks.main.body.getD i (.Pass ⟨0, 0, 0, 0⟩)
def inCls (i : Nat) : Stmt := match top i with
  | .ClassDef _ _ _ b _ _ _ _ _ _ _ => b.getD 0 (.Pass ⟨0, 0, 0, 0⟩)
  | s => s
def tb : Tab := Pk07.tab frees
def dd (y : PySem.Str) (i : Nat) : He.DefD := ⟨(y, none), y, y, defArgs (top i), defBody (top i), defScope (top i), [], []⟩
def di (y q : PySem.Str) (i : Nat) : He.DefD := ⟨(y, some "__init__"), "__init__", q, defArgs (inCls i), defBody (inCls i), defScope (inCls i), [], []⟩
def fnL : List He.DefD := [dd "is_integer" 7, dd "is_number" 8, dd "is_job" 9, dd "demand" 11, dd "is_place" 12, dd "demand_web" 13, dd "tie_list" 14, dd "links_of" 15, dd "flood_from" 17, dd "walk_of" 18, dd "ties_between" 19, dd "_law_pool" 21, dd "_law_next" 22, dd "_law_letters" 23, dd "_law_reader" 24, dd "_law_endless" 25, dd "_law_scene" 26, dd "_law_world" 27, dd "_law_deed" 28, dd "_law_test" 29, dd "_law_ties" 30, dd "_law_same" 31, dd "_law_steps" 32, dd "_law_walk" 33, dd "_law_walks" 34, dd "_law_refuses" 35, dd "_law_refusals" 36, dd "law" 37, di "InvalidPaper" "InvalidPaper.__init__" 4, di "NotUsable" "NotUsable.__init__" 5]
def fs : List (List PySem.Str) := Pk07.fnmL.map fun l => l.map fun i => Pk07.fldN.getD i default
theorem D_0 : DefS tb Pk07.prog 0 "is_integer" (dd "is_integer" 7) ["thing"] ["thing"] := ⟨rfl, rfl, rfl, rfl, rfl, ⟨rfl, rfl, rfl, by decide +kernel, rfl, by decide +kernel, by decide +kernel⟩, fun _ _ _ _ _ _ us hl => (match us, hl with | [_], _ => rfl),
  kb_of (es := []) (by decide +kernel) True.intro, ⟨_, rfl, rfl, rfl, rfl, by decide +kernel⟩⟩
theorem D_1 : DefS tb Pk07.prog 1 "is_number" (dd "is_number" 8) ["thing"] ["thing"] := ⟨rfl, rfl, rfl, rfl, rfl, ⟨rfl, rfl, rfl, by decide +kernel, rfl, by decide +kernel, by decide +kernel⟩, fun _ _ _ _ _ _ us hl => (match us, hl with | [_], _ => rfl),
  kb_of (es := []) (by decide +kernel) True.intro, ⟨_, rfl, rfl, rfl, rfl, by decide +kernel⟩⟩
theorem D_2 : DefS tb Pk07.prog 2 "is_job" (dd "is_job" 9) ["stock", "thing", "letter"] ["stock", "thing"] := ⟨rfl, rfl, rfl, rfl, rfl, ⟨rfl, rfl, rfl, by decide +kernel, rfl, by decide +kernel, by decide +kernel⟩, fun _ _ _ _ _ _ us hl => (match us, hl with | [_, _], _ => rfl),
  kb_of (es := []) (by decide +kernel) True.intro, ⟨_, rfl, rfl, rfl, rfl, by decide +kernel⟩⟩
theorem D_3 : DefS tb Pk07.prog 3 "demand" (dd "demand" 11) ["word", "good"] ["word", "good"] := ⟨rfl, rfl, rfl, rfl, rfl, ⟨rfl, rfl, rfl, by decide +kernel, rfl, by decide +kernel, by decide +kernel⟩, fun _ _ _ _ _ _ us hl => (match us, hl with | [_, _], _ => rfl),
  kb_of (es := []) (by decide +kernel) True.intro, ⟨_, rfl, rfl, rfl, rfl, by decide +kernel⟩⟩
theorem D_4 : DefS tb Pk07.prog 4 "is_place" (dd "is_place" 12) ["job", "thing"] ["job", "thing"] := ⟨rfl, rfl, rfl, rfl, rfl, ⟨rfl, rfl, rfl, by decide +kernel, rfl, by decide +kernel, by decide +kernel⟩, fun _ _ _ _ _ _ us hl => (match us, hl with | [_, _], _ => rfl),
  kb_of (es := []) (by decide +kernel) True.intro, ⟨_, rfl, rfl, rfl, rfl, by decide +kernel⟩⟩
theorem D_5 : DefS tb Pk07.prog 5 "demand_web" (dd "demand_web" 13) ["suite", "job", "places", "word", "thing"] ["suite", "job", "places"] := ⟨rfl, rfl, rfl, rfl, rfl, ⟨rfl, rfl, rfl, by decide +kernel, rfl, by decide +kernel, by decide +kernel⟩, fun _ _ _ _ _ _ us hl => (match us, hl with | [_, _, _], _ => rfl),
  kb_of (es := []) (by decide +kernel) True.intro, ⟨_, rfl, rfl, rfl, rfl, by decide +kernel⟩⟩
theorem D_6 : DefS tb Pk07.prog 6 "tie_list" (dd "tie_list" 14) ["suite", "job", "stock", "moves", "goods", "columns", "ties", "start", "state", "place", "command"] ["suite", "job"] := ⟨rfl, rfl, rfl, rfl, rfl, ⟨rfl, rfl, rfl, by decide +kernel, rfl, by decide +kernel, by decide +kernel⟩, fun _ _ _ _ _ _ us hl => (match us, hl with | [_, _], _ => rfl),
  kb_of (es := []) (by decide +kernel) True.intro, ⟨_, rfl, rfl, rfl, rfl, by decide +kernel⟩⟩
theorem D_7 : DefS tb Pk07.prog 7 "links_of" (dd "links_of" 15) ["many", "ties", "links", "one", "other", "place"] ["many", "ties"] := ⟨rfl, rfl, rfl, rfl, rfl, ⟨rfl, rfl, rfl, by decide +kernel, rfl, by decide +kernel, by decide +kernel⟩, fun _ _ _ _ _ _ us hl => (match us, hl with | [_, _], _ => rfl),
  kb_of (es := []) (by decide +kernel) True.intro, ⟨_, rfl, rfl, rfl, rfl, by decide +kernel⟩⟩
theorem D_8 : DefS tb Pk07.prog 8 "flood_from" (dd "flood_from" 17) ["suite", "job", "here", "links", "many", "before", "queue", "reached", "place", "other"] ["suite", "job", "here"] := ⟨rfl, rfl, rfl, rfl, rfl, ⟨rfl, rfl, rfl, by decide +kernel, rfl, by decide +kernel, by decide +kernel⟩, fun _ _ _ _ _ _ us hl => (match us, hl with | [_, _, _], _ => rfl),
  kb_of (es := []) (by decide +kernel) True.intro, ⟨_, rfl, rfl, rfl, rfl, by decide +kernel⟩⟩
theorem D_9 : DefS tb Pk07.prog 9 "walk_of" (dd "walk_of" 18) ["suite", "job", "here", "there", "many", "before", "places"] ["suite", "job", "here", "there"] := ⟨rfl, rfl, rfl, rfl, rfl, ⟨rfl, rfl, rfl, by decide +kernel, rfl, by decide +kernel, by decide +kernel⟩, fun _ _ _ _ _ _ us hl => (match us, hl with | [_, _, _, _], _ => rfl),
  kb_of (es := [([("there" : PySem.Str), ("job" : PySem.Str), ("here" : PySem.Str), ("suite" : PySem.Str)], [3, 1, 2, 0])]) (by decide +kernel) ⟨fun _ _ _ _ _ _ ws as hl h => (match ws, hl, h with | [_, _, _, _], _, h => by cases h; rfl), True.intro⟩, ⟨_, rfl, rfl, rfl, rfl, by decide +kernel⟩⟩
theorem D_10 : DefS tb Pk07.prog 10 "ties_between" (dd "ties_between" 19) ["suite", "job", "here", "many", "before"] ["suite", "job", "here"] := ⟨rfl, rfl, rfl, rfl, rfl, ⟨rfl, rfl, rfl, by decide +kernel, rfl, by decide +kernel, by decide +kernel⟩, fun _ _ _ _ _ _ us hl => (match us, hl with | [_, _, _], _ => rfl),
  kb_of (es := [([("here" : PySem.Str), ("job" : PySem.Str), ("suite" : PySem.Str)], [2, 1, 0])]) (by decide +kernel) ⟨fun _ _ _ _ _ _ ws as hl h => (match ws, hl, h with | [_, _, _], _, h => by cases h; rfl), True.intro⟩, ⟨_, rfl, rfl, rfl, rfl, by decide +kernel⟩⟩
theorem D_11 : DefS tb Pk07.prog 11 "_law_pool" (dd "_law_pool" 21) ["_law_script", "_law_number", "_law_great", "_law_cell"] ["_law_script"] := ⟨rfl, rfl, rfl, rfl, rfl, ⟨rfl, rfl, rfl, by decide +kernel, rfl, by decide +kernel, by decide +kernel⟩, fun _ _ _ _ _ _ us hl => (match us, hl with | [_], _ => rfl),
  kb_of (es := []) (by decide +kernel) True.intro, ⟨_, rfl, rfl, rfl, rfl, by decide +kernel⟩⟩
theorem D_12 : DefS tb Pk07.prog 12 "_law_next" (dd "_law_next" 22) ["_law_pool_here", "_law_many", "_law_value"] ["_law_pool_here", "_law_many"] := ⟨rfl, rfl, rfl, rfl, rfl, ⟨rfl, rfl, rfl, by decide +kernel, rfl, by decide +kernel, by decide +kernel⟩, fun _ _ _ _ _ _ us hl => (match us, hl with | [_, _], _ => rfl),
  kb_of (es := []) (by decide +kernel) True.intro, ⟨_, rfl, rfl, rfl, rfl, by decide +kernel⟩⟩
theorem D_13 : DefS tb Pk07.prog 13 "_law_letters" (dd "_law_letters" 23) ["_law_pool_here", "_law_size", "_law_spot", "_law_found", "_law_k"] ["_law_pool_here", "_law_size"] := ⟨rfl, rfl, rfl, rfl, rfl, ⟨rfl, rfl, rfl, by decide +kernel, rfl, by decide +kernel, by decide +kernel⟩, fun _ _ _ _ _ _ us hl => (match us, hl with | [_, _], _ => rfl),
  kb_of (es := []) (by decide +kernel) True.intro, ⟨_, rfl, rfl, rfl, rfl, by decide +kernel⟩⟩
theorem D_14 : DefS tb Pk07.prog 14 "_law_reader" (dd "_law_reader" 24) ["_law_letters_here", "_law_tests", "_law_heads", "_law_one", "_law_many", "_law_rows", "_law_head", "_law_dead", "_law_good", "_law_k", "_law_row", "_law_letter"] ["_law_letters_here", "_law_tests"] := ⟨rfl, rfl, rfl, rfl, rfl, ⟨rfl, rfl, rfl, by decide +kernel, rfl, by decide +kernel, by decide +kernel⟩, fun _ _ _ _ _ _ us hl => (match us, hl with | [_, _], _ => rfl),
  kb_of (es := []) (by decide +kernel) True.intro, ⟨_, rfl, rfl, rfl, rfl, by decide +kernel⟩⟩
theorem D_15 : DefS tb Pk07.prog 15 "_law_endless" (dd "_law_endless" 25) ["_law_kind", "_law_letters_here", "_law_p", "_law_q", "_law_r"] ["_law_kind", "_law_letters_here"] := ⟨rfl, rfl, rfl, rfl, rfl, ⟨rfl, rfl, rfl, by decide +kernel, rfl, by decide +kernel, by decide +kernel⟩, fun _ _ _ _ _ _ us hl => (match us, hl with | [_, _], _ => rfl),
  kb_of (es := []) (by decide +kernel) True.intro, ⟨_, rfl, rfl, rfl, rfl, by decide +kernel⟩⟩
theorem D_16 : DefS tb Pk07.prog 16 "_law_scene" (dd "_law_scene" 26) ["_law_which"] ["_law_which"] := ⟨rfl, rfl, rfl, rfl, rfl, ⟨rfl, rfl, rfl, by decide +kernel, rfl, by decide +kernel, by decide +kernel⟩, fun _ _ _ _ _ _ us hl => (match us, hl with | [_], _ => rfl),
  kb_of (es := []) (by decide +kernel) True.intro, ⟨_, rfl, rfl, rfl, rfl, by decide +kernel⟩⟩
theorem D_17 : DefS tb Pk07.prog 17 "_law_world" (dd "_law_world" 27) ["_law_pool_here", "_law_kind", "_law_letters_here", "_law_many", "_law_tests", "_law_k", "_law_scene_here", "_law_made", "_law_size", "_law_one", "_law_m"] ["_law_pool_here"] := ⟨rfl, rfl, rfl, rfl, rfl, ⟨rfl, rfl, rfl, by decide +kernel, rfl, by decide +kernel, by decide +kernel⟩, fun _ _ _ _ _ _ us hl => (match us, hl with | [_], _ => rfl),
  kb_of (es := []) (by decide +kernel) True.intro, ⟨_, rfl, rfl, rfl, rfl, by decide +kernel⟩⟩
theorem D_18 : DefS tb Pk07.prog 18 "_law_deed" (dd "_law_deed" 28) ["_law_pool_here", "_law_world_here", "_law_most", "_law_made", "_law_k", "_law_how", "_law_seed", "_law_cut", "_law_size"] ["_law_pool_here", "_law_world_here", "_law_most"] := ⟨rfl, rfl, rfl, rfl, rfl, ⟨rfl, rfl, rfl, by decide +kernel, rfl, by decide +kernel, by decide +kernel⟩, fun _ _ _ _ _ _ us hl => (match us, hl with | [_, _, _], _ => rfl),
  kb_of (es := []) (by decide +kernel) True.intro, ⟨_, rfl, rfl, rfl, rfl, by decide +kernel⟩⟩
theorem D_19 : DefS tb Pk07.prog 19 "_law_test" (dd "_law_test" 29) ["_law_world_here", "_law_part", "_law_kind", "_law_p"] ["_law_world_here", "_law_part"] := ⟨rfl, rfl, rfl, rfl, rfl, ⟨rfl, rfl, rfl, by decide +kernel, rfl, by decide +kernel, by decide +kernel⟩, fun _ _ _ _ _ _ us hl => (match us, hl with | [_, _], _ => rfl),
  kb_of (es := []) (by decide +kernel) True.intro, ⟨_, rfl, rfl, rfl, rfl, by decide +kernel⟩⟩
theorem D_20 : DefS tb Pk07.prog 20 "_law_ties" (dd "_law_ties" 30) ["_law_world_here", "_law_deed_here", "_law_found", "_law_i", "_law_j"] ["_law_world_here", "_law_deed_here"] := ⟨rfl, rfl, rfl, rfl, rfl, ⟨rfl, rfl, rfl, by decide +kernel, rfl, by decide +kernel, by decide +kernel⟩, fun _ _ _ _ _ _ us hl => (match us, hl with | [_, _], _ => rfl),
  kb_of (es := []) (by decide +kernel) True.intro, ⟨_, rfl, rfl, rfl, rfl, by decide +kernel⟩⟩
theorem D_21 : DefS tb Pk07.prog 21 "_law_same" (dd "_law_same" 31) ["_law_got", "_law_due", "_law_k"] ["_law_got", "_law_due"] := ⟨rfl, rfl, rfl, rfl, rfl, ⟨rfl, rfl, rfl, by decide +kernel, rfl, by decide +kernel, by decide +kernel⟩, fun _ _ _ _ _ _ us hl => (match us, hl with | [_, _], _ => rfl),
  kb_of (es := []) (by decide +kernel) True.intro, ⟨_, rfl, rfl, rfl, rfl, by decide +kernel⟩⟩
theorem D_22 : DefS tb Pk07.prog 22 "_law_steps" (dd "_law_steps" 32) ["_law_many", "_law_ties_here", "_law_start", "_law_steps_here", "_law_edge", "_law_turn", "_law_found", "_law_tie", "_law_k"] ["_law_many", "_law_ties_here", "_law_start"] := ⟨rfl, rfl, rfl, rfl, rfl, ⟨rfl, rfl, rfl, by decide +kernel, rfl, by decide +kernel, by decide +kernel⟩, fun _ _ _ _ _ _ us hl => (match us, hl with | [_, _, _], _ => rfl),
  kb_of (es := []) (by decide +kernel) True.intro, ⟨_, rfl, rfl, rfl, rfl, by decide +kernel⟩⟩
theorem D_23 : DefS tb Pk07.prog 23 "_law_walk" (dd "_law_walk" 33) ["_law_got", "_law_ties_here", "_law_i", "_law_j", "_law_least", "_law_spot", "_law_k"] ["_law_got", "_law_ties_here", "_law_i", "_law_j", "_law_least"] := ⟨rfl, rfl, rfl, rfl, rfl, ⟨rfl, rfl, rfl, by decide +kernel, rfl, by decide +kernel, by decide +kernel⟩, fun _ _ _ _ _ _ us hl => (match us, hl with | [_, _, _, _, _], _ => rfl),
  kb_of (es := []) (by decide +kernel) True.intro, ⟨_, rfl, rfl, rfl, rfl, by decide +kernel⟩⟩
theorem D_24 : DefS tb Pk07.prog 24 "_law_walks" (dd "_law_walks" 34) ["_law_pool_here", "_law_suit", "_law_deed_here", "_law_ties_here", "_law_many", "_law_i", "_law_steps_here", "_law_spots", "_law_j"] ["_law_pool_here", "_law_suit", "_law_deed_here", "_law_ties_here"] := ⟨rfl, rfl, rfl, rfl, rfl, ⟨rfl, rfl, rfl, by decide +kernel, rfl, by decide +kernel, by decide +kernel⟩, fun _ _ _ _ _ _ us hl => (match us, hl with | [_, _, _, _], _ => rfl),
  kb_of (es := []) (by decide +kernel) True.intro, ⟨_, rfl, rfl, rfl, rfl, by decide +kernel⟩⟩
theorem D_25 : DefS tb Pk07.prog 25 "_law_refuses" (dd "_law_refuses" 35) ["_law_which", "_law_suit", "_law_deed_here", "_law_i", "_law_j", "_law_name", "e"] ["_law_which", "_law_suit", "_law_deed_here", "_law_i", "_law_j", "_law_name"] := ⟨rfl, rfl, rfl, rfl, rfl, ⟨rfl, rfl, rfl, by decide +kernel, rfl, by decide +kernel, by decide +kernel⟩, fun _ _ _ _ _ _ us hl => (match us, hl with | [_, _, _, _, _, _], _ => rfl),
  kb_of (es := []) (by decide +kernel) True.intro, ⟨_, rfl, rfl, rfl, rfl, by decide +kernel⟩⟩
theorem D_26 : DefS tb Pk07.prog 26 "_law_refusals" (dd "_law_refusals" 36) ["_law_pool_here", "_law_suit", "_law_deed_here", "_law_letters_here", "_law_other", "_law_cut", "_law_bad", "_law_wrong", "_law_letter"] ["_law_pool_here", "_law_suit", "_law_deed_here"] := ⟨rfl, rfl, rfl, rfl, rfl, ⟨rfl, rfl, rfl, by decide +kernel, rfl, by decide +kernel, by decide +kernel⟩, fun _ _ _ _ _ _ us hl => (match us, hl with | [_, _, _], _ => rfl),
  kb_of (es := []) (by decide +kernel) True.intro, ⟨_, rfl, rfl, rfl, rfl, by decide +kernel⟩⟩
theorem D_27 : DefS tb Pk07.prog 27 "law" (dd "law" 37) ["_law_script", "_law_pool_here", "_law_world_here", "_law_deed_here", "_law_suit", "_law_ties_here", "_law_bare", "_law_i", "_law_j", "_law_steps_here", "_law_letter"] ["_law_script"] := ⟨rfl, rfl, rfl, rfl, rfl, ⟨rfl, rfl, rfl, by decide +kernel, rfl, by decide +kernel, by decide +kernel⟩, fun _ _ _ _ _ _ us hl => (match us, hl with | [_], _ => rfl),
  kb_of (es := []) (by decide +kernel) True.intro, ⟨_, rfl, rfl, rfl, rfl, by decide +kernel⟩⟩
theorem allD : AllD tb Pk07.prog fnL 0 tb.fns := ⟨⟨_, _, _, rfl, D_0⟩, ⟨_, _, _, rfl, D_1⟩, ⟨_, _, _, rfl, D_2⟩, ⟨_, _, _, rfl, D_3⟩, ⟨_, _, _, rfl, D_4⟩, ⟨_, _, _, rfl, D_5⟩, ⟨_, _, _, rfl, D_6⟩, ⟨_, _, _, rfl, D_7⟩, ⟨_, _, _, rfl, D_8⟩, ⟨_, _, _, rfl, D_9⟩, ⟨_, _, _, rfl, D_10⟩, ⟨_, _, _, rfl, D_11⟩, ⟨_, _, _, rfl, D_12⟩, ⟨_, _, _, rfl, D_13⟩, ⟨_, _, _, rfl, D_14⟩, ⟨_, _, _, rfl, D_15⟩, ⟨_, _, _, rfl, D_16⟩, ⟨_, _, _, rfl, D_17⟩, ⟨_, _, _, rfl, D_18⟩, ⟨_, _, _, rfl, D_19⟩, ⟨_, _, _, rfl, D_20⟩, ⟨_, _, _, rfl, D_21⟩, ⟨_, _, _, rfl, D_22⟩, ⟨_, _, _, rfl, D_23⟩, ⟨_, _, _, rfl, D_24⟩, ⟨_, _, _, rfl, D_25⟩, ⟨_, _, _, rfl, D_26⟩, ⟨_, _, _, rfl, D_27⟩, True.intro⟩
theorem E_0 : DefH tb Pk07.prog 28 "_law_same" (dd "_law_same" 31) ["_law_got", "_law_due", "_law_k"] ["_law_got", "_law_due"] := ⟨rfl, rfl, rfl, rfl, rfl, ⟨rfl, rfl, rfl, by decide +kernel, rfl, by decide +kernel, by decide +kernel⟩, fun _ _ _ _ _ _ us hl => (match us, hl with | [_, _], _ => rfl), ⟨_, rfl, rfl, rfl, rfl, by decide +kernel⟩⟩
theorem allH : AllH tb Pk07.prog fnL tb.hfns := ⟨⟨by decide +kernel, 21, _, _, _, rfl, E_0⟩, True.intro⟩
theorem I_3 : IniS (di "InvalidPaper" "InvalidPaper.__init__" 4) ["word", "at"] := ⟨rfl, rfl, fun P w K mg base f fd F => ⟨_, ini2_ok (s1 := "self") (w1 := "word") (w2 := "at") (f1 := "word") (f2 := "at") F ⟨rfl, rfl, rfl, by decide +kernel, rfl, by decide +kernel, by decide +kernel⟩ (.inl rfl) (.inl rfl) (.inl rfl) (by decide) (by decide) (by decide) (by decide) (by decide) (by decide),
  FunD.bindsN F fun _ _ _ _ _ _ us hl => (match us, hl with | [_, _, _], _ => rfl)⟩⟩
theorem I_4 : IniS (di "NotUsable" "NotUsable.__init__" 5) ["word", "at"] := ⟨rfl, rfl, fun P w K mg base f fd F => ⟨_, ini2_ok (s1 := "self") (w1 := "word") (w2 := "at") (f1 := "word") (f2 := "at") F ⟨rfl, rfl, rfl, by decide +kernel, rfl, by decide +kernel, by decide +kernel⟩ (.inl rfl) (.inl rfl) (.inl rfl) (by decide) (by decide) (by decide) (by decide) (by decide) (by decide),
  FunD.bindsN F fun _ _ _ _ _ _ us hl => (match us, hl with | [_, _, _], _ => rfl)⟩⟩
theorem hini : ∀ C, fs.getD C [] ≠ [] → ∃ (i : Nat) (d : He.DefD), fnL[i]? = some d ∧ d.at_ = (tb.cls.getD C default, some ("__init__" : PySem.Str)) ∧ IniS d (fs.getD C [])
  | 0, h => absurd rfl h
  | 1, h => absurd rfl h
  | 2, h => absurd rfl h
  | 3, _ => ⟨28, _, rfl, rfl, I_3⟩
  | 4, _ => ⟨29, _, rfl, rfl, I_4⟩
  | n + 5, h => absurd rfl h
def lo0 : List PySem.Str := ["EndsError", "PaperError", "BenchError", "InvalidPaper", "NotUsable", "is_integer", "is_number", "is_job", "demand", "is_place", "demand_web", "tie_list", "links_of", "flood_from", "walk_of", "ties_between", "_law_pool", "_law_next", "_law_letters", "_law_reader", "_law_endless", "_law_scene", "_law_world", "_law_deed", "_law_test", "_law_ties", "_law_same", "_law_steps", "_law_walk", "_law_walks"]
def lo1 : List PySem.Str := ["_law_refuses", "_law_refusals"]
def lo : List PySem.Str := lo0 ++ lo1
abbrev R : PySem.W.OpenRow := PySem.W.OpenLaw.row PySem.Challenge.rw_endstied_k07_whole_walks
abbrev ck : PySem.W.Frag → Bool := chkQ tb Pk07.prog.gl Pk07.prog.sup fs
abbrev hk : PySem.W.Hook := hookQ 5 ck fnL
def ob (s : PySem.W.SharedT) : He.AlD := obsQG 5 ck fnL (HandSHeadRun.getT s)
theorem ob_eq (s : PySem.W.SharedT) : ob s = hk.obs s.abs := obsQG_eq (HandSHeadRun.getT_eq s)
set_option maxHeartbeats 0 in
theorem run (w : World) : HandSHeadRun.RunEq R (PySem.W.view R.prog [37]) hk ob 6000 lo w := by
  intro os
  kernel_rfl
end HPk07
open PySem PySem.W PySem.Calls PyProof.Rows in
set_option maxHeartbeats 0 in
theorem PySem.Challenge.cw_endstied_k07_whole_walks_holds : PySem.Challenge.rw_endstied_k07_whole_walks.Holds := by
  w_on; o_law
  refine HandSHeadRun.head_any (r := HPk07.R) (q := view HPk07.R.prog [37]) (H := HPk07.hk) (ob := HPk07.ob) (M := 6000) (loose := HPk07.lo) (d := HandSHeadRun.topDef HPk07.R.prog 37) (kwd := []) HPk07.ob_eq
    (by kernel_rfl) (fun s => by kernel_rfl) HPk07.run (by kernel_rfl) (by kernel_rfl) (by kernel_rfl) (by rfl) (by first | assumption | decide +kernel) (by decide +kernel) ⟨rfl, rfl, rfl, rfl, rfl, by decide +kernel⟩ ?hw ?hc
  case hw => w_witness2
  case hc =>
    refine L2.walk_ofE (l := PySem.Challenge.rw_endstied_k07_whole_walks) (n := 63) (k := Pk07.lvl + 2) (x := "_law_script") (CX := Q.CXa (PySem.Challenge.rw_endstied_k07_whole_walks).prog) rfl (by decide) (by kernel_rfl) ⟨rfl, by decide, by decide⟩ ?F (fun _ _ _ _ z => Q.cxa_no z)
    intro w mg fa h Y G hmg0
    obtain ⟨K, KX, c⟩ := Y
    have hmg : mg ("law" : PySem.Str) = some (.ref fa) := by
      have e : (HandSHeadRun.topDef HPk07.R.prog 37).name = ("law" : PySem.Str) := by kernel_rfl
      rw [← e]
      exact hmg0
    obtain ⟨fd, hb, hF⟩ := Q.facts (P := (PySem.Challenge.rw_endstied_k07_whole_walks).prog) (w := w) (k := Pk07.lvl) (iL := 27) (arg := "_law_script") (Pg := Pk07.prog) (T := HPk07.tb) (fs := HPk07.fs) (fn := HPk07.fnL) KX G hmg c (by decide) (fun C => Q.fs_map C) (fun C => Q.fs_len C) HPk07.hini HPk07.allD HPk07.allH rfl
      ⟨_, _, rfl, HPk07.D_27⟩
    exact ⟨K, fd, _, KX, hb, fun H a ns hl hO hS => Q.law_sp rfl (Q.scl_of hO hS) (Pk07_plain ns hl), hF⟩
