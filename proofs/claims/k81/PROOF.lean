import PyProof.Rows.All
import HandS.ForMost
import HandS.Exc
import HandS.TupMul
import HandS.TupAny
import HandS.TupLe
import HandS.Deep
import HandS.Style
import HandS.Text
import HandS.Codes
import HandS.Iter
import HandS.Comp
import HandS.Defaults
import HandS.HeadEnd
import HandS.IsInst
import HandS.TupLen
import HandS.RaiseMore
import HandS.WordsDict
import KE.KTupSum
import HandS.SortInts
import HandS.TupSets
import HandS.Head0
import HandS.Head1
import HandS.Head2
import HandS.HeadHook1
import HandS.HeadHook2
import HandS.Zip
import KE.GoesEnum
import PyProof.DictUpdate
import HandS.More
import HandS.Conv
import KE.DataMinMax
import HandS.List
import HandS.DictComp
import PySem.Challenge.RW_printshop_k81_whole_shares_of_blanks
set_option Elab.async false
set_option linter.all false
set_option maxRecDepth 100000
set_option maxHeartbeats 0
section
set_option Elab.async false
set_option linter.all false
set_option maxRecDepth 100000
namespace Pz

/-! ### data -/
inductive D where
  | non | bl (b : Bool) | int (i : Int) | str (s : List Nat) | tup (l : List D) | lst (l : List D) | dic (t : Bool) (l : List (D × D)) | box (n : Nat) | fn (f : Nat) | scr (l : List D)

mutual
def D.dep : D → Nat
  | .tup l => D.depL l + 1
  | .lst l => D.depL l + 1
  | .dic _ _ => 1000
  | .box _ => 1000
  | .fn _ => 1000
  | .scr _ => 1000
  | _ => 0
def D.depL : List D → Nat
  | [] => 0
  | d :: l => max d.dep (D.depL l)
end

mutual
/-- Python's == of plain data -/
def D.eqv : D → D → Bool
  | .non, .non => true
  | .bl a, .bl b => a == b
  | .bl a, .int j => (if a then 1 else 0) == j
  | .int i, .bl b => i == (if b then 1 else 0)
  | .int i, .int j => i == j
  | .str x, .str y => x == y
  | .tup x, .tup y => D.eqvL x y
  | .lst x, .lst y => D.eqvL x y
  | _, _ => false
def D.eqvL : List D → List D → Bool
  | [], [] => true
  | a :: x, b :: y => D.eqv a b && D.eqvL x y
  | _, _ => false
end

/-- order of texts -/
def ltS : List Nat → List Nat → Bool
  | [], [] => false
  | [], _ :: _ => true
  | _ :: _, [] => false
  | a :: x, b :: y => if a = b then ltS x y else decide (a < b)
mutual
/-- whether Python's < is told -/
def D.cmp : D → D → Bool
  | .int _, .int _ => true
  | .str _, .str _ => true
  | .tup x, .tup y => D.cmpL x y
  | _, _ => false
def D.cmpL : List D → List D → Bool
  | a :: x, b :: y => (D.eqv a b || D.cmp a b) && D.cmpL x y
  | _, _ => true
end
mutual
/-- Python's < -/
def D.ltb : D → D → Bool
  | .int i, .int j => decide (i < j)
  | .str x, .str y => ltS x y
  | .tup x, .tup y => D.ltbL x y
  | _, _ => false
def D.ltbL : List D → List D → Bool
  | [], [] => false
  | [], _ :: _ => true
  | _ :: _, [] => false
  | a :: x, b :: y => if D.eqv a b then D.ltbL x y else D.ltb a b
end
def D.lt (a b : D) : Option Bool := if D.cmp a b then some (D.ltb a b) else none

mutual
/-- equality as keys: ints, texts, tuples of these -/
def D.same : D → D → Bool
  | .int i, .int j => decide (i = j)
  | .str x, .str y => decide (x = y)
  | .tup x, .tup y => D.sameL x y
  | _, _ => false
def D.sameL : List D → List D → Bool
  | [], [] => true
  | a :: x, b :: y => D.same a b && D.sameL x y
  | _, _ => false
end
def D.key1 : D → Bool
  | .int _ => true
  | .str _ => true
  | _ => false
/-- a key for a dict of this kind -/
def D.keyOk (t : Bool) : D → Bool
  | .int _ => !t
  | .str _ => !t
  | .tup l => t && l.all D.key1
  | _ => false
def kget (k : D) : List (D × D) → Option D
  | [] => none
  | (a, v) :: r => if D.same a k then some v else kget k r
def kput (k v : D) : List (D × D) → List (D × D)
  | [] => [(k, v)]
  | (a, x) :: r => if D.same a k then (a, v) :: r else (a, x) :: kput k v r
def kdrop (k : D) (l : List (D × D)) : List (D × D) := l.filter fun p => !D.same p.1 k

/-! ### results -/
inductive Rs (α : Type) where
  | ok (a : α)
  | ex (c : Nat) (p : List D) (B : List D)
  | bad
@[inline] def Rs.bind {α β : Type} (x : Rs α) (f : α → Rs β) : Rs β :=
  match x with
  | .ok a => f a
  | .ex c p B => .ex c p B
  | .bad => .bad
def Rs.of {α : Type} : Option α → Rs α
  | some a => .ok a
  | none => .bad
@[simp] theorem Rs.bind_ok {α β : Type} (a : α) (f : α → Rs β) : (Rs.ok a).bind f = f a := rfl
@[simp] theorem Rs.bind_bad {α β : Type} (f : α → Rs β) : (Rs.bad : Rs α).bind f = .bad := rfl
@[simp] theorem Rs.of_some {α : Type} (a : α) : Rs.of (some a) = .ok a := rfl
@[simp] theorem Rs.of_none {α : Type} : Rs.of (none : Option α) = .bad := rfl


/-! ### the small language -/
inductive Bop where
  | add | sub | mul | fdiv | mod | pow
inductive Cop where
  | eq | ne | lt | le | gt | ge | is | isNot | isIn | notIn
inductive Bi where
  | len | abs | int | str | sum | mn | mx | mn2 | mx2 | mn3 | all | any | sorted | sset | tuple | list | dict | getd | get1 | items | join | split | count | index
  | rng | enm | zip | mng | mxg | mng2 | mxg2 | sortd
inductive Ty where
  | int | bool | str | tup | lst | dic | none
mutual
inductive E where
  | var (i : Nat) | own (i : Nat) | cst (d : D)
  | bin (o : Bop) (a b : E) | cmp (o : Cop) (a b : E) | chain (o p : Cop) (a b c : E)
  | and (a b : E) | or (a b : E) | not (a : E) | neg (a : E) | ite (c a b : E)
  | sub (a b : E) | cut (a lo hi : E) | rev (a : E) | evn (a : E) (k : Nat) | nop
  | tup (es : Es) | lst (es : Es) | dnew (t : Bool) | ddis (t : Bool) (ks vs : Es)
  | call (f : Nat) (es : Es) | bi (b : Bi) (es : Es) | isi (a : E) (t : Ty)
  | lc (tg : Tg) (it c e : E) | lc2 (tg : Tg) (it c : E) (tg2 : Tg) (it2 c2 e : E) | dc (t : Bool) (tg : Tg) (it k v : E)
  | lcd (k : Nat) (it : E) (tg : Tg) (c e : E)
  | fresh (e : E) | mkbox (e : E) | mt (b : Bi) (a : E) (es : Es)
  | enm (a : E) | zip (a b : E)
inductive Es where
  | nil | cons (e : E) (es : Es)
inductive Tg where
  | nm (i : Nat) | tp (l : Tgs) | ix (i : Nat) (k : E) | bx (b k : E)
inductive Tgs where
  | nil | cons (t : Tg) (l : Tgs)
end
mutual
inductive S where
  | asg (tg : Tg) (e : E) | par (is : List Nat) (es : Es) | aug (i : Nat) (e : E) | augV (i : Nat) (e : E) | app (i : Nat) (e : E) | upd (i : Nat) (e : E) | pop (i : Nat) | ins (i : Nat) (k e : E)
  | expr (e : E) | ifs (c : E) (a b : Ss) | whl (c : E) (b : Ss) | for (tg : Tg) (it : E) (b : Ss)
  | ret (e : E) | retN | brk | cnt | pass | never | fz (is : List Nat) (s : S)
inductive Ss where
  | nil | cons (s : S) (ss : Ss)
end

/-! ### operations on data -/
/-- the longest list, text -/
abbrev ln : Nat := 16777216
def isLD : D → Bool
  | .lst _ => true
  | .dic _ _ => true
  | _ => false
def drf (B : List D) : D → D
  | .box n => (B[n]?).getD (.fn 0)
  | d => d
def rep (l : List D) (k : Nat) : List D := (List.replicate k l).flatten
def repS (l : List Nat) (k : Nat) : List Nat := (List.replicate k l).flatten
def small (i : Int) : Bool := decide (-(2 ^ 64) < i) && decide (i < 2 ^ 64)
def opB : Bop → D → D → Option D
  | .add, .int i, .int j => some (.int (i + j))
  | .add, .str x, .str y => if x.length + y.length ≤ ln then some (.str (x ++ y)) else none
  | .add, .lst x, .lst y => if x.length + y.length ≤ ln then some (.lst (x ++ y)) else none
  | .add, .tup x, .tup y => if x.length + y.length ≤ ln then some (.tup (x ++ y)) else none
  | .sub, .int i, .int j => some (.int (i - j))
  | .mul, .int i, .int j => if small i || small j then some (.int (i * j)) else none
  | .mul, .str x, .int k => if decide (-1000000 < k) && decide (k < 1000000) && decide (x.length * k.toNat ≤ ln) then some (.str (repS x k.toNat)) else none
  | .mul, .lst x, .int k => if decide (-1000000 < k) && decide (k < 1000000) && decide (x.length * k.toNat ≤ ln) then some (.lst (rep x k.toNat)) else none
  | .mul, .tup x, .int k => if decide (-1000000 < k) && decide (k < 1000000) && decide (x.length * k.toNat ≤ ln) then some (.tup (rep x k.toNat)) else none
  | .fdiv, .int i, .int j => if decide (0 < j) && decide (j < 1073741824) then some (.int (i / j)) else none
  | .mod, .int i, .int j => if 0 < j then some (.int (i % j)) else none
  | .pow, .int i, .int j => if decide (0 ≤ j) && decide (j ≤ 1000) && decide (i.natAbs < 2 ^ 64) then some (.int (i ^ j.toNat)) else none
  | _, _, _ => none
def ok64 (d : D) : Bool := decide (d.dep ≤ 64)
def inL (x : D) (l : List D) : Bool := l.any fun d => D.eqv d x
def inStr : D → List Nat → Option Bool
  | .str [c], y => some (y.contains c)
  | _, _ => none
def inD (x : D) : D → Option Bool
  | .str y => inStr x y
  | .lst l => if ok64 x && ok64 (.lst l) then some (inL x l) else none
  | .tup l => if ok64 x && ok64 (.tup l) then some (inL x l) else none
  | .dic t l => if x.keyOk t then some (kget x l).isSome else none
  | _ => none
def isD : D → D → Option Bool
  | .non, .non => some true
  | .bl a, .bl b => some (a == b)
  | .bl _, .non => some false
  | .int _, .non => some false
  | .str _, .non => some false
  | .tup _, .non => some false
  | .lst _, .non => some false
  | .dic _ _, .non => some false
  | .box _, .non => some false
  | .int _, .bl _ => some false
  | .str _, .bl _ => some false
  | .tup _, .bl _ => some false
  | .lst _, .bl _ => some false
  | .non, .bl _ => some false
  | _, _ => none
def eqD (a b : D) : Option Bool := if ok64 a && ok64 b then some (D.eqv a b) else none
def opC : Cop → D → D → Option Bool
  | .eq, a, b => eqD a b
  | .ne, a, b => (eqD a b).map not
  | .lt, a, b => if ok64 a && ok64 b then D.lt a b else none
  | .gt, a, b => if ok64 a && ok64 b then D.lt b a else none
  | .le, .int i, .int j => some (decide (i ≤ j))
  | .ge, .int i, .int j => some (decide (j ≤ i))
  | .is, a, b => isD a b
  | .isNot, a, b => (isD a b).map not
  | .isIn, a, b => inD a b
  | .notIn, a, b => (inD a b).map not
  | _, _, _ => none
def ixN (n : Nat) (i : Int) : Option Nat := if 0 ≤ i then (if i < n then some i.toNat else none) else if -(n : Int) ≤ i then some (i + n).toNat else none
def atI {α : Type} (xs : List α) (i : Int) : Option α := (ixN xs.length i).bind fun j => xs[j]?
def subD : D → D → Option D
  | .lst l, .int i => atI l i
  | .tup l, .int i => atI l i
  | .str s, .int i => (atI s i).map fun c => .str [c]
  | .dic t l, k => if k.keyOk t then kget k l else none
  | _, _ => none
/-- a slice's bound as a place among n (d where it is left out) -/
def sIx (n d : Nat) : Option Int → Nat
  | none => d
  | some v => if v < 0 then (v + n).toNat else min v.toNat n
def cutL {α : Type} (l : List α) (lo hi : Option Int) : List α := (l.drop (sIx l.length 0 lo)).take (sIx l.length l.length hi - sIx l.length 0 lo)
def part : E → D → Option (Option Int)
  | .nop, .non => some none
  | .nop, _ => none
  | _, .int i => some (some i)
  | _, _ => none
def cutD (d : D) (lo hi : Option Int) : Option D :=
  match d with
  | .lst l => some (.lst (cutL l lo hi))
  | .tup l => some (.tup (cutL l lo hi))
  | .str s => some (.str (cutL s lo hi))
  | _ => none
def revD : D → Option D
  | .lst l => some (.lst l.reverse)
  | .tup l => some (.tup l.reverse)
  | _ => none
/-- every second one -/
def evens {α : Type} : List α → List α
  | [] => []
  | [a] => [a]
  | a :: _ :: r => a :: evens r
def evnD (k : Nat) : D → Option D
  | .tup l => some (.tup (evens (l.drop k)))
  | _ => none
def intL : List D → Option (List Int)
  | [] => some []
  | .int i :: l => (intL l).map (i :: ·)
  | _ => none
def blL : List D → Option (List Bool)
  | [] => some []
  | .bl i :: l => (blL l).map (i :: ·)
  | _ => none
def strL : List D → Option (List (List Nat))
  | [] => some []
  | .str i :: l => (strL l).map (i :: ·)
  | _ => none
def mnL (m : D) : List D → Option D
  | [] => some m
  | d :: l => (D.lt d m).bind fun b => mnL (if b then d else m) l
def mxL (m : D) : List D → Option D
  | [] => some m
  | d :: l => (D.lt m d).bind fun b => mxL (if b then d else m) l
mutual
/-- plain ordered data: ints, texts, and lists and tuples of these -/
def D.ord : D → Bool
  | .int _ => true
  | .str _ => true
  | .tup l => D.ordL l
  | .lst l => D.ordL l
  | _ => false
def D.ordL : List D → Bool
  | [] => true
  | d :: l => d.ord && D.ordL l
end
def insD (x : D) : List D → List D
  | [] => [x]
  | y :: l => if D.ltb y x then y :: insD x l else x :: y :: l
def isort : List D → List D
  | [] => []
  | x :: l => insD x (isort l)
/-- any two are told apart by < -/
def cmpAll (l : List D) : Bool := l.all fun x => l.all fun y => D.cmp x y
def neT : D → Bool
  | .tup [] => false
  | _ => true
def sortD (l : List D) : Option D := if D.ordL l && cmpAll l && decide (D.depL l ≤ 60) && l.all neT then some (.lst (isort l)) else none
/-- what is walked -/
def itemsOf : D → Option (List D)
  | .lst l => some l
  | .tup l => some l
  | .str s => some (s.map fun c => .str [c])
  | _ => none
/-- .. or a dict's keys -/
def itemsK : D → Option (List D)
  | .dic _ l => some (l.map (·.1))
  | d => itemsOf d
/-- a dict walked: its keys, its pairs, its values -/
def itemsD (k : Nat) : D → Option (List D)
  | .dic false l => if k = 0 then some (l.map (·.1)) else none
  | _ => none
def dedup : List D → List D
  | [] => []
  | x :: l => if (dedup l).any (fun y => D.eqv y x) then dedup l else x :: dedup l
def rngL (a b : Int) : List D := (List.range (b - a).toNat).map fun k => .int (a + (k : Nat))
def rngDn (a b : Int) : List D := (List.range (a - b).toNat).map fun k => .int (a - (k : Nat))
def rngUp (a b : Int) (c : Nat) : List D := (List.range (if a < b then (b - a - 1) / c + 1 else 0).toNat).map fun k => .int (a + (k : Nat) * (c : Nat))
def Tgs.len : Tgs → Nat
  | .nil => 0
  | .cons _ l => l.len + 1
def Es.len : Es → Nat
  | .nil => 0
  | .cons _ es => es.len + 1
def bnd (i : Int) : Bool := decide (-(2 ^ 62) ≤ i) && decide (i < 2 ^ 62)
def pairsOf : List D → Option (List (D × D))
  | [] => some []
  | .tup [k, v] :: l => (pairsOf l).map ((k, v) :: ·)
  | _ => none
def mkDic (l : List (D × D)) : List (D × D) := l.foldl (fun acc p => kput p.1 p.2 acc) []
def joinS (sep : List Nat) : List (List Nat) → List Nat
  | [] => []
  | [x] => x
  | x :: l => x ++ (sep ++ joinS sep l)
def idxOf (x : D) : List D → Nat → Option Nat
  | [], _ => none
  | d :: l, n => if D.eqv d x then some n else idxOf x l (n + 1)
/-- text split at one sign -/
def splitC (c : Nat) : List Nat → List Nat → List (List Nat)
  | acc, [] => [acc]
  | acc, x :: l => if x = c then acc :: splitC c [] l else splitC c (acc ++ [x]) l
def cntC (c : Nat) (s : List Nat) : Nat := (s.filter (· == c)).length
def natS (n : Nat) : List Nat := (Nat.toDigits 10 n).map Char.toNat
def bi_len : List D → Option D
  | [.lst l] => some (.int l.length)
  | [.tup l] => some (.int l.length)
  | [.str s] => some (.int s.length)
  | [.dic _ l] => some (.int l.length)
  | _ => none
def bi_abs : List D → Option D
  | [.int i] => some (.int (if i < 0 then -i else i))
  | _ => none
def bi_int : List D → Option D
  | [.int i] => some (.int i)
  | _ => none
def bi_str : List D → Option D
  | [.str s] => some (.str s)
  | [.int i] => if decide (0 ≤ i) && decide (i < 10 ^ 9) then some (.str (natS i.toNat)) else none
  | _ => none
def bi_sum : List D → Option D
  | [.lst l] => (intL l).map fun ns => .int ns.sum
  | [.tup l] => (intL l).map fun ns => .int ns.sum
  | _ => none
def bi_mn : List D → Option D
  | [.lst l] => (intL l).bind fun ns => ns.min?.map .int
  | _ => none
def bi_mx : List D → Option D
  | [.lst l] => (intL l).bind fun ns => ns.max?.map .int
  | _ => none
def bi_mn2 : List D → Option D
  | [.int i, .int j] => some (.int (if j < i then j else i))
  | _ => none
def bi_mx2 : List D → Option D
  | [.int i, .int j] => some (.int (if j > i then j else i))
  | _ => none
def bi_mn3 : List D → Option D
  | _ => none
def bi_all : List D → Option D
  | [.lst l] => (blL l).map fun bs => .bl (bs.all id)
  | _ => none
def bi_any : List D → Option D
  | [.lst l] => (blL l).map fun bs => .bl (bs.any id)
  | _ => none
def bi_sorted : List D → Option D
  | [.lst l] => sortD l
  | [.tup l] => sortD l
  | _ => none
def bi_sset : List D → Option D
  | [.lst l] => if l.all D.key1 && decide (l.length < 4000) then sortD (dedup l) else none
  | _ => none
def bi_tuple : List D → Option D
  | [.lst l] => some (.tup l)
  | [.tup l] => some (.tup l)
  | _ => none
def bi_list : List D → Option D
  | [.scr l] => some (.lst l)
  | [.lst l] => some (.lst l)
  | [.tup l] => some (.lst l)
  | _ => none
def bi_dict : List D → Option D
  | [.dic false l] => some (.dic false l)
  | [.lst l] => (pairsOf l).bind fun ps => if ps.all fun p => p.1.keyOk false then some (.dic false (mkDic ps)) else none
  | _ => none
def bi_getd : List D → Option D
  | [.dic t l, k, x] => if k.keyOk t then some ((kget k l).getD x) else none
  | _ => none
def bi_get1 : List D → Option D
  | [.dic t l, k] => if k.keyOk t then some ((kget k l).getD .non) else none
  | _ => none
def bi_items : List D → Option D
  | [.dic _ l] => some (.lst (l.map fun p => .tup [p.1, p.2]))
  | _ => none
def bi_join : List D → Option D
  | [.str s, .lst l] => (strL l).bind fun xs => if (xs.map (·.length)).sum + xs.length * s.length ≤ 1000000 then some (.str (joinS s xs)) else none
  | [.str s, .tup l] => (strL l).bind fun xs => if (xs.map (·.length)).sum + xs.length * s.length ≤ 1000000 then some (.str (joinS s xs)) else none
  | _ => none
/-- least, greatest of ordered data: the first one of them -/
def mnF (m x : D) : D := if D.ltb x m then x else m
def mxF (m x : D) : D := if D.ltb m x then x else m
def ordOk (l : List D) : Bool := D.ordL l && cmpAll l && decide (D.depL l ≤ 60)
def bi_mng : List D → Option D
  | [.lst (d :: l)] => if ordOk (d :: l) then some (l.foldl mnF d) else none
  | [.tup (d :: l)] => if ordOk (d :: l) then some (l.foldl mnF d) else none
  | _ => none
def bi_mxg : List D → Option D
  | [.lst (d :: l)] => if ordOk (d :: l) then some (l.foldl mxF d) else none
  | [.tup (d :: l)] => if ordOk (d :: l) then some (l.foldl mxF d) else none
  | _ => none
def bi_mng2 : List D → Option D
  | [a, b] => if ordOk [a, b] then some (mnF a b) else none
  | _ => none
def bi_mxg2 : List D → Option D
  | [a, b] => if ordOk [a, b] then some (mxF a b) else none
  | _ => none
/-- a dict's keys, sorted -/
def bi_sortd : List D → Option D
  | [.dic false l] => if decide (l.length < 64) && ((strL (l.map (·.1))).isSome || (intL (l.map (·.1))).isSome) then some (.lst (isort (l.map (·.1)))) else none
  | _ => none
def bi_split : List D → Option D
  | [.str s, .str [c]] => some (.lst ((splitC c [] s).map .str))
  | _ => none
def bi_count : List D → Option D
  | [.str s, .str [c]] => some (.int (cntC c s))
  | _ => none
def bi_index : List D → Option D
  | [.lst l, x] => if ok64 x && ok64 (.lst l) then (idxOf x l 0).map fun n => .int n else none
  | [.tup l, x] => if ok64 x && ok64 (.tup l) then (idxOf x l 0).map fun n => .int n else none
  | _ => none
def rngOf : List D → Option (List D)
  | [.int b] => if bnd b then some (rngL 0 b) else none
  | [.int a, .int b] => if bnd a && bnd b then some (rngL a b) else none
  | [.int a, .int b, .int c] => if bnd a && bnd b then (if c = -1 then some (rngDn a b) else if decide (0 < c) && decide (c < 100000) then some (rngUp a b c.toNat) else none) else none
  | _ => none
def bi_rng (ds : List D) : Option D := (rngOf ds).map .lst
/-- the turns of enumerate, of zip -/
def enmL (l : List D) : List D := (l.zipIdx).map fun p => .tup [.int (p.2 : Nat), p.1]
def zipL (l m : List D) : List D := (l.zip m).map fun p => .tup [p.1, p.2]
def zipD : D → D → Option (List D)
  | .lst l, .lst m => some (zipL l m)
  | .tup l, .tup m => some (zipL l m)
  | _, _ => none
def bi_enm : List D → Option D
  | [d] => (itemsOf d).map fun l => .lst ((l.zipIdx).map fun p => .tup [.int (p.2 : Nat), p.1])
  | _ => none
def bi_zip : List D → Option D
  | [a, b] => (itemsOf a).bind fun l => (itemsOf b).map fun m => .lst ((l.zip m).map fun p => .tup [p.1, p.2])
  | _ => none
def opBi : Bi → List D → Option D
  | .len => bi_len
  | .abs => bi_abs
  | .int => bi_int
  | .str => bi_str
  | .sum => bi_sum
  | .mn => bi_mn
  | .mx => bi_mx
  | .mn2 => bi_mn2
  | .mx2 => bi_mx2
  | .mn3 => bi_mn3
  | .all => bi_all
  | .any => bi_any
  | .sorted => bi_sorted
  | .sset => bi_sset
  | .tuple => bi_tuple
  | .list => bi_list
  | .dict => bi_dict
  | .getd => bi_getd
  | .get1 => bi_get1
  | .items => bi_items
  | .join => bi_join
  | .split => bi_split
  | .count => bi_count
  | .index => bi_index
  | .rng => bi_rng
  | .enm => bi_enm
  | .zip => bi_zip
  | .mng => bi_mng
  | .mxg => bi_mxg
  | .mng2 => bi_mng2
  | .mxg2 => bi_mxg2
  | .sortd => bi_sortd
/-- whose method it is -/
def recv : Bi → D → Bool
  | .join, .str _ => true
  | .split, .str _ => true
  | .count, .str _ => true
  | .getd, .dic _ _ => true
  | .get1, .dic _ _ => true
  | .items, .dic _ _ => true
  | .index, .lst _ => true
  | .index, .tup _ => true
  | _, _ => false
def isiD : Ty → D → Option Bool
  | .int, .int _ => some true
  | .int, .bl _ => some true
  | .int, .non => some false
  | .int, .str _ => some false
  | .int, .tup _ => some false
  | .int, .lst _ => some false
  | .bool, .bl _ => some true
  | .bool, .int _ => some false
  | .bool, .non => some false
  | .bool, .str _ => some false
  | .bool, .tup _ => some false
  | .bool, .lst _ => some false
  | .str, .str _ => some true
  | .str, .int _ => some false
  | .str, .bl _ => some false
  | .str, .non => some false
  | .str, .tup _ => some false
  | .str, .lst _ => some false
  | .tup, .tup _ => some true
  | .tup, .int _ => some false
  | .tup, .bl _ => some false
  | .tup, .non => some false
  | .tup, .str _ => some false
  | .tup, .lst _ => some false
  | .lst, .lst _ => some true
  | .lst, .int _ => some false
  | .lst, .bl _ => some false
  | .lst, .non => some false
  | .lst, .str _ => some false
  | .lst, .tup _ => some false
  | _, _ => none

/-! ### evaluation -/
inductive Sl where
  | no | val (d : D) | own (d : D)
abbrev Sg := List Sl
/-- a called function: its number, arguments, the boxes -/
abbrev Fn := Nat → List D → List D → Rs (D × List D)
mutual
def Tg.names : Tg → List Nat
  | .nm i => [i]
  | .tp l => l.names
  | .ix _ _ => []
  | .bx _ _ => []
def Tgs.names : Tgs → List Nat
  | .nil => []
  | .cons t l => t.names ++ l.names
end
def wipeS (σ : Sg) : List Nat → Sg
  | [] => σ
  | v :: vs => (wipeS σ vs).set v .no
/-- a dict that is walked in place is not read meanwhile -/
def wv : E → Sg → Sg
  | .own i, σ => σ.set i .no
  | _, σ => σ
mutual
/-- names stored by a plain target -/
def put : Tg → D → Sg → Option Sg
  | .nm i, d, σ => if i < σ.length then some (σ.set i (.val d)) else none
  | .tp l, .tup ds, σ => puts l ds σ
  | _, _, _ => none
def puts : Tgs → List D → Sg → Option Sg
  | .nil, [], σ => some σ
  | .cons t l, d :: ds, σ => (put t d σ).bind fun σ' => puts l ds σ'
  | _, _, _ => none
end
def lcLoop (f : D → List D → Rs (Option D × List D)) : List D → List D → Rs (List D × List D)
  | [], B => .ok ([], B)
  | d :: ds, B => (f d B).bind fun x => (lcLoop f ds x.2).bind fun r => .ok (match x.1 with | some y => y :: r.1 | none => r.1, r.2)
/-- two clauses: the inner loop gives a list -/
def lcLoop2 (f : D → List D → Rs (List D × List D)) : List D → List D → Rs (List D × List D)
  | [], B => .ok ([], B)
  | d :: ds, B => (f d B).bind fun x => (lcLoop2 f ds x.2).bind fun r => .ok (x.1 ++ r.1, r.2)
def dcLoop (f : D → List D → Rs ((D × D) × List D)) : List D → List (D × D) → List D → Rs (List (D × D) × List D)
  | [], acc, B => .ok (acc, B)
  | d :: ds, acc, B => (f d B).bind fun x => dcLoop f ds (kput x.1.1 x.1.2 acc) x.2
def isB {α : Type} (d : D) (f : Bool → Rs α) : Rs α :=
  match d with
  | .bl b => f b
  | _ => .bad
@[simp] theorem isB_bl {α : Type} (b : Bool) (f : Bool → Rs α) : isB (.bl b) f = f b := rfl
variable (Φ : Fn)
mutual
/-- p: an owned list may be read in place -/
def ev (p : Bool) : E → Sg → List D → Rs (D × List D)
  | .var i, σ, B => match σ[i]? with
    | some (.val d) => .ok (d, B)
    | _ => .bad
  | .own i, σ, B => match p, σ[i]? with
    | true, some (.own d) => .ok (d, B)
    | _, _ => .bad
  | .cst d, _, B => .ok (d, B)
  | .bin o a b, σ, B => (ev true a σ B).bind fun x => (ev true b σ x.2).bind fun y => (Rs.of (opB o (drf y.2 x.1) (drf y.2 y.1))).bind fun d => .ok (d, y.2)
  | .cmp o a b, σ, B => (ev true a σ B).bind fun x => (ev true b σ x.2).bind fun y => (Rs.of (opC o (drf y.2 x.1) (drf y.2 y.1))).bind fun d => .ok (.bl d, y.2)
  | .chain o q a b c, σ, B => (ev true a σ B).bind fun x => (ev true b σ x.2).bind fun y => (Rs.of (opC o (drf y.2 x.1) (drf y.2 y.1))).bind fun d =>
      if d then (ev true c σ y.2).bind fun z => (Rs.of (opC q (drf z.2 y.1) (drf z.2 z.1))).bind fun e => .ok (.bl e, z.2) else .ok (.bl false, y.2)
  | .and a b, σ, B => (ev false a σ B).bind fun x => isB x.1 fun k => if k then ev false b σ x.2 else .ok (.bl false, x.2)
  | .or a b, σ, B => (ev false a σ B).bind fun x => isB x.1 fun k => if k then .ok (.bl true, x.2) else ev false b σ x.2
  | .not a, σ, B => (ev false a σ B).bind fun x => isB x.1 fun k => .ok (.bl (!k), x.2)
  | .neg a, σ, B => (ev false a σ B).bind fun x => match x.1 with
    | .int i => .ok (.int (-i), x.2)
    | _ => .bad
  | .ite c a b, σ, B => (ev false c σ B).bind fun x => isB x.1 fun k => if k then ev false a σ x.2 else ev false b σ x.2
  | .sub a b, σ, B => (ev true a σ B).bind fun x => (ev true b σ x.2).bind fun y => (Rs.of (subD (drf y.2 x.1) (drf y.2 y.1))).bind fun d => .ok (d, y.2)
  | .cut a lo hi, σ, B => (ev true a σ B).bind fun x => (ev false lo σ x.2).bind fun y => (Rs.of (part lo y.1)).bind fun l => (ev false hi σ y.2).bind fun z =>
      (Rs.of (part hi z.1)).bind fun h => (Rs.of (cutD (drf z.2 x.1) l h)).bind fun d => .ok (d, z.2)
  | .rev a, σ, B => (ev true a σ B).bind fun x => (Rs.of (revD (drf x.2 x.1))).bind fun d => .ok (d, x.2)
  | .evn a k, σ, B => (ev true a σ B).bind fun x => (Rs.of (evnD k (drf x.2 x.1))).bind fun d => .ok (d, x.2)
  | .nop, _, B => .ok (.non, B)
  | .tup es, σ, B => (evs false es σ B).bind fun x => if x.1.length ≤ ln then .ok (.tup x.1, x.2) else .bad
  | .lst es, σ, B => (evs false es σ B).bind fun x => if x.1.length ≤ ln then .ok (.lst x.1, x.2) else .bad
  | .dnew t, _, B => .ok (.dic t [], B)
  | .ddis t ks vs, σ, B => (evs false ks σ B).bind fun x => (evs false vs σ x.2).bind fun y => if x.1.all fun k => k.keyOk t then .ok (.dic t (mkDic (x.1.zip y.1)), y.2) else .bad
  | .call f es, σ, B => (evs false es σ B).bind fun x => Φ f x.1 x.2
  | .bi b es, σ, B => (evs true es σ B).bind fun x => (Rs.of (opBi b (x.1.map (drf x.2)))).bind fun d => .ok (d, x.2)
  | .isi a t, σ, B => (ev true a σ B).bind fun x => (Rs.of (isiD t (drf x.2 x.1))).bind fun d => .ok (.bl d, x.2)
  | .lc tg it c e, σ, B => (ev true it σ B).bind fun x => (Rs.of (itemsOf x.1)).bind fun ds => if ds.length ≤ ln then
      (lcLoop (fun d B => (Rs.of (put tg d (wipeS σ tg.names))).bind fun σ' => (ev false c σ' B).bind fun y => isB y.1 fun k =>
        if k then (ev false e σ' y.2).bind fun z => .ok (some z.1, z.2) else .ok (none, y.2)) ds x.2).bind fun r => .ok (.lst r.1, r.2)
      else .bad
  | .lcd k it tg c e, σ, B => (ev true it σ B).bind fun x => (Rs.of (itemsD k x.1)).bind fun ds => if ds.length ≤ ln then
      (lcLoop (fun d B => (Rs.of (put tg d (wipeS (wv it σ) tg.names))).bind fun σ' => (ev false c σ' B).bind fun y => isB y.1 fun k =>
        if k then (ev false e σ' y.2).bind fun z => .ok (some z.1, z.2) else .ok (none, y.2)) ds x.2).bind fun r => .ok (.lst r.1, r.2)
      else .bad
  | .lc2 tg it c tg2 it2 c2 e, σ, B => (ev true it σ B).bind fun x => (Rs.of (itemsOf x.1)).bind fun ds => if ds.length ≤ 4096 then
      (lcLoop2 (fun d B => (Rs.of (put tg d (wipeS σ (tg.names ++ tg2.names)))).bind fun σ' => (ev false c σ' B).bind fun y => isB y.1 fun k =>
        if k then (ev false it2 σ' y.2).bind fun z => (Rs.of (itemsOf z.1)).bind fun es => if es.length ≤ 4096 then
          lcLoop (fun d B => (Rs.of (put tg2 d (wipeS σ' tg2.names))).bind fun σ'' => (ev false c2 σ'' B).bind fun y => isB y.1 fun k =>
            if k then (ev false e σ'' y.2).bind fun z => .ok (some z.1, z.2) else .ok (none, y.2)) es z.2 else .bad
        else .ok ([], y.2)) ds x.2).bind fun r => .ok (.lst r.1, r.2)
      else .bad
  | .dc t tg it k v, σ, B => (ev true it σ B).bind fun x => (Rs.of (itemsOf x.1)).bind fun ds => if ds.length ≤ ln then
      (dcLoop (fun d B => (Rs.of (put tg d (wipeS σ tg.names))).bind fun σ' => (ev false k σ' B).bind fun y => (ev false v σ' y.2).bind fun z =>
        if y.1.keyOk t then .ok ((y.1, z.1), z.2) else .bad) ds [] x.2).bind fun r => .ok (.dic t r.1, r.2)
      else .bad
  | .fresh _, _, _ => .bad
  | .mt b a es, σ, B => (ev true a σ B).bind fun x => if recv b (drf x.2 x.1) then (evs true es σ x.2).bind fun y => (Rs.of (opBi b ((x.1 :: y.1).map (drf y.2)))).bind fun d => .ok (d, y.2) else .bad
  | .enm a, σ, B => (ev false a σ B).bind fun x => (Rs.of (itemsOf x.1)).bind fun l => .ok (.lst (enmL l), x.2)
  | .zip a b, σ, B => (ev false a σ B).bind fun x => (ev false b σ x.2).bind fun y => (Rs.of (zipD x.1 y.1)).bind fun l => .ok (.lst l, y.2)
  | .mkbox e, σ, B => (ev false e σ B).bind fun x => if isLD x.1 then .ok (.box x.2.length, x.2 ++ [x.1]) else .bad
def evs (p : Bool) : Es → Sg → List D → Rs (List D × List D)
  | .nil, _, B => .ok ([], B)
  | .cons e es, σ, B => (ev p e σ B).bind fun x => (evs p es σ x.2).bind fun y => .ok (x.1 :: y.1, y.2)
end
/-- a value for a name: fresh ones are owned -/
def evX : E → Sg → List D → Rs (Sl × List D)
  | .fresh e, σ, B => (ev Φ false e σ B).bind fun x => if isLD x.1 then .ok (.own x.1, x.2) else .bad
  | e, σ, B => (ev Φ false e σ B).bind fun x => .ok (.val x.1, x.2)
def evXs : Es → Sg → List D → Rs (List Sl × List D)
  | .nil, _, B => .ok ([], B)
  | .cons e es, σ, B => (evX Φ e σ B).bind fun x => (evXs es σ x.2).bind fun y => .ok (x.1 :: y.1, y.2)
def setD : D → D → D → Option D
  | .lst l, .int i, v => (ixN l.length i).map fun j => .lst (l.set j v)
  | .dic t l, k, v => if k.keyOk t && decide (l.length < ln) then some (.dic t (kput k v l)) else none
  | _, _, _ => none
def asg : Tg → Sl → Sg → List D → Rs (Sg × List D)
  | .nm i, v, σ, B => if i < σ.length then .ok (σ.set i v, B) else .bad
  | .tp l, .val d, σ, B => (Rs.of (put (.tp l) d σ)).bind fun σ' => .ok (σ', B)
  | .ix i k, .val d, σ, B => match σ[i]? with
    | some (.own c) => (ev Φ false k σ B).bind fun x => (Rs.of (setD c x.1 d)).bind fun c' => .ok (σ.set i (.own c'), x.2)
    | _ => .bad
  | .bx b k, .val d, σ, B => (ev Φ false b σ B).bind fun x => (ev Φ false k σ x.2).bind fun y => match x.1 with
    | .box n => match y.2[n]? with
      | some c => (Rs.of (setD c y.1 d)).bind fun c' => .ok (σ, y.2.set n c')
      | none => .bad
    | _ => .bad
  | _, _, _, _ => .bad
inductive Fl where
  | next | brk | cnt | ret (d : D)
abbrev Rq := Rs (Fl × Sg × List D)
def frzS : Sl → Sl
  | .own d => .val d
  | s => s
def frzAll (σ : Sg) : Sg := σ.map frzS
def frzAt : List Nat → Sg → Sg
  | [], σ => σ
  | i :: is, σ => frzAt is (σ.modify i frzS)
def setAll : List Nat → List Sl → Sg → Option Sg
  | [], [], σ => some σ
  | i :: is, v :: vs, σ => if i < σ.length then setAll is vs (σ.set i v) else none
  | _, _, _ => none
def forLoop (f : D → Sg → List D → Rq) : List D → Sg → List D → Rq
  | [], σ, B => .ok (.next, σ, B)
  | d :: ds, σ, B => (f d σ B).bind fun x => match x.1 with
    | .next => forLoop f ds x.2.1 x.2.2
    | .cnt => forLoop f ds x.2.1 x.2.2
    | .brk => .ok (.next, x.2.1, x.2.2)
    | .ret d => .ok (.ret d, x.2.1, x.2.2)
/-- while: fuel, test, body -/
def whlLoop (c : Sg → List D → Rs (D × List D)) (f : Sg → List D → Rq) : Nat → Sg → List D → Rq
  | 0, _, _ => .bad
  | n + 1, σ, B => (c σ B).bind fun x => isB x.1 fun k => if k then (f σ x.2).bind fun x => match x.1 with
      | .next => whlLoop c f n x.2.1 x.2.2
      | .cnt => whlLoop c f n x.2.1 x.2.2
      | .brk => .ok (.next, x.2.1, x.2.2)
      | .ret d => .ok (.ret d, x.2.1, x.2.2)
    else .ok (.next, σ, x.2)
def updL (c : D) (e : D) : Option D :=
  match c, e with
  | .dic false l, .dic false m => if l.length + m.length ≤ ln then some (.dic false (m.foldl (fun acc p => kput p.1 p.2 acc) l)) else none
  | _, _ => none
def augD (c : D) (e : D) : Option D :=
  match c, e with
  | .lst l, .lst m => if l.length + m.length ≤ ln then some (.lst (l ++ m)) else none
  | _, _ => none
def addV : D → D → Option D
  | .int i, b => opB .add (.int i) b
  | .str s, b => opB .add (.str s) b
  | _, _ => none
def fuel : Nat := 100000
mutual
def ex : S → Sg → List D → Rq
  | .asg tg e, σ, B => (evX Φ e σ B).bind fun x => (asg Φ tg x.1 σ x.2).bind fun y => .ok (.next, y.1, y.2)
  | .par is es, σ, B => (evXs Φ es σ B).bind fun x => (Rs.of (setAll is x.1 σ)).bind fun σ' => .ok (.next, σ', x.2)
  | .aug i e, σ, B => match σ[i]? with
    | some (.own c) => (ev Φ true e σ B).bind fun x => (Rs.of (augD c (drf x.2 x.1))).bind fun d => .ok (.next, σ.set i (.own d), x.2)
    | _ => .bad
  | .augV i e, σ, B => match σ[i]? with
    | some (.val c) => (ev Φ true e σ B).bind fun x => (Rs.of (addV c (drf x.2 x.1))).bind fun d => .ok (.next, σ.set i (.val d), x.2)
    | _ => .bad
  | .app i e, σ, B => match σ[i]? with
    | some (.own (.lst l)) => (ev Φ false e σ B).bind fun x => if l.length < ln then .ok (.next, σ.set i (.own (.lst (l ++ [x.1]))), x.2) else .bad
    | _ => .bad
  | .upd i e, σ, B => match σ[i]? with
    | some (.own (.dic t l)) => (ev Φ false e σ B).bind fun x => (Rs.of (updL (.dic t l) x.1)).bind fun d => .ok (.next, σ.set i (.own d), x.2)
    | _ => .bad
  | .pop i, σ, B => match σ[i]? with
    | some (.own (.lst l)) => if l = [] then .bad else .ok (.next, σ.set i (.own (.lst l.dropLast)), B)
    | _ => .bad
  | .ins i k e, σ, B => match σ[i]? with
    | some (.own (.lst l)) => (ev Φ false k σ B).bind fun x => (ev Φ false e σ x.2).bind fun y => match x.1 with
      | .int j => if decide (0 ≤ j) && decide (j ≤ l.length) && decide (l.length < ln) then .ok (.next, σ.set i (.own (.lst (l.take j.toNat ++ y.1 :: l.drop j.toNat))), y.2) else .bad
      | _ => .bad
    | _ => .bad
  | .expr e, σ, B => (ev Φ false e σ B).bind fun x => .ok (.next, σ, x.2)
  | .ifs c a b, σ, B => (ev Φ false c σ B).bind fun x => isB x.1 fun k => if k then exs a σ x.2 else exs b σ x.2
  | .whl c b, σ, B => whlLoop (fun σ B => ev Φ false c σ B) (fun σ B => exs b σ B) fuel σ B
  | .for tg it b, σ, B => (ev Φ false it σ B).bind fun x => (Rs.of (itemsOf x.1)).bind fun ds =>
      forLoop (fun d σ B => (Rs.of (put tg d σ)).bind fun σ' => exs b σ' B) ds σ x.2
  | .ret e, σ, B => (ev Φ false e (frzAll σ) B).bind fun x => .ok (.ret x.1, frzAll σ, x.2)
  | .retN, σ, B => .ok (.ret .non, σ, B)
  | .brk, σ, B => .ok (.brk, σ, B)
  | .cnt, σ, B => .ok (.cnt, σ, B)
  | .pass, σ, B => .ok (.next, σ, B)
  | .never, _, _ => .bad
  | .fz is s, σ, B => ex s (frzAt is σ) B
def exs : Ss → Sg → List D → Rq
  | .nil, σ, B => .ok (.next, σ, B)
  | .cons s ss, σ, B => (ex s σ B).bind fun x => match x.1 with
    | .next => exs ss x.2.1 x.2.2
    | fl => .ok (fl, x.2.1, x.2.2)
end
/-! ### programs -/
structure Fd where
  np : Nat
  ns : Nat
  body : Ss
def start (ns : Nat) (args : List D) : Sg := args.map .val ++ List.replicate (ns - args.length) .no
def run (tb : Nat → Option Fd) : Nat → Fn
  | 0, _, _, _ => .bad
  | n + 1, f, args, B => match tb f with
    | some fd => if args.length = fd.np then (exs (run tb n) fd.body (start fd.ns args) B).bind fun x => match x.1 with
      | .ret d => .ok (d, x.2.2)
      | .next => .ok (.non, x.2.2)
      | _ => .bad
      else .bad
    | none => .bad
end Pz
end
section
set_option Elab.async false
set_option linter.all false
set_option maxRecDepth 100000
namespace Pz
open PySem PySem.Spec PyProof.Rows L2

abbrev mk (l : List Nat) : Str := ⟨l.toArray⟩
theorem mk_inj {x y : List Nat} (h : mk x = mk y) : x = y := by
  have e : x.toArray = y.toArray := Str.mk.inj h
  simpa using congrArg Array.toList e

/-! ### how data stand in the heap -/
/-- a plain text that is not too long -/
def SOk (l : List Nat) : Prop := (∀ c ∈ l, c < 128) ∧ l.length ≤ ln
inductive RepKs : List D → List Key → Prop
  | nil : RepKs [] []
  | int {i : Int} {r : List D} {s : List Key} : RepKs r s → RepKs (.int i :: r) (.inl i :: s)
  | str {x : List Nat} {r : List D} {s : List Key} : SOk x → RepKs r s → RepKs (.str x :: r) (.inr (mk x) :: s)
mutual
inductive Rep (K : PySem.W.Frag) (Hs : Hp) (ρ : List Addr) : D → V → Prop
  | non : Rep K Hs ρ .non .non
  | bl (b : Bool) : Rep K Hs ρ (.bl b) (.bl b)
  | int (i : Int) : Rep K Hs ρ (.int i) (.int i)
  | str {l : List Nat} : SOk l → Rep K Hs ρ (.str l) (.str (mk l))
  | tup {l : List D} {a : Addr} {xs : List V} : Hs a = some (.tup xs) → RepL K Hs ρ l xs → Rep K Hs ρ (.tup l) (.ref a)
  | lst {l : List D} {a : Addr} {xs : List V} : Hs a = some (.lst xs) → RepL K Hs ρ l xs → Rep K Hs ρ (.lst l) (.ref a)
  | dK {l : List (D × D)} {a : Addr} {kvs : List (Key × V)} : Rd Hs a (.dK kvs) → RepK K Hs ρ l kvs → Rep K Hs ρ (.dic false l) (.ref a)
  | dT {l : List (D × D)} {a : Addr} {kvs : List (List Key × V)} : Rd Hs a (.dT kvs) → RepT K Hs ρ l kvs → Rep K Hs ρ (.dic true l) (.ref a)
  | box {n : Nat} {a : Addr} : ρ[n]? = some a → Rep K Hs ρ (.box n) (.ref a)
  | scr {l : List D} {a : Addr} {xs : List V} : SqL K Hs a xs → RepL K Hs ρ l xs → Rep K Hs ρ (.scr l) (.ref a)
inductive RepL (K : PySem.W.Frag) (Hs : Hp) (ρ : List Addr) : List D → List V → Prop
  | nil : RepL K Hs ρ [] []
  | cons {d : D} {v : V} {l : List D} {xs : List V} : Rep K Hs ρ d v → RepL K Hs ρ l xs → RepL K Hs ρ (d :: l) (v :: xs)
inductive RepK (K : PySem.W.Frag) (Hs : Hp) (ρ : List Addr) : List (D × D) → List (Key × V) → Prop
  | nil : RepK K Hs ρ [] []
  | int {i : Int} {d : D} {v : V} {l : List (D × D)} {xs : List (Key × V)} : Rep K Hs ρ d v → RepK K Hs ρ l xs → RepK K Hs ρ ((.int i, d) :: l) ((.inl i, v) :: xs)
  | str {x : List Nat} {d : D} {v : V} {l : List (D × D)} {xs : List (Key × V)} : SOk x → Rep K Hs ρ d v → RepK K Hs ρ l xs → RepK K Hs ρ ((.str x, d) :: l) ((.inr (mk x), v) :: xs)
inductive RepT (K : PySem.W.Frag) (Hs : Hp) (ρ : List Addr) : List (D × D) → List (List Key × V) → Prop
  | nil : RepT K Hs ρ [] []
  | cons {k : List D} {kk : List Key} {d : D} {v : V} {l : List (D × D)} {xs : List (List Key × V)} : RepKs k kk → Rep K Hs ρ d v → RepT K Hs ρ l xs → RepT K Hs ρ ((.tup k, d) :: l) ((kk, v) :: xs)
end

/-- a dict, which a loop over it locks -/
def Lk : HO → Prop
  | .dK _ => True
  | .dT _ => True
  | _ => False
/-- H' has all that H has; dicts may be locked -/
def Le (H H' : Hp) : Prop := ∀ a o, H a = some o → H' a = some o ∨ (Lk o ∧ ∃ f, H' a = some (.frz f o))
theorem Le.refl (H : Hp) : Le H H := fun _ _ h => .inl h
theorem Le.of {H H' : Hp} (h : ∀ a o, H a = some o → H' a = some o) : Le H H' := fun a o e => .inl (h a o e)
theorem Le.trans {H H1 H2 : Hp} (a : Le H H1) (b : Le H1 H2) : Le H H2 := fun c o e => by
  rcases a c o e with h | ⟨m, f, h⟩
  · exact b c o h
  · rcases b c _ h with h2 | ⟨m2, _⟩
    · exact .inr ⟨m, f, h2⟩
    · exact m2.elim
theorem Le.there {H H' : Hp} (l : Le H H') {a : Addr} (h : H' a = none) : H a = none := by
  cases e : H a with
  | none => rfl
  | some o =>
    rcases l a o e with q | ⟨_, f, q⟩ <;> rw [h] at q <;> cases q
theorem Le.rd {H H' : Hp} (l : Le H H') {a : Addr} {u : HO} (h : Rd H a u) : Rd H' a u := by
  rcases h with h | ⟨o, h⟩
  · rcases l a u h with q | ⟨_, f, q⟩
    · exact .inl q
    · exact .inr ⟨f, q⟩
  · rcases l a _ h with q | ⟨m, _⟩
    · exact .inr ⟨o, q⟩
    · exact m.elim
theorem Le.lst {H H' : Hp} (l : Le H H') {a : Addr} {xs : List V} (h : H a = some (.lst xs)) : H' a = some (.lst xs) := by
  rcases l a _ h with q | ⟨m, _⟩
  · exact q
  · exact m.elim
theorem Le.tup {H H' : Hp} (l : Le H H') {a : Addr} {xs : List V} (h : H a = some (.tup xs)) : H' a = some (.tup xs) := by
  rcases l a _ h with q | ⟨m, _⟩
  · exact q
  · exact m.elim
theorem Le.sqL {K : PySem.W.Frag} {H H' : Hp} (l : Le H H') {a : Addr} {xs : List V} (h : SqL K H a xs) : SqL K H' a xs := by
  rcases h with h | h
  · exact .inl (l.rd h)
  · exact .inr h
theorem Le.sqT {K : PySem.W.Frag} {H H' : Hp} (l : Le H H') {a : Addr} {xs : List V} (h : SqT K H a xs) : SqT K H' a xs := by
  rcases h with h | h
  · exact .inl (l.rd h)
  · exact .inr h
section
variable {K : PySem.W.Frag} {Hs Hs' : Hp} {ρ ρ' : List Addr}
theorem pre_get {n : Nat} {a : Addr} (p : ρ <+: ρ') (h : ρ[n]? = some a) : ρ'[n]? = some a := by
  obtain ⟨t, rfl⟩ := p
  rw [List.getElem?_append_left (List.getElem?_eq_some_iff.mp h).1]
  exact h
mutual
theorem Rep.mono (l : Le Hs Hs') (p : ρ <+: ρ') : ∀ {d : D} {v : V}, Rep K Hs ρ d v → Rep K Hs' ρ' d v
  | _, _, .non => .non
  | _, _, .bl b => .bl b
  | _, _, .int i => .int i
  | _, _, .str h => .str h
  | _, _, .tup h r => .tup (l.tup h) (RepL.mono l p r)
  | _, _, .lst h r => .lst (l.lst h) (RepL.mono l p r)
  | _, _, .scr h r => .scr (l.sqL h) (RepL.mono l p r)
  | _, _, .dK h r => .dK (l.rd h) (RepK.mono l p r)
  | _, _, .dT h r => .dT (l.rd h) (RepT.mono l p r)
  | _, _, .box h => .box (pre_get p h)
theorem RepL.mono (l : Le Hs Hs') (p : ρ <+: ρ') : ∀ {d : List D} {v : List V}, RepL K Hs ρ d v → RepL K Hs' ρ' d v
  | _, _, .nil => .nil
  | _, _, .cons h r => .cons (Rep.mono l p h) (RepL.mono l p r)
theorem RepK.mono (l : Le Hs Hs') (p : ρ <+: ρ') : ∀ {d : List (D × D)} {v : List (Key × V)}, RepK K Hs ρ d v → RepK K Hs' ρ' d v
  | _, _, .nil => .nil
  | _, _, .int h r => .int (Rep.mono l p h) (RepK.mono l p r)
  | _, _, .str c h r => .str c (Rep.mono l p h) (RepK.mono l p r)
theorem RepT.mono (l : Le Hs Hs') (p : ρ <+: ρ') : ∀ {d : List (D × D)} {v : List (List Key × V)}, RepT K Hs ρ d v → RepT K Hs' ρ' d v
  | _, _, .nil => .nil
  | _, _, .cons c h r => .cons c (Rep.mono l p h) (RepT.mono l p r)
end
theorem RepL.length : ∀ {d : List D} {v : List V}, RepL K Hs ρ d v → d.length = v.length
  | _, _, .nil => rfl
  | _, _, .cons _ r => congrArg Nat.succ (RepL.length r)
theorem RepL.get : ∀ {d : List D} {v : List V} {n : Nat} {x : D}, RepL K Hs ρ d v → d[n]? = some x → ∃ y, v[n]? = some y ∧ Rep K Hs ρ x y
  | _, _, _, _, .nil, e => by simp at e
  | _, _, 0, _, .cons h _, e => by simp at e; subst e; exact ⟨_, rfl, h⟩
  | _, _, n + 1, x, .cons _ r, e => by
    obtain ⟨y, e1, e2⟩ := RepL.get (n := n) (x := x) r (by simpa using e)
    exact ⟨y, by simpa using e1, e2⟩
theorem RepL.get' : ∀ {d : List D} {v : List V} {n : Nat} {y : V}, RepL K Hs ρ d v → v[n]? = some y → ∃ x, d[n]? = some x ∧ Rep K Hs ρ x y
  | _, _, _, _, .nil, e => by simp at e
  | _, _, 0, _, .cons h _, e => by simp at e; subst e; exact ⟨_, rfl, h⟩
  | _, _, n + 1, y, .cons _ r, e => by
    obtain ⟨x, e1, e2⟩ := RepL.get' (n := n) (y := y) r (by simpa using e)
    exact ⟨x, by simpa using e1, e2⟩
theorem RepL.append : ∀ {d e : List D} {v w : List V}, RepL K Hs ρ d v → RepL K Hs ρ e w → RepL K Hs ρ (d ++ e) (v ++ w)
  | _, _, _, _, .nil, s => s
  | _, _, _, _, .cons h r, s => .cons h (RepL.append r s)
theorem RepL.take : ∀ {d : List D} {v : List V} (n : Nat), RepL K Hs ρ d v → RepL K Hs ρ (d.take n) (v.take n)
  | _, _, 0, _ => .nil
  | _, _, _ + 1, .nil => .nil
  | _, _, n + 1, .cons h r => .cons h (RepL.take n r)
theorem RepL.drop : ∀ {d : List D} {v : List V} (n : Nat), RepL K Hs ρ d v → RepL K Hs ρ (d.drop n) (v.drop n)
  | _, _, 0, r => r
  | _, _, _ + 1, .nil => .nil
  | _, _, n + 1, .cons _ r => RepL.drop n r
theorem RepL.reverse : ∀ {d : List D} {v : List V}, RepL K Hs ρ d v → RepL K Hs ρ d.reverse v.reverse
  | _, _, .nil => .nil
  | _, _, .cons h r => by
    rw [List.reverse_cons, List.reverse_cons]
    exact RepL.append (RepL.reverse r) (.cons h .nil)
theorem RepL.set {x : D} {y : V} (h : Rep K Hs ρ x y) : ∀ {d : List D} {v : List V} (n : Nat), RepL K Hs ρ d v → RepL K Hs ρ (d.set n x) (v.set n y)
  | _, _, _, .nil => .nil
  | _, _, 0, .cons _ r => .cons h r
  | _, _, n + 1, .cons g r => .cons g (RepL.set h n r)
theorem RepL.nil_iff {v : List V} (r : RepL K Hs ρ [] v) : v = [] := by cases r; rfl
theorem RepL.one {d : D} {v : List V} (r : RepL K Hs ρ [d] v) : ∃ x, v = [x] ∧ Rep K Hs ρ d x := by
  cases r with
  | cons h t => cases t; exact ⟨_, rfl, h⟩
theorem RepL.two {d e : D} {v : List V} (r : RepL K Hs ρ [d, e] v) : ∃ x y, v = [x, y] ∧ Rep K Hs ρ d x ∧ Rep K Hs ρ e y := by
  cases r with
  | cons h t => cases t with
    | cons g t => cases t; exact ⟨_, _, rfl, h, g⟩
end

/-! ### what is owned -/
def OwnAt (K : PySem.W.Frag) (Hs : Hp) (ρ : List Addr) (H : Hp) (a : Addr) : D → Prop
  | .lst l => ∃ xs, H a = some (.lst xs) ∧ RepL K Hs ρ l xs
  | .dic false l => ∃ kvs, H a = some (.dK kvs) ∧ RepK K Hs ρ l kvs
  | .dic true l => ∃ kvs, H a = some (.dT kvs) ∧ RepT K Hs ρ l kvs
  | _ => False
section
variable {K : PySem.W.Frag} {Hs Hs' H H' : Hp} {ρ ρ' : List Addr} {a : Addr} {d : D} {v : V}
theorem OwnAt.some_ : ∀ {d : D}, OwnAt K Hs ρ H a d → ∃ o, H a = some o
  | .lst _, ⟨_, e, _⟩ => ⟨_, e⟩
  | .dic false _, ⟨_, e, _⟩ => ⟨_, e⟩
  | .dic true _, ⟨_, e, _⟩ => ⟨_, e⟩
theorem OwnAt.mono (l : Le Hs Hs') (p : ρ <+: ρ') (e : H' a = H a) : ∀ {d : D}, OwnAt K Hs ρ H a d → OwnAt K Hs' ρ' H' a d
  | .lst _, ⟨xs, h, r⟩ => ⟨xs, e.trans h, r.mono l p⟩
  | .dic false _, ⟨xs, h, r⟩ => ⟨xs, e.trans h, r.mono l p⟩
  | .dic true _, ⟨xs, h, r⟩ => ⟨xs, e.trans h, r.mono l p⟩
theorem OwnAt.mut : ∀ {d : D}, OwnAt K Hs ρ H a d → Mut (H a)
  | .lst _, ⟨_, e, _⟩ => by rw [e]; trivial
  | .dic false _, ⟨_, e, _⟩ => by rw [e]; trivial
  | .dic true _, ⟨_, e, _⟩ => by rw [e]; trivial
/-- an owned thing given away -/
theorem OwnAt.rep {Hs'' : Hp} (l : Le Hs Hs'') (p : ρ <+: ρ') (e : Hs'' a = H a) : ∀ {d : D}, OwnAt K Hs ρ H a d → Rep K Hs'' ρ' d (.ref a)
  | .lst _, ⟨xs, h, r⟩ => .lst (e.trans h) (r.mono l p)
  | .dic false _, ⟨xs, h, r⟩ => .dK (.inl (e.trans h)) (r.mono l p)
  | .dic true _, ⟨xs, h, r⟩ => .dT (.inl (e.trans h)) (r.mono l p)

/-- the boxes -/
structure BOk (K : PySem.W.Frag) (Hs : Hp) (ρ : List Addr) (H : Hp) (B : List D) : Prop where
  len : ρ.length = B.length
  nd : ρ.Nodup
  at_ : ∀ (n : Nat) (a : Addr) (d : D), ρ[n]? = some a → B[n]? = some d → OwnAt K Hs ρ H a d ∧ Hs a = none
/-- a slot -/
def SlOk (K : PySem.W.Frag) (Hs : Hp) (ρ : List Addr) (H : Hp) : Sl → Option V → Prop
  | .no, _ => True
  | .val d, o => ∃ v, o = some v ∧ Rep K Hs ρ d v
  | .own d, o => ∃ a, o = some (.ref a) ∧ OwnAt K Hs ρ H a d ∧ Hs a = none ∧ a ∉ ρ
/-- the slots of the frame that the body runs in, the shared part, the boxes -/
structure Stt (K : PySem.W.Frag) (Hs : Hp) (ρ : List Addr) (H : Hp) (σV : L2.St) (σ : Sg) (B : List D) : Prop where
  le : Le Hs H
  bx : BOk K Hs ρ H B
  len : σV.length = σ.length
  sl : ∀ (i : Nat) (s : Sl), σ[i]? = some s → SlOk K Hs ρ H s ((σV[i]?).getD none)
  di : ∀ (i j : Nat) (a : Addr) (d e : D), σ[i]? = some (.own d) → σ[j]? = some (.own e) → σV[i]? = some (some (.ref a)) → σV[j]? = some (some (.ref a)) → i = j
/-- what code may have done -/
structure Gr (Hs H : Hp) (ρ : List Addr) (Hs' H' : Hp) (ρ' : List Addr) : Prop where
  hs : ∀ a o, Hs a = some o → Hs' a = some o
  fr : ∀ a o, Hs' a = some o → (∃ u, Hs a = some u) ∨ H a = none
  kp : ∀ a o, H a = some o → a ∉ ρ → H' a = some o
  th : ∀ a o, H a = some o → ∃ u, H' a = some u
  rp : ρ <+: ρ'
  rn : ∀ a ∈ ρ', a ∈ ρ ∨ H a = none
theorem Gr.refl : Gr Hs H ρ Hs H ρ := ⟨fun _ _ h => h, fun _ _ h => .inl ⟨_, h⟩, fun _ _ h _ => h, fun _ _ h => ⟨_, h⟩, List.prefix_refl _, fun _ h => .inl h⟩
theorem Gr.none_ {Hs Hs' H H' : Hp} {ρ ρ' : List Addr} (g : Gr Hs H ρ Hs' H' ρ') {a : Addr} (h : H' a = none) : H a = none := by
  cases e : H a with
  | none => rfl
  | some o =>
    obtain ⟨u, q⟩ := g.th a o e
    rw [h] at q; cases q
theorem Gr.trans {Hs'' H'' : Hp} {ρ'' : List Addr} (g : Gr Hs H ρ Hs' H' ρ') (k : Gr Hs' H' ρ' Hs'' H'' ρ'') : Gr Hs H ρ Hs'' H'' ρ'' where
  hs := fun a o h => k.hs a o (g.hs a o h)
  fr := fun a o h => by
    rcases k.fr a o h with ⟨u, q⟩ | q
    · exact g.fr a u q
    · exact .inr (g.none_ q)
  kp := fun a o h n => k.kp a o (g.kp a o h n) fun z => by
    rcases g.rn a z with q | q
    · exact n q
    · rw [h] at q; cases q
  th := fun a o h => by
    obtain ⟨u, q⟩ := g.th a o h
    exact k.th a u q
  rp := g.rp.trans k.rp
  rn := fun a h => by
    rcases k.rn a h with q | q
    · exact g.rn a q
    · exact .inr (g.none_ q)
theorem Gr.le (g : Gr Hs H ρ Hs' H' ρ') : Le Hs Hs' := Le.of g.hs
theorem Gr.rep {d : D} {v : V} (g : Gr Hs H ρ Hs' H' ρ') (r : Rep K Hs ρ d v) : Rep K Hs' ρ' d v := r.mono g.le g.rp
theorem Gr.repL {d : List D} {v : List V} (g : Gr Hs H ρ Hs' H' ρ') (r : RepL K Hs ρ d v) : RepL K Hs' ρ' d v := r.mono g.le g.rp
theorem Gr.hsN (g : Gr Hs H ρ Hs' H' ρ') {a : Addr} {o : HO} (h : H a = some o) (n : Hs a = none) : Hs' a = none := by
  cases e : Hs' a with
  | none => rfl
  | some u =>
    rcases g.fr a u e with ⟨w, q⟩ | q
    · rw [n] at q; cases q
    · rw [h] at q; cases q
theorem Gr.rhoN (g : Gr Hs H ρ Hs' H' ρ') {a : Addr} {o : HO} (h : H a = some o) (n : a ∉ ρ) : a ∉ ρ' := fun z => by
  rcases g.rn a z with q | q
  · exact n q
  · rw [h] at q; cases q
theorem Gr.own (g : Gr Hs H ρ Hs' H' ρ') (h : OwnAt K Hs ρ H a d) (n : Hs a = none) (nr : a ∉ ρ) : OwnAt K Hs' ρ' H' a d ∧ Hs' a = none ∧ a ∉ ρ' := by
  obtain ⟨o, e⟩ := h.some_
  exact ⟨h.mono g.le g.rp ((g.kp a o e nr).trans e.symm), g.hsN e n, g.rhoN e nr⟩
theorem Stt.grow {σV : L2.St} {σ : Sg} {B B' : List D} (s : Stt K Hs ρ H σV σ B) (g : Gr Hs H ρ Hs' H' ρ') (l : Le Hs' H') (b : BOk K Hs' ρ' H' B') : Stt K Hs' ρ' H' σV σ B' := by
  refine ⟨l, b, s.len, fun i x e => ?_, s.di⟩
  have h := s.sl i x e
  cases x with
  | no => trivial
  | val d =>
    obtain ⟨v, e1, r⟩ := h
    exact ⟨v, e1, g.rep r⟩
  | own d =>
    obtain ⟨a, e1, r, n, nr⟩ := h
    exact ⟨a, e1, g.own r n nr⟩

/-- a value, or (p) an owned thing read in place -/
def RelP (K : PySem.W.Frag) (p : Bool) (Hs : Hp) (ρ : List Addr) (H : Hp) (d : D) (v : V) : Prop :=
  Rep K Hs ρ d v ∨ (p = true ∧ ∃ a, v = .ref a ∧ OwnAt K Hs ρ H a d ∧ Hs a = none ∧ a ∉ ρ)
theorem RelP.of {p : Bool} (r : Rep K Hs ρ d v) : RelP K p Hs ρ H d v := .inl r
theorem RelP.val (r : RelP K false Hs ρ H d v) : Rep K Hs ρ d v := by
  rcases r with r | ⟨z, _⟩
  · exact r
  · cases z
theorem RelP.grow {p : Bool} (r : RelP K p Hs ρ H d v) (g : Gr Hs H ρ Hs' H' ρ') : RelP K p Hs' ρ' H' d v := by
  rcases r with r | ⟨z, a, e, h, n, nr⟩
  · exact .inl (g.rep r)
  · exact .inr ⟨z, a, e, g.own h n nr⟩
/-- an operand at the time of its operation: a value, an owned thing, or a box's content -/
def RP (K : PySem.W.Frag) (Hs : Hp) (ρ : List Addr) (H : Hp) (d : D) (v : V) : Prop := Rep K Hs ρ d v ∨ ∃ a, v = .ref a ∧ OwnAt K Hs ρ H a d
theorem drf_ok {p : Bool} {B : List D} (r : RelP K p Hs ρ H d v) (b : BOk K Hs ρ H B) : RP K Hs ρ H (drf B d) v := by
  rcases r with r | ⟨_, a, e, h, _, _⟩
  · cases r with
    | @box n a e =>
      have hl : n < B.length := by rw [← b.len]; exact (List.getElem?_eq_some_iff.mp e).1
      have e2 : B[n]? = some B[n] := List.getElem?_eq_getElem hl
      refine .inr ⟨a, rfl, ?_⟩
      show OwnAt K Hs ρ H a ((B[n]?).getD (.fn 0))
      rw [e2]
      exact (b.at_ n a _ e e2).1
    | non => exact .inl .non
    | bl b => exact .inl (.bl b)
    | int i => exact .inl (.int i)
    | str h => exact .inl (.str h)
    | tup h r => exact .inl (.tup h r)
    | lst h r => exact .inl (.lst h r)
    | dK h r => exact .inl (.dK h r)
    | dT h r => exact .inl (.dT h r)
    | scr h r => exact .inl (.scr h r)
  · refine .inr ⟨a, e, ?_⟩
    cases d with
    | box n => exact h.elim
    | _ => exact h

/-! ### outcomes -/
/-- how exceptions that leave stand: kept for the rules of raise and try -/
def ExR (K : PySem.W.Frag) (Hs : Hp) (ρ : List Addr) (H : Hp) (c : Nat) (ps : List D) (cls : Value) (dd : Option Addr) : Prop := False
def Yld (K : PySem.W.Frag) (p : Bool) (Hs : Hp) (ρ : List Addr) (H : Hp) (B : List D) (d : D) (Q : VK) : Prop :=
  ∀ v H' Hs' ρ', Gr Hs H ρ Hs' H' ρ' → Le Hs' H' → BOk K Hs' ρ' H' B → RelP K p Hs' ρ' H' d v → Q v H'
def Exx (K : PySem.W.Frag) (Hs : Hp) (ρ : List Addr) (H : Hp) (c : Nat) (ps B : List D) (W : XK) : Prop :=
  ∀ H' Hs' ρ' cls dd, Gr Hs H ρ Hs' H' ρ' → Le Hs' H' → BOk K Hs' ρ' H' B → ExR K Hs' ρ' H' c ps cls dd → W cls dd H'
/-- outcomes: what is wanted of an answer -/
def OutG {α : Type} (K : PySem.W.Frag) (W : XK) (Hs : Hp) (ρ : List Addr) (H : Hp) (r : Rs α) (R : α → Prop) : Prop :=
  match r with
  | .ok x => R x
  | .ex c ps B => Exx K Hs ρ H c ps B W
  | .bad => False
def Out (K : PySem.W.Frag) (W : XK) (p : Bool) (Hs : Hp) (ρ : List Addr) (H : Hp) (r : Rs (D × List D)) (Q : VK) : Prop := OutG K W Hs ρ H r fun x => Yld K p Hs ρ H x.2 x.1 Q
/-- what is wanted may be asked later -/
def Shf {α : Type} (R : Hp → List Addr → Hp → α → Prop) : Prop := ∀ Hs H ρ Hs' H' ρ' x, Gr Hs H ρ Hs' H' ρ' → R Hs ρ H x → R Hs' ρ' H' x
theorem Yld.shift {p : Bool} {B : List D} {Q : VK} (h : Yld K p Hs ρ H B d Q) (g : Gr Hs H ρ Hs' H' ρ') : Yld K p Hs' ρ' H' B d Q :=
  fun v H2 Hs2 ρ2 g2 l b r => h v H2 Hs2 ρ2 (g.trans g2) l b r
theorem Yld.shf {p : Bool} {Q : VK} : Shf fun Hs ρ H (x : D × List D) => Yld K p Hs ρ H x.2 x.1 Q := fun _ _ _ _ _ _ _ g h => Yld.shift h g
theorem OutG.shift {α : Type} {W : XK} {r : Rs α} {R : Hp → List Addr → Hp → α → Prop} (hR : Shf R) (h : OutG K W Hs ρ H r (R Hs ρ H)) (g : Gr Hs H ρ Hs' H' ρ') : OutG K W Hs' ρ' H' r (R Hs' ρ' H') := by
  cases r with
  | ok x => exact hR _ _ _ _ _ _ _ g h
  | ex c ps B => exact fun H2 Hs2 ρ2 cls dd g2 l b r => h H2 Hs2 ρ2 cls dd (g.trans g2) l b r
  | bad => exact h
theorem Out.shift {W : XK} {p : Bool} {r : Rs (D × List D)} {Q : VK} (h : Out K W p Hs ρ H r Q) (g : Gr Hs H ρ Hs' H' ρ') : Out K W p Hs' ρ' H' r Q := OutG.shift Yld.shf h g
theorem OutG.bindE {α : Type} {W : XK} {q : Bool} {R : Hp → List Addr → Hp → α → Prop} (hR : Shf R) {r : Rs (D × List D)} {f : D × List D → Rs α} {Q : VK} (h : OutG K W Hs ρ H (r.bind f) (R Hs ρ H))
    (k : ∀ d B' v H' Hs' ρ', Gr Hs H ρ Hs' H' ρ' → Le Hs' H' → BOk K Hs' ρ' H' B' → RelP K q Hs' ρ' H' d v → OutG K W Hs' ρ' H' (f (d, B')) (R Hs' ρ' H') → Q v H') : Out K W q Hs ρ H r Q := by
  cases r with
  | ok x => exact fun v H' Hs' ρ' g l b r => k x.1 x.2 v H' Hs' ρ' g l b r (OutG.shift (r := f x) hR h g)
  | ex c ps B => exact h
  | bad => exact h
theorem Out.bind {W : XK} {p q : Bool} {r : Rs (D × List D)} {f : D × List D → Rs (D × List D)} {Q R : VK} (h : Out K W p Hs ρ H (r.bind f) Q)
    (k : ∀ d B' v H' Hs' ρ', Gr Hs H ρ Hs' H' ρ' → Le Hs' H' → BOk K Hs' ρ' H' B' → RelP K q Hs' ρ' H' d v → Out K W p Hs' ρ' H' (f (d, B')) Q → R v H') : Out K W q Hs ρ H r R :=
  OutG.bindE Yld.shf h k
theorem OutG.of {β : Type} {W : XK} {α : Type} {o : Option α} {f : α → Rs β} {R : β → Prop} (h : OutG K W Hs ρ H ((Rs.of o).bind f) R) : ∃ a, o = some a ∧ OutG K W Hs ρ H (f a) R := by
  cases o with
  | none => exact (show False from h).elim
  | some a => exact ⟨a, rfl, h⟩
theorem Out.of {W : XK} {p : Bool} {α : Type} {o : Option α} {f : α → Rs (D × List D)} {Q : VK} (h : Out K W p Hs ρ H ((Rs.of o).bind f) Q) : ∃ a, o = some a ∧ Out K W p Hs ρ H (f a) Q := OutG.of h
/-- a thing just made, not shared yet -/
def YldF (K : PySem.W.Frag) (Hs : Hp) (ρ : List Addr) (H : Hp) (B : List D) (d : D) (Q : VK) : Prop :=
  ∀ a H' Hs' ρ', Gr Hs H ρ Hs' H' ρ' → Le Hs' H' → BOk K Hs' ρ' H' B → OwnAt K Hs' ρ' H' a d → Hs' a = none → a ∉ ρ' → H a = none → Q (.ref a) H'
theorem YldF.shift {B : List D} {Q : VK} (h : YldF K Hs ρ H B d Q) (g : Gr Hs H ρ Hs' H' ρ') : YldF K Hs' ρ' H' B d Q :=
  fun a H2 Hs2 ρ2 g2 l b r n nr hn => h a H2 Hs2 ρ2 (g.trans g2) l b r n nr (g.none_ hn)
def OutF (K : PySem.W.Frag) (W : XK) (Hs : Hp) (ρ : List Addr) (H : Hp) (r : Rs (D × List D)) (Q : VK) : Prop := OutG K W Hs ρ H r fun x => isLD x.1 = true ∧ YldF K Hs ρ H x.2 x.1 Q
theorem YldF.shf {Q : VK} : Shf fun Hs ρ H (x : D × List D) => isLD x.1 = true ∧ YldF K Hs ρ H x.2 x.1 Q := fun _ _ _ _ _ _ _ g h => ⟨h.1, YldF.shift h.2 g⟩
/-- the shared part grows by a thing that is there -/
theorem gr_share {o : HO} (g : Gr Hs H ρ Hs' H' ρ') (n : Hs' a = none) (hn : H a = none) : Gr Hs H ρ (upd Hs' a o) H' ρ' where
  hs := fun b u e => by
    have q := g.hs b u e
    rw [upd_ne (ne_of_none q n)]
    exact q
  fr := fun b u e => by
    by_cases z : b = a
    · subst z; exact .inr hn
    · rw [upd_ne z] at e
      exact g.fr b u e
  kp := g.kp
  th := g.th
  rp := g.rp
  rn := g.rn
theorem le_share {o : HO} (l : Le Hs H) (e : H a = some o) : Le (upd Hs a o) H := fun b u q => by
  by_cases z : b = a
  · subst z
    rw [upd_same] at q
    cases q
    exact .inl e
  · rw [upd_ne z] at q
    exact l b u q
theorem hs_share {o : HO} (n : Hs a = none) : Le Hs (upd Hs a o) := Le.of fun b u q => by
  rw [upd_ne (ne_of_none q n)]
  exact q
theorem bok_share {o : HO} {B : List D} (b : BOk K Hs ρ H B) (n : Hs a = none) (nr : a ∉ ρ) : BOk K (upd Hs a o) ρ H B := by
  refine ⟨b.len, b.nd, fun m c d e1 e2 => ?_⟩
  obtain ⟨h, hn⟩ := b.at_ m c d e1 e2
  refine ⟨h.mono (hs_share n) (List.prefix_refl _) rfl, ?_⟩
  rw [upd_ne (fun z => nr (by rw [← z]; exact List.mem_of_getElem? e1))]
  exact hn
theorem Yld.toF {p : Bool} {B : List D} {Q : VK} (h : Yld K p Hs ρ H B d Q) : YldF K Hs ρ H B d Q := fun a H' Hs' ρ' g l b r n nr hn => by
  obtain ⟨o, e⟩ := r.some_
  refine h (.ref a) H' (upd Hs' a o) ρ' (gr_share g n hn) (le_share l e) (bok_share b n nr) (.of ?_)
  exact OwnAt.rep (hs_share n) (List.prefix_refl _) (by rw [upd_same]; exact e.symm) r
/-- the answer of an operation: lists and dicts are new -/
def YldN (K : PySem.W.Frag) (Hs : Hp) (ρ : List Addr) (H : Hp) (B : List D) (d : D) (Q : VK) : Prop :=
  match d with
  | .lst l => YldF K Hs ρ H B (.lst l) Q
  | .dic t l => YldF K Hs ρ H B (.dic t l) Q
  | d => Yld K false Hs ρ H B d Q
theorem YldN.of {p : Bool} {B : List D} {Q : VK} (h : Yld K p Hs ρ H B d Q) : YldN K Hs ρ H B d Q := by
  have h2 : Yld K false Hs ρ H B d Q := fun v H' Hs' ρ' g l b r => h v H' Hs' ρ' g l b (.inl r.val)
  cases d with
  | lst l => exact h2.toF
  | dic t l => exact h2.toF
  | _ => exact h2
theorem YldN.ofF {B : List D} {Q : VK} (h : isLD d = true ∧ YldF K Hs ρ H B d Q) : YldN K Hs ρ H B d Q := by
  obtain ⟨h1, h⟩ := h
  cases d with
  | lst l => exact h
  | dic t l => exact h
  | _ => cases h1
theorem bok_new {p : Addr} {o : HO} {B : List D} (n : H p = none) (b : BOk K Hs ρ H B) : BOk K Hs ρ (upd H p o) B := by
  refine ⟨b.len, b.nd, fun m a d e1 e2 => ?_⟩
  obtain ⟨h, hn⟩ := b.at_ m a d e1 e2
  obtain ⟨u, eu⟩ := h.some_
  exact ⟨h.mono (Le.refl _) (List.prefix_refl _) (upd_ne (ne_of_none eu n)), hn⟩
theorem le_new {p : Addr} {o : HO} (l : Le Hs H) (n : H p = none) : Le Hs (upd H p o) := fun a u e => by
  have hne : a ≠ p := fun z => by
    subst z
    have := l.there n
    rw [e] at this; cases this
  rw [upd_ne hne]
  exact l a u e
theorem gr_new {p : Addr} {o : HO} (n : H p = none) : Gr Hs H ρ Hs (upd H p o) ρ where
  hs := fun _ _ h => h
  fr := fun a o h => .inl ⟨_, h⟩
  kp := fun a u e _ => by
    rw [upd_ne (ne_of_none e n)]
    exact e
  th := fun a u e => ⟨u, by rw [upd_ne (ne_of_none e n)]; exact e⟩
  rp := List.prefix_refl _
  rn := fun _ h => .inl h
theorem rho_new {p : Addr} {B : List D} (n : H p = none) (b : BOk K Hs ρ H B) : p ∉ ρ := fun z => by
  obtain ⟨m, e⟩ := List.getElem?_of_mem z
  have hl : m < B.length := by rw [← b.len]; exact (List.getElem?_eq_some_iff.mp e).1
  obtain ⟨h, _⟩ := b.at_ m p _ e (List.getElem?_eq_getElem hl)
  obtain ⟨u, eu⟩ := h.some_
  rw [n] at eu; cases eu
theorem YldF.new {B : List D} {Q : VK} {o : HO} (h : YldF K Hs ρ H B d Q) (l : Le Hs H) (b : BOk K Hs ρ H B) : ∀ t, H t = none → OwnAt K Hs ρ (upd H t o) t d → Q (.ref t) (upd H t o) := fun t n r =>
  h t _ Hs ρ (gr_new n) (le_new l n) (bok_new n b) r (l.there n) (rho_new n b) n
theorem YldF.lst {B : List D} {Q : VK} {ds : List D} {xs : List V} (h : YldF K Hs ρ H B (.lst ds) Q) (l : Le Hs H) (b : BOk K Hs ρ H B) (r : RepL K Hs ρ ds xs) : ∀ t, H t = none → Q (.ref t) (upd H t (.lst xs)) := fun t n => h.new l b t n ⟨xs, upd_same, r⟩
theorem YldF.dK {B : List D} {Q : VK} {ds : List (D × D)} {xs : List (Key × V)} (h : YldF K Hs ρ H B (.dic false ds) Q) (l : Le Hs H) (b : BOk K Hs ρ H B) (r : RepK K Hs ρ ds xs) : ∀ t, H t = none → Q (.ref t) (upd H t (.dK xs)) := fun t n => h.new l b t n ⟨xs, upd_same, r⟩
theorem YldF.dT {B : List D} {Q : VK} {ds : List (D × D)} {xs : List (List Key × V)} (h : YldF K Hs ρ H B (.dic true ds) Q) (l : Le Hs H) (b : BOk K Hs ρ H B) (r : RepT K Hs ρ ds xs) : ∀ t, H t = none → Q (.ref t) (upd H t (.dT xs)) := fun t n => h.new l b t n ⟨xs, upd_same, r⟩
/-- nothing new was made -/
theorem Yld.here {p : Bool} {B : List D} {Q : VK} (h : Yld K p Hs ρ H B d Q) (l : Le Hs H) (b : BOk K Hs ρ H B) (r : Rep K Hs ρ d v) : Q v H := h v H Hs ρ .refl l b (.of r)

theorem upd_le {p : Addr} {o : HO} (l : Le Hs H) (n : H p = none) : Le (upd Hs p o) (upd H p o) := fun a u e => by
  by_cases z : a = p
  · subst z
    rw [upd_same] at e ⊢
    exact .inl e
  · rw [upd_ne z] at e ⊢
    exact l a u e
theorem gr_upd {p : Addr} {o : HO} (l : Le Hs H) (n : H p = none) : Gr Hs H ρ (upd Hs p o) (upd H p o) ρ where
  hs := fun a u e => by
    rw [upd_ne (ne_of_none e (l.there n))]
    exact e
  fr := fun a u e => by
    by_cases z : a = p
    · subst z; exact .inr n
    · rw [upd_ne z] at e
      exact .inl ⟨u, e⟩
  kp := fun a u e _ => by
    rw [upd_ne (ne_of_none e n)]
    exact e
  th := fun a u e => ⟨u, by rw [upd_ne (ne_of_none e n)]; exact e⟩
  rp := List.prefix_refl _
  rn := fun _ h => .inl h
theorem bok_upd {p : Addr} {o : HO} {B : List D} (l : Le Hs H) (n : H p = none) (b : BOk K Hs ρ H B) : BOk K (upd Hs p o) ρ (upd H p o) B := by
  refine ⟨b.len, b.nd, fun m a d e1 e2 => ?_⟩
  obtain ⟨h, hn⟩ := b.at_ m a d e1 e2
  obtain ⟨u, eu⟩ := h.some_
  have ne : a ≠ p := ne_of_none eu n
  exact ⟨h.mono (gr_upd (ρ := ρ) (o := o) l n).le (List.prefix_refl _) (upd_ne ne), by rw [upd_ne ne]; exact hn⟩
/-- new things -/
theorem Yld.tup {p : Bool} {B : List D} {Q : VK} {ds : List D} {xs : List V} (h : Yld K p Hs ρ H B (.tup ds) Q) (l : Le Hs H) (b : BOk K Hs ρ H B) (r : RepL K Hs ρ ds xs) : ∀ t, H t = none → Q (.ref t) (upd H t (.tup xs)) := fun t n =>
  have g : Gr Hs H ρ (upd Hs t (.tup xs)) (upd H t (.tup xs)) ρ := gr_upd l n
  h _ _ _ _ g (upd_le l n) (bok_upd l n b) (.of (.tup upd_same (g.repL r)))
theorem Yld.lst {p : Bool} {B : List D} {Q : VK} {ds : List D} {xs : List V} (h : Yld K p Hs ρ H B (.lst ds) Q) (l : Le Hs H) (b : BOk K Hs ρ H B) (r : RepL K Hs ρ ds xs) : ∀ t, H t = none → Q (.ref t) (upd H t (.lst xs)) := fun t n =>
  have g : Gr Hs H ρ (upd Hs t (.lst xs)) (upd H t (.lst xs)) ρ := gr_upd l n
  h _ _ _ _ g (upd_le l n) (bok_upd l n b) (.of (.lst upd_same (g.repL r)))
theorem Yld.dK {p : Bool} {B : List D} {Q : VK} {ds : List (D × D)} {xs : List (Key × V)} (h : Yld K p Hs ρ H B (.dic false ds) Q) (l : Le Hs H) (b : BOk K Hs ρ H B) (r : RepK K Hs ρ ds xs) : ∀ t, H t = none → Q (.ref t) (upd H t (.dK xs)) := fun t n =>
  have g : Gr Hs H ρ (upd Hs t (.dK xs)) (upd H t (.dK xs)) ρ := gr_upd l n
  h _ _ _ _ g (upd_le l n) (bok_upd l n b) (.of (.dK (.inl upd_same) (r.mono g.le g.rp)))
theorem Yld.dT {p : Bool} {B : List D} {Q : VK} {ds : List (D × D)} {xs : List (List Key × V)} (h : Yld K p Hs ρ H B (.dic true ds) Q) (l : Le Hs H) (b : BOk K Hs ρ H B) (r : RepT K Hs ρ ds xs) : ∀ t, H t = none → Q (.ref t) (upd H t (.dT xs)) := fun t n =>
  have g : Gr Hs H ρ (upd Hs t (.dT xs)) (upd H t (.dT xs)) ρ := gr_upd l n
  h _ _ _ _ g (upd_le l n) (bok_upd l n b) (.of (.dT (.inl upd_same) (r.mono g.le g.rp)))
/-- a list among the operands -/
theorem RP.lst {l : List D} (le : Le Hs H) (r : RP K Hs ρ H (.lst l) v) : ∃ a xs, v = .ref a ∧ H a = some (.lst xs) ∧ RepL K Hs ρ l xs := by
  rcases r with r | ⟨a, rfl, xs, e, r⟩
  · cases r with
    | lst h r => exact ⟨_, _, rfl, le.lst h, r⟩
  · exact ⟨a, xs, rfl, e, r⟩
theorem RP.tup {l : List D} (le : Le Hs H) (r : RP K Hs ρ H (.tup l) v) : ∃ a xs, v = .ref a ∧ H a = some (.tup xs) ∧ RepL K Hs ρ l xs := by
  rcases r with r | ⟨a, _, z⟩
  · cases r with
    | tup h r => exact ⟨_, _, rfl, le.tup h, r⟩
  · exact z.elim
theorem RP.scr {l : List D} (le : Le Hs H) (r : RP K Hs ρ H (.scr l) v) : ∃ a xs, v = .ref a ∧ SqL K H a xs ∧ RepL K Hs ρ l xs := by
  rcases r with r | ⟨a, _, z⟩
  · cases r with
    | scr h r => exact ⟨_, _, rfl, le.sqL h, r⟩
  · exact z.elim
theorem RP.int {i : Int} (r : RP K Hs ρ H (.int i) v) : v = .int i := by
  rcases r with r | ⟨a, _, z⟩
  · cases r; rfl
  · exact z.elim
theorem RP.bl {i : Bool} (r : RP K Hs ρ H (.bl i) v) : v = .bl i := by
  rcases r with r | ⟨a, _, z⟩
  · cases r; rfl
  · exact z.elim
theorem RP.non (r : RP K Hs ρ H .non v) : v = .non := by
  rcases r with r | ⟨a, _, z⟩
  · cases r; rfl
  · exact z.elim
theorem RP.str {l : List Nat} (r : RP K Hs ρ H (.str l) v) : v = .str (mk l) ∧ SOk l := by
  rcases r with r | ⟨a, _, z⟩
  · cases r with
    | str h => exact ⟨rfl, h⟩
  · exact z.elim
theorem RP.dK {l : List (D × D)} (le : Le Hs H) (r : RP K Hs ρ H (.dic false l) v) : ∃ a kvs, v = .ref a ∧ Rd H a (.dK kvs) ∧ RepK K Hs ρ l kvs := by
  rcases r with r | ⟨a, rfl, xs, e, r⟩
  · cases r with
    | dK h r => exact ⟨_, _, rfl, le.rd h, r⟩
  · exact ⟨a, xs, rfl, .inl e, r⟩
theorem RP.dT {l : List (D × D)} (le : Le Hs H) (r : RP K Hs ρ H (.dic true l) v) : ∃ a kvs, v = .ref a ∧ Rd H a (.dT kvs) ∧ RepT K Hs ρ l kvs := by
  rcases r with r | ⟨a, rfl, xs, e, r⟩
  · cases r with
    | dT h r => exact ⟨_, _, rfl, le.rd h, r⟩
  · exact ⟨a, xs, rfl, .inl e, r⟩
theorem RP.box {n : Nat} (r : RP K Hs ρ H (.box n) v) : ∃ a, v = .ref a ∧ ρ[n]? = some a := by
  rcases r with r | ⟨a, _, z⟩
  · cases r with
    | box h => exact ⟨_, rfl, h⟩
  · exact z.elim
end

/-! ### readings by runs of the small language -/
section
variable (K : PySem.W.Frag) (Φ : Fn) (W : WX)
def rdE (p : Bool) (e : E) : TE := fun σV H Q => ∃ Hs ρ σ B, Stt K Hs ρ H σV σ B ∧ Out K (fun c d h => W c d σV h) p Hs ρ H (ev Φ p e σ B) Q
def rdF (e : E) : TE := fun σV H Q => ∃ Hs ρ σ B, Stt K Hs ρ H σV σ B ∧ OutF K (fun c d h => W c d σV h) Hs ρ H (ev Φ false e σ B) Q
def rdT (e : E) : TT := fun σV H Q => ∃ Hs ρ σ B, Stt K Hs ρ H σV σ B ∧ Out K (fun c d h => W c d σV h) false Hs ρ H (ev Φ false e σ B) (fun v H' => ∃ b, v = .bl b ∧ Q b H')
end
theorem _root_.L2.PE.weaken {X : Cx} {e : Expr} {t t' : TE} (h : PE X e t) (w : ∀ σ H Q, t' σ H Q → t σ H Q) : PE X e t' := ⟨fun pins s σ H Q I q => h.run pins s σ H Q I (w σ H Q q)⟩
theorem _root_.L2.PT.weaken {X : Cx} {e : Expr} {t t' : TT} (h : PT X e t) (w : ∀ σ H Q, t' σ H Q → t σ H Q) : PT X e t' := ⟨fun pins s σ H Q I q => h.run pins s σ H Q I (w σ H Q q)⟩
theorem _root_.L2.PW.weaken {X : Cx} {e : Expr} {t t' : TT} (h : PW X e t) (w : ∀ σ H Q, t' σ H Q → t σ H Q) : PW X e t' := ⟨fun wh pins s σ H Q I q => h.run wh pins s σ H Q I (w σ H Q q)⟩
theorem _root_.L2.PA.weaken {X : Cx} {e : List Expr} {t t' : TA} (h : PA X e t) (w : ∀ σ H Q, t' σ H Q → t σ H Q) : PA X e t' := ⟨fun pos pins s σ H Q I q => h.run pos pins s σ H Q I (w σ H Q q)⟩
theorem _root_.L2.PS.weaken {X : Cx} {e : Stmt} {t t' : TS} (h : PS X e t) (w : ∀ D σ H, t' D σ H → t D σ H) : PS X e t' := ⟨fun pins s σ H D I q => h.run pins s σ H D I (w D σ H q)⟩
theorem _root_.L2.PSs.weaken {X : Cx} {e : List Stmt} {t t' : TS} (h : PSs X e t) (w : ∀ D σ H, t' D σ H → t D σ H) : PSs X e t' := ⟨fun pins s σ H D I q => h.run pins s σ H D I (w D σ H q)⟩
end Pz
end
section
set_option Elab.async false
set_option linter.all false
set_option maxRecDepth 100000
set_option maxHeartbeats 2000000
namespace Pz
open PySem PySem.Spec PyProof.Rows L2

theorem ln_eq : sizeLine = ln := sizeLine_eq
theorem mk_app (x y : List Nat) : mk x ++ mk y = mk (x ++ y) := by
  show Str.append _ _ = _
  unfold Str.append
  simp
theorem mk_len (x : List Nat) : (mk x).length = x.length := by
  show x.toArray.size = _
  simp

/-! ### binary operators -/
def pyB : Bop → Operator
  | .add => .Add | .sub => .Sub | .mul => .Mult | .fdiv => .FloorDiv | .mod => .Mod | .pow => .Pow
def rBin (K : PySem.W.Frag) (f : D → D → Option D) : R2 := fun x y H Q => ∃ Hs ρ B a b d, Le Hs H ∧ BOk K Hs ρ H B ∧ RP K Hs ρ H a x ∧ RP K Hs ρ H b y ∧ f a b = some d ∧ YldN K Hs ρ H B d Q

section
variable {K : PySem.W.Frag} {Hs H : Hp} {ρ : List Addr} {B : List D} {Q : VK} {d : D} {v : V}
theorem Yld.int {p : Bool} {i : Int} (h : Yld K p Hs ρ H B (.int i) Q) (l : Le Hs H) (b : BOk K Hs ρ H B) : Q (.int i) H := h.here l b (.int i)
theorem Yld.bl {p : Bool} {i : Bool} (h : Yld K p Hs ρ H B (.bl i) Q) (l : Le Hs H) (b : BOk K Hs ρ H B) : Q (.bl i) H := h.here l b (.bl i)
theorem Yld.str {p : Bool} {i : List Nat} (h : Yld K p Hs ρ H B (.str i) Q) (l : Le Hs H) (b : BOk K Hs ρ H B) (a : SOk i) : Q (.str (mk i)) H := h.here l b (.str a)
end
theorem rep_vs {K : PySem.W.Frag} {Hs : Hp} {ρ : List Addr} {l : List D} {xs : List V} (r : RepL K Hs ρ l xs) : ∀ k : Nat, RepL K Hs ρ (rep l k) ((List.replicate k xs).flatten)
  | 0 => .nil
  | k + 1 => by
    unfold rep
    rw [List.replicate_succ, List.flatten_cons, List.replicate_succ, List.flatten_cons]
    exact r.append (rep_vs r k)
theorem rep_len (l : List D) (k : Nat) : (rep l k).length = l.length * k := by
  unfold rep
  rw [PyProof.Rows.lm_len_rep_flat, Nat.mul_comm]
theorem all_rep {x : List Nat} (h : ∀ c ∈ x, c < 128) (k : Nat) : ∀ c ∈ repS x k, c < 128 := fun c hc => by
  unfold repS at hc
  rw [List.mem_flatten] at hc
  obtain ⟨l, hl, hcl⟩ := hc
  rw [List.mem_replicate] at hl
  rw [hl.2] at hcl
  exact h c hcl
theorem str_rep (x : List Nat) : ∀ k : Nat, (List.replicate k (mk x).cps).foldl (· ++ ·) #[] = (repS x k).toArray := by
  have f : ∀ (k : Nat) (acc : List Nat), (List.replicate k x.toArray).foldl (· ++ ·) acc.toArray = (acc ++ repS x k).toArray := by
    intro k
    induction k with
    | zero => intro acc; simp [repS]
    | succ k ih =>
      intro acc
      rw [List.replicate_succ, List.foldl_cons]
      have e : acc.toArray ++ x.toArray = (acc ++ x).toArray := by simp
      rw [e, ih]
      unfold repS
      rw [List.replicate_succ, List.flatten_cons, List.append_assoc]
  intro k
  have := f k []
  simpa using this
theorem rep_lenS (l : List Nat) (k : Nat) : (repS l k).length = l.length * k := by
  unfold repS
  rw [PyProof.Rows.lm_len_rep_flat, Nat.mul_comm]
theorem cons_ite {α : Type} {c : Prop} [Decidable c] {a d : α} (h : (if c then some a else none) = some d) : c ∧ a = d := by
  split at h
  · rename_i q
    exact ⟨q, Option.some.inj h⟩
  · cases h


section
theorem tuple_mul_same (l : Addr) (items : Array Value) (n : Nat) (dd : Option Addr) (sl : Array (Option Value)) (x : Int) (u : Tok) (c0 : (decide (x < -(2 ^ 63)) || decide (x ≥ 2 ^ 63)) = false) (c1 : (items.isEmpty || x == 1) = true) :
    Meets (Builtin.«tuple.__mul__» ⟨[.ref l, .int x u], []⟩) (fun _ R s => s.heap.get? l = some { cls := .type "tuple", dict := dd, data := .seq items n, slots := sl } ∧ R (.ok (.ret (Value.ref l))) s) :=
  .of_wp fun prog w A R s h => by
    obtain ⟨hp, g, d, tk, os⟩ := s
    obtain ⟨hl, h⟩ := h
    have f1 := AutoSeq1.idx_int
    wp_walk using wpAny_loadPart' hl
    repeat (first
      | (refine wpAny_ite_false (decide_eq_false (by rw [c0]; exact Bool.false_ne_true)) ?_; wp_walk using wpAny_loadPart' hl)
      | (refine wpAny_ite_true (decide_eq_true (by rw [c1])) ?_; wp_walk using wpAny_loadPart' hl))
    exact ⟨_, rfl, h⟩
theorem tuple_mul_none (l : Addr) (items : Array Value) (n : Nat) (dd : Option Addr) (sl : Array (Option Value)) (x : Int) (u : Tok) (c0 : (decide (x < -(2 ^ 63)) || decide (x ≥ 2 ^ 63)) = false) (c1 : (items.isEmpty || x == 1) = false) (c2 : (decide (x ≤ 0) || items.isEmpty) = true) :
    Meets (Builtin.«tuple.__mul__» ⟨[.ref l, .int x u], []⟩) (fun _ R s => s.heap.get? l = some { cls := .type "tuple", dict := dd, data := .seq items n, slots := sl } ∧
      R (.ok (.ret (Value.ref s.heap.objs.size))) { s with heap := s.heap.push { cls := Value.type "tuple", data := Data.seq #[] }, toks := s.toks }) :=
  .of_wp fun prog w A R s h => by
    obtain ⟨hp, g, d, tk, os⟩ := s
    obtain ⟨hl, h⟩ := h
    have f1 := AutoSeq1.idx_int
    have hsz : (#[] : Array Value).size ≤ sizeLine := Nat.zero_le _
    wp_walk using wpAny_loadPart' hl
    repeat (first
      | (refine wpAny_ite_false (decide_eq_false (by rw [c0]; exact Bool.false_ne_true)) ?_; wp_walk using wpAny_loadPart' hl)
      | (refine wpAny_ite_false (decide_eq_false (by rw [c1]; exact Bool.false_ne_true)) ?_; wp_walk using wpAny_loadPart' hl)
      | (refine wpAny_ite_true (decide_eq_true (by rw [c2])) ?_; wp_walk using wpAny_loadPart' hl)
      | (refine wpAny_ite_false (decide_eq_false (Nat.not_lt.mpr hsz)) ?_; wp_walk using wpAny_loadPart' hl))
    exact ⟨_, rfl, h⟩
end
/-- a tuple times an int -/
def rRepA (K : PySem.W.Frag) : R2 := fun x y H Q => ∃ l k xs, x = .ref l ∧ y = .int k ∧ SqT K H l xs ∧ -(2 ^ 63) ≤ k ∧ k < 1000000 ∧ xs.length * k.toNat ≤ ln ∧
  (xs = [] ∨ k = 1 → Q (.ref l) H) ∧ (∀ p, H p = none → Q (.ref p) (upd H p (.tup (List.replicate k.toNat xs).flatten)))
theorem op_repA {X : Cx} : OpR X (binaryOp .Mult) (rRepA X.K) := by
  intro pins s σ H x y v u Q I rx ry h
  obtain ⟨l, k, xs, rfl, rfl, hT, h1, h2, hz, q1, q⟩ := h
  cases rx
  obtain ⟨t, rfl⟩ := ry
  obtain ⟨its, r, ⟨⟨cls, dd, data, sl⟩, ho, hc, n, hd⟩, hs⟩ := I.tuple hT
  simp only at hc hd
  subst hc hd
  have hle : its.length = xs.length := r.length.symm
  have c0 : (decide (k < -(2 ^ 63)) || decide (k ≥ 2 ^ 63)) = false := by
    rw [decide_eq_false (by omega), decide_eq_false (by omega)] <;> rfl
  refine wpAny_binaryOp_repeat_ref (T := "tuple") (U := "int") (by decide) ⟨_, ho, rfl⟩ (fun s' => typeIs_int s' k t) noFill_tuple_mul F.fills_int_mul F.slot_int_rmul repeat_tuple F.slot_int_index.lookup
    (call_meets F.slot_int_rmul (typeIs_int s k t) F.entry_int_rmul (F.args_int_rmul_2 _ _) (int_rmul_tuple k t l its.toArray n dd sl)
      ⟨ho, rfl, ⟨_, ho, rfl⟩, ?_⟩)
  have ei : its.toArray.isEmpty = decide (xs = []) := by
    cases its with
    | nil => cases r; rfl
    | cons a b => cases r with | cons _ _ => simp
  by_cases hA : xs = [] ∨ k = 1
  · have c1 : (its.toArray.isEmpty || k == 1) = true := by
      rw [ei]
      rcases hA with e | e
      · rw [decide_eq_true e]; rfl
      · rw [e]; simp
    exact call_meets F.slot_tuple_mul ⟨_, ho, rfl⟩ F.entry_tuple_mul (F.args_tuple_mul_2 _ _) (tuple_mul_same l its.toArray n dd sl k t c0 c1) ⟨ho, ⟨.ref l, H, I, rfl, q1 hA⟩⟩
  · have hne : ¬ xs = [] := fun e => hA (.inl e)
    have hk1 : ¬ k = 1 := fun e => hA (.inr e)
    have c1 : (its.toArray.isEmpty || k == 1) = false := by
      rw [ei, decide_eq_false hne, Bool.false_or]
      exact beq_eq_false_iff_ne.mpr hk1
    by_cases hk : k ≤ 0
    · have c2 : (decide (k ≤ 0) || its.toArray.isEmpty) = true := by rw [decide_eq_true hk]; rfl
      refine call_meets F.slot_tuple_mul ⟨_, ho, rfl⟩ F.entry_tuple_mul (F.args_tuple_mul_2 _ _) (tuple_mul_none l its.toArray n dd sl k t c0 c1 c2) ⟨ho, ?_⟩
      have e0 : k.toNat = 0 := by omega
      have q' := q _ (I.hok.fresh (Nat.le_refl _))
      rw [e0] at q'
      refine ⟨.ref s.heap.objs.size, _, I.laid (t' := s.toks) (o := .tup []) (fun b ob q => Heap.get?_push_of_some _ q) (Nat.le_refl _) ?_, rfl, q'⟩
      exact ⟨Nat.zero_le _, [], .nil, IsTup.new _ _⟩
    · have c2 : (decide (k ≤ 0) || its.toArray.isEmpty) = false := by
        rw [decide_eq_false hk, ei, decide_eq_false hne]; rfl
      have hsz0 : its.toArray.size = xs.length := by rw [List.size_toArray, hle]
      have hm : ((its.toArray.size : Nat) : Int) * k ≤ ln := by
        rw [hsz0]
        have e : ((xs.length : Nat) : Int) * k = ((xs.length * k.toNat : Nat) : Int) := by
          rw [Int.natCast_mul]
          congr 1
          omega
        rw [e]
        exact Int.ofNat_le.mpr hz
      have flen : (List.replicate k.toNat its).flatten.length ≤ sizeLine := by
        rw [PyProof.Rows.lm_len_rep_flat, hle, ln_eq, Nat.mul_comm]
        exact hz
      have c4 : Builtin.Tuple.tupleTooMany (((its.toArray.size : Nat) : Int) * k) = false := by
        unfold Builtin.Tuple.tupleTooMany
        rw [ln_eq]
        exact decide_eq_false (by omega)
      refine call_meets F.slot_tuple_mul ⟨_, ho, rfl⟩ F.entry_tuple_mul (F.args_tuple_mul_2 _ _) (tuple_mulW l its.toArray n dd sl k t c0 c1 c2 (by have h16 : ((ln : Nat) : Int) = 16777216 := rfl; omega) c4 (by rw [size_rep, List.size_toArray]; exact flen)) ⟨ho, ?_⟩
      rw [size_rep]
      refine ⟨.ref s.heap.objs.size, _, I.laid (t' := s.toks) (o := .tup (List.replicate k.toNat xs).flatten) (fun b ob q => Heap.get?_push_of_some _ q) (Nat.le_refl _) ?_, rfl, q _ (I.hok.fresh (Nat.le_refl _))⟩
      exact ⟨by rw [PyProof.Rows.lm_len_rep_flat, ln_eq, Nat.mul_comm]; exact hz, _, r.rep k.toNat, IsTup.new _ _⟩
/-- a text times an int -/
theorem op_repS {X : Cx} : OpR X (binaryOp .Mult) (fun x y H Q => ∃ (l : List Nat) (k : Int), x = .str (mk l) ∧ y = .int k ∧ -(2 ^ 63) ≤ k ∧ k < 1000000 ∧ l.length * k.toNat ≤ ln ∧ Q (.str (mk (repS l k.toNat))) H) := by
  intro pins s σ H x y v u Q I rx ry h
  obtain ⟨l, k, rfl, rfl, h1, h2, hz, q⟩ := h
  obtain ⟨t, rfl⟩ := rx
  obtain ⟨t', rfl⟩ := ry
  have hlz : ((l.length : Nat) : Int) * k = ((l.length * k.toNat : Nat) : Int) ∨ k < 1 := by
    by_cases hk : k < 1
    · exact .inr hk
    · refine .inl ?_
      rw [Int.natCast_mul]
      congr 1
      omega
  refine PySem.P.mul_str (by rw [decide_eq_false (by omega), decide_eq_false (by omega)]; rfl) (fun hk _ => ?_) (fun hk _ => ?_) ?_
  · rw [mk_len]
    intro hgt
    have h3 : ((2 : Int) ^ 63 - 1) / k < (l.length : Int) := hgt
    have hkp : 0 < k := by omega
    have h4 := Int.lt_mul_of_ediv_lt hkp h3
    rcases hlz with e | e
    · rw [e] at h4
      have h16 : ((l.length * k.toNat : Nat) : Int) ≤ 16777216 := Int.ofNat_le.mpr hz
      omega
    · omega
  · rw [mk_len]
    unfold PySem.Builtin.Str.tooLong
    rw [ln_eq]
    exact decide_eq_false (by omega)
  · by_cases hk : k < 1
    · rw [if_pos hk]
      have e0 : k.toNat = 0 := by omega
      rw [e0] at q
      exact ⟨by decide, .str (mk []), H, I.tok _, ⟨_, rfl⟩, q⟩
    · rw [if_neg hk]
      by_cases h1' : (k == 1 || (mk l).length == 0) = true
      · rw [if_pos h1']
        have e : repS l k.toNat = l := by
          rw [Bool.or_eq_true, beq_iff_eq, beq_iff_eq, mk_len] at h1'
          rcases h1' with e | e
          · subst e; simp [repS]
          · have : l = [] := List.eq_nil_of_length_eq_zero e
            subst this
            simp [repS]
        rw [e] at q
        exact ⟨.str (mk l), H, I, ⟨_, rfl⟩, q⟩
      · rw [if_neg h1']
        rw [str_rep]
        refine ⟨?_, .str (mk (repS l k.toNat)), H, I.tok _, ⟨_, rfl⟩, q⟩
        show (repS l k.toNat).toArray.size ≤ sizeLine
        rw [List.size_toArray, rep_lenS, ln_eq]
        exact hz

theorem mul_cond {k : Int} {n : Nat} (h : (decide (-1000000 < k) && decide (k < 1000000) && decide (n * k.toNat ≤ ln)) = true) : -1000000 < k ∧ k < 1000000 ∧ n * k.toNat ≤ ln := by
  simpa [Bool.and_eq_true, and_assoc] using h
theorem opB_ok {X : Cx} (o : Bop) : OpR X (binaryOp (pyB o)) (rBin X.K (opB o)) := by
  rintro pins s σ H x y v u Q I rx ry ⟨Hs, ρ, B, a, b, d, le, bx, ra, rb, e, h⟩
  cases o with
  | add =>
    cases a with
    | int i =>
      cases b with
      | int j =>
        obtain rfl := ra.int
        obtain rfl := rb.int
        cases (show some (D.int (i + j)) = some d from e)
        exact op_add pins s σ H _ _ v u Q I rx ry ⟨i, j, rfl, rfl, Yld.int (p := false) h le bx⟩
      | _ => cases e
    | str i =>
      cases b with
      | str j =>
        obtain ⟨rfl, hi⟩ := ra.str
        obtain ⟨rfl, hj⟩ := rb.str
        obtain ⟨hl, e⟩ := cons_ite (show (if i.length + j.length ≤ ln then some (D.str (i ++ j)) else none) = some d from e)
        subst e
        refine op_add_str pins s σ H _ _ v u Q I rx ry ⟨mk i, mk j, rfl, rfl, by rw [mk_len, mk_len, ln_eq]; exact hl, ?_⟩
        rw [mk_app]
        exact Yld.str (p := false) h le bx ⟨fun c hc => (List.mem_append.mp hc).elim (hi.1 c) (hj.1 c), by rw [List.length_append]; exact hl⟩
      | _ => cases e
    | lst i =>
      cases b with
      | lst j =>
        obtain ⟨p, xs, rfl, hp, r1⟩ := ra.lst le
        obtain ⟨q, ys, rfl, hq, r2⟩ := rb.lst le
        obtain ⟨hl, e⟩ := cons_ite (show (if i.length + j.length ≤ ln then some (D.lst (i ++ j)) else none) = some d from e)
        subst e
        exact op_cat pins s σ H _ _ v u Q I rx ry ⟨p, q, xs, ys, rfl, rfl, hp, hq, by rw [← r1.length, ← r2.length, ln_eq]; exact hl, YldF.lst h le bx (r1.append r2)⟩
      | _ => cases e
    | tup i =>
      cases b with
      | tup j =>
        obtain ⟨p, xs, rfl, hp, r1⟩ := ra.tup le
        obtain ⟨q, ys, rfl, hq, r2⟩ := rb.tup le
        obtain ⟨hl, e⟩ := cons_ite (show (if i.length + j.length ≤ ln then some (D.tup (i ++ j)) else none) = some d from e)
        subst e
        have sc : ∀ {z : V} {l : List D}, RP X.K Hs ρ H (.tup l) z → Rep X.K Hs ρ (.tup l) z := fun {z l} r => by
          rcases r with r | ⟨_, _, z⟩
          · exact r
          · exact z.elim
        refine op_catA pins s σ H _ _ v u Q I rx ry ⟨p, q, xs, ys, rfl, rfl, SqT.of hp, SqT.of hq, by rw [← r1.length, ← r2.length, ln_eq]; exact hl, fun ex => ?_, fun _ ey => ?_, fun _ _ => Yld.tup (p := false) h le bx (r1.append r2)⟩
        · subst ex
          cases r1
          exact Yld.here (p := false) h le bx (sc rb)
        · subst ey
          cases r2
          rw [List.append_nil] at h
          exact Yld.here (p := false) h le bx (sc ra)
      | _ => cases e
    | _ => cases e
  | sub =>
    cases a with
    | int i =>
      cases b with
      | int j =>
        obtain rfl := ra.int
        obtain rfl := rb.int
        cases (show some (D.int (i - j)) = some d from e)
        exact op_sub pins s σ H _ _ v u Q I rx ry ⟨i, j, rfl, rfl, Yld.int (p := false) h le bx⟩
      | _ => cases e
    | _ => cases e
  | mul =>
    cases a with
    | int i =>
      cases b with
      | int j =>
        obtain rfl := ra.int
        obtain rfl := rb.int
        obtain ⟨hc, e⟩ := cons_ite (show (if (small i || small j) = true then some (D.int (i * j)) else none) = some d from e)
        subst e
        refine op_mul pins s σ H _ _ v u Q I rx ry ⟨i, j, rfl, rfl, ?_, Yld.int (p := false) h le bx⟩
        unfold small at hc
        simp only [Bool.or_eq_true, Bool.and_eq_true, decide_eq_true_eq] at hc
        exact hc
      | _ => cases e
    | str i =>
      cases b with
      | int k =>
        obtain ⟨rfl, hi⟩ := ra.str
        obtain rfl := rb.int
        obtain ⟨hc, e⟩ := cons_ite (show (if (decide (-1000000 < k) && decide (k < 1000000) && decide (i.length * k.toNat ≤ ln)) = true then some (D.str (repS i k.toNat)) else none) = some d from e)
        subst e
        obtain ⟨h1, h2, h3⟩ := mul_cond hc
        exact op_repS pins s σ H _ _ v u Q I rx ry ⟨i, k, rfl, rfl, by omega, h2, h3, Yld.str (p := false) h le bx ⟨all_rep hi.1 _, by rw [rep_lenS]; exact h3⟩⟩
      | _ => cases e
    | lst i =>
      cases b with
      | int k =>
        obtain ⟨p, xs, rfl, hp, r1⟩ := ra.lst le
        obtain rfl := rb.int
        obtain ⟨hc, e⟩ := cons_ite (show (if (decide (-1000000 < k) && decide (k < 1000000) && decide (i.length * k.toNat ≤ ln)) = true then some (D.lst (rep i k.toNat)) else none) = some d from e)
        subst e
        obtain ⟨h1, h2, h3⟩ := mul_cond hc
        exact op_rep pins s σ H _ _ v u Q I rx ry ⟨p, k, xs, rfl, rfl, hp, by omega, by omega, by rw [← r1.length, ln_eq]; exact h3, YldF.lst h le bx (rep_vs r1 _)⟩
      | _ => cases e
    | tup i =>
      cases b with
      | int k =>
        obtain ⟨p, xs, rfl, hp, r1⟩ := ra.tup le
        obtain rfl := rb.int
        obtain ⟨hc, e⟩ := cons_ite (show (if (decide (-1000000 < k) && decide (k < 1000000) && decide (i.length * k.toNat ≤ ln)) = true then some (D.tup (rep i k.toNat)) else none) = some d from e)
        subst e
        obtain ⟨h1, h2, h3⟩ := mul_cond hc
        refine op_repA pins s σ H _ _ v u Q I rx ry ⟨p, k, xs, rfl, rfl, SqT.of hp, by omega, h2, by rw [← r1.length]; exact h3, fun z => ?_, Yld.tup (p := false) h le bx (rep_vs r1 _)⟩
        have er : rep i k.toNat = i := by
          rcases z with z | z
          · subst z
            cases r1
            simp [rep]
          · subst z
            simp [rep]
        rw [er] at h
        rcases ra with ra | ⟨_, _, z⟩
        · exact Yld.here (p := false) h le bx ra
        · exact z.elim
      | _ => cases e
    | _ => cases e
  | fdiv =>
    cases a with
    | int i =>
      cases b with
      | int j =>
        obtain rfl := ra.int
        obtain rfl := rb.int
        obtain ⟨hc, e⟩ := cons_ite (show (if (decide (0 < j) && decide (j < 1073741824)) = true then some (D.int (i / j)) else none) = some d from e)
        subst e
        rw [Bool.and_eq_true, decide_eq_true_eq, decide_eq_true_eq] at hc
        exact op_fdiv pins s σ H _ _ v u Q I rx ry ⟨i, j, rfl, rfl, hc, Yld.int (p := false) h le bx⟩
      | _ => cases e
    | _ => cases e
  | mod =>
    cases a with
    | int i =>
      cases b with
      | int j =>
        obtain rfl := ra.int
        obtain rfl := rb.int
        obtain ⟨hc, e⟩ := cons_ite (show (if 0 < j then some (D.int (i % j)) else none) = some d from e)
        subst e
        exact op_mod pins s σ H _ _ v u Q I rx ry ⟨i, j, rfl, rfl, hc, Yld.int (p := false) h le bx⟩
      | _ => cases e
    | _ => cases e
  | pow =>
    cases a with
    | int i =>
      cases b with
      | int j =>
        obtain rfl := ra.int
        obtain rfl := rb.int
        obtain ⟨hc, e⟩ := cons_ite (show (if (decide (0 ≤ j) && decide (j ≤ 1000) && decide (i.natAbs < 2 ^ 64)) = true then some (D.int (i ^ j.toNat)) else none) = some d from e)
        subst e
        simp only [Bool.and_eq_true, decide_eq_true_eq] at hc
        exact op_pow pins s σ H _ _ v u Q I rx ry ⟨i, j, rfl, rfl, ⟨hc.1.1, by omega, hc.2⟩, Yld.int (p := false) h le bx⟩
      | _ => cases e
    | _ => cases e
end Pz
end
section
set_option Elab.async false
set_option linter.all false
set_option maxRecDepth 100000
set_option maxHeartbeats 2000000
namespace Pz
open PySem PySem.Spec PyProof.Rows L2 Ob

mutual
/-- as the library's data -/
def D.py : D → PyData
  | .non => .none
  | .bl b => .bool b
  | .int i => .int i
  | .str l => .str (mk l)
  | .tup l => .tuple (D.pyL l)
  | .lst l => .list (D.pyL l)
  | _ => .none
def D.pyL : List D → List PyData
  | [] => []
  | d :: l => D.py d :: D.pyL l
end
theorem max64 {a b : Nat} (h : max a b ≤ 64) : a ≤ 64 ∧ b ≤ 64 := by omega
theorem big64 (h : 1000 ≤ 64) : False := by omega
section
variable {K : PySem.W.Frag} {Hs H : Hp} {ρ : List Addr}
mutual
theorem Rep.dp (le : Le Hs H) : ∀ {d : D} {v : V}, Rep K Hs ρ d v → d.dep ≤ 64 → Dp K H v d.py
  | _, _, .non, _ => by simp only [D.py]; exact .non
  | _, _, .bl b, _ => by simp only [D.py]; exact .bl b
  | _, _, .int i, _ => by simp only [D.py]; exact .int i
  | _, _, .str h, _ => by simp only [D.py]; exact .str _
  | _, _, .tup h r, e => by
    simp only [D.dep] at e
    simp only [D.py]
    exact .tup (.inl (.inl (le.tup h))) (RepL.dp le r (by omega))
  | _, _, .lst h r, e => by
    simp only [D.dep] at e
    simp only [D.py]
    exact .lst (.inl (.inl (le.lst h))) (RepL.dp le r (by omega))
  | _, _, .dK _ _, e => by simp only [D.dep] at e; exact (big64 e).elim
  | _, _, .dT _ _, e => by simp only [D.dep] at e; exact (big64 e).elim
  | _, _, .box _, e => by simp only [D.dep] at e; exact (big64 e).elim
  | _, _, .scr _ _, e => by simp only [D.dep] at e; exact (big64 e).elim
theorem RepL.dp (le : Le Hs H) : ∀ {d : List D} {v : List V}, RepL K Hs ρ d v → D.depL d ≤ 64 → DpAll K H v (D.pyL d)
  | _, _, .nil, _ => by simp only [D.pyL]; exact .nil
  | _, _, .cons h r, e => by
    simp only [D.depL] at e
    simp only [D.pyL]
    exact .cons (Rep.dp le h (max64 e).1) (RepL.dp le r (max64 e).2)
end
theorem RP.dp (le : Le Hs H) {d : D} {v : V} (r : RP K Hs ρ H d v) (e : d.dep ≤ 64) : Dp K H v d.py := by
  rcases r with r | ⟨a, rfl, o⟩
  · exact Rep.dp le r e
  · cases d with
    | lst l =>
      obtain ⟨xs, h, r⟩ := o
      simp only [D.dep] at e
      simp only [D.py]
      exact .lst (.inl (.inl h)) (RepL.dp le r (by omega))
    | dic t l => simp only [D.dep] at e; exact (big64 e).elim
    | _ => exact o.elim
end
theorem strOk_mk {l : List Nat} (h' : SOk l) : PyData.strOk (mk l) = true := by
  have h := h'.1
  unfold PyData.strOk
  show l.toArray.all _ = true
  rw [List.all_toArray, List.all_eq_true]
  intro c hc
  have := h c hc
  exact decide_eq_true (by omega)
section
variable {K : PySem.W.Frag} {Hs H : Hp} {ρ : List Addr}
mutual
theorem Rep.lay : ∀ {d : D} {v : V}, Rep K Hs ρ d v → d.dep ≤ 64 → d.py.canLay0 = true
  | _, _, .non, _ => by simp only [D.py, PyData.canLay0]
  | _, _, .bl b, _ => by simp only [D.py, PyData.canLay0]
  | _, _, .int i, _ => by simp only [D.py, PyData.canLay0]
  | _, _, .str h, _ => by simp only [D.py, PyData.canLay0]; exact strOk_mk h
  | _, _, .tup h r, e => by
    simp only [D.dep] at e
    simp only [D.py, PyData.canLay0]
    exact RepL.lay r (by omega)
  | _, _, .lst h r, e => by
    simp only [D.dep] at e
    simp only [D.py, PyData.canLay0]
    exact RepL.lay r (by omega)
  | _, _, .dK _ _, e => by simp only [D.dep] at e; exact (big64 e).elim
  | _, _, .dT _ _, e => by simp only [D.dep] at e; exact (big64 e).elim
  | _, _, .box _, e => by simp only [D.dep] at e; exact (big64 e).elim
  | _, _, .scr _ _, e => by simp only [D.dep] at e; exact (big64 e).elim
theorem RepL.lay : ∀ {d : List D} {v : List V}, RepL K Hs ρ d v → D.depL d ≤ 64 → PyData.canLayAll0 (D.pyL d) = true
  | _, _, .nil, _ => by simp only [D.pyL, PyData.canLayAll0]
  | _, _, .cons h r, e => by
    simp only [D.depL] at e
    simp only [D.pyL, PyData.canLayAll0, Rep.lay h (max64 e).1, RepL.lay r (max64 e).2, Bool.and_self]
end
theorem RP.lay {d : D} {v : V} (r : RP K Hs ρ H d v) (e : d.dep ≤ 64) : d.py.canLay0 = true := by
  rcases r with r | ⟨a, rfl, o⟩
  · exact r.lay e
  · cases d with
    | lst l =>
      obtain ⟨xs, h, r⟩ := o
      simp only [D.dep] at e
      simp only [D.py, PyData.canLay0]
      exact r.lay (by omega)
    | dic t l => simp only [D.dep] at e; exact (big64 e).elim
    | _ => exact o.elim
end
mutual
theorem py_depth : ∀ d : D, d.py.depth ≤ d.dep
  | .non => by simp [D.py, PyData.depth]
  | .bl b => by simp [D.py, PyData.depth]
  | .int i => by simp [D.py, PyData.depth]
  | .str l => by simp [D.py, PyData.depth]
  | .tup l => by
    have := py_depthL l
    simp only [D.py, PyData.depth, D.dep]; omega
  | .lst l => by
    have := py_depthL l
    simp only [D.py, PyData.depth, D.dep]; omega
  | .dic _ _ => by simp [D.py, PyData.depth]
  | .box _ => by simp [D.py, PyData.depth]
  | .fn _ => by simp [D.py, PyData.depth]
  | .scr _ => by simp [D.py, PyData.depth]
theorem py_depthL : ∀ l : List D, PyData.depthAll (D.pyL l) ≤ D.depL l
  | [] => by simp [D.pyL, PyData.depthAll]
  | d :: l => by
    have h1 := py_depth d
    have h2 := py_depthL l
    simp only [D.pyL, PyData.depthAll, D.depL]
    omega
end
theorem mk_beq (x y : List Nat) : (mk x == mk y) = (x == y) := by
  by_cases h : x = y
  · subst h; simp
  · have h2 : ¬ mk x = mk y := fun e => h (mk_inj e)
    rw [beq_eq_false_iff_ne.mpr h, beq_eq_false_iff_ne.mpr h2]
mutual
theorem py_eqv : ∀ a b : D, a.dep ≤ 64 → b.dep ≤ 64 → PyData.eqv a.py b.py = D.eqv a b
  | .tup x, .tup y, h, k => by
    simp only [D.dep] at h k
    simp only [D.py, PyData.eqv, D.eqv]
    exact py_eqvL x y (by omega) (by omega)
  | .lst x, .lst y, h, k => by
    simp only [D.dep] at h k
    simp only [D.py, PyData.eqv, D.eqv]
    exact py_eqvL x y (by omega) (by omega)
  | .dic _ _, _, h, _ => by simp only [D.dep] at h; exact (big64 h).elim
  | .box _, _, h, _ => by simp only [D.dep] at h; exact (big64 h).elim
  | .fn _, _, h, _ => by simp only [D.dep] at h; exact (big64 h).elim
  | .scr _, _, h, _ => by simp only [D.dep] at h; exact (big64 h).elim
  | .non, b, _, k => by cases b <;> first | (simp only [D.dep] at k; exact (big64 k).elim) | simp only [D.py, PyData.eqv, D.eqv]
  | .bl _, b, _, k => by cases b <;> first | (simp only [D.dep] at k; exact (big64 k).elim) | simp only [D.py, PyData.eqv, D.eqv]
  | .int _, b, _, k => by cases b <;> first | (simp only [D.dep] at k; exact (big64 k).elim) | simp only [D.py, PyData.eqv, D.eqv]
  | .str x, b, _, k => by
    cases b with
    | str y => simp only [D.py, PyData.eqv, D.eqv]; exact mk_beq x y
    | _ => first | (simp only [D.dep] at k; exact (big64 k).elim) | simp only [D.py, PyData.eqv, D.eqv]
  | .tup _, .non, _, _ => by simp only [D.py, PyData.eqv, D.eqv]
  | .tup _, .bl _, _, _ => by simp only [D.py, PyData.eqv, D.eqv]
  | .tup _, .int _, _, _ => by simp only [D.py, PyData.eqv, D.eqv]
  | .tup _, .str _, _, _ => by simp only [D.py, PyData.eqv, D.eqv]
  | .tup _, .lst _, _, _ => by simp only [D.py, PyData.eqv, D.eqv]
  | .tup _, .dic _ _, _, k => by simp only [D.dep] at k; exact (big64 k).elim
  | .tup _, .box _, _, k => by simp only [D.dep] at k; exact (big64 k).elim
  | .tup _, .fn _, _, k => by simp only [D.dep] at k; exact (big64 k).elim
  | .tup _, .scr _, _, k => by simp only [D.dep] at k; exact (big64 k).elim
  | .lst _, .non, _, _ => by simp only [D.py, PyData.eqv, D.eqv]
  | .lst _, .bl _, _, _ => by simp only [D.py, PyData.eqv, D.eqv]
  | .lst _, .int _, _, _ => by simp only [D.py, PyData.eqv, D.eqv]
  | .lst _, .str _, _, _ => by simp only [D.py, PyData.eqv, D.eqv]
  | .lst _, .tup _, _, _ => by simp only [D.py, PyData.eqv, D.eqv]
  | .lst _, .dic _ _, _, k => by simp only [D.dep] at k; exact (big64 k).elim
  | .lst _, .box _, _, k => by simp only [D.dep] at k; exact (big64 k).elim
  | .lst _, .fn _, _, k => by simp only [D.dep] at k; exact (big64 k).elim
  | .lst _, .scr _, _, k => by simp only [D.dep] at k; exact (big64 k).elim
theorem py_eqvL : ∀ x y : List D, D.depL x ≤ 64 → D.depL y ≤ 64 → PyData.eqvAll (D.pyL x) (D.pyL y) = D.eqvL x y
  | [], [], _, _ => by simp only [D.pyL, PyData.eqvAll, D.eqvL]
  | [], _ :: _, _, _ => by simp only [D.pyL, PyData.eqvAll, D.eqvL]
  | _ :: _, [], _, _ => by simp only [D.pyL, PyData.eqvAll, D.eqvL]
  | a :: x, b :: y, h, k => by
    simp only [D.depL] at h k
    simp only [D.pyL, PyData.eqvAll, D.eqvL, py_eqv a b (max64 h).1 (max64 k).1, py_eqvL x y (max64 h).2 (max64 k).2]
end
theorem cons_ite' {α : Type} {c : Prop} [Decidable c] {a : Option α} {d : α} (h : (if c then a else none) = some d) : c ∧ a = some d := by
  split at h
  · rename_i q
    exact ⟨q, h⟩
  · cases h
theorem ok64_dep {d : D} (h : ok64 d = true) : d.dep ≤ 64 := of_decide_eq_true h

/-! ### comparisons -/
def pyC : Cop → CmpOp
  | .eq => .Eq | .ne => .NotEq | .lt => .Lt | .le => .LtE | .gt => .Gt | .ge => .GtE | .is => .Is | .isNot => .IsNot | .isIn => .In | .notIn => .NotIn
def rCmp (K : PySem.W.Frag) (f : D → D → Option Bool) : R2 := fun x y H Q => ∃ Hs ρ B a b d, Le Hs H ∧ BOk K Hs ρ H B ∧ RP K Hs ρ H a x ∧ RP K Hs ρ H b y ∧ f a b = some d ∧ Yld K false Hs ρ H B (.bl d) Q
theorem eqD_some {a b : D} {d : Bool} (h : eqD a b = some d) : a.dep ≤ 64 ∧ b.dep ≤ 64 ∧ d = D.eqv a b := by
  unfold eqD at h
  obtain ⟨hc, e⟩ := cons_ite h
  rw [Bool.and_eq_true] at hc
  exact ⟨ok64_dep hc.1, ok64_dep hc.2, e.symm⟩
theorem opEq_ok {X : Cx} (hu : X.A.units + 70 < cLine) : OpR X (compareOp .Eq) (rCmp X.K eqD) := by
  rintro pins s σ H x y v u Q I rx ry ⟨Hs, ρ, B, a, b, d, le, bx, ra, rb, e, h⟩
  obtain ⟨ha, hb, rfl⟩ := eqD_some e
  obtain ⟨as, r1⟩ := Dp.reads I _ x v (RP.dp le ra ha) rx
  obtain ⟨bs, r2⟩ := Dp.reads I _ y u (RP.dp le rb hb) ry
  have h1 := py_depth a
  refine SeqAt.compareEq_reads r1 r2 (ra.lay ha) (rb.lay hb) (by omega) ?_
  rw [py_eqv a b ha hb]
  exact ⟨.bl _, H, I, rfl, h.bl le bx⟩
theorem opNe_ok {X : Cx} (hu : X.A.units + 70 < cLine) : OpR X (compareOp .NotEq) (rCmp X.K fun a b => (eqD a b).map not) := by
  rintro pins s σ H x y v u Q I rx ry ⟨Hs, ρ, B, a, b, d, le, bx, ra, rb, e, h⟩
  obtain ⟨d', e', rfl⟩ := Option.map_eq_some_iff.mp e
  obtain ⟨ha, hb, rfl⟩ := eqD_some e'
  obtain ⟨as, r1⟩ := Dp.reads I _ x v (RP.dp le ra ha) rx
  obtain ⟨bs, r2⟩ := Dp.reads I _ y u (RP.dp le rb hb) ry
  have h1 := py_depth a
  refine SeqAt.compareNe_reads r1 r2 (ra.lay ha) (rb.lay hb) (by omega) ?_
  rw [py_eqv a b ha hb]
  exact ⟨.bl _, H, I, rfl, h.bl le bx⟩

/-! ### order -/
theorem lex_eq (l m : List D) : ∀ (k i : Nat), i ≤ l.length → i ≤ m.length → k = min (l.length - i) (m.length - i) →
    lexAt (fun j => D.eqv (l.getD j .non) (m.getD j .non)) (fun j => D.ltb (l.getD j .non) (m.getD j .non)) (decide (l.length < m.length)) i k = D.ltbL (l.drop i) (m.drop i) := by
  intro k
  induction k with
  | zero =>
    intro i hil him hk
    rw [lexAt_zero]
    by_cases hl : l.length ≤ i
    · rw [List.drop_eq_nil_of_le hl]
      by_cases hm : m.length ≤ i
      · rw [List.drop_eq_nil_of_le hm]
        simp only [D.ltbL]
        exact decide_eq_false (by omega)
      · rw [List.drop_eq_getElem_cons (by omega)]
        simp only [D.ltbL]
        exact decide_eq_true (by omega)
    · have hm : m.length ≤ i := by omega
      rw [List.drop_eq_getElem_cons (show i < l.length by omega), List.drop_eq_nil_of_le hm]
      simp only [D.ltbL]
      exact decide_eq_false (by omega)
  | succ k ih =>
    intro i hil him hk
    have hl : i < l.length := by omega
    have hm : i < m.length := by omega
    rw [lexAt_succ, ih (i + 1) (by omega) (by omega) (by omega), List.drop_eq_getElem_cons hl, List.drop_eq_getElem_cons hm]
    have e1 : l.getD i .non = l[i] := by rw [List.getD_eq_getElem?_getD, List.getElem?_eq_getElem hl]; rfl
    have e2 : m.getD i .non = m[i] := by rw [List.getD_eq_getElem?_getD, List.getElem?_eq_getElem hm]; rfl
    rw [e1, e2]
    simp only [D.ltbL]
mutual
theorem eqv_comm : ∀ a b : D, D.eqv a b = D.eqv b a
  | .tup x, .tup y => by simp only [D.eqv]; exact eqv_commL x y
  | .lst x, .lst y => by simp only [D.eqv]; exact eqv_commL x y
  | .bl a, .bl b => by simp only [D.eqv]; exact Bool.beq_comm
  | .bl a, .int j => by simp only [D.eqv]; exact Bool.beq_comm
  | .int i, .bl b => by simp only [D.eqv]; exact Bool.beq_comm
  | .int i, .int j => by simp only [D.eqv]; exact Bool.beq_comm
  | .str x, .str y => by simp only [D.eqv]; exact Bool.beq_comm
  | .non, b => by cases b <;> simp only [D.eqv]
  | .dic _ _, b => by cases b <;> simp only [D.eqv]
  | .box _, b => by cases b <;> simp only [D.eqv]
  | .fn _, b => by cases b <;> simp only [D.eqv]
  | .scr _, b => by cases b <;> simp only [D.eqv]
  | .bl _, .non => by simp only [D.eqv]
  | .bl _, .str _ => by simp only [D.eqv]
  | .bl _, .tup _ => by simp only [D.eqv]
  | .bl _, .lst _ => by simp only [D.eqv]
  | .bl _, .dic _ _ => by simp only [D.eqv]
  | .bl _, .box _ => by simp only [D.eqv]
  | .bl _, .fn _ => by simp only [D.eqv]
  | .bl _, .scr _ => by simp only [D.eqv]
  | .int _, .non => by simp only [D.eqv]
  | .int _, .str _ => by simp only [D.eqv]
  | .int _, .tup _ => by simp only [D.eqv]
  | .int _, .lst _ => by simp only [D.eqv]
  | .int _, .dic _ _ => by simp only [D.eqv]
  | .int _, .box _ => by simp only [D.eqv]
  | .int _, .fn _ => by simp only [D.eqv]
  | .int _, .scr _ => by simp only [D.eqv]
  | .str _, .non => by simp only [D.eqv]
  | .str _, .bl _ => by simp only [D.eqv]
  | .str _, .int _ => by simp only [D.eqv]
  | .str _, .tup _ => by simp only [D.eqv]
  | .str _, .lst _ => by simp only [D.eqv]
  | .str _, .dic _ _ => by simp only [D.eqv]
  | .str _, .box _ => by simp only [D.eqv]
  | .str _, .fn _ => by simp only [D.eqv]
  | .str _, .scr _ => by simp only [D.eqv]
  | .tup _, .non => by simp only [D.eqv]
  | .tup _, .bl _ => by simp only [D.eqv]
  | .tup _, .int _ => by simp only [D.eqv]
  | .tup _, .str _ => by simp only [D.eqv]
  | .tup _, .lst _ => by simp only [D.eqv]
  | .tup _, .dic _ _ => by simp only [D.eqv]
  | .tup _, .box _ => by simp only [D.eqv]
  | .tup _, .fn _ => by simp only [D.eqv]
  | .tup _, .scr _ => by simp only [D.eqv]
  | .lst _, .non => by simp only [D.eqv]
  | .lst _, .bl _ => by simp only [D.eqv]
  | .lst _, .int _ => by simp only [D.eqv]
  | .lst _, .str _ => by simp only [D.eqv]
  | .lst _, .tup _ => by simp only [D.eqv]
  | .lst _, .dic _ _ => by simp only [D.eqv]
  | .lst _, .box _ => by simp only [D.eqv]
  | .lst _, .fn _ => by simp only [D.eqv]
  | .lst _, .scr _ => by simp only [D.eqv]
theorem eqv_commL : ∀ x y : List D, D.eqvL x y = D.eqvL y x
  | [], [] => rfl
  | [], _ :: _ => by simp only [D.eqvL]
  | _ :: _, [] => by simp only [D.eqvL]
  | a :: x, b :: y => by simp only [D.eqvL]; rw [eqv_comm a b, eqv_commL x y]
end
theorem lex_gt (l m : List D) (k i : Nat) (hl : i ≤ l.length) (hm : i ≤ m.length) (h : k = min (l.length - i) (m.length - i)) :
    lexAt (fun j => D.eqv (l.getD j .non) (m.getD j .non)) (fun j => D.ltb (m.getD j .non) (l.getD j .non)) (decide (l.length > m.length)) i k = D.ltbL (m.drop i) (l.drop i) := by
  have e : (fun j => D.eqv (l.getD j .non) (m.getD j .non)) = fun j => D.eqv (m.getD j .non) (l.getD j .non) := by
    funext j
    exact eqv_comm _ _
  rw [e]
  exact lex_eq m l k i hm hl (by omega)
theorem ltS_lex : ∀ x y : List Nat, ltS x y = decide (x < y)
  | [], [] => by simp [ltS]
  | [], _ :: _ => by simp [ltS]
  | _ :: _, [] => by simp [ltS]
  | a :: x, b :: y => by
    simp only [ltS, List.cons_lt_cons_iff]
    by_cases h : a = b
    · subst h
      rw [if_pos rfl, ltS_lex x y]
      simp
    · rw [if_neg h]
      by_cases h2 : a < b <;> simp [h, h2]
theorem in1_units (A : Around) : A.in1.units = A.units + 1 := rfl
section
variable {X : Cx} {pins : List (Addr × Obj)} {σ : L2.St} {H Hs : Hp} {s : Shared} {ρ : List Addr}
theorem rep_eqAt (I : Inv X pins σ H s) (le : Le Hs H) {a b : D} {A : Around} {x y : V} {v u : Value} (ra : Rep X.K Hs ρ a x) (rb : Rep X.K Hs ρ b y) (rx : RelV x v) (ry : RelV y u) (ha : a.dep ≤ 64) (hb : b.dep ≤ 64) (hu : A.units + a.dep < cLine) :
    SeqAt.EqAt A s v u (D.eqv a b) := by
  obtain ⟨as, r1⟩ := Dp.reads I _ x v (ra.dp le ha) rx
  obtain ⟨bs, r2⟩ := Dp.reads I _ y u (rb.dp le hb) ry
  have h1 := py_depth a
  have h := SeqAt.eqAt_reads a.py b.py A s v u as bs r1 r2 (ra.lay ha) (rb.lay hb) (by omega)
  rw [py_eqv a b ha hb] at h
  exact h
/-- < or > -/
theorem rcS {op : Bool} {A : Around} {x y : List Nat} {t u : Tok} : RcOp (if op then .Lt else .Gt) A s (.str (mk x) t) (.str (mk y) u) (if op then ltS x y else ltS y x) := fun prog w E Q h => by
  cases op with
  | true =>
    refine PyProof.Rows.lt_str ?_
    rw [if_pos rfl, ltS_lex] at h
    simpa using h
  | false =>
    refine PySem.P.gt_str ?_
    rw [if_neg Bool.false_ne_true, ltS_lex] at h
    simpa using h
theorem rcI {op : Bool} {A : Around} {x y : Int} {t u : Tok} : RcOp (if op then .Lt else .Gt) A s (.int x t) (.int y u) (if op then decide (x < y) else decide (y < x)) := by
  cases op with
  | true => exact RcOp.lt_int x y t u
  | false => exact RcOp.gt_int x y t u

mutual
theorem rc_lt (I : Inv X pins σ H s) (le : Le Hs H) (op : Bool) : ∀ (a : D) (b : D) (A : Around) (x y : V) (v u : Value), Rep X.K Hs ρ a x → Rep X.K Hs ρ b y → RelV x v → RelV y u → a.dep ≤ 64 → b.dep ≤ 64 → A.units + a.dep + 1 < cLine → D.cmp a b = true →
    RcOp (if op then .Lt else .Gt) A s v u (if op then D.ltb a b else D.ltb b a)
  | .int i => fun b A x y v u ra rb rx ry ha hb hu hc => by
    cases b with
    | int j =>
      cases ra
      cases rb
      obtain ⟨t, rfl⟩ := rx
      obtain ⟨t', rfl⟩ := ry
      simp only [D.ltb]
      exact rcI
    | _ => exact absurd hc (by simp [D.cmp])
  | .str i => fun b A x y v u ra rb rx ry ha hb hu hc => by
    cases b with
    | str j =>
      cases ra
      cases rb
      obtain ⟨t, rfl⟩ := rx
      obtain ⟨t', rfl⟩ := ry
      simp only [D.ltb]
      exact rcS
    | _ => exact absurd hc (by simp [D.cmp])
  | .tup l => fun b A x y v u ra rb rx ry ha hb hu hc => by
    cases b with
    | tup m =>
      cases ra with
      | tup h1 r1 =>
      cases rb with
      | tup h2 r2 =>
      obtain ⟨its, rv, p, _⟩ := I.tuple (SqT.of (le.tup h1))
      obtain ⟨its2, rv2, p2, _⟩ := I.tuple (SqT.of (le.tup h2))
      cases rx
      cases ry
      simp only [D.dep] at ha hb hu
      simp only [D.cmp] at hc
      have L := rc_ltL I le op l m A.in1 _ _ its its2 r1 r2 rv rv2 (by omega) (by omega) (by rw [in1_units]; omega) hc
      have e1 : its.toArray.size = l.length := by rw [List.size_toArray, ← rv.length, r1.length]
      have e2 : its2.toArray.size = m.length := by rw [List.size_toArray, ← rv2.length, r2.length]
      have g := fun (j : Nat) (h1 : j < its.toArray.size) (h2 : j < its2.toArray.size) => L j (by simpa using h1) (by simpa using h2)
      cases op with
      | true =>
        have hh := RcOp.tuples_lt (A := A) (s := s) (e := fun j => D.eqv (l.getD j .non) (m.getD j .non)) (r := fun j => D.ltb (l.getD j .non) (m.getD j .non)) p p2 (by omega) (fun j h1 h2 => by simpa using (g j h1 h2).1) (fun j h1 h2 he => by simpa using (g j h1 h2).2 he)
        rw [e1, e2, lex_eq l m _ 0 (Nat.zero_le _) (Nat.zero_le _) (by omega)] at hh
        simpa only [D.ltb, if_true, List.drop_zero] using hh
      | false =>
        have hh := RcOp.tuples_gt (A := A) (s := s) (e := fun j => D.eqv (l.getD j .non) (m.getD j .non)) (r := fun j => D.ltb (m.getD j .non) (l.getD j .non)) p p2 (by omega) (fun j h1 h2 => by simpa using (g j h1 h2).1) (fun j h1 h2 he => by simpa using (g j h1 h2).2 he)
        rw [e1, e2, lex_gt l m _ 0 (Nat.zero_le _) (Nat.zero_le _) (by omega)] at hh
        simpa only [D.ltb, Bool.false_eq_true, if_false, List.drop_zero] using hh
    | _ => exact absurd hc (by simp [D.cmp])
  | .non => fun b A x y v u ra rb rx ry ha hb hu hc => by cases b <;> exact absurd hc (by simp [D.cmp])
  | .bl _ => fun b A x y v u ra rb rx ry ha hb hu hc => by cases b <;> exact absurd hc (by simp [D.cmp])
  | .lst _ => fun b A x y v u ra rb rx ry ha hb hu hc => by cases b <;> exact absurd hc (by simp [D.cmp])
  | .dic _ _ => fun b A x y v u ra rb rx ry ha hb hu hc => by cases b <;> exact absurd hc (by simp [D.cmp])
  | .box _ => fun b A x y v u ra rb rx ry ha hb hu hc => by cases b <;> exact absurd hc (by simp [D.cmp])
  | .fn _ => fun b A x y v u ra rb rx ry ha hb hu hc => by cases b <;> exact absurd hc (by simp [D.cmp])
  | .scr _ => fun b A x y v u ra rb rx ry ha hb hu hc => by cases b <;> exact absurd hc (by simp [D.cmp])
theorem rc_ltL (I : Inv X pins σ H s) (le : Le Hs H) (op : Bool) : ∀ (l : List D) (m : List D) (A : Around) (xs ys : List V) (its its2 : List Value), RepL X.K Hs ρ l xs → RepL X.K Hs ρ m ys → Vals xs its → Vals ys its2 → D.depL l ≤ 64 → D.depL m ≤ 64 → A.units + D.depL l + 1 < cLine → D.cmpL l m = true →
    ∀ (j : Nat) (h1 : j < its.length) (h2 : j < its2.length), SeqAt.EqAt A s its[j] its2[j] (D.eqv (l.getD j .non) (m.getD j .non)) ∧
      (D.eqv (l.getD j .non) (m.getD j .non) = false → RcOp (if op then .Lt else .Gt) A s its[j] its2[j] (if op then D.ltb (l.getD j .non) (m.getD j .non) else D.ltb (m.getD j .non) (l.getD j .non)))
  | [] => fun m A xs ys its its2 r1 r2 v1 v2 ha hb hu hc j h1 h2 => by
    cases r1
    cases v1
    exact absurd h1 (Nat.not_lt_zero _)
  | a :: l => fun m A xs ys its its2 r1 r2 v1 v2 ha hb hu hc j h1 h2 => by
    cases m with
    | nil =>
      cases r2
      cases v2
      exact absurd h2 (Nat.not_lt_zero _)
    | cons b m =>
      cases r1 with
      | cons ra rl =>
      cases r2 with
      | cons rb rm =>
      cases v1 with
      | cons va vl =>
      cases v2 with
      | cons vb vm =>
      simp only [D.depL] at ha hb hu
      simp only [D.cmpL, Bool.and_eq_true, Bool.or_eq_true] at hc
      cases j with
      | zero =>
        have q0 := rep_eqAt I le (A := A) ra rb va vb (show a.dep ≤ 64 by omega) (show b.dep ≤ 64 by omega) (by omega)
        refine ⟨q0, fun he => ?_⟩
        rcases hc.1 with q | q
        · have he' : D.eqv a b = false := he
          rw [q] at he'; cases he'
        · exact rc_lt I le op a b A _ _ _ _ ra rb va vb (by omega) (by omega) (by omega) q
      | succ j => exact rc_ltL I le op l m A _ _ _ _ rl rm vl vm (by omega) (by omega) (by omega) hc.2 j (Nat.lt_of_succ_lt_succ h1) (Nat.lt_of_succ_lt_succ h2)
end
theorem RP.repO {a : D} {x : V} (r : RP X.K Hs ρ H a x) (h : ∀ l, a ≠ .lst l) (h2 : ∀ t l, a ≠ .dic t l) : Rep X.K Hs ρ a x := by
  rcases r with r | ⟨_, _, o⟩
  · exact r
  · cases a with
    | lst l => exact absurd rfl (h l)
    | dic t l => exact absurd rfl (h2 t l)
    | _ => exact o.elim
theorem cmp_repL {a b : D} {x : V} (h : D.cmp a b = true) (r : RP X.K Hs ρ H a x) : Rep X.K Hs ρ a x := by
  refine r.repO (fun l e => ?_) (fun t l e => ?_) <;> subst e <;> cases b <;> simp only [D.cmp] at h <;> cases h
theorem cmp_repR {a b : D} {x : V} (h : D.cmp a b = true) (r : RP X.K Hs ρ H b x) : Rep X.K Hs ρ b x := by
  refine r.repO (fun l e => ?_) (fun t l e => ?_) <;> subst e <;> cases a <;> simp only [D.cmp] at h <;> cases h
end
theorem opLt_ok {X : Cx} (hu : X.A.units + 70 < cLine) : OpR X (compareOp .Lt) (rCmp X.K (opC .lt)) := by
  rintro pins s σ H x y v u Q I rx ry ⟨Hs, ρ, B, a, b, d, le, bx, ra, rb, e, h⟩
  obtain ⟨hc, e⟩ := cons_ite' (show (if (ok64 a && ok64 b) = true then D.lt a b else none) = some d from e)
  obtain ⟨hm, rfl⟩ := cons_ite (show (if D.cmp a b = true then some (D.ltb a b) else none) = some d from e)
  rw [Bool.and_eq_true] at hc
  have h1 := ok64_dep hc.1
  have hh := rc_lt I le true a b X.A x y v u (cmp_repL hm ra) (cmp_repR hm rb) rx ry h1 (ok64_dep hc.2) (by omega) hm
  exact hh _ _ _ _ ⟨.bl _, H, I, rfl, h.bl le bx⟩

mutual
theorem cmp_comm : ∀ (a b : D), D.cmp a b = D.cmp b a
  | .int _ => fun b => by cases b <;> simp only [D.cmp]
  | .str _ => fun b => by cases b <;> simp only [D.cmp]
  | .tup l => fun b => by
    cases b with
    | tup m => simp only [D.cmp]; exact cmp_commL l m
    | _ => simp only [D.cmp]
  | .non => fun b => by cases b <;> simp only [D.cmp]
  | .bl _ => fun b => by cases b <;> simp only [D.cmp]
  | .lst _ => fun b => by cases b <;> simp only [D.cmp]
  | .dic _ _ => fun b => by cases b <;> simp only [D.cmp]
  | .box _ => fun b => by cases b <;> simp only [D.cmp]
  | .fn _ => fun b => by cases b <;> simp only [D.cmp]
  | .scr _ => fun b => by cases b <;> simp only [D.cmp]
theorem cmp_commL : ∀ (l m : List D), D.cmpL l m = D.cmpL m l
  | [] => fun m => by cases m <;> simp only [D.cmpL]
  | a :: l => fun m => by
    cases m with
    | nil => simp only [D.cmpL]
    | cons b m => simp only [D.cmpL]; rw [eqv_comm a b, cmp_comm a b, cmp_commL l m]
end
theorem opGt_ok {X : Cx} (hu : X.A.units + 70 < cLine) : OpR X (compareOp .Gt) (rCmp X.K (opC .gt)) := by
  rintro pins s σ H x y v u Q I rx ry ⟨Hs, ρ, B, a, b, d, le, bx, ra, rb, e, h⟩
  obtain ⟨hc, e⟩ := cons_ite' (show (if (ok64 a && ok64 b) = true then D.lt b a else none) = some d from e)
  obtain ⟨hm, rfl⟩ := cons_ite (show (if D.cmp b a = true then some (D.ltb b a) else none) = some d from e)
  rw [Bool.and_eq_true] at hc
  have h1 := ok64_dep hc.1
  have hm' : D.cmp a b = true := (cmp_comm a b).trans hm
  have hh := rc_lt I le false a b X.A x y v u (cmp_repL hm' ra) (cmp_repR hm' rb) rx ry h1 (ok64_dep hc.2) (by omega) hm'
  exact hh _ _ _ _ ⟨.bl _, H, I, rfl, h.bl le bx⟩
theorem opLe_ok {X : Cx} : OpR X (compareOp .LtE) (rCmp X.K (opC .le)) := by
  rintro pins s σ H x y v u Q I rx ry ⟨Hs, ρ, B, a, b, d, le, bx, ra, rb, e, h⟩
  cases a with
  | int i =>
    cases b with
    | int j =>
      obtain rfl := ra.int
      obtain rfl := rb.int
      cases (show some (decide (i ≤ j)) = some d from e)
      exact op_le pins s σ H _ _ v u Q I rx ry ⟨i, j, rfl, rfl, h.bl le bx⟩
    | _ => cases e
  | _ => cases e
theorem opGe_ok {X : Cx} : OpR X (compareOp .GtE) (rCmp X.K (opC .ge)) := by
  rintro pins s σ H x y v u Q I rx ry ⟨Hs, ρ, B, a, b, d, le, bx, ra, rb, e, h⟩
  cases a with
  | int i =>
    cases b with
    | int j =>
      obtain rfl := ra.int
      obtain rfl := rb.int
      cases (show some (decide (j ≤ i)) = some d from e)
      exact op_ge pins s σ H _ _ v u Q I rx ry ⟨i, j, rfl, rfl, h.bl le bx⟩
    | _ => cases e
  | _ => cases e

/-! ### in -/
theorem any_py (x : D) (hx : x.dep ≤ 64) : ∀ l : List D, D.depL l ≤ 64 → (D.pyL l).any (fun y => PyData.eqv y x.py) = inL x l
  | [], _ => rfl
  | d :: l, h => by
    simp only [D.depL] at h
    have e := any_py x hx l (max64 h).2
    unfold inL at e ⊢
    simp only [D.pyL, List.any_cons, e, py_eqv d x (max64 h).1 hx]
theorem inS_some {x y : List Nat} {d : Bool} (h : inD (.str x) (.str y) = some d) : ∃ c, x = [c] ∧ d = y.contains c := by
  match x, h with
  | [c], h => exact ⟨c, rfl, (Option.some.inj h).symm⟩
theorem mem_contains (c : Nat) (y : List Nat) : decide (c ∈ (mk y).cps.toList) = y.contains c := by
  show decide (c ∈ y.toArray.toList) = _
  rw [List.contains_eq_mem]
theorem kget_pos {a k v : D} {r : List (D × D)} (h : D.same a k = true) : kget k ((a, v) :: r) = some v := by
  unfold kget
  rw [if_pos h]
theorem kget_neg {a k v : D} {r : List (D × D)} (h : D.same a k = false) : kget k ((a, v) :: r) = kget k r := by
  show (if D.same a k = true then some v else kget k r) = kget k r
  rw [if_neg (by rw [h]; exact Bool.false_ne_true)]
/-- a key of flat kind -/
inductive KeyR : D → Key → Prop
  | int (i : Int) : KeyR (.int i) (.inl i)
  | str {x : List Nat} : SOk x → KeyR (.str x) (.inr (mk x))
theorem KeyR.same {a b : D} {i j : Key} (h : KeyR a i) (k : KeyR b j) : D.same a b = decide (i = j) := by
  cases h with
  | int x =>
    cases k with
    | int y =>
      simp only [D.same]
      by_cases e : x = y
      · subst e; simp
      · rw [decide_eq_false e, decide_eq_false (fun z => e (Sum.inl.inj z))]
    | str _ => simp only [D.same]; rw [decide_eq_false (fun z => nomatch z)]
  | @str x hx =>
    cases k with
    | int y => simp only [D.same]; rw [decide_eq_false (fun z => nomatch z)]
    | @str y _ =>
      simp only [D.same]
      by_cases e : x = y
      · subst e; simp
      · rw [decide_eq_false e, decide_eq_false (fun z => e (mk_inj (Sum.inr.inj z)))]
section
variable {K : PySem.W.Frag} {Hs H : Hp} {ρ : List Addr}
theorem key_of {k : D} (h : k.keyOk false = true) {v : V} (r : RP K Hs ρ H k v) : ∃ kk, KeyR k kk ∧ v = kV kk := by
  cases k with
  | int i => exact ⟨.inl i, .int i, r.int⟩
  | str x =>
    obtain ⟨rfl, hx⟩ := r.str
    exact ⟨.inr (mk x), .str hx, rfl⟩
  | tup l => simp [D.keyOk] at h
  | _ => simp [D.keyOk] at h
/-- dicts, entry by entry -/
theorem RepK.cons_inv {k d : D} {l : List (D × D)} {kvs : List (Key × V)} (r : RepK K Hs ρ ((k, d) :: l) kvs) : ∃ kk v s, kvs = (kk, v) :: s ∧ KeyR k kk ∧ Rep K Hs ρ d v ∧ RepK K Hs ρ l s := by
  cases r with
  | int hd hr => exact ⟨_, _, _, rfl, .int _, hd, hr⟩
  | str hx hd hr => exact ⟨_, _, _, rfl, .str hx, hd, hr⟩
theorem RepK.cons_of {k d : D} {kk : Key} {v : V} {l : List (D × D)} {s : List (Key × V)} (hk : KeyR k kk) (hd : Rep K Hs ρ d v) (hr : RepK K Hs ρ l s) : RepK K Hs ρ ((k, d) :: l) ((kk, v) :: s) := by
  cases hk with
  | int _ => exact .int hd hr
  | str hx => exact .str hx hd hr
theorem RepK.get {k : D} {kk : Key} (hk : KeyR k kk) : ∀ {l : List (D × D)} {kvs : List (Key × V)}, RepK K Hs ρ l kvs →
    (∀ d, kget k l = some d → ∃ w, valV kvs kk = some w ∧ Rep K Hs ρ d w) ∧ (kget k l = none → valV kvs kk = none)
  | [], _, r => by cases r; exact ⟨fun d e => (by cases e), fun _ => rfl⟩
  | (a, d) :: l, kvs, r => by
    obtain ⟨ka, v, s, rfl, ha, hd, hr⟩ := r.cons_inv
    by_cases e : ka = kk
    · have es : D.same a k = true := by rw [ha.same hk]; exact decide_eq_true e
      rw [kget_pos es, valV_pos e]
      exact ⟨fun d' e => by cases e; exact ⟨v, rfl, hd⟩, fun e => by cases e⟩
    · have es : D.same a k = false := by rw [ha.same hk]; exact decide_eq_false e
      rw [kget_neg es, valV_neg e]
      exact RepK.get hk hr
theorem kput_pos {a k v x : D} {r : List (D × D)} (h : D.same a k = true) : kput k v ((a, x) :: r) = (a, v) :: r := by
  show (if D.same a k = true then (a, v) :: r else (a, x) :: kput k v r) = _
  rw [if_pos h]
theorem kput_neg {a k v x : D} {r : List (D × D)} (h : D.same a k = false) : kput k v ((a, x) :: r) = (a, x) :: kput k v r := by
  show (if D.same a k = true then (a, v) :: r else (a, x) :: kput k v r) = _
  rw [if_neg (by rw [h]; exact Bool.false_ne_true)]
end
/-- a key that is a tuple -/
theorem RepKs.rel {l : List D} {ks : List Key} (h : RepKs l ks) {K : PySem.W.Frag} {Hs : Hp} {ρ : List Addr} : RepL K Hs ρ l (ks.map kV) := by
  induction h with
  | nil => exact .nil
  | int _ ih => exact .cons (.int _) ih
  | str hx _ ih => exact .cons (.str hx) ih
theorem RepKs.of {K : PySem.W.Frag} {Hs : Hp} {ρ : List Addr} : ∀ {l : List D} {xs : List V}, l.all D.key1 = true → RepL K Hs ρ l xs → ∃ ks, RepKs l ks ∧ xs = ks.map kV
  | [], _, _, r => by cases r; exact ⟨[], .nil, rfl⟩
  | d :: l, _, h, r => by
    cases r with
    | cons hd hr =>
      rw [List.all_cons, Bool.and_eq_true] at h
      obtain ⟨ks, h1, h2⟩ := RepKs.of h.2 hr
      subst h2
      cases hd with
      | int i => exact ⟨.inl i :: ks, .int h1, rfl⟩
      | str hx => exact ⟨.inr (mk _) :: ks, .str hx h1, rfl⟩
      | _ => simp [D.key1] at h
theorem RepKs.same : ∀ {a b : List D} {i j : List Key}, RepKs a i → RepKs b j → D.sameL a b = decide (i = j)
  | [], [], _, _, .nil, .nil => by simp only [D.sameL]; simp
  | [], _ :: _, _, _, .nil, h => by cases h <;> (simp only [D.sameL]; rw [decide_eq_false (fun z => nomatch z)])
  | _ :: _, [], _, _, h, .nil => by cases h <;> (simp only [D.sameL]; rw [decide_eq_false (fun z => nomatch z)])
  | x :: a, y :: b, i, j, h, k => by
    have hx : ∃ i1 i2, i = i1 :: i2 ∧ KeyR x i1 ∧ RepKs a i2 := by
      cases h with
      | int h => exact ⟨_, _, rfl, .int _, h⟩
      | str q h => exact ⟨_, _, rfl, .str q, h⟩
    have hy : ∃ i1 i2, j = i1 :: i2 ∧ KeyR y i1 ∧ RepKs b i2 := by
      cases k with
      | int h => exact ⟨_, _, rfl, .int _, h⟩
      | str q h => exact ⟨_, _, rfl, .str q, h⟩
    obtain ⟨i1, i2, rfl, k1, h1⟩ := hx
    obtain ⟨j1, j2, rfl, k2, h2⟩ := hy
    simp only [D.sameL]
    rw [k1.same k2, RepKs.same h1 h2]
    by_cases e : i1 = j1
    · by_cases e2 : i2 = j2
      · subst e e2; simp
      · rw [decide_eq_false e2, Bool.and_false, decide_eq_false (fun z => e2 (List.cons.inj z).2)]
    · rw [decide_eq_false e, Bool.false_and, decide_eq_false (fun z => e (List.cons.inj z).1)]
section
variable {K : PySem.W.Frag} {Hs H : Hp} {ρ : List Addr}
theorem RepT.get {k : List D} {kk : List Key} (hk : RepKs k kk) : ∀ {l : List (D × D)} {kvs : List (List Key × V)}, RepT K Hs ρ l kvs →
    (∀ d, kget (.tup k) l = some d → ∃ w, valV kvs kk = some w ∧ Rep K Hs ρ d w) ∧ (kget (.tup k) l = none → valV kvs kk = none)
  | [], _, r => by cases r; exact ⟨fun d e => (by cases e), fun _ => rfl⟩
  | (a, d) :: l, kvs, r => by
    cases r with
    | @cons ka kka _ v _ s ha hd hr =>
      have sm : D.same (.tup ka) (.tup k) = decide (kka = kk) := by simp only [D.same]; exact ha.same hk
      by_cases e : kka = kk
      · rw [kget_pos (by rw [sm]; exact decide_eq_true e), valV_pos e]
        exact ⟨fun d' e => by cases e; exact ⟨v, rfl, hd⟩, fun e => by cases e⟩
      · rw [kget_neg (by rw [sm]; exact decide_eq_false e), valV_neg e]
        exact RepT.get hk hr
/-- what a dict holds at a key -/
theorem dget_of {t : Bool} {l : List (D × D)} {k : D} {x y : V} (le : Le Hs H) (rd : RP K Hs ρ H (.dic t l) x) (rk : RP K Hs ρ H k y) (h : k.keyOk t = true) :
    ∃ a o, x = .ref a ∧ DGet H a y o ∧ (∀ d, kget k l = some d → ∃ w, o = some w ∧ Rep K Hs ρ d w) ∧ (kget k l = none → o = none) := by
  cases t with
  | false =>
    obtain ⟨a, kvs, rfl, hr, r⟩ := rd.dK le
    obtain ⟨kk, hk, rfl⟩ := key_of h rk
    have g := r.get hk
    exact ⟨a, valV kvs kk, rfl, .inl ⟨kvs, kk, hr, rfl, rfl⟩, g.1, g.2⟩
  | true =>
    obtain ⟨a, kvs, rfl, hr, r⟩ := rd.dT le
    cases k with
    | tup ks =>
      obtain ⟨b, xs, rfl, hb, rx⟩ := rk.tup le
      have h1 : ks.all D.key1 = true := by simpa [D.keyOk] using h
      obtain ⟨kk, hk, rfl⟩ := RepKs.of h1 rx
      have g := r.get hk
      exact ⟨a, valV kvs kk, rfl, .inr ⟨kvs, kk, b, hr, rfl, hb, rfl⟩, g.1, g.2⟩
    | _ => simp [D.keyOk] at h
theorem isSome_of {k : D} {l : List (D × D)} {o : Option V} (h1 : ∀ d, kget k l = some d → ∃ w, o = some w ∧ Rep K Hs ρ d w) (h2 : kget k l = none → o = none) : o.isSome = (kget k l).isSome := by
  cases e : kget k l with
  | none => rw [h2 e]; rfl
  | some d => obtain ⟨w, h, _⟩ := h1 d e; rw [h]; rfl
end
theorem inL_some {x : D} {l : List D} {c : D} {d : Bool} (hc : c = .lst l ∨ c = .tup l) (h : inD x c = some d) : x.dep ≤ 64 ∧ D.depL l ≤ 64 ∧ d = inL x l := by
  have key : (if (ok64 x && ok64 c) = true then some (inL x l) else none) = some d → x.dep ≤ 64 ∧ D.depL l ≤ 64 ∧ d = inL x l := fun h => by
    obtain ⟨hc', e⟩ := cons_ite h
    rw [Bool.and_eq_true] at hc'
    have h2 := ok64_dep hc'.2
    refine ⟨ok64_dep hc'.1, ?_, e.symm⟩
    rcases hc with rfl | rfl <;> (simp only [D.dep] at h2; omega)
  rcases hc with rfl | rfl
  · exact key h
  · exact key h
theorem opIn_ok {X : Cx} (hu : X.A.units + 70 < cLine) : OpR X (compareOp .In) (rCmp X.K inD) := by
  rintro pins s σ H x y v u Q I rx ry ⟨Hs, ρ, B, a, b, d, le, bx, ra, rb, e, h⟩
  cases b with
  | str j =>
    cases a with
    | str i =>
      obtain ⟨c, rfl, rfl⟩ := inS_some e
      obtain ⟨rfl, _⟩ := ra.str
      obtain ⟨rfl, _⟩ := rb.str
      refine op_in_sign pins s σ H _ _ v u Q I rx ry ⟨c, mk j, rfl, rfl, ?_⟩
      rw [mem_contains]
      exact h.bl le bx
    | _ => cases e
  | lst l =>
    obtain ⟨ha, hl, rfl⟩ := inL_some (.inl rfl) e
    have hd : D.dep (.lst l) ≤ 65 := by simp only [D.dep]; omega
    obtain ⟨p, xs, rfl, hp, r⟩ := rb.lst le
    obtain ⟨as, r1⟩ := Dp.reads I _ x v (RP.dp le ra ha) rx
    obtain ⟨bs, r2⟩ := Dp.reads I (.list (D.pyL l)) _ u (.lst (SqL.of hp) (r.dp le hl)) ry
    have h1 := py_depth a
    refine SeqAt.in_list_reads r2 r1 (r.lay hl) (ra.lay ha) (by omega) ?_
    rw [any_py a ha l hl]
    exact ⟨.bl _, H, I, rfl, h.bl le bx⟩
  | tup l =>
    obtain ⟨ha, hl, rfl⟩ := inL_some (.inr rfl) e
    obtain ⟨p, xs, rfl, hp, r⟩ := rb.tup le
    obtain ⟨as, r1⟩ := Dp.reads I _ x v (RP.dp le ra ha) rx
    obtain ⟨bs, r2⟩ := Dp.reads I (.tuple (D.pyL l)) _ u (.tup (SqT.of hp) (r.dp le hl)) ry
    have h1 := py_depth a
    refine SeqAt.in_tuple_reads r2 r1 (r.lay hl) (ra.lay ha) (by omega) ?_
    rw [any_py a ha l hl]
    exact ⟨.bl _, H, I, rfl, h.bl le bx⟩
  | dic t l =>
    obtain ⟨hk, e⟩ := cons_ite (show (if a.keyOk t = true then some (kget a l).isSome else none) = some d from e)
    subst e
    obtain ⟨p, o, rfl, g, g1, g2⟩ := dget_of le rb ra hk
    cases ry
    refine d_in (by omega) I g rx fun s' I' => ?_
    rw [isSome_of g1 g2]
    exact ⟨.bl _, H, I', rfl, h.bl le bx⟩
  | _ => cases e
theorem opNotIn_ok {X : Cx} (hu : X.A.units + 70 < cLine) : OpR X (compareOp .NotIn) (rCmp X.K fun a b => (inD a b).map not) := by
  rintro pins s σ H x y v u Q I rx ry ⟨Hs, ρ, B, a, b, d, le, bx, ra, rb, e0, h⟩
  obtain ⟨d', e, rfl⟩ := Option.map_eq_some_iff.mp e0
  clear e0
  cases b with
  | str j =>
    cases a with
    | str i =>
      obtain ⟨c, rfl, rfl⟩ := inS_some e
      obtain ⟨rfl, _⟩ := ra.str
      obtain ⟨rfl, _⟩ := rb.str
      refine op_notIn_sign pins s σ H _ _ v u Q I rx ry ⟨c, mk j, rfl, rfl, ?_⟩
      rw [mem_contains]
      exact h.bl le bx
    | _ => cases e
  | lst l =>
    obtain ⟨ha, hl, rfl⟩ := inL_some (.inl rfl) e
    obtain ⟨p, xs, rfl, hp, r⟩ := rb.lst le
    obtain ⟨as, r1⟩ := Dp.reads I _ x v (RP.dp le ra ha) rx
    obtain ⟨bs, r2⟩ := Dp.reads I (.list (D.pyL l)) _ u (.lst (SqL.of hp) (r.dp le hl)) ry
    have h1 := py_depth a
    refine SeqAt.notIn_list_reads r2 r1 (r.lay hl) (ra.lay ha) (by omega) ?_
    rw [any_py a ha l hl]
    exact ⟨.bl _, H, I, rfl, h.bl le bx⟩
  | tup l =>
    obtain ⟨ha, hl, rfl⟩ := inL_some (.inr rfl) e
    obtain ⟨p, xs, rfl, hp, r⟩ := rb.tup le
    obtain ⟨as, r1⟩ := Dp.reads I _ x v (RP.dp le ra ha) rx
    obtain ⟨bs, r2⟩ := Dp.reads I (.tuple (D.pyL l)) _ u (.tup (SqT.of hp) (r.dp le hl)) ry
    have h1 := py_depth a
    refine SeqAt.notIn_tuple_reads r2 r1 (r.lay hl) (ra.lay ha) (by omega) ?_
    rw [any_py a ha l hl]
    exact ⟨.bl _, H, I, rfl, h.bl le bx⟩
  | dic t l =>
    obtain ⟨hk, e⟩ := cons_ite (show (if a.keyOk t = true then some (kget a l).isSome else none) = some d' from e)
    subst e
    obtain ⟨p, o, rfl, g, g1, g2⟩ := dget_of le rb ra hk
    cases ry
    refine d_notIn (by omega) I g rx fun s' I' => ?_
    rw [isSome_of g1 g2]
    exact ⟨.bl _, H, I', rfl, h.bl le bx⟩
  | _ => cases e
end Pz
end
section
set_option Elab.async false
set_option linter.all false
set_option maxRecDepth 100000
namespace Pz
open PySem PySem.Spec PyProof.Rows L2

/-! ### is -/
def D.isRef : D → Bool
  | .tup _ => true
  | .lst _ => true
  | .dic _ _ => true
  | .box _ => true
  | .scr _ => true
  | _ => false
section
variable {K : PySem.W.Frag} {Hs H : Hp} {ρ : List Addr}
theorem RP.isRef {d : D} {v : V} (r : RP K Hs ρ H d v) (h : d.isRef = true) : ∃ a, v = .ref a := by
  rcases r with r | ⟨a, e, _⟩
  · cases r <;> first | exact ⟨_, rfl⟩ | cases h
  · exact ⟨a, e⟩
theorem is_val {a b : D} {d : Bool} {x y : V} {v u : Value} (e : isD a b = some d) (ra : RP K Hs ρ H a x) (rb : RP K Hs ρ H b y) (rx : RelV x v) (ry : RelV y u) : plainIs v u = true ∧ (v == u) = d := by
  have hb : (b = .non ∧ u = .none) ∨ ∃ k, b = .bl k ∧ u = .bool k := by
    cases b with
    | non => cases rb.non; cases ry; exact .inl ⟨rfl, rfl⟩
    | bl k => cases rb.bl; cases ry; exact .inr ⟨k, rfl, rfl⟩
    | _ => cases a <;> cases e
  have hr : a.isRef = true → ∃ p, v = .ref p := fun h => by
    obtain ⟨p, rfl⟩ := ra.isRef h
    cases rx
    exact ⟨p, rfl⟩
  rcases hb with ⟨rfl, rfl⟩ | ⟨k, rfl, rfl⟩
  · cases a with
    | non => cases ra.non; cases rx; cases e; exact ⟨rfl, rfl⟩
    | bl j => cases ra.bl; cases rx; cases e; exact ⟨rfl, rfl⟩
    | int j => cases ra.int; obtain ⟨t, rfl⟩ := rx; cases e; exact ⟨rfl, rfl⟩
    | str j => cases ra.str.1; obtain ⟨t, rfl⟩ := rx; cases e; exact ⟨rfl, rfl⟩
    | fn j => cases e
    | scr j => cases e
    | _ => obtain ⟨p, rfl⟩ := hr rfl; cases e; exact ⟨rfl, rfl⟩
  · cases a with
    | non => cases ra.non; cases rx; cases e; exact ⟨rfl, rfl⟩
    | bl j =>
      cases ra.bl; cases rx
      have e : some (j == k) = some d := e
      cases e
      refine ⟨rfl, ?_⟩
      cases j <;> cases k <;> rfl
    | int j => cases ra.int; obtain ⟨t, rfl⟩ := rx; cases e; exact ⟨rfl, rfl⟩
    | str j => cases ra.str.1; obtain ⟨t, rfl⟩ := rx; cases e; exact ⟨rfl, rfl⟩
    | tup j => obtain ⟨p, rfl⟩ := hr rfl; cases e; exact ⟨rfl, rfl⟩
    | lst j => obtain ⟨p, rfl⟩ := hr rfl; cases e; exact ⟨rfl, rfl⟩
    | _ => cases e
end
theorem opIs_ok {X : Cx} : OpR X (compareOp .Is) (rCmp X.K isD) := by
  rintro pins s σ H x y v u Q I rx ry ⟨Hs, ρ, B, a, b, d, le, bx, ra, rb, e, h⟩
  obtain ⟨h1, h2⟩ := is_val e ra rb rx ry
  refine wpAny_is_plain h1 ?_
  rw [h2]
  exact ⟨.bl d, H, I, rfl, h.bl le bx⟩
theorem opIsN_ok {X : Cx} : OpR X (compareOp .IsNot) (rCmp X.K fun a b => (isD a b).map not) := by
  rintro pins s σ H x y v u Q I rx ry ⟨Hs, ρ, B, a, b, d, le, bx, ra, rb, e0, h⟩
  obtain ⟨d', e, rfl⟩ := Option.map_eq_some_iff.mp e0
  obtain ⟨h1, h2⟩ := is_val e ra rb rx ry
  refine wpAny_isNot_plain h1 ?_
  rw [h2]
  exact ⟨.bl _, H, I, rfl, h.bl le bx⟩
theorem opC_ok {X : Cx} (hu : X.A.units + 70 < cLine) (o : Cop) : OpR X (compareOp (pyC o)) (rCmp X.K (opC o)) := by
  cases o with
  | eq => exact opEq_ok hu
  | ne => exact opNe_ok hu
  | lt => exact opLt_ok hu
  | le => exact opLe_ok
  | gt => exact opGt_ok hu
  | ge => exact opGe_ok
  | is => exact opIs_ok
  | isNot => exact opIsN_ok
  | isIn => exact opIn_ok hu
  | notIn => exact opNotIn_ok hu

/-! ### readings -/
def sOk (l : List Nat) : Bool := l.all (· < 128) && decide (l.length ≤ 1000000)
theorem sOk_ok {l : List Nat} (h : sOk l = true) : SOk l := by
  rw [sOk, Bool.and_eq_true] at h
  refine ⟨fun c hc => of_decide_eq_true (List.all_eq_true.mp h.1 c hc), ?_⟩
  have := of_decide_eq_true h.2
  show l.length ≤ 16777216
  omega
theorem Yld.f {K : PySem.W.Frag} {Hs H : Hp} {ρ : List Addr} {p : Bool} {B : List D} {d : D} {Q : VK} (h : Yld K p Hs ρ H B d Q) : Yld K false Hs ρ H B d Q :=
  fun v H' Hs' ρ' g l b r => h v H' Hs' ρ' g l b (.inl r.val)
structure EOk (X : Cx) (Φ : Fn) (W : WX) (pe : Expr) (ie : E) : Prop where
  run : ∀ p, PE X pe (rdE X.K Φ W p ie)
structure TOk (X : Cx) (Φ : Fn) (W : WX) (pe : Expr) (ie : E) : Prop where
  run : PT X pe (rdT X.K Φ W ie)
structure WOk (X : Cx) (Φ : Fn) (W : WX) (pe : Expr) (ie : E) : Prop where
  run : PW X pe (rdT X.K Φ W ie)
theorem WOk.t {X : Cx} {Φ : Fn} {W : WX} {pe : Expr} {ie : E} (h : WOk X Φ W pe ie) : TOk X Φ W pe ie := ⟨h.run.pt⟩
theorem Out.isB {K : PySem.W.Frag} {Hs H : Hp} {ρ : List Addr} {W : XK} {p : Bool} {x : D} {f : Bool → Rs (D × List D)} {Q : VK} (h : Out K W p Hs ρ H (isB x f) Q) : ∃ k, x = .bl k ∧ Out K W p Hs ρ H (f k) Q := by
  cases x with
  | bl b => exact ⟨b, rfl, h⟩
  | _ => exact h.elim
section
variable {X : Cx} {Φ : Fn} {W : WX} {a b c : Expr} {ia ib ic : E} {pos : Pos}
theorem e_var {i : Nat} {x : Str} (hN : X.N[i]? = some x) (hv : Vis X.env.scope x) (hd : (x == ("__debug__" : Str)) = false := by decide) (hcd : (x == ("__classdict__" : Str)) = false := by decide) : EOk X Φ W (.Name x pos) (.var i) :=
  ⟨fun p => (pe_var hN hv hd hcd).weaken fun σV H Q ⟨Hs, ρ, σ, B, st, out⟩ => by
    have hl : ∃ d, σ[i]? = some (.val d) ∧ Yld X.K p Hs ρ H B d Q := by
      unfold ev at out
      split at out
      · rename_i d e; exact ⟨d, e, out⟩
      · exact out.elim
    obtain ⟨d, e, y⟩ := hl
    obtain ⟨v, e1, r⟩ := st.sl i _ e
    refine ⟨v, ?_, y.here st.le st.bx r⟩
    cases q : σV[i]? with
    | none => rw [q] at e1; cases e1
    | some o => rw [q] at e1; cases o <;> cases e1; rfl⟩
theorem e_own {i : Nat} {x : Str} (hN : X.N[i]? = some x) (hv : Vis X.env.scope x) (hd : (x == ("__debug__" : Str)) = false := by decide) (hcd : (x == ("__classdict__" : Str)) = false := by decide) : EOk X Φ W (.Name x pos) (.own i) :=
  ⟨fun p => (pe_var hN hv hd hcd).weaken fun σV H Q ⟨Hs, ρ, σ, B, st, out⟩ => by
    have hl : p = true ∧ ∃ d, σ[i]? = some (.own d) ∧ Yld X.K p Hs ρ H B d Q := by
      unfold ev at out
      split at out
      · rename_i d e _; exact ⟨rfl, d, e, out⟩
      · exact out.elim
    obtain ⟨hp, d, e, y⟩ := hl
    obtain ⟨q, e1, r, n, nr⟩ := st.sl i _ e
    refine ⟨.ref q, ?_, y _ H Hs ρ .refl st.le st.bx (.inr ⟨hp, q, rfl, r, n, nr⟩)⟩
    cases q : σV[i]? with
    | none => rw [q] at e1; cases e1
    | some o => rw [q] at e1; cases o <;> cases e1; rfl⟩
/-- a constant -/
theorem e_c {e : Expr} {v : V} {d : D} (h : PE X e (tC v)) (r : ∀ Hs ρ, Rep X.K Hs ρ d v) : EOk X Φ W e (.cst d) :=
  ⟨fun p => h.weaken fun σV H Q ⟨Hs, ρ, σ, B, st, out⟩ => Yld.here (show Yld X.K p Hs ρ H B d Q from out) st.le st.bx (r Hs ρ)⟩
theorem e_int {i : Int} {j} : EOk X Φ W (.Constant (.int i) j pos) (.cst (.int i)) := e_c pe_int fun _ _ => .int i
theorem e_bl {i : Bool} {j} : EOk X Φ W (.Constant (.bool i) j pos) (.cst (.bl i)) := e_c pe_bl fun _ _ => .bl i
theorem e_non {j} : EOk X Φ W (.Constant .none j pos) (.cst .non) := e_c pe_non fun _ _ => .non
theorem e_str {x : Str} {l : List Nat} {j} (h : x = mk l) (hl : sOk l = true) : EOk X Φ W (.Constant (.str x) j pos) (.cst (.str l)) :=
  e_c pe_str fun _ _ => by
    rw [h]
    exact .str (sOk_ok hl)
/-- a module's text or int -/
theorem e_globS {x z : Str} {t : Tok} {l : List Nat} (hg : Gl X x) (hm : X.mg x = some (.str z t)) (h : z = mk l) (hl : sOk l = true) (hd : (x == ("__debug__" : Str)) = false := by decide) : EOk X Φ W (.Name x pos) (.cst (.str l)) :=
  e_c (v := .str z) (pe_glob hg hm ⟨t, rfl⟩ hd) fun _ _ => by
    rw [h]
    exact .str (sOk_ok hl)
theorem e_globI {x : Str} {t : Tok} {i : Int} (hg : Gl X x) (hm : X.mg x = some (.int i t)) (hd : (x == ("__debug__" : Str)) = false := by decide) : EOk X Φ W (.Name x pos) (.cst (.int i)) :=
  e_c (v := .int i) (pe_glob hg hm ⟨t, rfl⟩ hd) fun _ _ => .int i
theorem op_core {R : Hp → List Addr → Hp → D × List D → Prop} (hR : Shf R) {σV : L2.St} {H : Hp} {Q : VK} {p : Bool} {o : Bop} (hq : ∀ Hs ρ H x, R Hs ρ H x → YldN X.K Hs ρ H x.2 x.1 Q)
    (h : ∃ Hs ρ σ B, Stt X.K Hs ρ H σV σ B ∧ OutG X.K (fun c d h => W c d σV h) Hs ρ H (ev Φ p (.bin o ia ib) σ B) (R Hs ρ H)) : tOp (rBin X.K (opB o)) (rdE X.K Φ W true ia) (rdE X.K Φ W true ib) σV H Q := by
  obtain ⟨Hs, ρ, σ, B, st, out⟩ := h
  refine ⟨Hs, ρ, σ, B, st, OutG.bindE hR out fun x B1 v H1 Hs1 ρ1 g1 l1 b1 r1 out => ?_⟩
  refine ⟨Hs1, ρ1, σ, B1, st.grow g1 l1 b1, OutG.bindE hR out fun y B2 u H2 Hs2 ρ2 g2 l2 b2 r2 out => ?_⟩
  obtain ⟨d, hd, out⟩ := OutG.of out
  exact ⟨Hs2, ρ2, B2, _, _, d, l2, b2, drf_ok (r1.grow g2) b2, drf_ok r2 b2, hd, hq _ _ _ (d, B2) out⟩
structure FOk (X : Cx) (Φ : Fn) (W : WX) (pe : Expr) (ie : E) : Prop where
  run : PE X pe (rdF X.K Φ W ie)
theorem e_op {op : Operator} {o : Bop} (ho : op = pyB o) (ha : EOk X Φ W a ia) (hb : EOk X Φ W b ib) : EOk X Φ W (.BinOp a op b pos) (.bin o ia ib) :=
  ⟨fun p => by
    subst ho
    exact (pe_op (opB_ok o) (ha.run true) (hb.run true)).weaken fun σV H Q h => op_core Yld.shf (fun _ _ _ _ h => .of h) h⟩
theorem f_op {op : Operator} {o : Bop} (ho : op = pyB o) (ha : EOk X Φ W a ia) (hb : EOk X Φ W b ib) : FOk X Φ W (.BinOp a op b pos) (.bin o ia ib) :=
  ⟨by
    subst ho
    exact (pe_op (opB_ok o) (ha.run true) (hb.run true)).weaken fun σV H Q h => op_core YldF.shf (fun _ _ _ _ h => .ofF h) h⟩
theorem cmp_core {σV : L2.St} {H : Hp} {Q : VK} {p : Bool} {o : Cop} (h : rdE X.K Φ W p (.cmp o ia ib) σV H Q) : tOp (rCmp X.K (opC o)) (rdE X.K Φ W true ia) (rdE X.K Φ W true ib) σV H Q := by
  obtain ⟨Hs, ρ, σ, B, st, out⟩ := h
  refine ⟨Hs, ρ, σ, B, st, Out.bind (p := p) (Q := Q) out fun x B1 v H1 Hs1 ρ1 g1 l1 b1 r1 out => ?_⟩
  refine ⟨Hs1, ρ1, σ, B1, st.grow g1 l1 b1, Out.bind (p := p) (Q := Q) out fun y B2 u H2 Hs2 ρ2 g2 l2 b2 r2 out => ?_⟩
  obtain ⟨d, hd, out⟩ := Out.of out
  exact ⟨Hs2, ρ2, B2, _, _, d, l2, b2, drf_ok (r1.grow g2) b2, drf_ok r2 b2, hd, Yld.f out⟩
theorem e_cmp {op : CmpOp} {o : Cop} (hu : X.A.units + 70 < cLine) (ho : op = pyC o) (ha : EOk X Φ W a ia) (hb : EOk X Φ W b ib) (hm : behindInMarks op b = false) : EOk X Φ W (.Compare a [op] [b] pos) (.cmp o ia ib) :=
  ⟨fun p => by
    subst ho
    exact (pe_cmpR (opC_ok hu o) (ha.run true) (hb.run true) hm).weaken fun σV H Q h => cmp_core h⟩
theorem t_cmp {op : CmpOp} {o : Cop} (hu : X.A.units + 70 < cLine) (ho : op = pyC o) (ha : EOk X Φ W a ia) (hb : EOk X Φ W b ib) (hm : behindInMarks op b = false) : TOk X Φ W (.Compare a [op] [b] pos) (.cmp o ia ib) :=
  ⟨by
    subst ho
    exact (pt_cmpR (opC_ok hu o) (ha.run true) (hb.run true) hm).weaken fun σV H Q h => cmp_core h⟩
theorem chain_core {σV : L2.St} {H : Hp} {Q : VK} {p : Bool} {o q : Cop} (h : rdE X.K Φ W p (.chain o q ia ib ic) σV H Q) : tChain (rCmp X.K (opC o)) (rCmp X.K (opC q)) (rdE X.K Φ W true ia) (rdE X.K Φ W true ib) (rdE X.K Φ W true ic) σV H Q := by
  obtain ⟨Hs, ρ, σ, B, st, out⟩ := h
  refine ⟨Hs, ρ, σ, B, st, Out.bind (p := p) (Q := Q) out fun x B1 v H1 Hs1 ρ1 g1 l1 b1 r1 out => ?_⟩
  refine ⟨Hs1, ρ1, σ, B1, st.grow g1 l1 b1, Out.bind (p := p) (Q := Q) out fun y B2 u H2 Hs2 ρ2 g2 l2 b2 r2 out => ?_⟩
  obtain ⟨d, hd, out⟩ := Out.of out
  refine ⟨Hs2, ρ2, B2, _, _, d, l2, b2, drf_ok (r1.grow g2) b2, drf_ok r2 b2, hd, ?_⟩
  intro z H3 Hs3 ρ3 g3 l3 b3 r3
  have r3' := r3.val
  cases r3'
  refine ⟨d, rfl, ?_⟩
  cases d with
  | false => exact Yld.here (p := p) (Yld.shift out g3) l3 b3 (.bl false)
  | true =>
    refine ⟨Hs3, ρ3, σ, B2, (st.grow ((g1.trans g2).trans g3) l3 b3), Out.bind (p := p) (Q := Q) (Out.shift out g3) fun w B4 u' H4 Hs4 ρ4 g4 l4 b4 r4 out => ?_⟩
    obtain ⟨d', hd', out⟩ := Out.of out
    exact ⟨Hs4, ρ4, B4, _, _, d', l4, b4, drf_ok ((r2.grow g3).grow g4) b4, drf_ok r4 b4, hd', Yld.f out⟩
theorem e_chain {op op' : CmpOp} {o q : Cop} (hu : X.A.units + 70 < cLine) (ho : op = pyC o) (ho' : op' = pyC q) (ha : EOk X Φ W a ia) (hb : EOk X Φ W b ib) (hc : EOk X Φ W c ic) (hm : lastMarks [op, op'] [b, c] = false) : EOk X Φ W (.Compare a [op, op'] [b, c] pos) (.chain o q ia ib ic) :=
  ⟨fun p => by
    subst ho ho'
    exact (pe_chain (opC_ok hu o) (opC_ok hu q) (ha.run true) (hb.run true) (hc.run true) hm).weaken fun σV H Q h => chain_core h⟩
theorem t_chain {op op' : CmpOp} {o q : Cop} (hu : X.A.units + 70 < cLine) (ho : op = pyC o) (ho' : op' = pyC q) (ha : EOk X Φ W a ia) (hb : EOk X Φ W b ib) (hc : EOk X Φ W c ic) (hm : lastMarks [op, op'] [b, c] = false) : TOk X Φ W (.Compare a [op, op'] [b, c] pos) (.chain o q ia ib ic) :=
  ⟨by
    subst ho ho'
    exact (pt_chain (opC_ok hu o) (opC_ok hu q) (ha.run true) (hb.run true) (hc.run true) hm).weaken fun σV H Q h => chain_core h⟩
theorem t_val (h : EOk X Φ W a ia) (he : ∀ whole, isTrue a X.env whole = (do let v ← whole; standAt a.pos; holding [v] (truthy v))) : TOk X Φ W a ia :=
  ⟨(pt_val (h.run false) he).weaken fun σV H Q h => h⟩
/-- the bool of a test -/
theorem bl_of {K : PySem.W.Frag} {Hs H : Hp} {ρ : List Addr} {k : Bool} {v : V} (r : RelP K false Hs ρ H (.bl k) v) : v = .bl k := by
  have r := r.val
  cases r; rfl
variable {rest : List Expr}
theorem e_one {op} (h : EOk X Φ W a ia) : EOk X Φ W (.BoolOp op [a] pos) ia := ⟨fun p => pe_one (h.run p)⟩
theorem e_and (ha : EOk X Φ W a ia) (hb : EOk X Φ W (.BoolOp .And (b :: rest) pos) ib) : EOk X Φ W (.BoolOp .And (a :: b :: rest) pos) (.and ia ib) :=
  ⟨fun p => (pe_and (ha.run false) (hb.run false)).weaken fun σV H Q ⟨Hs, ρ, σ, B, st, out⟩ => by
    refine ⟨Hs, ρ, σ, B, st, Out.bind (p := p) (Q := Q) out fun x B1 v H1 Hs1 ρ1 g1 l1 b1 r1 out => ?_⟩
    obtain ⟨k, rfl, out⟩ := out.isB
    refine ⟨k, bl_of r1, ?_⟩
    cases k with
    | false => exact Yld.here (p := p) out l1 b1 (.bl false)
    | true =>
      refine ⟨Hs1, ρ1, σ, B1, st.grow g1 l1 b1, ?_⟩
      show Out X.K _ false Hs1 ρ1 H1 (ev Φ false ib σ B1) Q
      have out : Out X.K (fun c d h => W c d σV h) p Hs1 ρ1 H1 (ev Φ false ib σ B1) Q := out
      cases q : ev Φ false ib σ B1 with
      | ok x => rw [q] at out; exact Yld.f out
      | ex c ps B => rw [q] at out; exact out
      | bad => rw [q] at out; exact out⟩
theorem e_or (ha : EOk X Φ W a ia) (hb : EOk X Φ W (.BoolOp .Or (b :: rest) pos) ib) : EOk X Φ W (.BoolOp .Or (a :: b :: rest) pos) (.or ia ib) :=
  ⟨fun p => (pe_or (ha.run false) (hb.run false)).weaken fun σV H Q ⟨Hs, ρ, σ, B, st, out⟩ => by
    refine ⟨Hs, ρ, σ, B, st, Out.bind (p := p) (Q := Q) out fun x B1 v H1 Hs1 ρ1 g1 l1 b1 r1 out => ?_⟩
    obtain ⟨k, rfl, out⟩ := out.isB
    refine ⟨k, bl_of r1, ?_⟩
    cases k with
    | true => exact Yld.here (p := p) out l1 b1 (.bl true)
    | false =>
      refine ⟨Hs1, ρ1, σ, B1, st.grow g1 l1 b1, ?_⟩
      show Out X.K _ false Hs1 ρ1 H1 (ev Φ false ib σ B1) Q
      have out : Out X.K (fun c d h => W c d σV h) p Hs1 ρ1 H1 (ev Φ false ib σ B1) Q := out
      cases q : ev Φ false ib σ B1 with
      | ok x => rw [q] at out; exact Yld.f out
      | ex c ps B => rw [q] at out; exact out
      | bad => rw [q] at out; exact out⟩
theorem e_not (ha : EOk X Φ W a ia) : EOk X Φ W (.UnaryOp .Not a pos) (.not ia) :=
  ⟨fun p => (pe_not (ha.run false)).weaken fun σV H Q ⟨Hs, ρ, σ, B, st, out⟩ => by
    refine ⟨Hs, ρ, σ, B, st, Out.bind (p := p) (Q := Q) out fun x B1 v H1 Hs1 ρ1 g1 l1 b1 r1 out => ?_⟩
    obtain ⟨k, rfl, out⟩ := out.isB
    exact ⟨k, bl_of r1, Yld.here (p := p) out l1 b1 (.bl _)⟩⟩
theorem w_one_and (ha : TOk X Φ W a ia) : WOk X Φ W (.BoolOp .And [a] pos) ia := ⟨pw_and1 ha.run⟩
theorem w_one_or (ha : TOk X Φ W a ia) : WOk X Φ W (.BoolOp .Or [a] pos) ia := ⟨pw_or1 ha.run⟩
theorem w_and (ha : TOk X Φ W a ia) (hb : WOk X Φ W (.BoolOp .And (b :: rest) pos) ib) : WOk X Φ W (.BoolOp .And (a :: b :: rest) pos) (.and ia ib) :=
  ⟨(pw_and ha.run hb.run).weaken fun σV H Q ⟨Hs, ρ, σ, B, st, out⟩ => by
    refine ⟨Hs, ρ, σ, B, st, Out.bind (p := false) out fun x B1 v H1 Hs1 ρ1 g1 l1 b1 r1 out => ?_⟩
    obtain ⟨k, rfl, out⟩ := out.isB
    refine ⟨k, bl_of r1, ?_⟩
    cases k with
    | false =>
      obtain ⟨b, e, q⟩ := Yld.here (p := false) out l1 b1 (.bl false)
      cases e
      exact q
    | true => exact ⟨Hs1, ρ1, σ, B1, st.grow g1 l1 b1, out⟩⟩
theorem w_or (ha : TOk X Φ W a ia) (hb : WOk X Φ W (.BoolOp .Or (b :: rest) pos) ib) : WOk X Φ W (.BoolOp .Or (a :: b :: rest) pos) (.or ia ib) :=
  ⟨(pw_or ha.run hb.run).weaken fun σV H Q ⟨Hs, ρ, σ, B, st, out⟩ => by
    refine ⟨Hs, ρ, σ, B, st, Out.bind (p := false) out fun x B1 v H1 Hs1 ρ1 g1 l1 b1 r1 out => ?_⟩
    obtain ⟨k, rfl, out⟩ := out.isB
    refine ⟨k, bl_of r1, ?_⟩
    cases k with
    | true =>
      obtain ⟨b, e, q⟩ := Yld.here (p := false) out l1 b1 (.bl true)
      cases e
      exact q
    | false => exact ⟨Hs1, ρ1, σ, B1, st.grow g1 l1 b1, out⟩⟩
theorem t_not (ha : TOk X Φ W a ia) : TOk X Φ W (.UnaryOp .Not a pos) (.not ia) :=
  ⟨(pt_not ha.run).weaken fun σV H Q ⟨Hs, ρ, σ, B, st, out⟩ => by
    refine ⟨Hs, ρ, σ, B, st, Out.bind (p := false) out fun x B1 v H1 Hs1 ρ1 g1 l1 b1 r1 out => ?_⟩
    obtain ⟨k, rfl, out⟩ := out.isB
    refine ⟨k, bl_of r1, ?_⟩
    obtain ⟨b, e, q⟩ := Yld.here (p := false) out l1 b1 (.bl (!k))
    cases e
    exact q⟩
theorem Out.f {K : PySem.W.Frag} {Hs H : Hp} {ρ : List Addr} {Wk : XK} {p : Bool} {r : Rs (D × List D)} {Q : VK} (h : Out K Wk p Hs ρ H r Q) : Out K Wk false Hs ρ H r Q := by
  cases r with
  | ok x => exact Yld.f h
  | ex c ps B => exact h
  | bad => exact h
theorem e_ite (hc : TOk X Φ W c ic) (ha : EOk X Φ W a ia) (hb : EOk X Φ W b ib) : EOk X Φ W (.IfExp c a b pos) (.ite ic ia ib) :=
  ⟨fun p => (pe_ifExp hc.run (ha.run false) (hb.run false)).weaken fun σV H Q ⟨Hs, ρ, σ, B, st, out⟩ => by
    refine ⟨Hs, ρ, σ, B, st, Out.bind (p := p) out fun x B1 v H1 Hs1 ρ1 g1 l1 b1 r1 out => ?_⟩
    obtain ⟨k, rfl, out⟩ := out.isB
    refine ⟨k, bl_of r1, ?_⟩
    cases k with
    | true => exact ⟨Hs1, ρ1, σ, B1, st.grow g1 l1 b1, out.f⟩
    | false => exact ⟨Hs1, ρ1, σ, B1, st.grow g1 l1 b1, out.f⟩⟩
theorem e_neg (ha : EOk X Φ W a ia) : EOk X Φ W (.UnaryOp .USub a pos) (.neg ia) :=
  ⟨fun p => (pe_un un_neg (ha.run false)).weaken fun σV H Q ⟨Hs, ρ, σ, B, st, out⟩ => by
    refine ⟨Hs, ρ, σ, B, st, Out.bind (p := p) (Q := Q) out fun x B1 v H1 Hs1 ρ1 g1 l1 b1 r1 out => ?_⟩
    cases x with
    | int i =>
      have r := r1.val
      cases r
      exact ⟨i, rfl, Yld.here (p := p) out l1 b1 (.int _)⟩
    | _ => exact out.elim⟩
end
end Pz
end
section
set_option Elab.async false
set_option linter.all false
set_option maxRecDepth 100000
namespace Pz
open PySem PySem.Spec PyProof.Rows L2

/-! ### argument lists -/
def YldL (K : PySem.W.Frag) (p : Bool) (Hs : Hp) (ρ : List Addr) (H : Hp) (B : List D) (ds : List D) (Q : List V → Hp → Prop) : Prop :=
  ∀ vs H' Hs' ρ', Gr Hs H ρ Hs' H' ρ' → Le Hs' H' → BOk K Hs' ρ' H' B → Paired (RelP K p Hs' ρ' H') ds vs → Q vs H'
def OutL (K : PySem.W.Frag) (W : XK) (p : Bool) (Hs : Hp) (ρ : List Addr) (H : Hp) (r : Rs (List D × List D)) (Q : List V → Hp → Prop) : Prop := OutG K W Hs ρ H r fun x => YldL K p Hs ρ H x.2 x.1 Q
section
variable {K : PySem.W.Frag} {Hs Hs' H H' : Hp} {ρ ρ' : List Addr} {W : XK} {p q : Bool}
theorem YldL.shift {B ds : List D} {Q : List V → Hp → Prop} (h : YldL K p Hs ρ H B ds Q) (g : Gr Hs H ρ Hs' H' ρ') : YldL K p Hs' ρ' H' B ds Q :=
  fun v H2 Hs2 ρ2 g2 l b r => h v H2 Hs2 ρ2 (g.trans g2) l b r
theorem YldL.shf {Q : List V → Hp → Prop} : Shf fun Hs ρ H (x : List D × List D) => YldL K p Hs ρ H x.2 x.1 Q := fun _ _ _ _ _ _ _ g h => YldL.shift h g
theorem OutL.bindE {r : Rs (D × List D)} {f : D × List D → Rs (List D × List D)} {Q : List V → Hp → Prop} {R : VK} (h : OutL K W p Hs ρ H (r.bind f) Q)
    (k : ∀ d B' v H' Hs' ρ', Gr Hs H ρ Hs' H' ρ' → Le Hs' H' → BOk K Hs' ρ' H' B' → RelP K q Hs' ρ' H' d v → OutL K W p Hs' ρ' H' (f (d, B')) Q → R v H') : Out K W q Hs ρ H r R := OutG.bindE YldL.shf h k
theorem OutG.bindL {α : Type} {R : Hp → List Addr → Hp → α → Prop} (hR : Shf R) {r : Rs (List D × List D)} {f : List D × List D → Rs α} {Q : List V → Hp → Prop} (h : OutG K W Hs ρ H (r.bind f) (R Hs ρ H))
    (k : ∀ ds B' vs H' Hs' ρ', Gr Hs H ρ Hs' H' ρ' → Le Hs' H' → BOk K Hs' ρ' H' B' → Paired (RelP K q Hs' ρ' H') ds vs → OutG K W Hs' ρ' H' (f (ds, B')) (R Hs' ρ' H') → Q vs H') : OutL K W q Hs ρ H r Q := by
  cases r with
  | ok x => exact fun v H' Hs' ρ' g l b r => k x.1 x.2 v H' Hs' ρ' g l b r (OutG.shift (r := f x) hR h g)
  | ex c ps B => exact h
  | bad => exact h
theorem OutL.bindL {r : Rs (List D × List D)} {f : List D × List D → Rs (List D × List D)} {Q R : List V → Hp → Prop} (h : OutL K W p Hs ρ H (r.bind f) Q)
    (k : ∀ ds B' vs H' Hs' ρ', Gr Hs H ρ Hs' H' ρ' → Le Hs' H' → BOk K Hs' ρ' H' B' → Paired (RelP K q Hs' ρ' H') ds vs → OutL K W p Hs' ρ' H' (f (ds, B')) Q → R vs H') : OutL K W q Hs ρ H r R := OutG.bindL YldL.shf h k
theorem Out.bindL {r : Rs (List D × List D)} {f : List D × List D → Rs (D × List D)} {Q : VK} {R : List V → Hp → Prop} (h : Out K W p Hs ρ H (r.bind f) Q)
    (k : ∀ ds B' vs H' Hs' ρ', Gr Hs H ρ Hs' H' ρ' → Le Hs' H' → BOk K Hs' ρ' H' B' → Paired (RelP K q Hs' ρ' H') ds vs → Out K W p Hs' ρ' H' (f (ds, B')) Q → R vs H') : OutL K W q Hs ρ H r R := OutG.bindL Yld.shf h k
theorem repL_of {ds : List D} {vs : List V} (r : Paired (RelP K false Hs ρ H) ds vs) : RepL K Hs ρ ds vs := by
  induction r with
  | nil => exact .nil
  | cons h _ ih => exact .cons h.val ih
theorem rp_of {B ds : List D} {vs : List V} (r : Paired (RelP K p Hs ρ H) ds vs) (b : BOk K Hs ρ H B) : Paired (RP K Hs ρ H) (ds.map (drf B)) vs := by
  induction r with
  | nil => exact .nil
  | cons h _ ih => exact .cons (drf_ok h b) ih
end
def rdA (K : PySem.W.Frag) (Φ : Fn) (W : WX) (p : Bool) (es : Es) : TA := fun σV H Q => ∃ Hs ρ σ B, Stt K Hs ρ H σV σ B ∧ OutL K (fun c d h => W c d σV h) p Hs ρ H (evs Φ p es σ B) Q
structure AOk (X : Cx) (Φ : Fn) (W : WX) (pe : List Expr) (ie : Es) : Prop where
  run : ∀ p, PA X pe (rdA X.K Φ W p ie)
section
variable {X : Cx} {Φ : Fn} {W : WX} {a b c : Expr} {ia ib ic : E} {pos : Pos} {es : List Expr} {ies : Es}
theorem a_nil : AOk X Φ W [] .nil := ⟨fun p => pa_nil.weaken fun σV H Q ⟨Hs, ρ, σ, B, st, out⟩ => (show YldL X.K p Hs ρ H B [] Q from out) [] H Hs ρ .refl st.le st.bx .nil⟩
theorem a_cons (ha : EOk X Φ W a ia) (hr : AOk X Φ W es ies) (hs : starEach (a :: es) X.env = (false, eval a X.env) :: starEach es X.env := by rfl) : AOk X Φ W (a :: es) (.cons ia ies) :=
  ⟨fun p => (pa_cons (ha.run p) (hr.run p) hs).weaken fun σV H Q ⟨Hs, ρ, σ, B, st, out⟩ => by
    refine ⟨Hs, ρ, σ, B, st, OutL.bindE (p := p) (Q := Q) out fun x B1 v H1 Hs1 ρ1 g1 l1 b1 r1 out => ?_⟩
    refine ⟨Hs1, ρ1, σ, B1, st.grow g1 l1 b1, OutL.bindL (p := p) (Q := Q) out fun ys B2 vs H2 Hs2 ρ2 g2 l2 b2 r2 out => ?_⟩
    exact (show YldL X.K p Hs2 ρ2 H2 B2 (x :: ys) Q from out) (v :: vs) H2 Hs2 ρ2 .refl l2 b2 (.cons (r1.grow g2) r2)⟩
theorem OutG.ite {K : PySem.W.Frag} {Hs H : Hp} {ρ : List Addr} {Wk : XK} {α : Type} {c : Prop} [Decidable c] {r : Rs α} {R : α → Prop} (h : OutG K Wk Hs ρ H (if c then r else .bad) R) : c ∧ OutG K Wk Hs ρ H r R := by
  by_cases z : c
  · rw [if_pos z] at h; exact ⟨z, h⟩
  · rw [if_neg z] at h; exact h.elim
theorem e_tup {k} (h : AOk X Φ W es ies) : EOk X Φ W (.Tuple es k pos) (.tup ies) :=
  ⟨fun p => (pe_tup (h.run false)).weaken fun σV H Q ⟨Hs, ρ, σ, B, st, out⟩ => by
    refine ⟨Hs, ρ, σ, B, st, Out.bindL (p := p) (Q := Q) out fun ds B1 vs H1 Hs1 ρ1 g1 l1 b1 r1 out => ?_⟩
    obtain ⟨hl, out⟩ := OutG.ite out
    have r := repL_of r1
    refine ⟨by rw [← r.length, ln_eq]; exact hl, ?_⟩
    exact Yld.tup (p := p) out l1 b1 r⟩
theorem lst_core {R : Hp → List Addr → Hp → D × List D → Prop} (hR : Shf R) {σV : L2.St} {H : Hp} {Q : VK} {p : Bool} (hq : ∀ Hs ρ H x, R Hs ρ H x → YldN X.K Hs ρ H x.2 x.1 Q)
    (h : ∃ Hs ρ σ B, Stt X.K Hs ρ H σV σ B ∧ OutG X.K (fun c d h => W c d σV h) Hs ρ H (ev Φ p (.lst ies) σ B) (R Hs ρ H)) : tLst (rdA X.K Φ W false ies) σV H Q := by
  obtain ⟨Hs, ρ, σ, B, st, out⟩ := h
  refine ⟨Hs, ρ, σ, B, st, OutG.bindL hR out fun ds B1 vs H1 Hs1 ρ1 g1 l1 b1 r1 out => ?_⟩
  obtain ⟨hl, out⟩ := OutG.ite out
  have r := repL_of r1
  refine ⟨by rw [← r.length, ln_eq]; exact hl, ?_⟩
  exact YldF.lst (hq _ _ _ _ out) l1 b1 r
theorem e_lst (h : AOk X Φ W es ies) : EOk X Φ W (.List es pos) (.lst ies) := ⟨fun p => (pe_lst (h.run false)).weaken fun σV H Q h => lst_core Yld.shf (fun _ _ _ _ h => .of h) h⟩
theorem f_lst (h : AOk X Φ W es ies) : FOk X Φ W (.List es pos) (.lst ies) := ⟨(pe_lst (h.run false)).weaken fun σV H Q h => lst_core YldF.shf (fun _ _ _ _ h => .ofF h) h⟩
theorem e_dnewK : EOk X Φ W (.Dict [] [] pos) (.dnew false) :=
  ⟨fun p => pe_dnewK.weaken fun σV H Q ⟨Hs, ρ, σ, B, st, out⟩ => Yld.dK (p := p) (ds := []) out st.le st.bx .nil⟩
theorem e_dnewT : EOk X Φ W (.Dict [] [] pos) (.dnew true) :=
  ⟨fun p => pe_dnewT.weaken fun σV H Q ⟨Hs, ρ, σ, B, st, out⟩ => Yld.dT (p := p) (ds := []) out st.le st.bx .nil⟩
theorem f_dnewK : FOk X Φ W (.Dict [] [] pos) (.dnew false) :=
  ⟨pe_dnewK.weaken fun σV H Q ⟨Hs, ρ, σ, B, st, out⟩ => YldF.dK (ds := []) out.2 st.le st.bx .nil⟩
theorem f_dnewT : FOk X Φ W (.Dict [] [] pos) (.dnew true) :=
  ⟨pe_dnewT.weaken fun σV H Q ⟨Hs, ρ, σ, B, st, out⟩ => YldF.dT (ds := []) out.2 st.le st.bx .nil⟩

/-! ### subscripts -/
def rSub (K : PySem.W.Frag) : R2 := fun x y H Q => ∃ Hs ρ B a b d, Le Hs H ∧ BOk K Hs ρ H B ∧ RP K Hs ρ H a x ∧ RP K Hs ρ H b y ∧ subD a b = some d ∧ Yld K false Hs ρ H B d Q
theorem atI_rep {K : PySem.W.Frag} {Hs : Hp} {ρ : List Addr} {l : List D} {xs : List V} {i : Int} {d : D} (r : RepL K Hs ρ l xs) (h : Pz.atI l i = some d) : ∃ w, L2.atI xs i = some w ∧ Rep K Hs ρ d w := by
  have h : (Pz.ixN l.length i).bind (fun j => l[j]?) = some d := h
  cases q : Pz.ixN l.length i with
  | none => rw [q] at h; cases h
  | some j =>
    rw [q] at h
    obtain ⟨w, e, rw_⟩ := r.get (show l[j]? = some d from h)
    refine ⟨w, ?_, rw_⟩
    show (L2.ixN xs.length i).bind (fun j => xs[j]?) = some w
    rw [← r.length]
    rw [show L2.ixN l.length i = some j from q]
    exact e
theorem ix_ok (hu : X.A.units + 70 < cLine) : IxR X (rSub X.K) := by
  intro value slice pins s σ H x y v u Q I rx ry ⟨Hs, ρ, B, a, b, d, le, bx, ra, rb, e, h⟩ hs
  cases a with
  | lst l =>
    cases b with
    | int i =>
      obtain ⟨p, xs, rfl, hp, r⟩ := ra.lst le
      obtain rfl := rb.int
      obtain ⟨w, e1, e2⟩ := atI_rep r e
      exact ix_list value slice pins s σ H _ _ v u Q I rx ry ⟨p, xs, i, w, rfl, rfl, SqL.of hp, e1, h.here le bx e2⟩ hs
    | _ => cases e
  | tup l =>
    cases b with
    | int i =>
      obtain ⟨p, xs, rfl, hp, r⟩ := ra.tup le
      obtain rfl := rb.int
      obtain ⟨w, e1, e2⟩ := atI_rep r e
      exact ix_tup value slice pins s σ H _ _ v u Q I rx ry ⟨p, xs, i, w, rfl, rfl, SqT.of hp, e1, h.here le bx e2⟩ hs
    | _ => cases e
  | str l =>
    cases b with
    | int i =>
      obtain ⟨rfl, hl⟩ := ra.str
      obtain rfl := rb.int
      obtain ⟨c, e1, rfl⟩ := Option.map_eq_some_iff.mp (show (Pz.atI l i).map (fun c => D.str [c]) = some d from e)
      have hc : c ∈ l := by
        have e1 : (Pz.ixN l.length i).bind (fun j => l[j]?) = some c := e1
        cases q : Pz.ixN l.length i with
        | none => rw [q] at e1; cases e1
        | some j => rw [q] at e1; exact List.mem_of_getElem? e1
      exact ix_str value slice pins s σ H _ _ v u Q I rx ry ⟨mk l, i, c, rfl, rfl, by rw [mk_len, ln_eq]; exact hl.2, e1, h.here le bx (.str ⟨fun z hz => by cases List.mem_singleton.mp hz; exact hl.1 _ hc, Nat.le_trans (Nat.le_refl 1) (by decide : 1 ≤ ln)⟩)⟩ hs
    | _ => cases e
  | dic t l =>
    obtain ⟨hk, e⟩ := cons_ite' (show (if b.keyOk t = true then kget b l else none) = some d from e)
    obtain ⟨p, o, rfl, g, g1, g2⟩ := dget_of le ra rb hk
    obtain ⟨w, rfl, rw_⟩ := g1 d e
    cases rx
    exact tail_any (dict_typeIs I g) PySem.F.slot_dict_getitem.lookup (d_getItem (by omega) I g ry fun w' s3 I3 r' => ⟨w, H, I3, r', h.here le bx rw_⟩) hs
  | _ => cases e
theorem e_sub (hu : X.A.units + 70 < cLine) (ha : EOk X Φ W a ia) (hb : EOk X Φ W b ib) (hs : PlainIx b) : EOk X Φ W (.Subscript a b pos) (.sub ia ib) :=
  ⟨fun p => by
    refine (pe_ix (ix_ok hu) (ha.run true) (hb.run true) hs).weaken fun σV H Q ⟨Hs, ρ, σ, B, st, out⟩ => ?_
    refine ⟨Hs, ρ, σ, B, st, Out.bind (p := p) (Q := Q) out fun x B1 v H1 Hs1 ρ1 g1 l1 b1 r1 out => ?_⟩
    refine ⟨Hs1, ρ1, σ, B1, st.grow g1 l1 b1, Out.bind (p := p) (Q := Q) out fun y B2 u H2 Hs2 ρ2 g2 l2 b2 r2 out => ?_⟩
    obtain ⟨d, hd, out⟩ := Out.of out
    exact ⟨Hs2, ρ2, B2, _, _, d, l2, b2, drf_ok (r1.grow g2) b2, drf_ok r2 b2, hd, Yld.f out⟩⟩

/-! ### slices -/
theorem sIx_eq (n d : Nat) (o : Option Int) : HT.sIx n d o = Pz.sIx n d o := by cases o <;> rfl
theorem cutV_rep {K : PySem.W.Frag} {Hs : Hp} {ρ : List Addr} {l : List D} {xs : List V} {lo hi : Option Int} (r : RepL K Hs ρ l xs) : RepL K Hs ρ (cutL l lo hi) (cutV xs lo hi) := by
  unfold cutL cutV
  rw [sIx_eq, sIx_eq, r.length]
  exact (r.drop _).take _
theorem RP.rep_tup {K : PySem.W.Frag} {Hs H : Hp} {ρ : List Addr} {l : List D} {v : V} (r : RP K Hs ρ H (.tup l) v) : Rep K Hs ρ (.tup l) v := by
  rcases r with r | ⟨a, _, z⟩
  · exact r
  · exact z.elim
theorem cut_sok {l : List Nat} {lo hi : Option Int} (h : SOk l) : SOk (cutL l lo hi) := by
  refine ⟨fun c hc => h.1 c (List.mem_of_mem_drop (List.mem_of_mem_take hc)), ?_⟩
  unfold cutL
  rw [List.length_take, List.length_drop]
  have := h.2
  omega
theorem cutS_mk (l : List Nat) (lo hi : Option Int) : cutS (mk l) lo hi = mk (cutL l lo hi) := by
  unfold cutL
  rw [← sIx_eq, ← sIx_eq]
  rfl
def rCut (K : PySem.W.Frag) : V → Option Int → Option Int → Hp → VK → Prop := fun x lo hi H Q => ∃ Hs ρ B a d, Le Hs H ∧ BOk K Hs ρ H B ∧ RP K Hs ρ H a x ∧ cutD a lo hi = some d ∧ YldN K Hs ρ H B d Q
theorem sl_ok : SlR X (rCut X.K) := by
  intro pins s σ H x v vl vu lo hi sl Q I rx hs pl pu ⟨Hs, ρ, B, a, d, le, bx, ra, e, h⟩
  cases a with
  | lst l =>
    obtain ⟨p, xs, rfl, hp, r⟩ := ra.lst le
    cases e
    exact sl_list pins s σ H _ v vl vu lo hi sl Q I rx hs pl pu ⟨p, xs, rfl, SqL.of hp, YldF.lst h le bx (cutV_rep r)⟩
  | tup l =>
    have rt := ra.rep_tup
    obtain ⟨p, xs, rfl, hp, r⟩ := ra.tup le
    cases e
    refine sl_tupA pins s σ H _ v vl vu lo hi sl Q I rx hs pl pu ⟨p, xs, rfl, SqT.of hp, fun hw => ?_, fun _ => Yld.tup (p := false) h le bx (cutV_rep r)⟩
    have ec : cutL l lo hi = l := by
      rw [sIx_eq, sIx_eq, ← r.length] at hw
      unfold cutL
      rw [hw.1, hw.2, List.drop_zero, Nat.sub_zero, List.take_length]
    rw [ec] at h
    exact Yld.here (p := false) h le bx rt
  | str l =>
    obtain ⟨rfl, hl⟩ := ra.str
    cases e
    refine sl_str pins s σ H _ v vl vu lo hi sl Q I rx hs pl pu ⟨mk l, rfl, by rw [mk_len, ln_eq]; exact hl.2, ?_⟩
    rw [cutS_mk]
    exact Yld.str (p := false) h le bx (cut_sok hl)
  | _ => cases e
def rdO (K : PySem.W.Frag) (Φ : Fn) (W : WX) (e : E) : TO := fun σV H Q => ∃ Hs ρ σ B, Stt K Hs ρ H σV σ B ∧ Out K (fun c d h => W c d σV h) false Hs ρ H (ev Φ false e σ B) (fun v H' => ∃ d o, part e d = some o ∧ (d = .non → v = .non) ∧ (∀ i, d = .int i → v = .int i) ∧ Q o H')
structure OOk (X : Cx) (Φ : Fn) (W : WX) (pe : Option Expr) (ie : E) : Prop where
  run : PO X pe (rdO X.K Φ W ie)
theorem o_none : OOk X Φ W none .nop :=
  ⟨⟨fun pins s σ H Q I ⟨Hs, ρ, τ, B, st, out⟩ => by
    obtain ⟨d, o, e, e1, e2, q⟩ := Yld.here (p := false) (show Yld X.K false Hs ρ H B .non _ from out) st.le st.bx .non
    have hd : o = none := by
      cases d <;> cases e
      rfl
    subst hd
    exact po_none.run pins s σ H Q I q⟩⟩
theorem o_some (ha : EOk X Φ W a ia) (hn : ia ≠ .nop) : OOk X Φ W (some a) ia :=
  ⟨⟨fun pins s σ H Q I ⟨Hs, ρ, τ, B, st, out⟩ => by
    refine (po_some (ha.run false)).run pins s σ H Q I ⟨Hs, ρ, τ, B, st, ?_⟩
    cases q : ev Φ false ia τ B with
    | ok x =>
      rw [q] at out
      intro v H' Hs' ρ' g l b r
      obtain ⟨d, o, e, e1, e2, q⟩ := out v H' Hs' ρ' g l b r
      have hd : ∃ i, d = .int i ∧ o = some i := by
        cases ia <;> first | exact absurd rfl hn | (cases d <;> cases e; exact ⟨_, rfl, rfl⟩)
      obtain ⟨i, rfl, rfl⟩ := hd
      exact ⟨i, e2 i rfl, q⟩
    | ex c ps B => rw [q] at out; exact out
    | bad => rw [q] at out; exact out⟩⟩
theorem cut_core {R : Hp → List Addr → Hp → D × List D → Prop} (hR : Shf R) {σV : L2.St} {H : Hp} {Q : VK} {p : Bool} {il ih : E} (hq : ∀ Hs ρ H x, R Hs ρ H x → YldN X.K Hs ρ H x.2 x.1 Q)
    (h : ∃ Hs ρ σ B, Stt X.K Hs ρ H σV σ B ∧ OutG X.K (fun c d h => W c d σV h) Hs ρ H (ev Φ p (.cut ia il ih) σ B) (R Hs ρ H)) : tSl (rCut X.K) (rdE X.K Φ W true ia) (rdO X.K Φ W il) (rdO X.K Φ W ih) σV H Q := by
  obtain ⟨Hs, ρ, σ, B, st, out⟩ := h
  refine ⟨Hs, ρ, σ, B, st, OutG.bindE hR out fun x B1 v H1 Hs1 ρ1 g1 l1 b1 r1 out => ?_⟩
  refine ⟨Hs1, ρ1, σ, B1, st.grow g1 l1 b1, OutG.bindE hR out fun y B2 u H2 Hs2 ρ2 g2 l2 b2 r2 out => ?_⟩
  obtain ⟨o1, ho1, out⟩ := OutG.of out
  refine ⟨y, o1, ho1, fun e => ?_, fun i e => ?_, ?_⟩
  · subst e; have r := r2.val; cases r; rfl
  · subst e; have r := r2.val; cases r; rfl
  refine ⟨Hs2, ρ2, σ, B2, st.grow (g1.trans g2) l2 b2, OutG.bindE hR out fun z B3 w H3 Hs3 ρ3 g3 l3 b3 r3 out => ?_⟩
  obtain ⟨o2, ho2, out⟩ := OutG.of out
  refine ⟨z, o2, ho2, fun e => ?_, fun i e => ?_, ?_⟩
  · subst e; have r := r3.val; cases r; rfl
  · subst e; have r := r3.val; cases r; rfl
  obtain ⟨d, hd, out⟩ := OutG.of out
  exact ⟨Hs3, ρ3, B3, _, d, l3, b3, drf_ok ((r1.grow g2).grow g3) b3, hd, hq _ _ _ (d, B3) out⟩
theorem e_cut {lo hi : Option Expr} {il ih : E} {p2 : Pos} (ha : EOk X Φ W a ia) (hl : OOk X Φ W lo il) (hh : OOk X Φ W hi ih) : EOk X Φ W (.Subscript a (.Slice lo hi none p2) pos) (.cut ia il ih) :=
  ⟨fun p => (pe_slice sl_ok (ha.run true) hl.run hh.run).weaken fun σV H Q h => cut_core Yld.shf (fun _ _ _ _ h => .of h) h⟩
theorem f_cut {lo hi : Option Expr} {il ih : E} {p2 : Pos} (ha : EOk X Φ W a ia) (hl : OOk X Φ W lo il) (hh : OOk X Φ W hi ih) : FOk X Φ W (.Subscript a (.Slice lo hi none p2) pos) (.cut ia il ih) :=
  ⟨(pe_slice sl_ok (ha.run true) hl.run hh.run).weaken fun σV H Q h => cut_core YldF.shf (fun _ _ _ _ h => .ofF h) h⟩
end
end Pz
end
section
set_option Elab.async false
set_option linter.all false
set_option maxRecDepth 100000
namespace Pz
open PySem PySem.Spec PyProof.Rows L2

/-! ### the state between statements -/
structure En where
  Hs : Hp
  H : Hp
  ρ : List Addr
structure SSt (K : PySem.W.Frag) (E : En) (Hs : Hp) (ρ : List Addr) (H : Hp) (σV : L2.St) (σ : Sg) (B : List D) : Prop where
  st : Stt K Hs ρ H σV σ B
  gr : Gr E.Hs E.H E.ρ Hs H ρ
  ow : ∀ (i : Nat) (a : Addr) (d : D), σ[i]? = some (.own d) → σV[i]? = some (some (.ref a)) → E.H a = none
section
variable {K : PySem.W.Frag} {E : En} {Hs Hs' H H' : Hp} {ρ ρ' : List Addr} {σV : L2.St} {σ : Sg} {B B' : List D}
theorem SSt.grow (s : SSt K E Hs ρ H σV σ B) (g : Gr Hs H ρ Hs' H' ρ') (l : Le Hs' H') (b : BOk K Hs' ρ' H' B') : SSt K E Hs' ρ' H' σV σ B' := ⟨s.st.grow g l b, s.gr.trans g, s.ow⟩
theorem Stt.slotV (s : Stt K Hs ρ H σV σ B) {i : Nat} {d : D} (e : σ[i]? = some (.own d)) : ∃ a, σV[i]? = some (some (.ref a)) ∧ OwnAt K Hs ρ H a d ∧ Hs a = none ∧ a ∉ ρ := by
  obtain ⟨a, e1, h⟩ := s.sl i _ e
  refine ⟨a, ?_, h⟩
  cases q : σV[i]? with
  | none => rw [q] at e1; cases e1
  | some o => rw [q] at e1; exact congrArg some e1
theorem set_at {α : Type} {l : List α} {i j : Nat} {x y : α} (h : (l.set i x)[j]? = some y) : (i = j ∧ y = x) ∨ (i ≠ j ∧ l[j]? = some y) := by
  by_cases e : i = j
  · subst e
    have hl : i < (l.set i x).length := (List.getElem?_eq_some_iff.mp h).1
    rw [List.length_set] at hl
    rw [List.getElem?_set_self hl] at h
    exact .inl ⟨rfl, (Option.some.inj h).symm⟩
  · rw [List.getElem?_set_ne e] at h
    exact .inr ⟨e, h⟩
/-- a value at a name -/
theorem SSt.setV (s : SSt K E Hs ρ H σV σ B) {i : Nat} {d : D} {v : V} (hi : i < σ.length) (r : Rep K Hs ρ d v) : SSt K E Hs ρ H (σV.set i (some v)) (σ.set i (.val d)) B where
  gr := s.gr
  ow := fun j a e h1 h2 => by
    rcases set_at h1 with ⟨_, q⟩ | ⟨q, h1⟩
    · cases q
    · rw [List.getElem?_set_ne q] at h2
      exact s.ow j a e h1 h2
  st := {
    le := s.st.le
    bx := s.st.bx
    len := by rw [List.length_set, List.length_set]; exact s.st.len
    sl := fun j x h => by
      rcases set_at h with ⟨q, rfl⟩ | ⟨q, h⟩
      · subst q
        rw [List.getElem?_set_self (by rw [s.st.len]; exact hi)]
        exact ⟨v, rfl, r⟩
      · rw [List.getElem?_set_ne q]
        exact s.st.sl j x h
    di := fun j k a d1 d2 h1 h2 h3 h4 => by
      rcases set_at h1 with ⟨_, q⟩ | ⟨q1, h1⟩
      · cases q
      rcases set_at h2 with ⟨_, q⟩ | ⟨q2, h2⟩
      · cases q
      rw [List.getElem?_set_ne q1] at h3
      rw [List.getElem?_set_ne q2] at h4
      exact s.st.di j k a d1 d2 h1 h2 h3 h4 }
/-- an owned thing at a name -/
theorem SSt.setO (s : SSt K E Hs ρ H σV σ B) {i : Nat} {d : D} {a : Addr} (hi : i < σ.length) (r : OwnAt K Hs ρ H a d) (n : Hs a = none) (nr : a ∉ ρ) (ne : E.H a = none)
    (nd : ∀ (j : Nat) (e : D), σ[j]? = some (.own e) → σV[j]? ≠ some (some (.ref a))) : SSt K E Hs ρ H (σV.set i (some (.ref a))) (σ.set i (.own d)) B where
  gr := s.gr
  ow := fun j b e h1 h2 => by
    rcases set_at h1 with ⟨q, _⟩ | ⟨q, h1⟩
    · subst q
      rw [List.getElem?_set_self (by rw [s.st.len]; exact hi)] at h2
      cases h2
      exact ne
    · rw [List.getElem?_set_ne q] at h2
      exact s.ow j b e h1 h2
  st := {
    le := s.st.le
    bx := s.st.bx
    len := by rw [List.length_set, List.length_set]; exact s.st.len
    sl := fun j x h => by
      rcases set_at h with ⟨q, rfl⟩ | ⟨q, h⟩
      · subst q
        rw [List.getElem?_set_self (by rw [s.st.len]; exact hi)]
        exact ⟨a, rfl, r, n, nr⟩
      · rw [List.getElem?_set_ne q]
        exact s.st.sl j x h
    di := fun j k b d1 d2 h1 h2 h3 h4 => by
      rcases set_at h1 with ⟨q1, _⟩ | ⟨q1, h1⟩
      · subst q1
        rw [List.getElem?_set_self (by rw [s.st.len]; exact hi)] at h3
        cases h3
        rcases set_at h2 with ⟨q2, _⟩ | ⟨q2, h2⟩
        · exact q2
        · rw [List.getElem?_set_ne q2] at h4
          exact absurd h4 (nd k d2 h2)
      · rw [List.getElem?_set_ne q1] at h3
        rcases set_at h2 with ⟨q2, _⟩ | ⟨q2, h2⟩
        · subst q2
          rw [List.getElem?_set_self (by rw [s.st.len]; exact hi)] at h4
          cases h4
          exact absurd h3 (nd j d1 h1)
        · rw [List.getElem?_set_ne q2] at h4
          exact s.st.di j k b d1 d2 h1 h2 h3 h4 }
/-- nothing at a name -/
theorem SSt.mut (s : SSt K E Hs ρ H σV σ B) {i : Nat} {d c : D} {a : Addr} {o : HO} (e : σ[i]? = some (.own d)) (ea : σV[i]? = some (some (.ref a))) (r : OwnAt K Hs ρ (upd H a o) a c) : SSt K E Hs ρ (upd H a o) σV (σ.set i (.own c)) B := by
  obtain ⟨a', ea', hw, n, nr⟩ := s.st.slotV e
  have hae : a' = a := by rw [ea] at ea'; cases ea'; rfl
  subst hae
  have ne := s.ow i a' d e ea
  obtain ⟨u, hu⟩ := hw.some_
  have hi : i < σ.length := (List.getElem?_eq_some_iff.mp e).1
  have hne : ∀ b w, Hs b = some w → b ≠ a' := fun b w q => ne_of_none q n
  refine ⟨⟨fun b w q => ?_, ⟨s.st.bx.len, s.st.bx.nd, fun m b f e1 e2 => ?_⟩, by rw [List.length_set]; exact s.st.len, fun j x h => ?_, fun j k b d1 d2 h1 h2 h3 h4 => ?_⟩, ⟨s.gr.hs, s.gr.fr, fun b w q nb => ?_, fun b w q => ?_, s.gr.rp, s.gr.rn⟩, fun j b f h1 h2 => ?_⟩
  · rw [upd_ne (hne b w q)]
    exact s.st.le b w q
  · obtain ⟨hb, hn⟩ := s.st.bx.at_ m b f e1 e2
    refine ⟨hb.mono (Le.refl _) (List.prefix_refl _) (upd_ne fun z => nr (by rw [← z]; exact List.mem_of_getElem? e1)), hn⟩
  · rcases set_at h with ⟨q, rfl⟩ | ⟨q, h⟩
    · subst q
      rw [ea]
      exact ⟨a', rfl, r, n, nr⟩
    · have hs := s.st.sl j x h
      cases x with
      | no => trivial
      | val f => exact hs
      | own f =>
        obtain ⟨b, hb, h2⟩ := s.st.slotV h
        rw [hb]
        refine ⟨b, rfl, h2.1.mono (Le.refl _) (List.prefix_refl _) (upd_ne fun z => q ?_), h2.2⟩
        subst z
        exact s.st.di i j b d f e h ea hb
  · have back : ∀ (j : Nat) (f : D), (σ.set i (.own c))[j]? = some (.own f) → ∃ f', σ[j]? = some (.own f') := fun j f h => by
      rcases set_at h with ⟨q, _⟩ | ⟨q, h⟩
      · subst q; exact ⟨d, e⟩
      · exact ⟨f, h⟩
    obtain ⟨f1, h1⟩ := back j d1 h1
    obtain ⟨f2, h2⟩ := back k d2 h2
    exact s.st.di j k b f1 f2 h1 h2 h3 h4
  · rw [upd_ne (ne_of_none q ne)]
    exact s.gr.kp b w q nb
  · by_cases z : b = a'
    · subst z; exact ⟨_, upd_same⟩
    · rw [upd_ne z]
      exact s.gr.th b w q
  · rcases set_at h1 with ⟨q, _⟩ | ⟨q, h1⟩
    · subst q
      exact s.ow i b d e h2
    · exact s.ow j b f h1 h2
/-- a box is written -/
theorem SSt.mutB (s : SSt K E Hs ρ H σV σ B) {n : Nat} {c c' : D} {a : Addr} {o : HO} (e : B[n]? = some c) (ea : ρ[n]? = some a) (r : OwnAt K Hs ρ (upd H a o) a c') : SSt K E Hs ρ (upd H a o) σV σ (B.set n c') := by
  obtain ⟨hw, hn⟩ := s.st.bx.at_ n a c ea e
  obtain ⟨u, hu⟩ := hw.some_
  have hne : ∀ b w, Hs b = some w → b ≠ a := fun b w q => ne_of_none q hn
  have har : a ∈ ρ := List.mem_of_getElem? ea
  refine ⟨⟨fun b w q => ?_, ⟨by rw [List.length_set]; exact s.st.bx.len, s.st.bx.nd, fun m b f e1 e2 => ?_⟩, s.st.len, fun j x h => ?_, s.st.di⟩, ⟨s.gr.hs, s.gr.fr, fun b w q nb => ?_, fun b w q => ?_, s.gr.rp, s.gr.rn⟩, s.ow⟩
  · rw [upd_ne (hne b w q)]
    exact s.st.le b w q
  · rcases set_at e2 with ⟨q, rfl⟩ | ⟨q, e2⟩
    · subst q
      rw [ea] at e1; cases e1
      exact ⟨r, hn⟩
    · obtain ⟨hb, hn2⟩ := s.st.bx.at_ m b f e1 e2
      refine ⟨hb.mono (Le.refl _) (List.prefix_refl _) (upd_ne fun z => q ?_), hn2⟩
      subst z
      exact (List.getElem?_inj (List.getElem?_eq_some_iff.mp ea).1 s.st.bx.nd).mp (ea.trans e1.symm)
  · have hs := s.st.sl j x h
    cases x with
    | no => trivial
    | val f => exact hs
    | own f =>
      obtain ⟨b, hb, h2⟩ := hs
      exact ⟨b, hb, h2.1.mono (Le.refl _) (List.prefix_refl _) (upd_ne fun z => h2.2.2 (by rw [z]; exact har)), h2.2⟩
  · refine (upd_ne fun z => ?_).trans (s.gr.kp b w q nb)
    subst z
    rcases s.gr.rn b har with k | k
    · exact nb k
    · rw [q] at k; cases k
  · by_cases z : b = a
    · subst z; exact ⟨_, upd_same⟩
    · rw [upd_ne z]
      exact s.gr.th b w q

/-! ### owned things given away -/
theorem SSt.frz1 (s : SSt K E Hs ρ H σV σ B) (i : Nat) : ∃ Hs', SSt K E Hs' ρ H σV (σ.modify i frzS) B := by
  have same : (∀ d, σ[i]? ≠ some (.own d)) → σ.modify i frzS = σ := fun h => by
    refine List.ext_getElem? fun j => ?_
    rw [List.getElem?_modify]
    by_cases e : i = j
    · subst e
      cases q : σ[i]? with
      | none => rfl
      | some x =>
        cases x with
        | own d => exact absurd q (h d)
        | _ => simp [frzS]
    · simp [e]
  cases q : σ[i]? with
  | none => exact ⟨Hs, by rw [same (fun d => by rw [q]; simp)]; exact s⟩
  | some x =>
    cases x with
    | no => exact ⟨Hs, by rw [same (fun d => by rw [q]; simp)]; exact s⟩
    | val d => exact ⟨Hs, by rw [same (fun d => by rw [q]; simp)]; exact s⟩
    | own d =>
      obtain ⟨a, ea, hw, n, nr⟩ := s.st.slotV q
      obtain ⟨o, ho⟩ := hw.some_
      have ne := s.ow i a d q ea
      have at_ : ∀ (j : Nat) (x : Sl), (σ.modify i frzS)[j]? = some x → (i = j ∧ x = .val d) ∨ (i ≠ j ∧ σ[j]? = some x) := fun j x h => by
        rw [List.getElem?_modify] at h
        by_cases e : i = j
        · subst e
          rw [q] at h
          simp [frzS] at h
          exact .inl ⟨rfl, h.symm⟩
        · simp [e] at h
          exact .inr ⟨e, h⟩
      have ls := hs_share (o := o) n
      refine ⟨upd Hs a o, ⟨le_share s.st.le ho, bok_share s.st.bx n nr, by rw [List.length_modify]; exact s.st.len, fun j x h => ?_, fun j k b d1 d2 h1 h2 h3 h4 => ?_⟩, ⟨fun b w e => ?_, fun b w e => ?_, s.gr.kp, s.gr.th, s.gr.rp, s.gr.rn⟩, fun j b f h1 h2 => ?_⟩
      · rcases at_ j x h with ⟨z, rfl⟩ | ⟨z, h⟩
        · subst z
          rw [ea]
          exact ⟨_, rfl, OwnAt.rep ls (List.prefix_refl _) (by rw [upd_same]; exact ho.symm) hw⟩
        · have hs := s.st.sl j x h
          cases x with
          | no => trivial
          | val f =>
            obtain ⟨v, e1, r⟩ := hs
            exact ⟨v, e1, r.mono ls (List.prefix_refl _)⟩
          | own f =>
            obtain ⟨b, hb, h2⟩ := s.st.slotV h
            rw [hb]
            refine ⟨b, rfl, h2.1.mono ls (List.prefix_refl _) rfl, ?_, h2.2.2⟩
            rw [upd_ne fun w => z ?_]
            · exact h2.2.1
            · subst w
              exact s.st.di i j b d f q h ea hb
      · rcases at_ j _ h1 with ⟨_, z⟩ | ⟨_, h1⟩
        · cases z
        rcases at_ k _ h2 with ⟨_, z⟩ | ⟨_, h2⟩
        · cases z
        exact s.st.di j k b d1 d2 h1 h2 h3 h4
      · have k := s.gr.hs b w e
        rw [upd_ne (ne_of_none k n)]
        exact k
      · by_cases z : b = a
        · subst z; exact .inr ne
        · rw [upd_ne z] at e
          exact s.gr.fr b w e
      · rcases at_ j _ h1 with ⟨_, z⟩ | ⟨_, h1⟩
        · cases z
        exact s.ow j b f h1 h2
theorem SSt.frz : ∀ {is : List Nat} {Hs : Hp} {σ : Sg}, SSt K E Hs ρ H σV σ B → ∃ Hs', SSt K E Hs' ρ H σV (frzAt is σ) B
  | [], Hs, _, s => ⟨Hs, s⟩
  | i :: is, Hs, σ, s => by
    obtain ⟨Hs1, s1⟩ := s.frz1 i
    exact SSt.frz (is := is) s1
theorem frzAt_at : ∀ (is : List Nat) (σ : Sg) (j : Nat), (frzAt is σ)[j]? = if j ∈ is then (σ[j]?).map frzS else σ[j]?
  | [], σ, j => by simp [frzAt]
  | i :: is, σ, j => by
    show (frzAt is (σ.modify i frzS))[j]? = _
    rw [frzAt_at is, List.getElem?_modify]
    by_cases e : i = j
    · subst e
      by_cases h : i ∈ is
      · rw [if_pos h, if_pos (List.mem_cons_self)]
        cases σ[i]? with
        | none => rfl
        | some x => cases x <;> simp [frzS]
      · rw [if_neg h, if_pos (List.mem_cons_self)]
        simp
    · have : j ≠ i := fun z => e z.symm
      simp [e, this]
theorem frzAll_eq (σ : Sg) : frzAll σ = frzAt (List.range σ.length) σ := by
  refine List.ext_getElem? fun j => ?_
  rw [frzAt_at]
  unfold frzAll
  rw [List.getElem?_map]
  by_cases h : j < σ.length
  · rw [if_pos (List.mem_range.mpr h)]
  · rw [List.getElem?_eq_none (by omega)]
    simp
theorem SSt.frzA (s : SSt K E Hs ρ H σV σ B) : ∃ Hs', SSt K E Hs' ρ H σV (frzAll σ) B := by
  rw [frzAll_eq]
  exact s.frz
end

/-! ### readings of statements -/
def EndAt (K : PySem.W.Frag) (D_ : Ends) (Hs : Hp) (ρ : List Addr) (H : Hp) (σV : L2.St) (fl : Fl) : Prop :=
  match fl with
  | .next => D_.nx σV H
  | .brk => D_.bk σV H
  | .cnt => D_.ct σV H
  | .ret d => ∀ v, Rep K Hs ρ d v → D_.rt v H
def OutS (K : PySem.W.Frag) (W : XK) (E : En) (D_ : Ends) (r : Rq) : Prop :=
  OutG K W E.Hs E.ρ E.H r fun x => ∀ σV H Hs ρ, SSt K E Hs ρ H σV x.2.1 x.2.2 → EndAt K D_ Hs ρ H σV x.1
def rdS (K : PySem.W.Frag) (Φ : Fn) (W : XK) (E : En) (s : S) : TS := fun D_ σV H => ∃ Hs ρ σ B, SSt K E Hs ρ H σV σ B ∧ OutS K W E D_ (ex Φ s σ B)
def rdSs (K : PySem.W.Frag) (Φ : Fn) (W : XK) (E : En) (s : Ss) : TS := fun D_ σV H => ∃ Hs ρ σ B, SSt K E Hs ρ H σV σ B ∧ OutS K W E D_ (exs Φ s σ B)
structure StOk (X : Cx) (Φ : Fn) (ps : Stmt) (is : S) : Prop where
  run : ∀ W E, PS X ps (rdS X.K Φ W E is)
structure SsOk (X : Cx) (Φ : Fn) (ps : List Stmt) (is : Ss) : Prop where
  run : ∀ W E, PSs X ps (rdSs X.K Φ W E is)
theorem exx_any {K : PySem.W.Frag} {Hs H : Hp} {ρ : List Addr} {c : Nat} {ps B : List D} {W : XK} : Exx K Hs ρ H c ps B W := fun _ _ _ _ _ _ _ _ h => h.elim
section
variable {K : PySem.W.Frag} {E : En} {Hs H : Hp} {ρ : List Addr} {W W' : XK} {D_ : Ends}
theorem OutS.bindE {q : Bool} {r : Rs (D × List D)} {f : D × List D → Rq} {Q : VK} (h : OutS K W E D_ (r.bind f))
    (k : ∀ d B' v H' Hs' ρ', Gr Hs H ρ Hs' H' ρ' → Le Hs' H' → BOk K Hs' ρ' H' B' → RelP K q Hs' ρ' H' d v → OutS K W E D_ (f (d, B')) → Q v H') : Out K W' q Hs ρ H r Q := by
  cases r with
  | ok x => exact fun v H' Hs' ρ' g l b r => k x.1 x.2 v H' Hs' ρ' g l b r h
  | ex c ps B => exact exx_any
  | bad => exact h
theorem OutS.bindF {r : Rs (D × List D)} {f : D × List D → Rq} {Q : VK} (h : OutS K W E D_ (r.bind f)) (hl : ∀ x, r = .ok x → isLD x.1 = true)
    (k : ∀ d B' a H' Hs' ρ', Gr Hs H ρ Hs' H' ρ' → Le Hs' H' → BOk K Hs' ρ' H' B' → OwnAt K Hs' ρ' H' a d → Hs' a = none → a ∉ ρ' → H a = none → OutS K W E D_ (f (d, B')) → Q (.ref a) H') : OutF K W' Hs ρ H r Q := by
  cases r with
  | ok x => exact ⟨hl x rfl, fun v H' Hs' ρ' g l b r n nr hn => k x.1 x.2 v H' Hs' ρ' g l b r n nr hn h⟩
  | ex c ps B => exact exx_any
  | bad => exact h
theorem OutS.of {α : Type} {o : Option α} {f : α → Rq} (h : OutS K W E D_ ((Rs.of o).bind f)) : ∃ a, o = some a ∧ OutS K W E D_ (f a) := OutG.of h
theorem OutS.isB {x : D} {f : Bool → Rq} (h : OutS K W E D_ (isB x f)) : ∃ k, x = .bl k ∧ OutS K W E D_ (f k) := by
  cases x with
  | bl b => exact ⟨b, rfl, h⟩
  | _ => exact h.elim
end
section
variable {X : Cx} {Φ : Fn} {pos : Pos} {st : Stmt} {rest : List Stmt} {is : S} {iss : Ss} {e : Expr} {ie : E}
/-- where a reading of expressions asks for a wish, any will do -/
abbrev WX0 : WX := fun _ _ _ _ => False
theorem ss_nil : SsOk X Φ [] .nil := ⟨fun W E => pss_nil.weaken fun D_ σV H ⟨Hs, ρ, σ, B, s, out⟩ => out σV H Hs ρ s⟩
theorem ss_cons (h1 : StOk X Φ st is) (h2 : SsOk X Φ rest iss) : SsOk X Φ (st :: rest) (.cons is iss) :=
  ⟨fun W E => (pss_cons (h1.run W E) (h2.run W E)).weaken fun D_ σV H ⟨Hs, ρ, σ, B, s, out⟩ => by
    refine ⟨Hs, ρ, σ, B, s, ?_⟩
    have out : OutS X.K W E D_ ((ex Φ is σ B).bind fun x => match x.1 with
      | .next => exs Φ iss x.2.1 x.2.2
      | fl => .ok (fl, x.2.1, x.2.2)) := out
    cases q : ex Φ is σ B with
    | bad => rw [q] at out; exact out
    | ex c ps B => exact exx_any
    | ok x =>
      rw [q] at out
      obtain ⟨fl, σ', B'⟩ := x
      cases fl with
      | next => exact fun σV' H' Hs' ρ' s' => ⟨Hs', ρ', σ', B', s', out⟩
      | brk => exact fun σV' H' Hs' ρ' s' => out σV' H' Hs' ρ' s'
      | cnt => exact fun σV' H' Hs' ρ' s' => out σV' H' Hs' ρ' s'
      | ret d => exact fun σV' H' Hs' ρ' s' => out σV' H' Hs' ρ' s'⟩
theorem ss_one (h1 : StOk X Φ st is) : SsOk X Φ [st] (.cons is .nil) := ss_cons h1 ss_nil
theorem s_pass : StOk X Φ (.Pass pos) .pass := ⟨fun W E => ps_pass.weaken fun D_ σV H ⟨Hs, ρ, σ, B, s, out⟩ => out σV H Hs ρ s⟩
theorem s_doc {x j pos'} : StOk X Φ (.Expr (.Constant (.str x) j pos) pos') .pass := ⟨fun W E => ps_doc.weaken fun D_ σV H ⟨Hs, ρ, σ, B, s, out⟩ => out σV H Hs ρ s⟩
theorem s_brk : StOk X Φ (.Break pos) .brk := ⟨fun W E => ps_break.weaken fun D_ σV H ⟨Hs, ρ, σ, B, s, out⟩ => out σV H Hs ρ s⟩
theorem s_cnt : StOk X Φ (.Continue pos) .cnt := ⟨fun W E => ps_continue.weaken fun D_ σV H ⟨Hs, ρ, σ, B, s, out⟩ => out σV H Hs ρ s⟩
theorem s_never : StOk X Φ st .never := ⟨fun W E => ps_never.weaken fun D_ σV H ⟨Hs, ρ, σ, B, s, out⟩ => out⟩
theorem s_fz {l : List Nat} (h : StOk X Φ st is) : StOk X Φ st (.fz l is) := ⟨fun W E => (h.run W E).weaken fun D_ σV H ⟨Hs, ρ, σ, B, s, out⟩ => by
  obtain ⟨Hs', s'⟩ := s.frz (is := l)
  exact ⟨Hs', ρ, _, B, s', out⟩⟩
theorem s_expr (h : EOk X Φ WX0 e ie) (hs : swapsWith e none pos.line X.env = pure false := by rfl) : StOk X Φ (.Expr e pos) (.expr ie) :=
  ⟨fun W E => (ps_expr (h.run false) hs).weaken fun D_ σV H ⟨Hs, ρ, σ, B, s, out⟩ => by
    exact ⟨Hs, ρ, σ, B, s.st, OutS.bindE out fun d B' v H' Hs' ρ' g l b r out => out σV H' Hs' ρ' (s.grow g l b)⟩⟩
theorem s_ret (h : EOk X Φ WX0 e ie) : StOk X Φ (.Return (some e) pos) (.ret ie) :=
  ⟨fun W E => (ps_ret (h.run false)).weaken fun D_ σV H ⟨Hs, ρ, σ, B, s, out⟩ => by
    obtain ⟨Hs1, s1⟩ := s.frzA
    exact ⟨Hs1, ρ, _, B, s1.st, OutS.bindE out fun d B' v H' Hs' ρ' g l b r out => out σV H' Hs' ρ' (s1.grow g l b) v r.val⟩⟩
theorem s_retN : StOk X Φ (.Return none pos) .retN :=
  ⟨fun W E => ps_retN.weaken fun D_ σV H ⟨Hs, ρ, σ, B, s, out⟩ => out σV H Hs ρ s .non .non⟩
theorem s_if {c : Expr} {ic : E} {a b : List Stmt} {ia ib : Ss} (hc : TOk X Φ WX0 c ic) (ha : SsOk X Φ a ia) (hb : SsOk X Φ b ib) : StOk X Φ (.If c a b pos) (.ifs ic ia ib) :=
  ⟨fun W E => (ps_if hc.run (ha.run W E) (hb.run W E)).weaken fun D_ σV H ⟨Hs, ρ, σ, B, s, out⟩ => by
    refine ⟨Hs, ρ, σ, B, s.st, OutS.bindE out fun d B' v H' Hs' ρ' g l b r out => ?_⟩
    obtain ⟨k, rfl, out⟩ := out.isB
    refine ⟨k, bl_of r, ?_⟩
    cases k with
    | true => exact ⟨Hs', ρ', σ, B', s.grow g l b, out⟩
    | false => exact ⟨Hs', ρ', σ, B', s.grow g l b, out⟩⟩
/-- name = value -/
theorem evX_val {e : E} {σ : Sg} {B : List D} (h : ∀ f, e ≠ .fresh f) : evX Φ e σ B = (ev Φ false e σ B).bind fun x => .ok (.val x.1, x.2) := by
  cases e <;> first | rfl | exact absurd rfl (h _)
theorem asg_if {i : Nat} {v : Sl} {σ : Sg} {B : List D} {E : En} {W : XK} {D_ : Ends} (h : OutS X.K W E D_ ((asg Φ (.nm i) v σ B).bind fun y => .ok (.next, y.1, y.2))) : i < σ.length ∧ OutS X.K W E D_ (.ok (.next, σ.set i v, B)) := by
  have h : OutS X.K W E D_ ((if i < σ.length then Rs.ok (σ.set i v, B) else .bad).bind fun y => .ok (.next, y.1, y.2)) := h
  by_cases z : i < σ.length
  · rw [if_pos z] at h; exact ⟨z, h⟩
  · rw [if_neg z] at h; exact h.elim
theorem s_set {i : Nat} {x : Str} {pos' : Pos} (hN : X.N.Nodup) (hi : X.N[i]? = some x) (hx : Loc X.env.scope x) (h : EOk X Φ WX0 e ie) (hn : ∀ f, ie ≠ .fresh f) (hs : swapsWith e (some (.Name x pos')) pos.line X.env = pure false := by rfl)
    (hf : X.fn x = true ∨ X.env.scope.names.lookup x = some .local := by first | exact .inl rfl | exact .inr rfl) : StOk X Φ (.Assign [.Name x pos'] e pos) (.asg (.nm i) ie) :=
  ⟨fun W E => (ps_set hN hi hx (h.run false) hs hf).weaken fun D_ σV H ⟨Hs, ρ, σ, B, s, out⟩ => by
    have out : OutS X.K W E D_ ((evX Φ ie σ B).bind fun x => (asg Φ (.nm i) x.1 σ x.2).bind fun y => .ok (.next, y.1, y.2)) := out
    rw [evX_val hn] at out
    refine ⟨Hs, ρ, σ, B, s.st, ?_⟩
    cases q : ev Φ false ie σ B with
    | bad => rw [q] at out; exact out
    | ex c ps B => exact exx_any
    | ok x =>
      rw [q] at out
      obtain ⟨hi, out⟩ := asg_if out
      exact fun v H' Hs' ρ' g l b r => out _ H' Hs' ρ' ((s.grow g l b).setV hi r.val)⟩
theorem s_setF {i : Nat} {x : Str} {pos' : Pos} (hN : X.N.Nodup) (hi : X.N[i]? = some x) (hx : Loc X.env.scope x) (h : FOk X Φ WX0 e ie) (hs : swapsWith e (some (.Name x pos')) pos.line X.env = pure false := by rfl)
    (hf : X.fn x = true ∨ X.env.scope.names.lookup x = some .local := by first | exact .inl rfl | exact .inr rfl) : StOk X Φ (.Assign [.Name x pos'] e pos) (.asg (.nm i) (.fresh ie)) :=
  ⟨fun W E => (ps_set hN hi hx h.run hs hf).weaken fun D_ σV H ⟨Hs, ρ, σ, B, s, out⟩ => by
    have out : OutS X.K W E D_ (((ev Φ false ie σ B).bind fun x => if isLD x.1 then .ok (.own x.1, x.2) else .bad).bind fun x => (asg Φ (.nm i) x.1 σ x.2).bind fun y => .ok (.next, y.1, y.2)) := out
    refine ⟨Hs, ρ, σ, B, s.st, ?_⟩
    cases q : ev Φ false ie σ B with
    | bad => rw [q] at out; exact out
    | ex c ps B => exact exx_any
    | ok x =>
      rw [q] at out
      have hl : isLD x.1 = true := by
        cases z : isLD x.1 with
        | true => rfl
        | false =>
          have out : OutS X.K W E D_ ((if isLD x.1 = true then Rs.ok (Sl.own x.1, x.2) else .bad).bind fun x => (asg Φ (.nm i) x.1 σ x.2).bind fun y => .ok (.next, y.1, y.2)) := out
          rw [z, if_neg Bool.false_ne_true] at out
          exact out.elim
      have out : OutS X.K W E D_ ((if isLD x.1 = true then Rs.ok (Sl.own x.1, x.2) else .bad).bind fun x => (asg Φ (.nm i) x.1 σ x.2).bind fun y => .ok (.next, y.1, y.2)) := out
      rw [if_pos hl] at out
      obtain ⟨hi, out⟩ := asg_if out
      refine ⟨hl, fun a H' Hs' ρ' g l b r n nr hn => out _ H' Hs' ρ' ((s.grow g l b).setO hi r n nr ?_ fun j f h1 h2 => ?_)⟩
      · exact s.gr.none_ hn
      · obtain ⟨a', e1, h3, _⟩ := s.st.slotV h1
        rw [h2] at e1
        cases e1
        obtain ⟨u, hu⟩ := h3.some_
        rw [hn] at hu; cases hu⟩
end
end Pz
end
section
set_option Elab.async false
set_option linter.all false
set_option maxRecDepth 100000
namespace Pz
open PySem PySem.Spec PyProof.Rows L2

/-! ### what an iterator yields -/
def Cnd (p : Bool) (Hs : Hp) (H : Hp) (ρ : List Addr) (Hs' : Hp) (H' : Hp) (ρ' : List Addr) : Prop :=
  (∀ a o, Hs a = some o → Hs' a = some o) ∧ ρ <+: ρ' ∧ (p = true → Gr Hs H ρ Hs' H' ρ')
structure ItR (K : PySem.W.Frag) (p : Bool) (J : It) (Hs : Hp) (ρ : List Addr) (H : Hp) (ds : List D) : Prop where
  go : ∀ (i : Nat) (Hs' H' : Hp) (ρ' : List Addr), Cnd p Hs H ρ Hs' H' ρ' → Le Hs' H' → i < ds.length → J.go i H'
  stop : ∀ (i : Nat) (Hs' H' : Hp) (ρ' : List Addr), Cnd p Hs H ρ Hs' H' ρ' → Le Hs' H' → ds.length ≤ i → J.stop i H'
  yld : ∀ (i : Nat) (Hs' H' : Hp) (ρ' : List Addr) (B : List D) (x : V) (H2 : Hp) (d : D), Cnd p Hs H ρ Hs' H' ρ' → Le Hs' H' → BOk K Hs' ρ' H' B → ds[i]? = some d → J.yld i H' x H2 →
    ∃ Hs2, Gr Hs' H' ρ' Hs2 H2 ρ' ∧ Le Hs2 H2 ∧ BOk K Hs2 ρ' H2 B ∧ Rep K Hs2 ρ' d x
theorem Cnd.of {p : Bool} {Hs H Hs' H' : Hp} {ρ ρ' : List Addr} (g : Gr Hs H ρ Hs' H' ρ') : Cnd p Hs H ρ Hs' H' ρ' := ⟨g.hs, g.rp, fun _ => g⟩
section
variable {K : PySem.W.Frag} {p : Bool} {Hs H : Hp} {ρ : List Addr}
theorem ItR.same {J : It} {ds : List D} (go : ∀ (i : Nat) (Hs' H' : Hp) (ρ' : List Addr), Cnd p Hs H ρ Hs' H' ρ' → Le Hs' H' → i < ds.length → J.go i H')
    (stop : ∀ (i : Nat) (Hs' H' : Hp) (ρ' : List Addr), Cnd p Hs H ρ Hs' H' ρ' → Le Hs' H' → ds.length ≤ i → J.stop i H')
    (yld : ∀ (i : Nat) (Hs' H' : Hp) (ρ' : List Addr) (x : V) (H2 : Hp) (d : D), Cnd p Hs H ρ Hs' H' ρ' → Le Hs' H' → ds[i]? = some d → J.yld i H' x H2 → H2 = H' ∧ Rep K Hs' ρ' d x) : ItR K p J Hs ρ H ds :=
  ⟨go, stop, fun i Hs' H' ρ' B x H2 d c l b e y => by
    obtain ⟨rfl, r⟩ := yld i Hs' H' ρ' x H2 d c l e y
    exact ⟨Hs', .refl, l, b, r⟩⟩
theorem cnd_le {Hs' H' : Hp} {ρ' : List Addr} (c : Cnd p Hs H ρ Hs' H' ρ') : Le Hs Hs' := Le.of c.1
/-- a list, shared or (p) owned -/
theorem itR_list {l : List D} {a : Addr} (r : RelP K p Hs ρ H (.lst l) (.ref a)) : ItR K p (Itl K a) Hs ρ H l := by
  have key : ∃ xs, (∀ Hs' H' ρ', Cnd p Hs H ρ Hs' H' ρ' → Le Hs' H' → H' a = some (.lst xs)) ∧ RepL K Hs ρ l xs := by
    rcases r with r | ⟨z, a', e, ⟨xs, h1, h2⟩, n, nr⟩
    · cases r with
      | @lst _ _ xs h r => exact ⟨xs, fun Hs' H' ρ' c le => le.lst (c.1 _ _ h), r⟩
    · cases e
      exact ⟨xs, fun Hs' H' ρ' c le => (c.2.2 z).kp a _ h1 nr, h2⟩
  obtain ⟨xs, hk, r⟩ := key
  have uniq : ∀ {H' : Hp} {ys : List V}, H' a = some (.lst xs) → SqL K H' a ys → H' a = some (.lst xs) := fun h _ => h
  refine .same (fun i Hs' H' ρ' c le hi => ?_) (fun i Hs' H' ρ' c le hi => ⟨xs, SqL.of (hk _ _ _ c le), by rw [← r.length]; exact hi⟩) fun i Hs' H' ρ' x H2 d c le e y => ?_
  · obtain ⟨v, e, _⟩ := r.get (List.getElem?_eq_getElem hi)
    exact ⟨xs, v, SqL.of (hk _ _ _ c le), e⟩
  · obtain ⟨e1, e2⟩ := y
    obtain ⟨v, ev_, rv⟩ := r.get e
    have := e2 xs (SqL.of (hk _ _ _ c le))
    rw [ev_] at this; cases this
    exact ⟨e1, rv.mono (cnd_le c) c.2.1⟩
theorem itR_tup {l : List D} {a : Addr} (r : Rep K Hs ρ (.tup l) (.ref a)) : ItR K p (Itt K a) Hs ρ H l := by
  cases r with
  | @tup _ _ xs h r =>
    have hk : ∀ Hs' H' ρ', Cnd p Hs H ρ Hs' H' ρ' → Le Hs' H' → H' a = some (.tup xs) := fun Hs' H' ρ' c le => le.tup (c.1 _ _ h)
    refine .same (fun i Hs' H' ρ' c le hi => ?_) (fun i Hs' H' ρ' c le hi => ⟨xs, SqT.of (hk _ _ _ c le), by rw [← r.length]; exact hi⟩) fun i Hs' H' ρ' x H2 d c le e y => ?_
    · obtain ⟨v, e, _⟩ := r.get (List.getElem?_eq_getElem hi)
      exact ⟨xs, v, SqT.of (hk _ _ _ c le), e⟩
    · obtain ⟨e1, e2⟩ := y
      obtain ⟨v, ev_, rv⟩ := r.get e
      have := e2 xs (SqT.of (hk _ _ _ c le))
      rw [ev_] at this; cases this
      exact ⟨e1, rv.mono (cnd_le c) c.2.1⟩
theorem itR_str {l : List Nat} (h : SOk l) : ItR K p (Its (mk l)) Hs ρ H (l.map fun c => .str [c]) := by
  refine .same (fun i Hs' H' ρ' c le hi => ?_) (fun i Hs' H' ρ' c le hi => ?_) fun i Hs' H' ρ' x H2 d c le e y => ?_
  · show i < l.toArray.size
    rw [List.size_toArray]
    simpa using hi
  · show l.toArray.size ≤ i
    rw [List.size_toArray]
    simpa using hi
  · obtain ⟨e1, c, e2, rfl⟩ := y
    refine ⟨e1, ?_⟩
    rw [List.getElem?_map] at e
    have e2 : l.toArray[i]? = some c := e2
    rw [List.getElem?_toArray] at e2
    rw [e2] at e
    cases e
    exact .str ⟨fun z hz => by cases List.mem_singleton.mp hz; exact h.1 _ (List.mem_of_getElem? e2), Nat.le_trans (Nat.le_refl 1) (by decide : 1 ≤ ln)⟩
theorem rng_at {α : Type} {n i : Nat} {f : Nat → α} {d : α} (h : ((List.range n).map f)[i]? = some d) : i < n ∧ d = f i := by
  rw [List.getElem?_map] at h
  by_cases hi : i < n
  · rw [List.getElem?_range hi] at h
    cases h
    exact ⟨hi, rfl⟩
  · rw [List.getElem?_eq_none (by simpa using hi)] at h
    cases h
theorem itR_rng {a : Int} {n : Nat} : ItR K p (Itr a n) Hs ρ H ((List.range n).map fun k => .int (a + (k : Nat))) := by
  refine .same (fun i Hs' H' ρ' c le hi => by rw [List.length_map, List.length_range] at hi; exact hi) (fun i Hs' H' ρ' c le hi => by rw [List.length_map, List.length_range] at hi; exact hi) fun i Hs' H' ρ' x H2 d c le e y => ?_
  obtain ⟨e1, rfl⟩ := y
  obtain ⟨hi, rfl⟩ := rng_at e
  exact ⟨e1, .int _⟩
theorem itR_rngC {a c : Int} {n : Nat} : ItR K p (Itc a c n) Hs ρ H ((List.range n).map fun k => .int (a + (k : Nat) * c)) := by
  refine .same (fun i Hs' H' ρ' c le hi => by rw [List.length_map, List.length_range] at hi; exact hi) (fun i Hs' H' ρ' c le hi => by rw [List.length_map, List.length_range] at hi; exact hi) fun i Hs' H' ρ' x H2 d c le e y => ?_
  obtain ⟨e1, rfl⟩ := y
  obtain ⟨hi, rfl⟩ := rng_at e
  exact ⟨e1, .int _⟩
end
def YldI (K : PySem.W.Frag) (p : Bool) (Hs : Hp) (ρ : List Addr) (H : Hp) (B : List D) (ds : List D) (R : It → Hp → Prop) : Prop :=
  ∀ J H' Hs' ρ', Gr Hs H ρ Hs' H' ρ' → Le Hs' H' → BOk K Hs' ρ' H' B → ItR K p J Hs' ρ' H' ds → R J H'
def rdI (K : PySem.W.Frag) (Φ : Fn) (W : WX) (p : Bool) (e : E) : TI := fun σV H R => ∃ Hs ρ σ B, Stt K Hs ρ H σV σ B ∧
  OutG K (fun c d h => W c d σV h) Hs ρ H ((ev Φ p e σ B).bind fun x => (Rs.of (itemsOf x.1)).bind fun ds => .ok (ds, x.2)) fun x => YldI K p Hs ρ H x.2 x.1 R
structure IOk (X : Cx) (Φ : Fn) (W : WX) (p : Bool) (tg pe : Expr) (ie : E) : Prop where
  run : PI X tg pe (rdI X.K Φ W p ie)
theorem YldI.shf {K : PySem.W.Frag} {p : Bool} {R : It → Hp → Prop} : Shf fun Hs ρ H (x : List D × List D) => YldI K p Hs ρ H x.2 x.1 R := fun _ _ _ _ _ _ _ g h J H2 Hs2 ρ2 g2 l b r => h J H2 Hs2 ρ2 (g.trans g2) l b r
section
variable {X : Cx} {Φ : Fn} {W : WX} {tg e : Expr} {ie : E} {p : Bool}
/-- the value read, then its iterator -/
theorem iter_ok {pins : List (Addr × Obj)} {σ : L2.St} {H Hs : Hp} {ρ : List Addr} {s : Shared} {R : It → Hp → Prop} {d : D} {ds : List D} {x : V} {v : Value} (I : Inv X pins σ H s) (le : Le Hs H) (r : RelP X.K p Hs ρ H d x) (rv : RelV x v) (hi : itemsOf d = some ds)
    (q : ∀ J, ItR X.K p J Hs ρ H ds → R J H) : wpAny (model X.prog X.w) X.A (pyIter v) (PIE X pins σ tg R) X.xe s := by
  cases d with
  | lst l =>
    obtain rfl := Option.some.inj (show some l = some ds from hi)
    have key : ∃ a xs, x = .ref a ∧ H a = some (.lst xs) := by
      rcases r with r | ⟨z, a', e, ⟨xs, h1, h2⟩, n, nr⟩
      · cases r with
        | lst h r => exact ⟨_, _, rfl, le.lst h⟩
      · exact ⟨a', xs, e, h1⟩
    obtain ⟨a, xs, rfl, hq⟩ := key
    cases rv
    obtain ⟨its, rv, p, hz⟩ := I.list (SqL.of hq)
    refine wpAny_pyIter_list p.isList ?_
    exact pi_one (tk := s.toks) I _ (turn_list a s.heap.objs.size) ⟨_, Heap.get?_push_size _ rfl, rfl, rfl⟩ (q _ (itR_list r))
  | tup l =>
    obtain rfl := Option.some.inj (show some l = some ds from hi)
    have r : Rep X.K Hs ρ (.tup l) x := by
      rcases r with r | ⟨z, a', e, h, n, nr⟩
      · exact r
      · exact h.elim
    have r0 := r
    cases r with
    | @tup _ a xs h r =>
      cases rv
      obtain ⟨its, rv, p, hz⟩ := I.tuple (SqT.of (le.tup h))
      refine wpAny_pyIter_tuple (show s.heap.IsTuple a its.toArray from p) ?_
      exact pi_one (tk := s.toks) I _ (turn_tuple a _) ⟨_, Heap.get?_push_size _ rfl, rfl, rfl⟩ (q _ (itR_tup r0))
  | str l =>
    obtain rfl := Option.some.inj (show some (l.map fun c => D.str [c]) = some ds from hi)
    have r : Rep X.K Hs ρ (.str l) x := by
      rcases r with r | ⟨z, a', e, h, n, nr⟩
      · exact r
      · exact h.elim
    cases r with
    | str hl =>
      obtain ⟨t, rfl⟩ := rv
      cases ha : (mk l).cps.all (· < 128)
      · exact wpAny_pyIter_wide ha (pi_one (tk := s.toks) I _ (turn_str _ (mk l) t "str_iterator" (.inr rfl)) ⟨_, Heap.get?_push_size _ rfl, rfl, rfl⟩ (q _ (itR_str hl)))
      · exact wpAny_pyIter_ascii ha (pi_one (tk := s.toks) I _ (turn_str _ (mk l) t "str_ascii_iterator" (.inl rfl)) ⟨_, Heap.get?_push_size _ rfl, rfl, rfl⟩ (q _ (itR_str hl)))
  | _ => cases hi
theorem i_val (h : EOk X Φ W e ie) : IOk X Φ W p tg e ie := by
  refine ⟨⟨fun pins s σV H R I ⟨Hs, ρ, σ, B, st, out⟩ => ?_⟩⟩
  refine thn ((h.run p).run pins s σV H (fun x H1 => ∃ Hs1 ρ1 d ds, Le Hs1 H1 ∧ RelP X.K p Hs1 ρ1 H1 d x ∧ itemsOf d = some ds ∧ ∀ J, ItR X.K p J Hs1 ρ1 H1 ds → R J H1) I ⟨Hs, ρ, σ, B, st, OutG.bindE YldI.shf out fun d B' v H' Hs' ρ' g l b r out => ?_⟩) fun v s1 ⟨x, H1, I1, r1, Hs1, ρ1, d, ds, le, r, hi, q⟩ => iter_ok I1 le r r1 hi q
  obtain ⟨ds, hd, out⟩ := OutG.of out
  exact ⟨Hs', ρ', d, ds, l, r, hd, fun J hJ => out J H' Hs' ρ' .refl l b hJ⟩
/-! ranges -/
variable {es : List Expr} {ies : Es} {a b c : Expr} {ia ib ic : E} {pp pos : Pos}
theorem evs_len {p : Bool} : ∀ (es : Es) (σ : Sg) (B : List D) (x : List D × List D), evs Φ p es σ B = .ok x → x.1.length = es.len
  | .nil, σ, B, x, h => by cases h; rfl
  | .cons e es, σ, B, x, h => by
    have h : ((ev Φ p e σ B).bind fun x => (evs Φ p es σ x.2).bind fun y => .ok (x.1 :: y.1, y.2)) = .ok x := h
    cases q : ev Φ p e σ B with
    | ok y =>
      rw [q] at h
      have h : ((evs Φ p es σ y.2).bind fun z => .ok (y.1 :: z.1, z.2)) = .ok x := h
      cases q2 : evs Φ p es σ y.2 with
      | ok z =>
        rw [q2] at h
        cases h
        exact congrArg Nat.succ (evs_len es σ y.2 z q2)
      | ex c ps B => rw [q2] at h; cases h
      | bad => rw [q2] at h; cases h
    | ex c ps B => rw [q] at h; cases h
    | bad => rw [q] at h; cases h
theorem rng_args {p : Bool} {σV : L2.St} {H : Hp} {R : It → Hp → Prop} {r : List V → Hp → Prop} (h : rdI X.K Φ W p (.bi .rng ies) σV H R)
    (k : ∀ ds vs l Hs' H' ρ', ds.length = ies.len → Paired (RP X.K Hs' ρ' H') ds vs → rngOf ds = some l → (∀ J, ItR X.K p J Hs' ρ' H' l → R J H') → r vs H') : rdA X.K Φ W true ies σV H r := by
  obtain ⟨Hs, ρ, σ, B, st, out⟩ := h
  refine ⟨Hs, ρ, σ, B, st, ?_⟩
  have out : OutG X.K (fun c d h => W c d σV h) Hs ρ H (((evs Φ true ies σ B).bind fun x => (Rs.of (bi_rng (x.1.map (drf x.2)))).bind fun d => .ok (d, x.2)).bind fun x => (Rs.of (itemsOf x.1)).bind fun ds => .ok (ds, x.2)) (fun x => YldI X.K p Hs ρ H x.2 x.1 R) := out
  cases q : evs Φ true ies σ B with
  | ok x =>
    rw [q] at out
    intro vs H' Hs' ρ' g l b r
    have rp := rp_of r b
    have out : OutG X.K (fun c d h => W c d σV h) Hs ρ H (((Rs.of (bi_rng (x.1.map (drf x.2)))).bind fun d => .ok (d, x.2)).bind fun x => (Rs.of (itemsOf x.1)).bind fun ds => .ok (ds, x.2)) (fun x => YldI X.K p Hs ρ H x.2 x.1 R) := out
    unfold bi_rng at out
    cases q2 : rngOf (x.1.map (drf x.2)) with
    | none => rw [q2] at out; exact out.elim
    | some l' =>
      rw [q2] at out
      exact k _ vs l' Hs' H' ρ' (by rw [List.length_map]; exact evs_len _ _ _ _ q) rp q2 fun J hJ => out J H' Hs' ρ' g l b hJ
  | ex c ps B => rw [q] at out; exact out
  | bad => rw [q] at out; exact out
theorem PI.weaken_ {tg e : Expr} {wi wi' : TI} (h : PI X tg e wi) (w : ∀ σ H R, wi' σ H R → wi σ H R) : PI X tg e wi' := ⟨fun pins s σ H R I q => h.run pins s σ H R I (w σ H R q)⟩
theorem bnd_ok {i : Int} (h : bnd i = true) : -(2 ^ 62) ≤ i ∧ i < 2 ^ 62 := by
  unfold bnd at h
  rw [Bool.and_eq_true, decide_eq_true_eq, decide_eq_true_eq] at h
  exact h
theorem paired_int {K : PySem.W.Frag} {Hs H : Hp} {ρ : List Addr} {i : Int} {ds : List D} {vs : List V} (r : Paired (RP K Hs ρ H) (.int i :: ds) vs) : ∃ ws, vs = .int i :: ws ∧ Paired (RP K Hs ρ H) ds ws := by
  cases r with
  | cons h t => cases h.int; exact ⟨_, rfl, t⟩
theorem paired_nil {K : PySem.W.Frag} {Hs H : Hp} {ρ : List Addr} {vs : List V} (r : Paired (RP K Hs ρ H) [] vs) : vs = [] := by cases r; rfl
theorem i_rng1 {p : Bool} (hg : Gl X "range") (hm : X.mg "range" = none) (ha : EOk X Φ W a ia) (hs : starEach [a] X.env = [(false, eval a X.env)] := by rfl) : IOk X Φ W p tg (.Call (.Name "range" pp) [a] [] pos) (.bi .rng (.cons ia .nil)) :=
  ⟨PI.weaken_ (pi_range1 hg hm (((a_cons ha a_nil hs : AOk X Φ W [a] (.cons ia .nil))).run true) hs) fun σV H R h => rng_args h fun ds vs l Hs' H' ρ' hl r hr q => by
    match ds, hl, r, hr with
    | [.int j], _, r, hr =>
      obtain ⟨ws, rfl, r1⟩ := paired_int r
      cases paired_nil r1
      obtain ⟨hb, rfl⟩ := cons_ite (show (if bnd j = true then some (rngL 0 j) else none) = some l from hr)
      obtain ⟨h1, h2⟩ := bnd_ok hb
      refine ⟨j, rfl, h1, h2, q _ ?_⟩
      have := itR_rng (K := X.K) (p := p) (Hs := Hs') (ρ := ρ') (H := H') (a := 0) (n := j.toNat)
      unfold rngL
      rw [Int.sub_zero]
      exact this⟩
theorem i_rng2 {p : Bool} (hg : Gl X "range") (hm : X.mg "range" = none) (ha : EOk X Φ W a ia) (hb : EOk X Φ W b ib) (hs : starEach [a, b] X.env = [(false, eval a X.env), (false, eval b X.env)] := by rfl) (hs2 : starEach [b] X.env = [(false, eval b X.env)] := by rfl) : IOk X Φ W p tg (.Call (.Name "range" pp) [a, b] [] pos) (.bi .rng (.cons ia (.cons ib .nil))) :=
  ⟨PI.weaken_ (pi_range2 hg hm (((a_cons ha (a_cons hb a_nil hs2) (by rw [hs, hs2]) : AOk X Φ W [a, b] (.cons ia (.cons ib .nil)))).run true) hs hs2) fun σV H R h => rng_args h fun ds vs l Hs' H' ρ' hl r hr q => by
    match ds, hl, r, hr with
    | [.int i, .int j], _, r, hr =>
      obtain ⟨ws, rfl, r1⟩ := paired_int r
      obtain ⟨ws2, rfl, r2⟩ := paired_int r1
      cases paired_nil r2
      obtain ⟨hb, rfl⟩ := cons_ite (show (if (bnd i && bnd j) = true then some (rngL i j) else none) = some l from hr)
      rw [Bool.and_eq_true] at hb
      obtain ⟨h1, h2⟩ := bnd_ok hb.1
      obtain ⟨h3, h4⟩ := bnd_ok hb.2
      exact ⟨i, j, rfl, ⟨h1, h2, h3, h4⟩, q _ itR_rng⟩⟩
theorem rgc_up {i j : Int} {c : Nat} (hc : 0 < c) (hc2 : c < 100000) (ha : -(2 ^ 62) ≤ i) (ha' : i < 2 ^ 62) (hb : -(2 ^ 62) ≤ j) (hb' : j < 2 ^ 62) : RgC i j (c : Nat) ((if i < j then (j - i - 1) / (c : Nat) + 1 else 0 : Int)).toNat := by
  have e : Builtin.Range.rangeSize i j (c : Nat) = (if i < j then (j - i - 1) / (c : Nat) + 1 else 0) := by
    unfold Builtin.Range.rangeSize
    rw [if_pos (by omega)]
  have nn : 0 ≤ (if i < j then (j - i - 1) / (c : Nat) + 1 else 0 : Int) := by
    split
    · have := Int.ediv_nonneg (a := j - i - 1) (b := (c : Int)) (by omega) (by omega)
      omega
    · omega
  have le : (if i < j then (j - i - 1) / (c : Nat) + 1 else 0 : Int) ≤ 2 ^ 63 - 1 := by
    split
    · have := Int.ediv_le_self (a := j - i - 1) (c : Int) (by omega)
      omega
    · omega
  refine ⟨by omega, by omega, ?_, by rw [e]; omega⟩
  unfold Builtin.Range.small
  rw [e]
  simp only [Builtin.Range.rangeFitsLong, Bool.and_eq_true, Bool.or_eq_true, decide_eq_true_eq, beq_iff_eq]
  have hm : (if i < j then (j - i - 1) / (c : Nat) + 1 else 0 : Int) = 0 ∨ i < j := by
    by_cases z : i < j
    · exact .inr z
    · rw [if_neg z]; exact .inl rfl
  generalize (if i < j then (j - i - 1) / (c : Nat) + 1 else 0 : Int) = m at nn le hm
  rw [if_pos (by omega)]
  refine ⟨⟨⟨⟨⟨?_, ?_⟩, ?_, ?_⟩, ?_, ?_⟩, ?_, ?_⟩, ?_⟩ <;> first | omega | skip
  refine .inr ?_
  rw [Bool.and_eq_true, decide_eq_true_eq, decide_eq_true_eq]
  omega
theorem i_rng3 {p : Bool} (hg : Gl X "range") (hm : X.mg "range" = none) (ha : EOk X Φ W a ia) (hb : EOk X Φ W b ib) (hc : EOk X Φ W c ic) (hs : starEach [a, b, c] X.env = (false, eval a X.env) :: starEach [b, c] X.env := by rfl) (hs2 : starEach [b, c] X.env = (false, eval b X.env) :: starEach [c] X.env := by rfl) (hs3 : starEach [c] X.env = (false, eval c X.env) :: starEach [] X.env := by rfl)
    (hpl : (backTo pos (starEach [b, c] X.env)).any (·.1) = false := by rfl) : IOk X Φ W p tg (.Call (.Name "range" pp) [a, b, c] [] pos) (.bi .rng (.cons ia (.cons ib (.cons ic .nil)))) :=
  ⟨PI.weaken_ (pi_range3 hg hm (((a_cons ha (a_cons hb (a_cons hc a_nil hs3) hs2) hs : AOk X Φ W [a, b, c] (.cons ia (.cons ib (.cons ic .nil))))).run true) hs hpl) fun σV H R h => rng_args h fun ds vs l Hs' H' ρ' hl r hr q => by
    match ds, hl, r, hr with
    | [.int i, .int j, .int k], _, r, hr =>
      obtain ⟨ws, rfl, r1⟩ := paired_int r
      obtain ⟨ws2, rfl, r2⟩ := paired_int r1
      obtain ⟨ws3, rfl, r3⟩ := paired_int r2
      cases paired_nil r3
      obtain ⟨hb, hr⟩ := cons_ite' (show (if (bnd i && bnd j) = true then (if k = -1 then some (rngDn i j) else if (decide (0 < k) && decide (k < 100000)) = true then some (rngUp i j k.toNat) else none) else none) = some l from hr)
      rw [Bool.and_eq_true] at hb
      obtain ⟨h1, h2⟩ := bnd_ok hb.1
      obtain ⟨h3, h4⟩ := bnd_ok hb.2
      by_cases hk : k = -1
      · subst hk
        rw [if_pos rfl] at hr
        cases hr
        refine ⟨i, j, -1, _, rfl, RgC.neg h1 h2 h3 h4, q _ ?_⟩
        have e : rngDn i j = (List.range (i - j).toNat).map fun k => .int (i + (k : Nat) * (-1)) := by
          unfold rngDn
          refine List.map_congr_left fun k _ => ?_
          show D.int _ = D.int _
          rw [Int.mul_neg_one, Int.sub_eq_add_neg]
        rw [e]
        exact itR_rngC
      · rw [if_neg hk] at hr
        obtain ⟨hc, rfl⟩ := cons_ite hr
        rw [Bool.and_eq_true, decide_eq_true_eq, decide_eq_true_eq] at hc
        have ek : ((k.toNat : Nat) : Int) = k := by omega
        have hR := rgc_up (c := k.toNat) (by omega) (by omega) h1 h2 h3 h4
        rw [ek] at hR
        refine ⟨i, j, k, _, rfl, hR, q _ ?_⟩
        have := itR_rngC (K := X.K) (p := p) (Hs := Hs') (ρ := ρ') (H := H') (a := i) (c := ((k.toNat : Nat) : Int)) (n := ((if i < j then (j - i - 1) / (k.toNat : Nat) + 1 else 0 : Int)).toNat)
        unfold rngUp
        rw [ek] at this ⊢
        exact this⟩
end
end Pz
end
section
set_option Elab.async false
set_option linter.all false
set_option maxRecDepth 100000
namespace Pz
open PySem PySem.Spec PyProof.Rows L2

/-! ### plain targets -/
section
variable {K : PySem.W.Frag} {Hs H : Hp} {ρ : List Addr} {σV : L2.St} {σ : Sg} {B : List D}
theorem Stt.setV (s : Stt K Hs ρ H σV σ B) {i : Nat} {d : D} {v : V} (hi : i < σ.length) (r : Rep K Hs ρ d v) : Stt K Hs ρ H (σV.set i (some v)) (σ.set i (.val d)) B where
  le := s.le
  bx := s.bx
  len := by rw [List.length_set, List.length_set]; exact s.len
  sl := fun j x h => by
    rcases set_at h with ⟨q, rfl⟩ | ⟨q, h⟩
    · subst q
      rw [List.getElem?_set_self (by rw [s.len]; exact hi)]
      exact ⟨v, rfl, r⟩
    · rw [List.getElem?_set_ne q]
      exact s.sl j x h
  di := fun j k a d1 d2 h1 h2 h3 h4 => by
    rcases set_at h1 with ⟨_, q⟩ | ⟨q1, h1⟩
    · cases q
    rcases set_at h2 with ⟨_, q⟩ | ⟨q2, h2⟩
    · cases q
    rw [List.getElem?_set_ne q1] at h3
    rw [List.getElem?_set_ne q2] at h4
    exact s.di j k a d1 d2 h1 h2 h3 h4
theorem Stt.setN (s : Stt K Hs ρ H σV σ B) {i : Nat} {o : Option V} : Stt K Hs ρ H (σV.set i o) (σ.set i .no) B where
  le := s.le
  bx := s.bx
  len := by rw [List.length_set, List.length_set]; exact s.len
  sl := fun j x h => by
    rcases set_at h with ⟨q, rfl⟩ | ⟨q, h⟩
    · trivial
    · rw [List.getElem?_set_ne q]
      exact s.sl j x h
  di := fun j k a d1 d2 h1 h2 h3 h4 => by
    rcases set_at h1 with ⟨_, q⟩ | ⟨q1, h1⟩
    · cases q
    rcases set_at h2 with ⟨_, q⟩ | ⟨q2, h2⟩
    · cases q
    rw [List.getElem?_set_ne q1] at h3
    rw [List.getElem?_set_ne q2] at h4
    exact s.di j k a d1 d2 h1 h2 h3 h4
theorem Stt.wipe_ (s : Stt K Hs ρ H σV σ B) : ∀ vs : List Nat, Stt K Hs ρ H (L2.wipe σV vs) (wipeS σ vs) B
  | [] => s
  | v :: vs => (Stt.wipe_ s vs).setN
/-- what a plain target leaves -/
structure Kept (ns : List Nat) (σV σV' : L2.St) (σ σ' : Sg) : Prop where
  v : ∀ i, i ∉ ns → σV'[i]? = σV[i]?
  s : ∀ i d, σ'[i]? = some (.own d) → σ[i]? = some (.own d) ∧ i ∉ ns
  lv : σV'.length = σV.length
  ls : σ'.length = σ.length
end
def rdP (K : PySem.W.Frag) (tg : Tg) : TG := fun v σV H Q => ∃ Hs ρ σ B d σ', Stt K Hs ρ H σV σ B ∧ Rep K Hs ρ d v ∧ put tg d σ = some σ' ∧
  ∀ σV', Stt K Hs ρ H σV' σ' B → Kept tg.names σV σV' σ σ' → Q σV' H
def rdPs (K : PySem.W.Frag) (tg : Tgs) : TGs := fun vs σV H Q => ∃ Hs ρ σ B ds σ', Stt K Hs ρ H σV σ B ∧ RepL K Hs ρ ds vs ∧ puts tg ds σ = some σ' ∧
  ∀ σV', Stt K Hs ρ H σV' σ' B → Kept tg.names σV σV' σ σ' → Q σV' H
structure GOk (X : Cx) (pe : Expr) (tg : Tg) : Prop where
  run : PG X pe (rdP X.K tg)
structure GsOk (X : Cx) (pe : List Expr) (tg : Tgs) : Prop where
  run : PGs X pe (rdPs X.K tg)
section
variable {X : Cx} {pos : Pos} {e : Expr} {es : List Expr} {t : Tg} {ts : Tgs}
theorem g_name {i : Nat} {x : Str} (hN : X.N.Nodup) (hi : X.N[i]? = some x) (hx : Loc X.env.scope x) (hf : X.fn x = true ∨ X.env.scope.names.lookup x = some .local) : GOk X (.Name x pos) (.nm i) :=
  ⟨⟨fun pins s σV H v u Q I r ⟨Hs, ρ, σ, B, d, σ', st, rep, e, q⟩ => by
    obtain ⟨hl, rfl⟩ := cons_ite (show (if i < σ.length then some (σ.set i (.val d)) else none) = some σ' from e)
    refine (pg_name hN hi hx hf).run pins s σV H v u Q I r (q _ (st.setV hl rep) ⟨fun j hj => ?_, fun j d' h => ?_, List.length_set, List.length_set⟩)
    · exact List.getElem?_set_ne fun z => hj (by rw [← z]; exact List.mem_singleton.mpr rfl)
    · rcases set_at h with ⟨_, z⟩ | ⟨z, h⟩
      · cases z
      · exact ⟨h, fun m => z (List.mem_singleton.mp m).symm⟩⟩⟩
theorem gs_nil : GsOk X [] .nil :=
  ⟨⟨fun pins s σV H vs us Q I r ⟨Hs, ρ, σ, B, ds, σ', st, rep, e, q⟩ => by
    have hd : ds = [] ∧ σ' = σ := by
      cases ds with
      | nil => cases e; exact ⟨rfl, rfl⟩
      | cons a b => cases e
    obtain ⟨rfl, rfl⟩ := hd
    cases rep
    exact pgs_nil.run pins s σV H [] us Q I r ⟨rfl, q _ st ⟨fun _ _ => rfl, fun _ _ h => ⟨h, List.not_mem_nil⟩, rfl, rfl⟩⟩⟩⟩
theorem gs_cons (h1 : GOk X e t) (h2 : GsOk X es ts) (hs : (assignEach (e :: es) X.env).map (·.2) = assign e X.env :: (assignEach es X.env).map (·.2) := by rfl) : GsOk X (e :: es) (.cons t ts) :=
  ⟨⟨fun pins s σV H vs us Q I r ⟨Hs, ρ, σ, B, ds, σ', st, rep, e, q⟩ => by
    cases ds with
    | nil => cases e
    | cons d ds =>
      cases rep with
      | @cons _ v _ ws hv hr =>
        obtain ⟨σ1, e1, e2⟩ := Option.bind_eq_some_iff.mp (show (put t d σ).bind (fun σ' => puts ts ds σ') = some σ' from e)
        refine (pgs_cons h1.run h2.run hs).run pins s σV H (v :: ws) us Q I r ⟨v, ws, rfl, Hs, ρ, σ, B, d, σ1, st, hv, e1, fun σV1 st1 k1 => ⟨Hs, ρ, σ1, B, ds, σ', st1, hr, e2, fun σV2 st2 k2 => q σV2 st2 ⟨fun i hi => ?_, fun i d' h => ?_, k2.lv.trans k1.lv, k2.ls.trans k1.ls⟩⟩⟩
        · have hi : i ∉ t.names ++ ts.names := hi
          rw [List.mem_append] at hi
          exact (k2.v i fun z => hi (.inr z)).trans (k1.v i fun z => hi (.inl z))
        · obtain ⟨h1, n1⟩ := k2.s i d' h
          obtain ⟨h2, n2⟩ := k1.s i d' h1
          refine ⟨h2, fun z => ?_⟩
          have z : i ∈ t.names ++ ts.names := z
          rcases List.mem_append.mp z with z | z
          · exact n2 z
          · exact n1 z⟩⟩
theorem puts_len : ∀ (ts : Tgs) (ds : List D) (σ σ' : Sg), puts ts ds σ = some σ' → ds.length = ts.len
  | .nil, [], _, _, _ => rfl
  | .nil, _ :: _, _, _, e => by cases e
  | .cons _ _, [], _, _, e => by cases e
  | .cons t ts, d :: ds, σ, σ', e => by
    obtain ⟨σ1, _, e2⟩ := Option.bind_eq_some_iff.mp (show (put t d σ).bind (fun σ' => puts ts ds σ') = some σ' from e)
    exact congrArg Nat.succ (puts_len ts ds σ1 σ' e2)
theorem put_tup {ts : Tgs} {d : D} {σ σ' : Sg} (e : put (.tp ts) d σ = some σ') : ∃ ds, d = .tup ds ∧ puts ts ds σ = some σ' := by
  cases d with
  | tup ds => exact ⟨ds, rfl, e⟩
  | _ => cases e
theorem g_tup {k : Nat} (hc : X.calm = true) (h : GsOk X es ts) (hn : (assignEach es X.env).length = ts.len := by rfl) (hst : (assignEach es X.env).findIdx? (·.1) = none := by rfl) : GOk X (.Tuple es k pos) (.tp ts) :=
  ⟨⟨fun pins s σV H v u Q I r ⟨Hs, ρ, σ, B, d, σ', st, rep, e, q⟩ => by
    obtain ⟨ds, rfl, e⟩ := put_tup e
    cases rep with
    | @tup _ a xs ha hr =>
      exact (pg_tup hc h.run hn hst).run pins s σV H _ u Q I r ⟨a, xs, rfl, SqT.of (st.le.tup ha), by rw [← hr.length]; exact puts_len _ _ _ _ e, Hs, ρ, σ, B, ds, σ', st, hr, e, q⟩⟩⟩

/-! ### storing -/
variable {Φ : Fn} {ie : E}
theorem SSt.ofKept {K : PySem.W.Frag} {E : En} {Hs H : Hp} {ρ : List Addr} {σV σV' : L2.St} {σ σ' : Sg} {B : List D} {ns : List Nat} (s : SSt K E Hs ρ H σV σ B) (st : Stt K Hs ρ H σV' σ' B) (k : Kept ns σV σV' σ σ') : SSt K E Hs ρ H σV' σ' B :=
  ⟨st, s.gr, fun i a d h1 h2 => by
    obtain ⟨h3, n⟩ := k.s i d h1
    rw [k.v i n] at h2
    exact s.ow i a d h3 h2⟩
/-- (a, b, ..) = value -/
theorem s_asgT {tp : Expr} {ts : Tgs} (he : EOk X Φ WX0 e ie) (hn : ∀ f, ie ≠ .fresh f) (hg : GOk X tp (.tp ts)) (hs : swapsWithSole [tp] e pos.line X.env = pure false := by rfl) (hw : swappedStores [tp] e X.env = pure none := by rfl)
    (h1 : (assignEach [tp] X.env).map (·.2) = [assign tp X.env] := by rfl) : StOk X Φ (.Assign [tp] e pos) (.asg (.tp ts) ie) :=
  ⟨fun W E => (ps_asg (he.run false) hg.run hs hw h1).weaken fun D_ σV H ⟨Hs, ρ, σ, B, s, out⟩ => by
    have out : OutS X.K W E D_ ((evX Φ ie σ B).bind fun x => (asg Φ (.tp ts) x.1 σ x.2).bind fun y => .ok (.next, y.1, y.2)) := out
    rw [evX_val hn] at out
    refine ⟨Hs, ρ, σ, B, s.st, ?_⟩
    cases q : ev Φ false ie σ B with
    | bad => rw [q] at out; exact out
    | ex c ps B => exact exx_any
    | ok x =>
      rw [q] at out
      have out : OutS X.K W E D_ (((Rs.of (put (.tp ts) x.1 σ)).bind fun σ' => Rs.ok (σ', x.2)).bind fun y => .ok (.next, y.1, y.2)) := out
      cases q2 : put (.tp ts) x.1 σ with
      | none => rw [q2] at out; exact out.elim
      | some σ' =>
        rw [q2] at out
        intro v H' Hs' ρ' g l b r
        have s' := s.grow g l b
        exact ⟨Hs', ρ', σ, x.2, x.1, σ', s'.st, r.val, q2, fun σV' st k => out σV' H' Hs' ρ' (s'.ofKept st k)⟩⟩
/-- the item store, by values -/
def rStore (K : PySem.W.Frag) : TSet := fun o i v H Q => ∃ Hs ρ c k d c' a, o = .ref a ∧ Le Hs H ∧ OwnAt K Hs ρ H a c ∧ Rep K Hs ρ k i ∧ Rep K Hs ρ d v ∧ setD c k d = some c' ∧ ∀ o', OwnAt K Hs ρ (upd H a o') a c' → Q (upd H a o')
theorem RepK.length {K : PySem.W.Frag} {Hs : Hp} {ρ : List Addr} : ∀ {l : List (D × D)} {kvs : List (Key × V)}, RepK K Hs ρ l kvs → l.length = kvs.length
  | _, _, .nil => rfl
  | _, _, .int _ r => congrArg Nat.succ (RepK.length r)
  | _, _, .str _ _ r => congrArg Nat.succ (RepK.length r)
theorem RepT.length {K : PySem.W.Frag} {Hs : Hp} {ρ : List Addr} : ∀ {l : List (D × D)} {kvs : List (List Key × V)}, RepT K Hs ρ l kvs → l.length = kvs.length
  | _, _, .nil => rfl
  | _, _, .cons _ _ r => congrArg Nat.succ (RepT.length r)
theorem putK_eq {κ : Type} [DecidableEq κ] (k : κ) (v : V) : ∀ kvs : List (κ × V), (kvs.map (·.1)).Nodup → ∀ {a : κ} {x : V},
    (a = k → k ∉ kvs.map (·.1) → putK ((a, x) :: kvs) k v = (a, v) :: kvs) ∧ (a ≠ k → putK ((a, x) :: kvs) k v = (a, x) :: putK kvs k v) := fun kvs nd a x => by
  have any_cons : (((a, x) :: kvs).any fun kv => decide (kv.1 = k)) = (decide (a = k) || kvs.any fun kv => decide (kv.1 = k)) := rfl
  refine ⟨fun e hn => ?_, fun e => ?_⟩
  · unfold putK
    rw [any_cons, decide_eq_true e, Bool.true_or, if_pos rfl, List.map_cons, if_pos e]
    congr 1
    have : kvs.map (fun kv => if kv.1 = k then (kv.1, v) else kv) = kvs.map id := List.map_congr_left fun p hp => if_neg fun z => hn (by rw [← z]; exact List.mem_map_of_mem hp)
    rw [this, List.map_id]
  · unfold putK
    rw [any_cons, decide_eq_false e, Bool.false_or]
    by_cases h : (kvs.any fun kv => decide (kv.1 = k)) = true
    · rw [if_pos h, if_pos h, List.map_cons, if_neg e]
    · rw [if_neg h, if_neg h, List.cons_append]
theorem RepK.put {K : PySem.W.Frag} {Hs : Hp} {ρ : List Addr} {k d : D} {kk : Key} {v : V} (hk : KeyR k kk) (hd : Rep K Hs ρ d v) : ∀ {l : List (D × D)} {kvs : List (Key × V)}, (kvs.map (·.1)).Nodup → RepK K Hs ρ l kvs → RepK K Hs ρ (kput k d l) (putK kvs kk v)
  | [], _, _, r => by
    cases r
    exact RepK.cons_of hk hd .nil
  | (a, x) :: l, kvs, nd, r => by
    obtain ⟨ka, w, s, rfl, ha, hx, hr⟩ := r.cons_inv
    rw [List.map_cons, List.nodup_cons] at nd
    have key := putK_eq kk v s nd.2 (a := ka) (x := w)
    by_cases e : ka = kk
    · rw [kput_pos (by rw [ha.same hk]; exact decide_eq_true e), key.1 e (by rw [← e]; exact nd.1)]
      exact RepK.cons_of ha hd hr
    · rw [kput_neg (by rw [ha.same hk]; exact decide_eq_false e), key.2 e]
      exact RepK.cons_of ha hx (RepK.put hk hd nd.2 hr)
theorem RepT.put {K : PySem.W.Frag} {Hs : Hp} {ρ : List Addr} {k : List D} {d : D} {kk : List Key} {v : V} (hk : RepKs k kk) (hd : Rep K Hs ρ d v) : ∀ {l : List (D × D)} {kvs : List (List Key × V)}, (kvs.map (·.1)).Nodup → RepT K Hs ρ l kvs → RepT K Hs ρ (kput (.tup k) d l) (putK kvs kk v)
  | [], _, _, r => by
    cases r
    exact .cons hk hd .nil
  | (a, x) :: l, kvs, nd, r => by
    cases r with
    | @cons ka kka _ w _ s ha hx hr =>
      rw [List.map_cons, List.nodup_cons] at nd
      have key := putK_eq kk v s nd.2 (a := kka) (x := w)
      have sm : D.same (.tup ka) (.tup k) = decide (kka = kk) := by simp only [D.same]; exact ha.same hk
      by_cases e : kka = kk
      · rw [kput_pos (by rw [sm]; exact decide_eq_true e), key.1 e (by rw [← e]; exact nd.1)]
        exact .cons ha hd hr
      · rw [kput_neg (by rw [sm]; exact decide_eq_false e), key.2 e]
        exact .cons ha hx (RepT.put hk hd nd.2 hr)
theorem paired_fst {κ α β : Type} {F : (κ × α) → (κ × β) → Prop} (hF : ∀ p q, F p q → p.1 = q.1) : ∀ {l : List (κ × α)} {m : List (κ × β)}, Paired F l m → l.map (·.1) = m.map (·.1)
  | _, _, .nil => rfl
  | _, _, .cons h t => by rw [List.map_cons, List.map_cons, hF _ _ h, paired_fst hF t]
theorem dK_nodup {pins : List (Addr × Obj)} {σ : L2.St} {H : Hp} {s : Shared} {a : Addr} {kvs : List (Key × V)} (I : Inv X pins σ H s) (h : Rd H a (.dK kvs)) : (kvs.map (·.1)).Nodup := by
  obtain ⟨_, _, vs, r, o, es, ep, _, _, _, _, _, nd⟩ := dk_rd I.hok h
  rw [paired_fst (fun p q h => h.1) r]
  exact nd
theorem dT_nodup {pins : List (Addr × Obj)} {σ : L2.St} {H : Hp} {s : Shared} {a : Addr} {kvs : List (List Key × V)} (I : Inv X pins σ H s) (h : Rd H a (.dT kvs)) : (kvs.map (·.1)).Nodup := by
  obtain ⟨_, _, xs, r, o, es, ep, _, _, _, _, _, nd⟩ := dt_rd I.hok h
  have e : kvs.map (·.1) = xs.map (·.1) := paired_fst (F := fun p q => p.1 = q.1 ∧ H q.2.1 = some (.tup (p.1.map kV)) ∧ RelV p.2 q.2.2) (fun p q h => h.1) r
  rw [e]
  exact nd
theorem set_ok (hu : X.A.units + 70 < cLine) : PSet X (rStore X.K) := by
  intro pins s σV H o i v ov iv u Q I ro ri rv ⟨Hs, ρ, c, k, d, c', a, ho, le, own, rk, rd, e, q⟩
  subst ho
  cases c with
  | lst l =>
    obtain ⟨xs, h, r⟩ := own
    cases k with
    | int j =>
      cases rk
      obtain ⟨n, e1, rfl⟩ := Option.map_eq_some_iff.mp (show (Pz.ixN l.length j).map (fun n => D.lst (l.set n d)) = some c' from e)
      refine set_list pins s σV H _ _ _ ov iv u Q I ro ri rv ⟨a, xs, j, n, rfl, rfl, h, by rw [← r.length]; exact e1, q _ ⟨_, upd_same, r.set rd n⟩⟩
    | _ => cases e
  | dic t l =>
    obtain ⟨hc, rfl⟩ := cons_ite (show (if (k.keyOk t && decide (l.length < ln)) = true then some (D.dic t (kput k d l)) else none) = some c' from e)
    rw [Bool.and_eq_true, decide_eq_true_eq] at hc
    cases ro
    cases t with
    | false =>
      obtain ⟨kvs, h, r⟩ := own
      obtain ⟨kk, hk, rfl⟩ := key_of hc.1 (H := H) (.inl rk)
      have hl : kvs.length < sizeLine := by
        rw [← r.length, ln_eq]; exact hc.2
      refine d_setItem (by omega) I (.inl ⟨kvs, kk, h, rfl, hl, rfl⟩) ri rv fun s' I' => ⟨_, I', q _ ⟨_, upd_same, RepK.put hk rd (dK_nodup I (.inl h)) r⟩⟩
    | true =>
      obtain ⟨kvs, h, r⟩ := own
      cases k with
      | tup ks =>
        cases rk with
        | @tup _ b xs hb rx =>
          have h1 : ks.all D.key1 = true := by simpa [D.keyOk] using hc.1
          obtain ⟨kk, hk, rfl⟩ := RepKs.of h1 rx
          have hl : kvs.length < sizeLine := by
            rw [← r.length, ln_eq]; exact hc.2
          refine d_setItem (by omega) I (.inr ⟨kvs, kk, b, h, rfl, le.tup hb, hl, rfl⟩) ri rv fun s' I' => ⟨_, I', q _ ⟨_, upd_same, RepT.put hk rd (dT_nodup I (.inl h)) r⟩⟩
      | _ => simp [D.keyOk] at hc
  | _ => cases e
theorem Rs.bind_bind {α β γ : Type} (x : Rs α) (f : α → Rs β) (g : β → Rs γ) : (x.bind f).bind g = x.bind fun a => (f a).bind g := by cases x <;> rfl
theorem own_slot {K : PySem.W.Frag} {W : XK} {E : En} {D_ : Ends} {α : Type} {o : Option Sl} {f : D → Rs α} {g : α → Rq} (h : OutS K W E D_ ((match o with
    | some (.own c) => f c
    | _ => .bad).bind g)) : ∃ c, o = some (.own c) ∧ OutS K W E D_ ((f c).bind g) := by
  cases o with
  | none => exact h.elim
  | some w =>
    cases w with
    | own c => exact ⟨c, rfl, h⟩
    | _ => exact h.elim
/-- x[k] = value, x an owned list or dict -/
theorem s_ix {i : Nat} {x : Str} {ke : Expr} {ik : E} {p1 p2 : Pos} (hu : X.A.units + 70 < cLine) (hN : X.N[i]? = some x) (hv : Vis X.env.scope x) (he : EOk X Φ WX0 e ie) (hn : ∀ f, ie ≠ .fresh f) (hk : EOk X Φ WX0 ke ik)
    (ha : ∀ v, assign (.Subscript (.Name x p1) ke p2) X.env v = (do let ov ← holding [v] (eval (.Name x p1) X.env); let iv ← holding [v, ov] (eval ke X.env); standAt p2; holding [v, ov, iv] (setItem ov iv v); release [v, ov, iv] []) := by intro _; rfl)
    (hs : swapsWithSole [.Subscript (.Name x p1) ke p2] e pos.line X.env = pure false := by rfl) (hw : swappedStores [.Subscript (.Name x p1) ke p2] e X.env = pure none := by rfl)
    (h1 : (assignEach [.Subscript (.Name x p1) ke p2] X.env).map (·.2) = [assign (.Subscript (.Name x p1) ke p2) X.env] := by rfl)
    (hd : (x == ("__debug__" : Str)) = false := by decide) (hcd : (x == ("__classdict__" : Str)) = false := by decide) : StOk X Φ (.Assign [.Subscript (.Name x p1) ke p2] e pos) (.asg (.ix i ik) ie) :=
  ⟨fun W E => (ps_asg (he.run false) (pg_sub (pe_var hN hv hd hcd) (hk.run false) (set_ok hu) ha) hs hw h1).weaken fun D_ σV H ⟨Hs, ρ, σ, B, s, out⟩ => by
    have out : OutS X.K W E D_ ((evX Φ ie σ B).bind fun x => (asg Φ (.ix i ik) x.1 σ x.2).bind fun y => .ok (.next, y.1, y.2)) := out
    rw [evX_val hn] at out
    refine ⟨Hs, ρ, σ, B, s.st, ?_⟩
    cases q : ev Φ false ie σ B with
    | bad => rw [q] at out; exact out
    | ex c ps B => exact exx_any
    | ok y =>
      rw [q] at out
      have out : OutS X.K W E D_ ((match σ[i]? with
        | some (.own c) => (ev Φ false ik σ y.2).bind fun z => (Rs.of (setD c z.1 y.1)).bind fun c' => Rs.ok (σ.set i (.own c'), z.2)
        | _ => .bad).bind fun w => .ok (.next, w.1, w.2)) := out
      obtain ⟨c, hsl, out⟩ := own_slot out
      intro v H1 Hs1 ρ1 g1 l1 b1 r1
      have s1 := s.grow g1 l1 b1
      obtain ⟨a, ea, own, n, nr⟩ := s1.st.slotV hsl
      refine ⟨.ref a, ea, Hs1, ρ1, σ, y.2, s1.st, ?_⟩
      have out : OutS X.K W E D_ (((ev Φ false ik σ y.2).bind fun z => (Rs.of (setD c z.1 y.1)).bind fun c' => Rs.ok (σ.set i (.own c'), z.2)).bind fun w => .ok (.next, w.1, w.2)) := out
      rw [Rs.bind_bind] at out
      refine OutS.bindE out fun k' B2 kv H2 Hs2 ρ2 g2 l2 b2 r2 out => ?_
      have s2 := s1.grow g2 l2 b2
      rw [Rs.bind_bind] at out
      obtain ⟨c', q4, out⟩ := OutS.of out
      obtain ⟨a', ea', own2, _⟩ := s2.st.slotV hsl
      rw [ea] at ea'
      cases ea'
      exact ⟨Hs2, ρ2, c, k', y.1, c', a, rfl, l2, own2, r2.val, g2.rep r1.val, q4, fun o' ho => out _ _ _ _ (s2.mut hsl ea ho)⟩⟩
/-- b[k] = value, b an expression whose value is a box -/
theorem s_bx {be ke : Expr} {ib ik : E} {p2 : Pos} (hu : X.A.units + 70 < cLine) (he : EOk X Φ WX0 e ie) (hn : ∀ f, ie ≠ .fresh f) (hb : EOk X Φ WX0 be ib) (hk : EOk X Φ WX0 ke ik)
    (ha : ∀ v, assign (.Subscript be ke p2) X.env v = (do let ov ← holding [v] (eval be X.env); let iv ← holding [v, ov] (eval ke X.env); standAt p2; holding [v, ov, iv] (setItem ov iv v); release [v, ov, iv] []) := by intro _; rfl)
    (hs : swapsWithSole [.Subscript be ke p2] e pos.line X.env = pure false := by rfl) (hw : swappedStores [.Subscript be ke p2] e X.env = pure none := by rfl)
    (h1 : (assignEach [.Subscript be ke p2] X.env).map (·.2) = [assign (.Subscript be ke p2) X.env] := by rfl) : StOk X Φ (.Assign [.Subscript be ke p2] e pos) (.asg (.bx ib ik) ie) :=
  ⟨fun W E => (ps_asg (he.run false) (pg_sub (hb.run false) (hk.run false) (set_ok hu) ha) hs hw h1).weaken fun D_ σV H ⟨Hs, ρ, σ, B, s, out⟩ => by
    have out : OutS X.K W E D_ ((evX Φ ie σ B).bind fun x => (asg Φ (.bx ib ik) x.1 σ x.2).bind fun y => .ok (.next, y.1, y.2)) := out
    rw [evX_val hn] at out
    refine ⟨Hs, ρ, σ, B, s.st, ?_⟩
    cases q : ev Φ false ie σ B with
    | bad => rw [q] at out; exact out
    | ex c ps B => exact exx_any
    | ok y =>
      rw [q] at out
      have out : OutS X.K W E D_ (((ev Φ false ib σ y.2).bind fun x => (ev Φ false ik σ x.2).bind fun z => match x.1 with
        | .box n => match z.2[n]? with
          | some c => (Rs.of (setD c z.1 y.1)).bind fun c' => Rs.ok (σ, z.2.set n c')
          | none => .bad
        | _ => .bad).bind fun w => .ok (.next, w.1, w.2)) := out
      intro v H1 Hs1 ρ1 g1 l1 b1 r1
      have s1 := s.grow g1 l1 b1
      rw [Rs.bind_bind] at out
      refine ⟨Hs1, ρ1, σ, y.2, s1.st, OutS.bindE out fun x B2 xv H2 Hs2 ρ2 g2 l2 b2 r2 out => ?_⟩
      have s2 := s1.grow g2 l2 b2
      rw [Rs.bind_bind] at out
      refine ⟨Hs2, ρ2, σ, B2, s2.st, OutS.bindE out fun k' B3 kv H3 Hs3 ρ3 g3 l3 b3 r3 out => ?_⟩
      have s3 := s2.grow g3 l3 b3
      cases x with
      | box n =>
        have out : OutS X.K W E D_ ((match B3[n]? with
          | some c => (Rs.of (setD c k' y.1)).bind fun c' => Rs.ok (σ, B3.set n c')
          | none => .bad).bind fun w => .ok (.next, w.1, w.2)) := out
        cases q2 : B3[n]? with
        | none => rw [q2] at out; exact out.elim
        | some c =>
          rw [q2] at out
          have out : OutS X.K W E D_ (((Rs.of (setD c k' y.1)).bind fun c' => Rs.ok (σ, B3.set n c')).bind fun w => .ok (.next, w.1, w.2)) := out
          rw [Rs.bind_bind] at out
          obtain ⟨c', q4, out⟩ := OutS.of out
          have rb := (r2.grow g3).val
          cases rb with
          | @box _ a ea =>
            obtain ⟨own, hn⟩ := s3.st.bx.at_ n a c ea q2
            exact ⟨Hs3, ρ3, c, k', y.1, c', a, rfl, l3, own, r3.val, g3.rep (g2.rep r1.val), q4, fun o' ho => out _ _ _ _ (s3.mutB q2 ea ho)⟩
      | _ => exact out.elim⟩
/-- x.append(value) -/
theorem s_app {i : Nat} {x : Str} {p1 apos cpos : Pos} (hN : X.N[i]? = some x) (hv : Vis X.env.scope x) (he : EOk X Φ WX0 e ie)
    (hbase : attributeBase (.Name x p1) "append" X.env (eval (.Name x p1) X.env) = eval (.Name x p1) X.env := by rfl)
    (hfew : ((backTo cpos (starEach [e] X.env)).all (fun x => !x.1) && (backToKw cpos (keywordEach [] X.env)).all (fun x => x.1.isSome)
      && decide ([e].length + ([] : List Keyword).length + (if ([] : List Keyword).isEmpty then 0 else 1) < 30)) = true := by rfl)
    (hline : (apos.endLine == cpos.line) = true := by rfl) (hst : starEach [e] X.env = (false, eval e X.env) :: starEach [] X.env := by rfl)
    (hsw : swapsWith (.Call (.Attribute (.Name x p1) "append" apos) [e] [] cpos) none pos.line X.env = pure false := by rfl)
    (hd : (x == ("__debug__" : Str)) = false := by decide) (hcd : (x == ("__classdict__" : Str)) = false := by decide) :
    StOk X Φ (.Expr (.Call (.Attribute (.Name x p1) "append" apos) [e] [] cpos) pos) (.app i ie) :=
  ⟨fun W E => (ps_expr (pe_bm PySem.F.plainAttrs_list PySem.F.slot_list_append PySem.F.type_list_append mt_append (pe_var hN hv hd hcd) ((a_cons he a_nil hst).run false) hbase hfew hline hst) hsw).weaken fun D_ σV H ⟨Hs, ρ, σ, B, s, out⟩ => by
    have out : OutS X.K W E D_ ((match σ[i]? with
      | some (.own (.lst l)) => (ev Φ false ie σ B).bind fun x => if l.length < ln then .ok (.next, σ.set i (.own (.lst (l ++ [x.1]))), x.2) else .bad
      | _ => .bad)) := out
    have hsl : ∃ l, σ[i]? = some (.own (.lst l)) := by
      cases q2 : σ[i]? with
      | none => rw [q2] at out; exact out.elim
      | some w =>
        cases w with
        | own c =>
          cases c with
          | lst l => exact ⟨l, rfl⟩
          | _ => rw [q2] at out; exact out.elim
        | _ => rw [q2] at out; exact out.elim
    obtain ⟨l, hsl⟩ := hsl
    rw [hsl] at out
    have out : OutS X.K W E D_ ((ev Φ false ie σ B).bind fun x => if l.length < ln then .ok (.next, σ.set i (.own (.lst (l ++ [x.1]))), x.2) else .bad) := out
    obtain ⟨a, ea, ⟨xs, hx, hr⟩, n, nr⟩ := s.st.slotV hsl
    refine ⟨.ref a, ea, .inl ⟨rfl, xs, SqL.of hx⟩, Hs, ρ, σ, B, s.st, ?_⟩
    have out : OutS X.K W E D_ (((ev Φ false ie σ B).bind fun x => Rs.ok ([x.1], x.2)).bind fun x => match x.1 with
      | [y] => if l.length < ln then .ok (.next, σ.set i (.own (.lst (l ++ [y]))), x.2) else .bad
      | _ => .bad) := by rw [Rs.bind_bind]; exact out
    show OutL X.K _ false Hs ρ H ((ev Φ false ie σ B).bind fun x => Rs.ok ([x.1], x.2)) _
    cases q : ev Φ false ie σ B with
    | bad => rw [q] at out; exact out
    | ex c ps B => exact exx_any
    | ok y =>
      rw [q] at out
      intro vs H1 Hs1 ρ1 g1 l1 b1 r1
      have s1 := s.grow g1 l1 b1
      cases r1 with
      | @cons _ v _ vs h t =>
        cases t
        obtain ⟨a', ea', ⟨ys, hy, hr⟩, n, nr⟩ := s1.st.slotV hsl
        rw [ea] at ea'
        cases ea'
        obtain ⟨hl, out⟩ := OutG.ite (show OutG X.K W E.Hs E.ρ E.H (if l.length < ln then (Rs.ok (Fl.next, σ.set i (Sl.own (D.lst (l ++ [y.1]))), y.2) : Rq) else .bad) _ from out)
        refine ⟨a, ys, v, rfl, rfl, hy, by rw [← hr.length, ln_eq]; exact hl, ?_⟩
        exact out σV _ _ _ (s1.mut hsl ea ⟨_, upd_same, hr.append (.cons h.val .nil)⟩)⟩
/-- x += value: ints, texts -/
def rAug (K : PySem.W.Frag) : TIp := fun x y H Q => ∃ Hs ρ B a b d, Le Hs H ∧ BOk K Hs ρ H B ∧ Rep K Hs ρ a x ∧ RP K Hs ρ H b y ∧ addV a b = some d ∧ Yld K false Hs ρ H B d Q
theorem aug_ok : PIp X .Add (rAug X.K) := by
  intro pins s σ H x y v u Q I rx ry ⟨Hs, ρ, B, a, b, d, le, bx, ra, rb, e, h⟩
  cases a with
  | int i =>
    cases ra
    cases b with
    | int j =>
      cases rb.int
      cases e
      exact iop_add pins s σ H _ _ v u Q I rx ry ⟨i, j, rfl, rfl, h.int le bx⟩
    | _ => cases e
  | str i =>
    cases ra with
    | str hi =>
      cases b with
      | str j =>
        obtain ⟨rfl, hj⟩ := rb.str
        obtain ⟨hl, e⟩ := cons_ite (show (if i.length + j.length ≤ ln then some (D.str (i ++ j)) else none) = some d from e)
        subst e
        refine iop_add_str pins s σ H _ _ v u Q I rx ry ⟨mk i, mk j, rfl, rfl, by rw [mk_len, mk_len, ln_eq]; exact hl, ?_⟩
        rw [mk_app]
        exact h.str le bx ⟨fun c hc => (List.mem_append.mp hc).elim (hi.1 c) (hj.1 c), by rw [List.length_append]; exact hl⟩
      | _ => cases e
  | _ => cases e
theorem s_augV {i : Nat} {x : Str} {p1 : Pos} (hN : X.N.Nodup) (hi : X.N[i]? = some x) (hx : Loc X.env.scope x) (he : EOk X Φ WX0 e ie) (hf : X.fn x = true ∨ X.env.scope.names.lookup x = some .local) : StOk X Φ (.AugAssign (.Name x p1) .Add e pos) (.augV i ie) :=
  ⟨fun W E => (ps_aug hN hi hx (he.run true) aug_ok hf).weaken fun D_ σV H ⟨Hs, ρ, σ, B, s, out⟩ => by
    have out : OutS X.K W E D_ ((match σ[i]? with
      | some (.val c) => (ev Φ true ie σ B).bind fun x => (Rs.of (addV c (drf x.2 x.1))).bind fun d => .ok (.next, σ.set i (.val d), x.2)
      | _ => .bad)) := out
    have hsl : ∃ c, σ[i]? = some (.val c) := by
      cases q2 : σ[i]? with
      | none => rw [q2] at out; exact out.elim
      | some w =>
        cases w with
        | val c => exact ⟨c, rfl⟩
        | _ => rw [q2] at out; exact out.elim
    obtain ⟨c, hsl⟩ := hsl
    rw [hsl] at out
    have out : OutS X.K W E D_ ((ev Φ true ie σ B).bind fun x => (Rs.of (addV c (drf x.2 x.1))).bind fun d => .ok (.next, σ.set i (.val d), x.2)) := out
    have hil : i < σ.length := (List.getElem?_eq_some_iff.mp hsl).1
    obtain ⟨v, e1, r⟩ := s.st.sl i _ hsl
    refine ⟨v, ?_, Hs, ρ, σ, B, s.st, OutS.bindE out fun y B1 u H1 Hs1 ρ1 g1 l1 b1 r1 out => ?_⟩
    · cases q : σV[i]? with
      | none => rw [q] at e1; cases e1
      | some o => rw [q] at e1; exact congrArg some e1
    · obtain ⟨d, hd, out⟩ := OutS.of out
      refine ⟨Hs1, ρ1, B1, c, drf B1 y, d, l1, b1, g1.rep r, drf_ok r1 b1, hd, fun z H2 Hs2 ρ2 g2 l2 b2 r2 => ?_⟩
      exact out _ _ _ _ (((s.grow g1 l1 b1).grow g2 l2 b2).setV hil r2.val)⟩
end
end Pz
end
section
set_option Elab.async false
set_option linter.all false
set_option maxRecDepth 100000
namespace Pz
open PySem PySem.Spec PyProof.Rows L2

/-! ### loops -/
section
variable {K : PySem.W.Frag} {E : En} {Hs H : Hp} {ρ : List Addr} {σV : L2.St} {σ : Sg} {B : List D}
/-- a loop's own entry -/
theorem SSt.enter (s : SSt K E Hs ρ H σV σ B) : ∃ E', E'.Hs = Hs ∧ E'.ρ = ρ ∧ SSt K E' Hs ρ H σV σ B ∧ ∀ {Hs' H' : Hp} {ρ' : List Addr} {σV' : L2.St} {σ' : Sg} {B' : List D}, SSt K E' Hs' ρ' H' σV' σ' B' → SSt K E Hs' ρ' H' σV' σ' B' := by
  classical
  have hk : ∀ a o, (if E.H a ≠ none ∨ Hs a ≠ none then H a else none) = some o → H a = some o := fun a o h => by
    split at h
    · exact h
    · cases h
  refine ⟨⟨Hs, fun a => if E.H a ≠ none ∨ Hs a ≠ none then H a else none, ρ⟩, rfl, rfl, ⟨s.st, ⟨fun _ _ h => h, fun _ _ h => .inl ⟨_, h⟩, fun a o h _ => hk a o h, fun a o h => ⟨o, hk a o h⟩, List.prefix_refl _, fun _ h => .inl h⟩, fun i a d h1 h2 => ?_⟩, fun s' => ⟨s'.st, ?_, fun i a d h1 h2 => ?_⟩⟩
  · obtain ⟨a', e', _, n, _⟩ := s.st.slotV h1
    rw [h2] at e'
    cases e'
    have := s.ow i a d h1 h2
    exact if_neg (by simp [this, n])
  · refine Gr.trans (Hs' := Hs) (H' := fun a => if E.H a ≠ none ∨ Hs a ≠ none then H a else none) (ρ' := ρ) ⟨s.gr.hs, s.gr.fr, fun a o h n => ?_, fun a o h => ?_, s.gr.rp, s.gr.rn⟩ s'.gr
    · show (if E.H a ≠ none ∨ Hs a ≠ none then H a else none) = some o
      rw [if_pos (.inl (by rw [h]; simp))]
      exact s.gr.kp a o h n
    · obtain ⟨u, hu⟩ := s.gr.th a o h
      refine ⟨u, ?_⟩
      show (if E.H a ≠ none ∨ Hs a ≠ none then H a else none) = some u
      rw [if_pos (.inl (by rw [h]; simp))]
      exact hu
  · have q : (if E.H a ≠ none ∨ Hs a ≠ none then H a else none) = none := s'.ow i a d h1 h2
    cases e : E.H a with
    | none => rfl
    | some o =>
      rw [if_pos (.inl (by rw [e]; simp))] at q
      obtain ⟨u, hu⟩ := s.gr.th a o e
      rw [q] at hu; cases hu
end
section
variable {X : Cx} {Φ : Fn} {pos : Pos} {e : Expr} {ie : E} {body : List Stmt} {ib : Ss}
def rdSa (K : PySem.W.Frag) (Φ : Fn) (is : Ss) : TS := fun D_ σV H => ∃ W E, rdSs K Φ W E is D_ σV H
theorem ss_any (h : SsOk X Φ body ib) : PSs X body (rdSa X.K Φ ib) := ⟨fun pins s σ H D_ I ⟨W, E, q⟩ => (h.run W E).run pins s σ H D_ I q⟩
theorem s_for {tg : Tg} {tp it : Expr} {iit : E} (hp : PassesOwn (model X.prog X.w) X.A X.env X.xe) (hc : X.calm = true) (hi : IOk X Φ WX0 false tp it iit) (hg : GOk X tp tg) (hb : SsOk X Φ body ib) (hs : ∀ x, foldedSetIterable it X.env x = pure x := by intro _; rfl) :
    StOk X Φ (.For tp it body [] pos) (.for tg iit ib) :=
  ⟨fun W E => (ps_for hp hc hi.run hg.run (ss_any hb) hs).weaken fun D_ σV H ⟨Hs, ρ, σ, B, s, out⟩ => by
    have out : OutS X.K W E D_ ((ev Φ false iit σ B).bind fun x => (Rs.of (itemsOf x.1)).bind fun ds => forLoop (fun d σ B => (Rs.of (put tg d σ)).bind fun σ' => exs Φ ib σ' B) ds σ x.2) := out
    refine ⟨Hs, ρ, σ, B, s.st, ?_⟩
    cases q : ev Φ false iit σ B with
    | bad => rw [q] at out; exact out
    | ex c ps B => exact exx_any
    | ok x =>
      rw [q] at out
      obtain ⟨ds, hds, out⟩ := OutS.of (show OutS X.K W E D_ ((Rs.of (itemsOf x.1)).bind fun ds => forLoop (fun d σ B => (Rs.of (put tg d σ)).bind fun σ' => exs Φ ib σ' B) ds σ x.2) from out)
      show OutG X.K _ Hs ρ H ((Rs.of (itemsOf x.1)).bind fun ds => Rs.ok (ds, x.2)) _
      rw [hds]
      intro J H1 Hs1 ρ1 g1 l1 b1 hit
      obtain ⟨E', eh, er, s1, back⟩ := (s.grow g1 l1 b1).enter
      refine ⟨fun i m σV H => i ≤ ds.length ∧ m = ds.length - i ∧ ∃ Hs ρ σ B, SSt X.K E' Hs ρ H σV σ B ∧ OutS X.K W E D_ (forLoop (fun d σ B => (Rs.of (put tg d σ)).bind fun σ' => exs Φ ib σ' B) (ds.drop i) σ B),
        ⟨_, Nat.zero_le _, rfl, Hs1, ρ1, σ, x.2, s1, out⟩, ?_⟩
      rintro i m σV H ⟨hi, rfl, Hs, ρ, σ, B, s, out⟩
      have cnd : Cnd false Hs1 H1 ρ1 Hs H ρ := ⟨by rw [← eh]; exact s.gr.hs, by rw [← er]; exact s.gr.rp, fun z => by cases z⟩
      by_cases hl : i = ds.length
      · subst hl
        rw [List.drop_length] at out
        exact .inl ⟨hit.stop _ Hs H ρ cnd s.st.le (Nat.le_refl _), out σV H Hs ρ (back s)⟩
      · have hlt : i < ds.length := by omega
        have hd : ds[i]? = some ds[i] := List.getElem?_eq_getElem hlt
        rw [List.drop_eq_getElem_cons hlt] at out
        refine .inr ⟨hit.go i Hs H ρ cnd s.st.le hlt, fun σV' H' => i + 1 ≤ ds.length ∧ ∃ Hs ρ σ B, SSt X.K E' Hs ρ H' σV' σ B ∧ OutS X.K W E D_ (forLoop (fun d σ B => (Rs.of (put tg d σ)).bind fun σ' => exs Φ ib σ' B) (ds.drop (i + 1)) σ B),
          fun σV' H' h => ⟨ds.length - (i + 1), by omega, h.1, rfl, h.2⟩, fun xv H' hy => ?_⟩
        obtain ⟨Hs2, g2, l2, b2, r2⟩ := hit.yld i Hs H ρ B xv H' _ cnd s.st.le s.st.bx hd hy
        have s2 := s.grow g2 l2 b2
        have out : OutS X.K W E D_ (((Rs.of (put tg ds[i] σ)).bind fun σ' => exs Φ ib σ' B).bind fun x => match x.1 with
          | .next => forLoop (fun d σ B => (Rs.of (put tg d σ)).bind fun σ' => exs Φ ib σ' B) (ds.drop (i + 1)) x.2.1 x.2.2
          | .cnt => forLoop (fun d σ B => (Rs.of (put tg d σ)).bind fun σ' => exs Φ ib σ' B) (ds.drop (i + 1)) x.2.1 x.2.2
          | .brk => .ok (.next, x.2.1, x.2.2)
          | .ret d => .ok (.ret d, x.2.1, x.2.2)) := out
        rw [Rs.bind_bind] at out
        obtain ⟨σ', hput, out⟩ := OutS.of out
        refine ⟨Hs2, ρ, σ, B, _, σ', s2.st, r2, hput, fun σV' st k => ⟨W, E', Hs2, ρ, σ', B, s2.ofKept st k, ?_⟩⟩
        cases q2 : exs Φ ib σ' B with
        | bad => rw [q2] at out; exact out
        | ex c ps B => exact exx_any
        | ok y =>
          rw [q2] at out
          obtain ⟨fl, σ3, B3⟩ := y
          intro σV3 H3 Hs3 ρ3 s3
          cases fl with
          | next => exact ⟨hlt, Hs3, ρ3, σ3, B3, s3, out⟩
          | cnt => exact ⟨hlt, Hs3, ρ3, σ3, B3, s3, out⟩
          | brk => exact out σV3 H3 Hs3 ρ3 (back s3)
          | ret d => exact out σV3 H3 Hs3 ρ3 (back s3)⟩
theorem s_while {c : Expr} {ic : E} (hp : PassesOwn (model X.prog X.w) X.A X.env X.xe) (hc : TOk X Φ WX0 c ic) (hb : SsOk X Φ body ib) : StOk X Φ (.While c body [] pos) (.whl ic ib) :=
  ⟨fun W E => (ps_while hp hc.run (ss_any hb)).weaken fun D_ σV H ⟨Hs, ρ, σ, B, s, out⟩ => by
    have out : OutS X.K W E D_ (whlLoop (fun σ B => ev Φ false ic σ B) (fun σ B => exs Φ ib σ B) fuel σ B) := out
    refine ⟨fun m σV H => ∃ Hs ρ σ B, SSt X.K E Hs ρ H σV σ B ∧ OutS X.K W E D_ (whlLoop (fun σ B => ev Φ false ic σ B) (fun σ B => exs Φ ib σ B) m σ B), ⟨fuel, Hs, ρ, σ, B, s, out⟩, ?_⟩
    rintro m σV H ⟨Hs, ρ, σ, B, s, out⟩
    cases m with
    | zero => exact out.elim
    | succ m =>
      have out : OutS X.K W E D_ ((ev Φ false ic σ B).bind fun x => Pz.isB x.1 fun k => if k then (exs Φ ib σ x.2).bind fun x => match x.1 with
        | .next => whlLoop (fun σ B => ev Φ false ic σ B) (fun σ B => exs Φ ib σ B) m x.2.1 x.2.2
        | .cnt => whlLoop (fun σ B => ev Φ false ic σ B) (fun σ B => exs Φ ib σ B) m x.2.1 x.2.2
        | .brk => .ok (.next, x.2.1, x.2.2)
        | .ret d => .ok (.ret d, x.2.1, x.2.2)
        else .ok (.next, σ, x.2)) := out
      refine ⟨Hs, ρ, σ, B, s.st, OutS.bindE out fun x B1 v H1 Hs1 ρ1 g1 l1 b1 r1 out => ?_⟩
      have s1 := s.grow g1 l1 b1
      obtain ⟨k, rfl, out⟩ := out.isB
      refine ⟨k, bl_of r1, ?_⟩
      cases k with
      | false => exact out σV H1 Hs1 ρ1 s1
      | true =>
        refine ⟨fun σV' H' => ∃ Hs ρ σ B, SSt X.K E Hs ρ H' σV' σ B ∧ OutS X.K W E D_ (whlLoop (fun σ B => ev Φ false ic σ B) (fun σ B => exs Φ ib σ B) m σ B), fun σV' H' h => ⟨m, Nat.lt_succ_self _, h⟩, W, E, Hs1, ρ1, σ, B1, s1, ?_⟩
        cases q2 : exs Φ ib σ B1 with
        | bad => rw [q2] at out; exact out
        | ex c ps B => exact exx_any
        | ok y =>
          rw [q2] at out
          obtain ⟨fl, σ3, B3⟩ := y
          intro σV3 H3 Hs3 ρ3 s3
          cases fl with
          | next => exact ⟨Hs3, ρ3, σ3, B3, s3, out⟩
          | cnt => exact ⟨Hs3, ρ3, σ3, B3, s3, out⟩
          | brk => exact out σV3 H3 Hs3 ρ3 s3
          | ret d => exact out σV3 H3 Hs3 ρ3 s3⟩
end
end Pz
end
section
set_option Elab.async false
set_option linter.all false
set_option maxRecDepth 100000
namespace Pz
open PySem PySem.Spec PyProof.Rows L2

/-! ### list comprehensions -/
section
variable {K : PySem.W.Frag} {Hs0 Hs H0 H : Hp} {ρ0 ρ : List Addr} {W0 W : XK}
/-- a part of a run, while what is wanted stays put -/
theorem OutG.bindC {α : Type} {q : Bool} {R : α → Prop} {r : Rs (D × List D)} {f : D × List D → Rs α} {Q : VK} (h : OutG K W0 Hs0 ρ0 H0 (r.bind f) R)
    (k : ∀ d B' v H' Hs' ρ', Gr Hs H ρ Hs' H' ρ' → Le Hs' H' → BOk K Hs' ρ' H' B' → RelP K q Hs' ρ' H' d v → OutG K W0 Hs0 ρ0 H0 (f (d, B')) R → Q v H') : Out K W q Hs ρ H r Q := by
  cases r with
  | ok x => exact fun v H' Hs' ρ' g l b r => k x.1 x.2 v H' Hs' ρ' g l b r h
  | ex c ps B => exact exx_any
  | bad => exact h
theorem OutG.isB {α : Type} {R : α → Prop} {x : D} {f : Bool → Rs α} (h : OutG K W Hs ρ H (Pz.isB x f) R) : ∃ k, x = .bl k ∧ OutG K W Hs ρ H (f k) R := by
  cases x with
  | bl b => exact ⟨b, rfl, h⟩
  | _ => exact h.elim
end
structure TsOk (X : Cx) (Φ : Fn) (W : WX) (pe : List Expr) (ie : E) : Prop where
  run : PTs X pe (rdT X.K Φ W ie)
theorem PTs.weaken_ {X : Cx} {e : List Expr} {t t' : TT} (h : PTs X e t) (w : ∀ σ H Q, t' σ H Q → t σ H Q) : PTs X e t' := ⟨fun pins s σ H Q I q => h.run pins s σ H Q I (w σ H Q q)⟩
section
variable {X : Cx} {Φ : Fn} {W : WX} {c : Expr} {ic : E}
theorem ts_nil : TsOk X Φ W [] (.cst (.bl true)) := ⟨PTs.weaken_ pts_nil fun σV H Q ⟨Hs, ρ, σ, B, st, out⟩ => by
  obtain ⟨b, e, q⟩ := Yld.here (p := false) (show Yld X.K false Hs ρ H B (.bl true) _ from out) st.le st.bx (.bl true)
  cases e
  exact q⟩
theorem ts_one (h : TOk X Φ W c ic) : TsOk X Φ W [c] ic := ⟨pts_one h.run⟩
theorem wipe_set (σ : L2.St) : ∀ (vs : List Nat) (σ' : L2.St), σ'.length = σ.length → (∀ i, i ∉ vs → σ'[i]? = σ[i]?) → L2.wipe σ' vs = L2.wipe σ vs
  | [], σ', _, h => by
    show σ' = σ
    exact List.ext_getElem? fun i => h i List.not_mem_nil
  | v :: vs, σ', hl, h => by
    show (L2.wipe σ' vs).set v none = (L2.wipe σ vs).set v none
    refine List.ext_getElem? fun i => ?_
    by_cases e : v = i
    · subst e
      by_cases hv : v < σ.length
      · rw [List.getElem?_set_self (by rw [L2.wipe_length, hl]; exact hv), List.getElem?_set_self (by rw [L2.wipe_length]; exact hv)]
      · rw [List.getElem?_eq_none (by rw [List.length_set, L2.wipe_length, hl]; omega), List.getElem?_eq_none (by rw [List.length_set, L2.wipe_length]; omega)]
    · rw [List.getElem?_set_ne e, List.getElem?_set_ne e]
      by_cases hm : i ∈ vs
      · have key : ∀ (τ : L2.St) (vs : List Nat), i ∈ vs → (L2.wipe τ vs)[i]? = if i < τ.length then some none else none := fun τ vs => by
          induction vs with
          | nil => intro h; cases h
          | cons w ws ih =>
            intro h
            show ((L2.wipe τ ws).set w none)[i]? = _
            by_cases e2 : w = i
            · subst e2
              by_cases hv : w < τ.length
              · rw [List.getElem?_set_self (by rw [L2.wipe_length]; exact hv), if_pos hv]
              · rw [List.getElem?_eq_none (by rw [List.length_set, L2.wipe_length]; omega), if_neg hv]
            · rw [List.getElem?_set_ne e2]
              rcases List.mem_cons.mp h with z | z
              · exact absurd z.symm e2
              · exact ih z
        rw [key σ' vs hm, key σ vs hm, hl]
      · rw [wipe_out hm, wipe_out hm]
        exact h i fun z => (List.mem_cons.mp z).elim (fun z => e z.symm) hm
theorem wipe_wipe (σ : L2.St) (vs : List Nat) : L2.wipe (L2.wipe σ vs) vs = L2.wipe σ vs := wipe_set σ vs _ (L2.wipe_length σ vs) fun i hi => wipe_out hi
/-- the turns of a comprehension -/
abbrev lcF (Φ : Fn) (tg : Tg) (ic ie : E) (σ : Sg) : D → List D → Rs (Option D × List D) := fun d B => (Rs.of (put tg d (wipeS σ tg.names))).bind fun σ' => (ev Φ false ic σ' B).bind fun y => Pz.isB y.1 fun k =>
  if k then (ev Φ false ie σ' y.2).bind fun z => .ok (some z.1, z.2) else .ok (none, y.2)
theorem lc_turns {K : PySem.W.Frag} {Φ : Fn} {tg : Tg} {ic ie : E} {Wi : WX} {W0 : XK} {p : Bool} {J : It} {ds : List D} {Hs0 Hs1 H0 H1 : Hp} {ρ0 ρ1 : List Addr} {σV : L2.St} {σ : Sg} {B1 : List D} {R : D × List D → Prop} {Q : VK}
    (st : Stt K Hs1 ρ1 H1 σV σ B1) (hit : ItR K p J Hs1 ρ1 H1 ds) (hl : ds.length ≤ ln)
    (out : OutG K W0 Hs0 ρ0 H0 ((lcLoop (lcF Φ tg ic ie σ) ds B1).bind fun r => .ok (.lst r.1, r.2)) R) {D : Addr} (hD : H1 D = none)
    (fin : ∀ l B H Hs ρ, R (.lst l, B) → Gr Hs1 H1 ρ1 Hs H ρ → Le Hs H → BOk K Hs ρ H B → OwnAt K Hs ρ H D (.lst l) → Hs D = none → D ∉ ρ → Q (.ref D) H) :
    ∃ W : Nat → Nat → Hp → Prop, (∃ m, W 0 m (upd H1 D (.lst []))) ∧ ∀ i m H, W i m H →
      (J.stop i H ∧ Q (.ref D) H) ∨ (J.go i H ∧ ∃ Nx : Hp → Prop, (∀ H', Nx H' → ∃ m', m' < m ∧ W (i + 1) m' H') ∧ ∀ x H', J.yld i H x H' → rdP K tg x (L2.wipe σV tg.names) H' fun σ2 H2 => L2.wipe σ2 tg.names = L2.wipe σV tg.names ∧ rdT K Φ Wi ic σ2 H2 fun b H3 =>
        if b = true then rdE K Φ Wi false ie σ2 H3 fun y H4 => ∃ acc, H4 D = some (.lst acc) ∧ acc.length < sizeLine ∧ Nx (upd H4 D (.lst (acc ++ [y]))) else Nx H3) := by
  have hs0 : Hs1 D = none := st.le.there hD
  have hr0 : D ∉ ρ1 := rho_new hD st.bx
  let Inv_ : Nat → Hp → Prop := fun i H => i ≤ ds.length ∧ ∃ Hs ρ B acc accV, Gr Hs1 H1 ρ1 Hs H ρ ∧ Le Hs H ∧ BOk K Hs ρ H B ∧ H D = some (.lst accV) ∧ Hs D = none ∧ D ∉ ρ ∧ RepL K Hs ρ acc accV ∧ acc.length ≤ i ∧
    OutG K W0 Hs0 ρ0 H0 ((lcLoop (lcF Φ tg ic ie σ) (ds.drop i) B).bind fun r => .ok (.lst (acc ++ r.1), r.2)) R
  refine ⟨fun i m H => m = ds.length - i ∧ Inv_ i H, ⟨_, rfl, Nat.zero_le _, Hs1, ρ1, B1, [], [], gr_new hD, le_new st.le hD, bok_new hD st.bx, upd_same, hs0, hr0, .nil, Nat.zero_le _, out⟩, ?_⟩
  rintro i m H ⟨rfl, hi, Hs, ρ, B, acc, accV, g, l, b, h1, h2, h3, h4, h5, out⟩
  by_cases he : i = ds.length
  · subst he
    rw [List.drop_length] at out
    have out : R (.lst (acc ++ []), B) := out
    rw [List.append_nil] at out
    exact .inl ⟨hit.stop _ Hs H ρ (.of g) l (Nat.le_refl _), fin acc B H Hs ρ out g l b ⟨_, h1, h4⟩ h2 h3⟩
  · have hlt : i < ds.length := by omega
    rw [List.drop_eq_getElem_cons hlt] at out
    refine .inr ⟨hit.go i Hs H ρ (.of g) l hlt, fun H' => Inv_ (i + 1) H', fun H' h => ⟨ds.length - (i + 1), by omega, rfl, h⟩, fun x H' hy => ?_⟩
    obtain ⟨Hs2, g2, l2, b2, r2⟩ := hit.yld i Hs H ρ B x H' _ (.of g) l b (List.getElem?_eq_getElem hlt) hy
    have out : OutG K W0 Hs0 ρ0 H0 (((lcF Φ tg ic ie σ ds[i] B).bind fun x => (lcLoop (lcF Φ tg ic ie σ) (ds.drop (i + 1)) x.2).bind fun r => .ok ((match x.1 with | some y => y :: r.1 | none => r.1), r.2)).bind fun r => .ok (.lst (acc ++ r.1), r.2)) R := out
    rw [Rs.bind_bind] at out
    have out : OutG K W0 Hs0 ρ0 H0 (((Rs.of (put tg ds[i] (wipeS σ tg.names))).bind fun σ' => (ev Φ false ic σ' B).bind fun y => Pz.isB y.1 fun k =>
      if k then (ev Φ false ie σ' y.2).bind fun z => .ok (some z.1, z.2) else .ok (none, y.2)).bind fun x => ((lcLoop (lcF Φ tg ic ie σ) (ds.drop (i + 1)) x.2).bind fun r => .ok ((match x.1 with | some y => y :: r.1 | none => r.1), r.2)).bind fun r => .ok (.lst (acc ++ r.1), r.2)) R := out
    rw [Rs.bind_bind] at out
    obtain ⟨σ', hput, out⟩ := OutG.of out
    have hown : OwnAt K Hs ρ H D (.lst acc) := ⟨_, h1, h4⟩
    refine ⟨Hs2, ρ, wipeS σ tg.names, B, _, σ', ((st.grow g l b).grow g2 l2 b2).wipe_ _, r2, hput, fun σV' st' kp => ⟨?_, ?_⟩⟩
    · rw [wipe_set (L2.wipe σV tg.names) tg.names σV' kp.lv kp.v, wipe_wipe]
    rw [Rs.bind_bind] at out
    refine ⟨Hs2, ρ, σ', B, st', OutG.bindC out fun y B3 v H3 Hs3 ρ3 g3 l3 b3 r3 out => ?_⟩
    have hown3 := (g2.trans g3).own hown h2 h3
    have out : OutG K W0 Hs0 ρ0 H0 ((Pz.isB y fun k => if k then (ev Φ false ie σ' B3).bind fun z => Rs.ok (some z.1, z.2) else .ok (none, B3)).bind fun x => ((lcLoop (lcF Φ tg ic ie σ) (ds.drop (i + 1)) x.2).bind fun r => .ok ((match x.1 with | some y => y :: r.1 | none => r.1), r.2)).bind fun r => .ok (.lst (acc ++ r.1), r.2)) R := out
    have hy : ∃ k, y = .bl k := by
      cases y with
      | bl k => exact ⟨k, rfl⟩
      | _ => exact out.elim
    obtain ⟨k, rfl⟩ := hy
    refine ⟨k, bl_of r3, ?_⟩
    cases k with
    | false =>
      rw [if_neg Bool.false_ne_true]
      obtain ⟨⟨accV3, hd3, hr3⟩, hn3, hp3⟩ := hown3
      refine ⟨hlt, Hs3, ρ3, B3, acc, accV3, (g.trans g2).trans g3, l3, b3, hd3, hn3, hp3, hr3, by omega, ?_⟩
      have out : OutG K W0 Hs0 ρ0 H0 (((lcLoop (lcF Φ tg ic ie σ) (ds.drop (i + 1)) B3).bind fun r => Rs.ok (r.1, r.2)).bind fun r => .ok (.lst (acc ++ r.1), r.2)) R := out
      rw [Rs.bind_bind] at out
      exact out
    | true =>
      rw [if_pos rfl]
      have out : OutG K W0 Hs0 ρ0 H0 (((ev Φ false ie σ' B3).bind fun z => Rs.ok (some z.1, z.2)).bind fun x => ((lcLoop (lcF Φ tg ic ie σ) (ds.drop (i + 1)) x.2).bind fun r => .ok ((match x.1 with | some y => y :: r.1 | none => r.1), r.2)).bind fun r => .ok (.lst (acc ++ r.1), r.2)) R := out
      rw [Rs.bind_bind] at out
      refine ⟨Hs3, ρ3, σ', B3, st'.grow g3 l3 b3, OutG.bindC out fun z B4 w H4 Hs4 ρ4 g4 l4 b4 r4 out => ?_⟩
      obtain ⟨⟨accV4, hd4, hr4⟩, hn4, hp4⟩ := ((g2.trans g3).trans g4).own hown h2 h3
      have lenA : accV4.length < sizeLine := by
        rw [← hr4.length, ln_eq]
        omega
      refine ⟨accV4, hd4, lenA, hlt, Hs4, ρ4, B4, acc ++ [z], accV4 ++ [w], ?_, ?_, ?_, upd_same, hn4, hp4, hr4.append (.cons r4.val .nil), by rw [List.length_append, List.length_singleton]; omega, ?_⟩
      · have gg := ((g.trans g2).trans g3).trans g4
        refine ⟨gg.hs, gg.fr, fun a o q n => ?_, fun a o q => ?_, gg.rp, gg.rn⟩
        · rw [upd_ne (ne_of_none q hD)]
          exact gg.kp a o q n
        · rw [upd_ne (ne_of_none q hD)]
          exact gg.th a o q
      · intro a o q
        rw [upd_ne (ne_of_none q hn4)]
        exact l4 a o q
      · refine ⟨b4.len, b4.nd, fun n a d e1 e2 => ?_⟩
        obtain ⟨h, hn⟩ := b4.at_ n a d e1 e2
        exact ⟨h.mono (Le.refl _) (List.prefix_refl _) (upd_ne fun z => hp4 (by rw [← z]; exact List.mem_of_getElem? e1)), hn⟩
      · have out : OutG K W0 Hs0 ρ0 H0 (((lcLoop (lcF Φ tg ic ie σ) (ds.drop (i + 1)) B4).bind fun r => Rs.ok (z :: r.1, r.2)).bind fun r => .ok (.lst (acc ++ r.1), r.2)) R := out
        rw [Rs.bind_bind] at out
        have e : (fun r : List Pz.D × List Pz.D => (Rs.ok (z :: r.1, r.2)).bind fun r => Rs.ok (Pz.D.lst (acc ++ r.1), r.2)) = fun r => Rs.ok (Pz.D.lst (acc ++ [z] ++ r.1), r.2) := by
          funext r
          show Rs.ok (Pz.D.lst (acc ++ z :: r.1), r.2) = _
          rw [List.append_assoc, List.singleton_append]
        rw [e] at out
        exact out
end
section
variable {X : Cx} {Φ : Fn} {W : WX} {elt tp it : Expr} {ifs : List Expr} {scope : Scope} {own : List (Str × Nat)} {cpos : Pos} {tg : Tg} {iit ic ie : E}
theorem lc_core {R : Hp → List Addr → Hp → D × List D → Prop} (hR : Shf R) {σV : L2.St} {H : Hp} {Q : VK} {p : Bool}
    (hq : ∀ Hs ρ H x, R Hs ρ H x → YldN X.K Hs ρ H x.2 x.1 Q) (h : ∃ Hs ρ σ B, Stt X.K Hs ρ H σV σ B ∧ OutG X.K (fun c d h => W c d σV h) Hs ρ H (ev Φ p (.lc tg iit ic ie) σ B) (R Hs ρ H)) :
    tLc (rdI X.K Φ W true iit) (rdP X.K tg) (rdT X.K Φ WX0 ic) (rdE X.K Φ WX0 false ie) tg.names σV H Q := by
  obtain ⟨Hs, ρ, σ, B, st, out⟩ := h
  refine ⟨Hs, ρ, σ, B, st, ?_⟩
  have out : OutG X.K (fun c d h => W c d σV h) Hs ρ H ((ev Φ true iit σ B).bind fun x => (Rs.of (itemsOf x.1)).bind fun ds => if ds.length ≤ ln then (lcLoop (lcF Φ tg ic ie σ) ds x.2).bind fun r => .ok (.lst r.1, r.2) else .bad) (R Hs ρ H) := out
  cases q : ev Φ true iit σ B with
  | bad => rw [q] at out; exact out
  | ex c ps B => exact exx_any
  | ok x =>
    rw [q] at out
    obtain ⟨ds, hds, out⟩ := OutG.of (show OutG X.K _ Hs ρ H ((Rs.of (itemsOf x.1)).bind fun ds => if ds.length ≤ ln then (lcLoop (lcF Φ tg ic ie σ) ds x.2).bind fun r => Rs.ok (.lst r.1, r.2) else .bad) (R Hs ρ H) from out)
    obtain ⟨hl, out⟩ := OutG.ite out
    show OutG X.K _ Hs ρ H ((Rs.of (itemsOf x.1)).bind fun ds => Rs.ok (ds, x.2)) _
    rw [hds]
    intro J H1 Hs1 ρ1 g1 l1 b1 hit D hD
    refine lc_turns (st.grow g1 l1 b1) hit hl out hD fun l B H' Hs' ρ' r g l_ b own n nr => ?_
    have y : YldF X.K Hs ρ H B (.lst l) Q := hq _ _ _ _ r
    exact y D H' Hs' ρ' (g1.trans g) l_ b own n nr (g1.none_ hD)
theorem e_lc (hc : X.calm = true) (hN : X.N.Nodup) (hi : IOk X Φ W true tp it iit) (ok : BlkOk X.N X.env.scope scope own) (hv : own.map (·.2) = tg.names)
    (hg : ∀ (s : Shared) (H : Hp) (C : Addr) (cl : List (Str × Addr)) (fp : List Addr), GOk (X.blk s H scope (compEnvC scope cl C X.env) fp) tp tg)
    (ht : ∀ (s : Shared) (H : Hp) (C : Addr) (cl : List (Str × Addr)) (fp : List Addr), TsOk (X.blk s H scope (compEnvC scope cl C X.env) fp) Φ WX0 ifs ic)
    (he : ∀ (s : Shared) (H : Hp) (C : Addr) (cl : List (Str × Addr)) (fp : List Addr), EOk (X.blk s H scope (compEnvC scope cl C X.env) fp) Φ WX0 elt ie)
    (hs : ∀ x, foldedSetIterable it X.env x = pure x := by intro _; rfl) : EOk X Φ W (.ListComp elt [⟨tp, it, ifs, 0⟩] scope cpos) (.lc tg iit ic ie) :=
  ⟨fun p => (pe_lc (own := own) hc hN hi.run ok (fun s H C cl fp => (hg s H C cl fp).run) (fun s H C cl fp => (ht s H C cl fp).run) (fun s H C cl fp => (he s H C cl fp).run false) hs).weaken fun σV H Q h => by
    rw [hv]
    exact lc_core Yld.shf (fun _ _ _ _ h => .of h) h⟩
theorem f_lc (hc : X.calm = true) (hN : X.N.Nodup) (hi : IOk X Φ W true tp it iit) (ok : BlkOk X.N X.env.scope scope own) (hv : own.map (·.2) = tg.names)
    (hg : ∀ (s : Shared) (H : Hp) (C : Addr) (cl : List (Str × Addr)) (fp : List Addr), GOk (X.blk s H scope (compEnvC scope cl C X.env) fp) tp tg)
    (ht : ∀ (s : Shared) (H : Hp) (C : Addr) (cl : List (Str × Addr)) (fp : List Addr), TsOk (X.blk s H scope (compEnvC scope cl C X.env) fp) Φ WX0 ifs ic)
    (he : ∀ (s : Shared) (H : Hp) (C : Addr) (cl : List (Str × Addr)) (fp : List Addr), EOk (X.blk s H scope (compEnvC scope cl C X.env) fp) Φ WX0 elt ie)
    (hs : ∀ x, foldedSetIterable it X.env x = pure x := by intro _; rfl) : FOk X Φ W (.ListComp elt [⟨tp, it, ifs, 0⟩] scope cpos) (.lc tg iit ic ie) :=
  ⟨(pe_lc (own := own) hc hN hi.run ok (fun s H C cl fp => (hg s H C cl fp).run) (fun s H C cl fp => (ht s H C cl fp).run) (fun s H C cl fp => (he s H C cl fp).run false) hs).weaken fun σV H Q h => by
    rw [hv]
    exact lc_core YldF.shf (fun _ _ _ _ h => .ofF h) h⟩
end
end Pz
end
section
set_option Elab.async false
set_option linter.all false
set_option maxRecDepth 100000
namespace Pz
open PySem PySem.Spec PyProof.Rows L2

/-! ### defs -/
def spD (K : PySem.W.Frag) (φ : List D → List D → Rs (D × List D)) : Sp := fun vs H Q E => ∃ Hs ρ B ds, Le Hs H ∧ BOk K Hs ρ H B ∧ RepL K Hs ρ ds vs ∧ Out K E false Hs ρ H (φ ds B) Q
/-- a def of the module, known by its promise -/
structure Cl (P : Program) (w : World) (K : PySem.W.Frag) (mg : Str → Option Value) (base : Heap) (k : Nat) (Φ : Fn) (x : Str) (id : Nat) : Prop where
  ex : ∃ (f : Addr) (fd : FuncData) (ps : List Str), FnOk P w K mg base CX0 k f fd ps (spD K (Φ id)) ∧ mg x = some (.ref f) ∧ PySem.W.keepIn K (.ref f) = true ∧ Binds K fd ps []
section
variable {X : Cx} {Φ : Fn} {W : WX} {e : Expr} {es : List Expr} {ies : Es} {p pos : Pos} {x : Str} {k id : Nat}
theorem e_call (C : Cl X.prog X.w X.K X.mg X.base k Φ x id) (hr : Room k X.A) (hg : Gl X x) (ha : AOk X Φ W (e :: es) ies) (hdb : (x == ("__debug__" : Str)) = false := by decide)
    (he : starEach (e :: es) X.env = (false, eval e X.env) :: starEach es X.env := by rfl) (hpl : (backTo pos (starEach es X.env)).any (·.1) = false := by rfl) : EOk X Φ W (.Call (.Name x p) (e :: es) [] pos) (.call id ies) := by
  obtain ⟨f, fd, ps, F, hm, hk, hb⟩ := C.ex
  refine ⟨fun p => (pe_call (E := fun _ _ _ => False) F hr hg hm hk hb .nil pass0 (ha.run false) hdb he hpl).weaken fun σV H Q ⟨Hs, ρ, σ, B, st, out⟩ => ?_⟩
  refine ⟨Hs, ρ, σ, B, st, Out.bindL (p := p) (Q := Q) out fun ds B1 vs H1 Hs1 ρ1 g1 l1 b1 r1 out => ?_⟩
  refine ⟨Hs1, ρ1, B1, ds, l1, b1, by rw [List.append_nil]; exact repL_of r1, ?_⟩
  have out : Out X.K (fun c d h => W c d σV h) p Hs1 ρ1 H1 (Φ id ds B1) Q := out
  show Out X.K _ false Hs1 ρ1 H1 (Φ id ds B1) Q
  cases q : Φ id ds B1 with
  | ok x => rw [q] at out; exact Yld.f (p := p) out
  | ex c ps B => exact exx_any
  | bad => rw [q] at out; exact out
end
section
variable {P : Program} {w : World} {K : PySem.W.Frag} {mg : Str → Option Value} {base : Heap} {x qual : Str} {params : Arguments} {body : List Stmt} {scope : Scope} {f : Addr} {fd : FuncData} {N ps : List Str} {tb : Nat → Option Fd} {n id np ns : Nat} {ib : Ss}
theorem len_of {φ : List D → List D → Rs (D × List D)} (h : ∀ ds B, φ ds B ≠ .bad → ds.length = np) {vs : List V} {H : Hp} {Q : VK} {E : XK} (s : spD K φ vs H Q E) : vs.length = np := by
  obtain ⟨Hs, ρ, B, ds, l, b, r, out⟩ := s
  rw [← r.length]
  refine h ds B fun z => ?_
  rw [z] at out
  exact out
theorem fn_zero (hnp : ps.length = np) : FnOk P w K mg base CX0 0 f fd ps (spD K (run tb 0 id)) :=
  ⟨fun vs H Q E h => by
    obtain ⟨Hs, ρ, B, ds, l, b, r, out⟩ := h
    exact (show False from out).elim, fun A outer s H args us vs Q E hr e0 hb hv h => by
    obtain ⟨Hs, ρ, B, ds, l, b, r, out⟩ := h
    exact (show False from out).elim⟩
theorem start_at {α β : Type} {f : α → β} {z : β} {l : List α} {n i : Nat} {y : β} (h : (l.map f ++ List.replicate n z)[i]? = some y) : (∃ a, l[i]? = some a ∧ y = f a) ∨ y = z := by
  by_cases hi : i < l.length
  · rw [List.getElem?_append_left (by simpa using hi), List.getElem?_map] at h
    obtain ⟨a, e, rfl⟩ := Option.map_eq_some_iff.mp h
    exact .inl ⟨a, e, rfl⟩
  · rw [List.getElem?_append_right (by simpa using hi), List.getElem?_replicate] at h
    split at h
    · cases h; exact .inr rfl
    · cases h
theorem stt_start {Hs H : Hp} {ρ : List Addr} {B ds : List D} {vs : List V} (le : Le Hs H) (bx : BOk K Hs ρ H B) (r : RepL K Hs ρ ds vs) (hns : N.length = ns) : Stt K Hs ρ H (L2.start N vs) (Pz.start ns ds) B := by
  refine ⟨le, bx, ?_, fun i s h => ?_, fun i j a d e h1 h2 h3 h4 => ?_⟩
  · unfold L2.start Pz.start
    rw [List.length_append, List.length_append, List.length_map, List.length_map, List.length_replicate, List.length_replicate, hns, r.length]
  · unfold Pz.start at h
    rcases start_at h with ⟨d, e, rfl⟩ | rfl
    · obtain ⟨v, ev_, rv⟩ := r.get e
      refine ⟨v, ?_, rv⟩
      unfold L2.start
      have hi : i < vs.length := (List.getElem?_eq_some_iff.mp ev_).1
      rw [List.getElem?_append_left (by simpa using hi), List.getElem?_map, ev_]
      rfl
    · trivial
  · unfold Pz.start at h1
    rcases start_at h1 with ⟨d, e, z⟩ | z <;> cases z
theorem fn_ok (F : FunD K x qual params body scope [] [] f fd) (S : FnScope N ps scope) (ht : tb id = some ⟨np, ns, ib⟩) (hnp : ps.length = np) (hns : N.length = ns)
    (hb : ∀ (cdv : Value) (A : Around) (outer : List Env) (s : Shared) (H : Hp) (E : XK), Room n (A.deeper (envOfC qual scope s.heap.objs.size f cdv)) → SsOk (cxOf CX0 P w K mg base N qual scope f cdv A outer s H E).nox (run tb n) body ib) :
    FnOk P w K mg base CX0 (n + 1) f fd ps (spD K (run tb (n + 1) id)) := by
  have hrun : ∀ ds B, run tb (n + 1) id ds B = if ds.length = np then (exs (run tb n) ib (Pz.start ns ds) B).bind fun x => match x.1 with
      | .ret d => .ok (d, x.2.2)
      | .next => .ok (.non, x.2.2)
      | _ => .bad
      else .bad := fun ds B => by
    show (match tb id with
      | some fd => if ds.length = fd.np then (exs (run tb n) fd.body (Pz.start fd.ns ds) B).bind fun x => match x.1 with
        | .ret d => .ok (d, x.2.2)
        | .next => .ok (.non, x.2.2)
        | _ => .bad
        else .bad
      | none => .bad) = _
    rw [ht]
  refine F.ok S (fun vs H Q E h => ?_) fun cdv A outer s H vs Q E hr h => ⟨rdSa K (run tb n) ib, PSs.nox (ss_any (hb cdv A outer s H E hr)), ?_⟩
  · rw [hnp]
    refine len_of (fun ds B hne => ?_) h
    by_cases z : ds.length = np
    · exact z
    · rw [hrun, if_neg z] at hne
      exact absurd rfl hne
  · obtain ⟨Hs, ρ, B, ds, l, b, r, out⟩ := h
    rw [hrun] at out
    obtain ⟨hl, out⟩ := OutG.ite (show OutG K E Hs ρ H _ _ from out)
    refine ⟨fun _ _ _ => False, ⟨Hs, H, ρ⟩, Hs, ρ, Pz.start ns ds, B, ⟨stt_start l b r hns, .refl, fun i a d h1 h2 => ?_⟩, ?_⟩
    · unfold Pz.start at h1
      rcases start_at h1 with ⟨d, e, z⟩ | z <;> cases z
    · cases q : exs (run tb n) ib (Pz.start ns ds) B with
      | bad => rw [q] at out; exact out
      | ex c ps B => exact exx_any
      | ok y =>
        rw [q] at out
        obtain ⟨fl, σ3, B3⟩ := y
        intro σV3 H3 Hs3 ρ3 s3
        cases fl with
        | next => exact (show Yld K false Hs ρ H B3 .non Q from out) _ _ _ _ s3.gr s3.st.le s3.st.bx (.of .non)
        | ret d => exact fun v rv => (show Yld K false Hs ρ H B3 d Q from out) _ _ _ _ s3.gr s3.st.le s3.st.bx (.of rv)
        | brk => exact out.elim
        | cnt => exact out.elim
end

/-! ### built-in functions -/
def rBi (K : PySem.W.Frag) (b : Bi) : List V → Hp → VK → Prop := fun vs H Q => ∃ Hs ρ B ds d, Le Hs H ∧ BOk K Hs ρ H B ∧ Paired (RP K Hs ρ H) ds vs ∧ opBi b ds = some d ∧ Yld K false Hs ρ H B d Q
/-- .. that make a new thing -/
def rBiN (K : PySem.W.Frag) (b : Bi) : List V → Hp → VK → Prop := fun vs H Q => ∃ Hs ρ B ds d, Le Hs H ∧ BOk K Hs ρ H B ∧ Paired (RP K Hs ρ H) ds vs ∧ opBi b ds = some d ∧ YldN K Hs ρ H B d Q
section
variable {X : Cx} {Φ : Fn} {W : WX} {e : Expr} {es : List Expr} {ies : Es} {p pos : Pos} {x : Str} {b : Bi} {id T : String}
theorem bi_core {σV : L2.St} {H : Hp} {Q : VK} {p : Bool} (h : rdE X.K Φ W p (.bi b ies) σV H Q) : tCB (rBi X.K b) (rdA X.K Φ W true ies) σV H Q := by
  obtain ⟨Hs, ρ, σ, B, st, out⟩ := h
  refine ⟨Hs, ρ, σ, B, st, Out.bindL (p := p) (Q := Q) out fun ds B1 vs H1 Hs1 ρ1 g1 l1 b1 r1 out => ?_⟩
  obtain ⟨d, hd, out⟩ := Out.of out
  exact ⟨Hs1, ρ1, B1, _, d, l1, b1, rp_of r1 b1, hd, Yld.f (p := p) out⟩
theorem biN_core {R : Hp → List Addr → Hp → D × List D → Prop} (hR : Shf R) (hq : ∀ Hs ρ H x, R Hs ρ H x → YldN X.K Hs ρ H x.2 x.1 Q) {σV : L2.St} {H : Hp} {p : Bool}
    (h : ∃ Hs ρ σ B, Stt X.K Hs ρ H σV σ B ∧ OutG X.K (fun c d h => W c d σV h) Hs ρ H (ev Φ p (.bi b ies) σ B) (R Hs ρ H)) : tCB (rBiN X.K b) (rdA X.K Φ W true ies) σV H Q := by
  obtain ⟨Hs, ρ, σ, B, st, out⟩ := h
  refine ⟨Hs, ρ, σ, B, st, OutG.bindL hR out fun ds B1 vs H1 Hs1 ρ1 g1 l1 b1 r1 out => ?_⟩
  obtain ⟨d, hd, out⟩ := OutG.of out
  exact ⟨Hs1, ρ1, B1, _, d, l1, b1, rp_of r1 b1, hd, hq _ _ _ (d, B1) out⟩
theorem e_biB (hc : CallR X (.builtin id) (rBi X.K b)) (hg : Gl X x) (hm : X.mg x = none) (hv : bootBuiltins x = some (.builtin id)) (ha : AOk X Φ W (e :: es) ies) (hn : x ≠ "__name__" := by decide) (hdb : (x == ("__debug__" : Str)) = false := by decide)
    (he : starEach (e :: es) X.env = (false, eval e X.env) :: starEach es X.env := by rfl) (hpl : (backTo pos (starEach es X.env)).any (·.1) = false := by rfl) : EOk X Φ W (.Call (.Name x p) (e :: es) [] pos) (.bi b ies) :=
  ⟨fun p => (pe_callB hc hg hm hv (ha.run true) hn hdb he hpl).weaken fun σV H Q h => bi_core h⟩
theorem e_biT (hc : CallR X (.type T) (rBi X.K b)) (hg : Gl X x) (hm : X.mg x = none) (hv : bootBuiltins x = some (.type T)) (ha : AOk X Φ W (e :: es) ies) (hn : x ≠ "__name__" := by decide) (hdb : (x == ("__debug__" : Str)) = false := by decide)
    (he : starEach (e :: es) X.env = (false, eval e X.env) :: starEach es X.env := by rfl) (hpl : (backTo pos (starEach es X.env)).any (·.1) = false := by rfl) : EOk X Φ W (.Call (.Name x p) (e :: es) [] pos) (.bi b ies) :=
  ⟨fun p => (pe_callTy hc hg hm hv (ha.run true) hn hdb he hpl).weaken fun σV H Q h => bi_core h⟩
theorem e_biNB (hc : CallR X (.builtin id) (rBiN X.K b)) (hg : Gl X x) (hm : X.mg x = none) (hv : bootBuiltins x = some (.builtin id)) (ha : AOk X Φ W (e :: es) ies) (hn : x ≠ "__name__" := by decide) (hdb : (x == ("__debug__" : Str)) = false := by decide)
    (he : starEach (e :: es) X.env = (false, eval e X.env) :: starEach es X.env := by rfl) (hpl : (backTo pos (starEach es X.env)).any (·.1) = false := by rfl) : EOk X Φ W (.Call (.Name x p) (e :: es) [] pos) (.bi b ies) :=
  ⟨fun p => (pe_callB hc hg hm hv (ha.run true) hn hdb he hpl).weaken fun σV H Q h => biN_core Yld.shf (fun _ _ _ _ h => .of h) h⟩
theorem f_biNB (hc : CallR X (.builtin id) (rBiN X.K b)) (hg : Gl X x) (hm : X.mg x = none) (hv : bootBuiltins x = some (.builtin id)) (ha : AOk X Φ W (e :: es) ies) (hn : x ≠ "__name__" := by decide) (hdb : (x == ("__debug__" : Str)) = false := by decide)
    (he : starEach (e :: es) X.env = (false, eval e X.env) :: starEach es X.env := by rfl) (hpl : (backTo pos (starEach es X.env)).any (·.1) = false := by rfl) : FOk X Φ W (.Call (.Name x p) (e :: es) [] pos) (.bi b ies) :=
  ⟨(pe_callB hc hg hm hv (ha.run true) hn hdb he hpl).weaken fun σV H Q h => biN_core YldF.shf (fun _ _ _ _ h => .ofF h) h⟩
theorem e_biNT (hc : CallR X (.type T) (rBiN X.K b)) (hg : Gl X x) (hm : X.mg x = none) (hv : bootBuiltins x = some (.type T)) (ha : AOk X Φ W (e :: es) ies) (hn : x ≠ "__name__" := by decide) (hdb : (x == ("__debug__" : Str)) = false := by decide)
    (he : starEach (e :: es) X.env = (false, eval e X.env) :: starEach es X.env := by rfl) (hpl : (backTo pos (starEach es X.env)).any (·.1) = false := by rfl) : EOk X Φ W (.Call (.Name x p) (e :: es) [] pos) (.bi b ies) :=
  ⟨fun p => (pe_callTy hc hg hm hv (ha.run true) hn hdb he hpl).weaken fun σV H Q h => biN_core Yld.shf (fun _ _ _ _ h => .of h) h⟩
theorem f_biNT (hc : CallR X (.type T) (rBiN X.K b)) (hg : Gl X x) (hm : X.mg x = none) (hv : bootBuiltins x = some (.type T)) (ha : AOk X Φ W (e :: es) ies) (hn : x ≠ "__name__" := by decide) (hdb : (x == ("__debug__" : Str)) = false := by decide)
    (he : starEach (e :: es) X.env = (false, eval e X.env) :: starEach es X.env := by rfl) (hpl : (backTo pos (starEach es X.env)).any (·.1) = false := by rfl) : FOk X Φ W (.Call (.Name x p) (e :: es) [] pos) (.bi b ies) :=
  ⟨(pe_callTy hc hg hm hv (ha.run true) hn hdb he hpl).weaken fun σV H Q h => biN_core YldF.shf (fun _ _ _ _ h => .ofF h) h⟩
end
end Pz
end
section
set_option Elab.async false
set_option linter.all false
set_option maxRecDepth 100000
namespace Pz
open PySem PySem.Spec PyProof.Rows L2

/-! ### isinstance -/
def Ty.nm : Ty → String
  | .int => "int"
  | .bool => "bool"
  | .str => "str"
  | .tup => "tuple"
  | .lst => "list"
  | .dic => "dict"
  | .none => "NoneType"
section
variable {X : Cx} {Φ : Fn} {W : WX} {a : Expr} {ia : E} {p q pos : Pos} {y : Str}
theorem isi_val {t : Ty} {d : D} {b : Bool} {K : PySem.W.Frag} {Hs H : Hp} {ρ : List Addr} {x : V} (le : Le Hs H) (r : RP K Hs ρ H d x) (e : isiD t d = some b) : ∃ T, TyX K H x T ∧ PySem.W.kitOne K T (.type t.nm) = some b := by
  cases d with
  | non => cases r.non; refine ⟨_, .base .non, ?_⟩; cases t <;> first | (cases e; done) | (cases e; rfl) | (cases e; kernel_rfl)
  | bl k => cases r.bl; refine ⟨_, .base (.bl k), ?_⟩; cases t <;> first | (cases e; done) | (cases e; rfl) | (cases e; kernel_rfl)
  | int k => cases r.int; refine ⟨_, .base (.int k), ?_⟩; cases t <;> first | (cases e; done) | (cases e; rfl) | (cases e; kernel_rfl)
  | str k => cases r.str.1; refine ⟨_, .base (.str _), ?_⟩; cases t <;> first | (cases e; done) | (cases e; rfl) | (cases e; kernel_rfl)
  | tup k =>
    obtain ⟨a, xs, rfl, h, _⟩ := r.tup le
    refine ⟨_, .base (.tup h), ?_⟩; cases t <;> first | (cases e; done) | (cases e; rfl) | (cases e; kernel_rfl)
  | lst k =>
    obtain ⟨a, xs, rfl, h, _⟩ := r.lst le
    refine ⟨_, .base (.lst h), ?_⟩; cases t <;> first | (cases e; done) | (cases e; rfl) | (cases e; kernel_rfl)
  | _ => cases t <;> cases e
def rIsiD (K : PySem.W.Frag) (t : Ty) : List V → Hp → VK → Prop := fun vs H Q => ∃ Hs ρ B d b x, vs = [x, .ty t.nm] ∧ Le Hs H ∧ BOk K Hs ρ H B ∧ RP K Hs ρ H d x ∧ isiD t d = some b ∧ Yld K false Hs ρ H B (.bl b) Q
theorem isi_ok {t : Ty} : CallR X (.builtin "isinstance") (rIsiD X.K t) := by
  rintro pins s σ H vs us Q I r ⟨Hs, ρ, B, d, b, x, rfl, le, bx, rd, e, h⟩
  obtain ⟨T, h1, h2⟩ := isi_val le rd e
  exact call_isi pins s σ H _ us Q I r ⟨x, .ty t.nm, T, .type t.nm, b, rfl, .ty _, h1, h2, h.bl le bx⟩
theorem e_isi {t : Ty} (ha : EOk X Φ W a ia) (hg : Gl X "isinstance") (hm : X.mg "isinstance" = none) (hg2 : Gl X y) (hm2 : X.mg y = none) (hv : bootBuiltins y = some (.type t.nm)) (hn : y ≠ "__name__" := by decide) (hd : (y == ("__debug__" : Str)) = false := by decide)
    (he : starEach [a, .Name y q] X.env = (false, eval a X.env) :: starEach [.Name y q] X.env := by rfl) (he2 : starEach [.Name y q] X.env = (false, eval (.Name y q) X.env) :: starEach [] X.env := by rfl) (hpl : (backTo pos (starEach [.Name y q] X.env)).any (·.1) = false := by rfl) :
    EOk X Φ W (.Call (.Name "isinstance" p) [a, .Name y q] [] pos) (.isi ia t) :=
  ⟨fun p => (pe_callB (isi_ok (t := t)) hg hm boot_isinstance (pa_cons (ha.run true) (pa_cons (pe_bltn hg2 hm2 hv (v := .ty t.nm) rfl hn hd) pa_nil he2) he) (by decide) (by decide) he hpl).weaken fun σV H Q ⟨Hs, ρ, σ, B, st, out⟩ => by
    refine ⟨Hs, ρ, σ, B, st, Out.bind (p := p) (Q := Q) out fun x B1 v H1 Hs1 ρ1 g1 l1 b1 r1 out => ?_⟩
    obtain ⟨b, hb, out⟩ := Out.of out
    exact ⟨Hs1, ρ1, B1, _, b, v, rfl, l1, b1, drf_ok r1 b1, hb, Yld.f (p := p) out⟩⟩
end

/-! ### the built-in functions -/
section
variable {K : PySem.W.Frag} {Hs H : Hp} {ρ : List Addr}
theorem intL_rep : ∀ {l : List D} {xs : List V} {ns : List Int}, RepL K Hs ρ l xs → intL l = some ns → xs = ns.map V.int
  | [], _, _, r, e => by cases r; cases e; rfl
  | d :: l, _, ns, .cons h r, e => by
    cases d with
    | int i =>
      obtain ⟨ms, e1, rfl⟩ := Option.map_eq_some_iff.mp (show (intL l).map (i :: ·) = some ns from e)
      cases h
      rw [List.map_cons, intL_rep r e1]
    | _ => cases e
theorem blL_rep : ∀ {l : List D} {xs : List V} {ns : List Bool}, RepL K Hs ρ l xs → blL l = some ns → xs = ns.map V.bl
  | [], _, _, r, e => by cases r; cases e; rfl
  | d :: l, _, ns, .cons h r, e => by
    cases d with
    | bl i =>
      obtain ⟨ms, e1, rfl⟩ := Option.map_eq_some_iff.mp (show (blL l).map (i :: ·) = some ns from e)
      cases h
      rw [List.map_cons, blL_rep r e1]
    | _ => cases e
theorem strL_rep : ∀ {l : List D} {xs : List V} {ns : List (List Nat)}, RepL K Hs ρ l xs → strL l = some ns → xs = (ns.map mk).map V.str ∧ ∀ x ∈ ns, SOk x
  | [], _, _, r, e => by cases r; cases e; exact ⟨rfl, fun _ h => by cases h⟩
  | d :: l, _, ns, .cons h r, e => by
    cases d with
    | str i =>
      obtain ⟨ms, e1, rfl⟩ := Option.map_eq_some_iff.mp (show (strL l).map (i :: ·) = some ns from e)
      obtain ⟨e2, h2⟩ := strL_rep r e1
      cases h with
      | str hi =>
        rw [List.map_cons, List.map_cons, e2]
        exact ⟨rfl, fun x hx => (List.mem_cons.mp hx).elim (fun z => by rw [z]; exact hi) (h2 x)⟩
    | _ => cases e
end
theorem one_of {K : PySem.W.Frag} {Hs H : Hp} {ρ : List Addr} {d : D} {vs : List V} (r : Paired (RP K Hs ρ H) [d] vs) : ∃ x, vs = [x] ∧ RP K Hs ρ H d x := by
  cases r with
  | cons h t => cases t; exact ⟨_, rfl, h⟩
theorem two_of {K : PySem.W.Frag} {Hs H : Hp} {ρ : List Addr} {d e : D} {vs : List V} (r : Paired (RP K Hs ρ H) [d, e] vs) : ∃ x y, vs = [x, y] ∧ RP K Hs ρ H d x ∧ RP K Hs ρ H e y := by
  cases r with
  | cons h t => cases t with
    | cons g t => cases t; exact ⟨_, _, rfl, h, g⟩
section
variable {X : Cx}
theorem bi_len_ok : CallR X (.builtin "len") (rBi X.K .len) := by
  rintro pins s σ H vs us Q I rv ⟨Hs, ρ, B, ds, d, le, bx, r, e, h⟩
  have e : bi_len ds = some d := e
  unfold bi_len at e
  split at e <;> first | cases e | skip
  · rename_i l
    obtain ⟨x, rfl, rx⟩ := one_of r
    obtain ⟨a, xs, rfl, ha, rr⟩ := rx.lst le
    rw [rr.length] at h
    exact call_len_seq pins s σ H _ us Q I rv ⟨a, xs, rfl, .inl (SqL.of ha), h.int le bx⟩
  · rename_i l
    obtain ⟨x, rfl, rx⟩ := one_of r
    obtain ⟨a, xs, rfl, ha, rr⟩ := rx.tup le
    rw [rr.length] at h
    exact call_len_seq pins s σ H _ us Q I rv ⟨a, xs, rfl, .inr (SqT.of ha), h.int le bx⟩
  · rename_i l
    obtain ⟨x, rfl, rx⟩ := one_of r
    obtain ⟨rfl, hl⟩ := rx.str
    rw [← mk_len] at h
    exact call_len_str pins s σ H _ us Q I rv ⟨mk l, rfl, by rw [mk_len, ln_eq]; exact hl.2, h.int le bx⟩
  · rename_i t l
    obtain ⟨x, rfl, rx⟩ := one_of r
    cases t with
    | false =>
      obtain ⟨a, kvs, rfl, ha, rr⟩ := rx.dK le
      obtain ⟨u, rfl, ru⟩ := vals1 rv
      cases ru
      rw [rr.length] at h
      exact d_len I ha fun t s' I' => ⟨.int _, H, I', ⟨t, rfl⟩, h.int le bx⟩
    | true =>
      obtain ⟨a, kvs, rfl, ha, rr⟩ := rx.dT le
      obtain ⟨u, rfl, ru⟩ := vals1 rv
      cases ru
      obtain ⟨z, hd, ys, rel, dd⟩ := dt_rd I.hok ha
      have hl : kvs.length = ys.length := Paired.length rel
      rw [rr.length, hl] at h
      refine PySem.call_len_dictH hd dd ?_ ⟨.int _, H, I.tok _, ⟨_, rfl⟩, h.int le bx⟩
      have := line63
      omega
theorem bi_abs_ok : CallR X (.builtin "abs") (rBi X.K .abs) := by
  rintro pins s σ H vs us Q I rv ⟨Hs, ρ, B, ds, d, le, bx, r, e, h⟩
  have e : bi_abs ds = some d := e
  unfold bi_abs at e
  split at e <;> cases e
  obtain ⟨x, rfl, rx⟩ := one_of r
  cases rx.int
  exact call_abs pins s σ H _ us Q I rv ⟨_, rfl, h.int le bx⟩
theorem bi_int_ok : CallR X (.type "int") (rBi X.K .int) := by
  rintro pins s σ H vs us Q I rv ⟨Hs, ρ, B, ds, d, le, bx, r, e, h⟩
  have e : bi_int ds = some d := e
  unfold bi_int at e
  split at e <;> cases e
  obtain ⟨x, rfl, rx⟩ := one_of r
  cases rx.int
  exact call_int1 pins s σ H _ us Q I rv (.inl ⟨_, rfl, h.int le bx⟩)
theorem bi_str_ok : CallR X (.type "str") (rBi X.K .str) := by
  rintro pins s σ H vs us Q I rv ⟨Hs, ρ, B, ds, d, le, bx, r, e, h⟩
  have e : bi_str ds = some d := e
  unfold bi_str at e
  split at e
  · cases e
    obtain ⟨x, rfl, rx⟩ := one_of r
    obtain ⟨rfl, hl⟩ := rx.str
    exact SkE.call_str_str pins s σ H _ us Q I rv ⟨_, rfl, h.str le bx hl⟩
  · rename_i i _
    obtain ⟨x, rfl, rx⟩ := one_of r
    cases rx.int
    obtain ⟨hc, rfl⟩ := cons_ite e
    rw [Bool.and_eq_true, decide_eq_true_eq, decide_eq_true_eq] at hc
    have hlog : i.natAbs.log2 < 1920 := by
      have h1 : i.natAbs < 2 ^ 30 := by omega
      by_cases h0 : i.natAbs = 0
      · rw [h0]; decide
      · have := (Nat.log2_lt h0).mpr h1
        omega
    refine call_str_int pins s σ H _ us Q I rv ⟨i, rfl, hlog, ?_⟩
    have en : i = ((i.toNat : Nat) : Int) := by omega
    have et : Str.ofString (toString i) = mk (natS i.toNat) := by
      rw [en]
      have := TL.tl_num i.toNat
      refine TL.ext_tl ?_
      rw [this]
      rfl
    show Q (.str (Str.ofString (toString i))) H
    rw [et]
    refine h.str le bx ⟨fun c hc => ?_, ?_⟩
    · have := TL.numL_digits i.toNat
      exact by
        have hd := this c hc
        omega
    · have := TL.numL_len (n := i.toNat) (k := 9) (by decide) (by omega)
      exact Nat.le_trans this (by decide)
  · cases e
theorem sum_tupH {prog : Program} {w : World} {A : Around} {E : Value → Shared → Prop} {s : Shared} {t : Addr} {its : List Value} {ns : List Int} {Q : Value → Shared → Prop} (hh : A.handled = none) (hl : s.heap.IsTuple t its.toArray) (hi : IntsAre its ns)
    (h : ∀ h' tk t', (∀ b o, s.heap.get? b = some o → h'.get? b = some o) → Q (.int ns.sum t') { s with heap := h', toks := tk }) : wpAny (model prog w) A (call (.builtin "sum") [.ref t]) Q E s := by
  obtain ⟨xs, hx⟩ := hi.allInts.items
  have hn : numsOf its.toArray.toList = ns := by rw [show its.toArray.toList = its from rfl, hi.numsOf]
  rw [hx] at hl hn
  rw [nums_intItems] at hn
  refine PySem.W.ktm_sumG hh hl fun h' tk t' hk => ?_
  have := h h' tk t' hk
  rw [preSum_eq, List.take_of_length_le (by simp), hn]
  exact this
theorem bi_sum_ok (hc : X.calm = true) : CallR X (.builtin "sum") (rBi X.K .sum) := by
  rintro pins s σ H vs us Q I rv ⟨Hs, ρ, B, ds, d, le, bx, r, e, h⟩
  have e : bi_sum ds = some d := e
  unfold bi_sum at e
  split at e
  · obtain ⟨x, rfl, rx⟩ := one_of r
    obtain ⟨a, xs, rfl, ha, rr⟩ := rx.lst le
    obtain ⟨ns, e1, rfl⟩ := Option.map_eq_some_iff.mp e
    have := intL_rep rr e1
    subst this
    exact cr_sum hc pins s σ H _ us Q I rv ⟨a, ns, rfl, SqL.of ha, h.int le bx⟩
  · obtain ⟨x, rfl, rx⟩ := one_of r
    obtain ⟨a, xs, rfl, ha, rr⟩ := rx.tup le
    obtain ⟨ns, e1, rfl⟩ := Option.map_eq_some_iff.mp e
    have := intL_rep rr e1
    subst this
    obtain ⟨its, rvv, hl, hz⟩ := I.tuple (SqT.of ha)
    rw [Vals.ref1 rv]
    exact sum_tupH (I.ok.hd hc) (show s.heap.IsTuple a its.toArray from hl) rvv.ints fun h' tk t' hk => ⟨.int _, H, I.kept hk, ⟨_, rfl⟩, h.int le bx⟩
  · cases e
theorem bi_mn_ok (hc : X.calm = true) : CallR X (.builtin "min") (rBi X.K .mn) := by
  rintro pins s σ H vs us Q I rv ⟨Hs, ρ, B, ds, d, le, bx, r, e, h⟩
  have e : bi_mn ds = some d := e
  unfold bi_mn at e
  split at e
  · obtain ⟨x, rfl, rx⟩ := one_of r
    obtain ⟨a, xs, rfl, ha, rr⟩ := rx.lst le
    obtain ⟨ns, e1, e2⟩ := Option.bind_eq_some_iff.mp e
    obtain ⟨m, e3, rfl⟩ := Option.map_eq_some_iff.mp e2
    have := intL_rep rr e1
    subst this
    obtain ⟨m1, m2⟩ := List.min?_eq_some_iff.mp e3
    refine cr_min hc pins s σ H _ us Q I rv ⟨a, ns, rfl, SqL.of ha, List.length_pos_of_mem m1, fun k h1 h2 => ?_⟩
    have := Int.le_antisymm (h2 m m1) (m2 k h1)
    subst this
    exact h.int le bx
  · cases e
theorem bi_mx_ok (hc : X.calm = true) : CallR X (.builtin "max") (rBi X.K .mx) := by
  rintro pins s σ H vs us Q I rv ⟨Hs, ρ, B, ds, d, le, bx, r, e, h⟩
  have e : bi_mx ds = some d := e
  unfold bi_mx at e
  split at e
  · obtain ⟨x, rfl, rx⟩ := one_of r
    obtain ⟨a, xs, rfl, ha, rr⟩ := rx.lst le
    obtain ⟨ns, e1, e2⟩ := Option.bind_eq_some_iff.mp e
    obtain ⟨m, e3, rfl⟩ := Option.map_eq_some_iff.mp e2
    have := intL_rep rr e1
    subst this
    obtain ⟨m1, m2⟩ := List.max?_eq_some_iff.mp e3
    refine cr_max hc pins s σ H _ us Q I rv ⟨a, ns, rfl, SqL.of ha, List.length_pos_of_mem m1, fun k h1 h2 => ?_⟩
    have := Int.le_antisymm (m2 k h1) (h2 m m1)
    subst this
    exact h.int le bx
  · cases e
theorem bi_mn2_ok (hc : X.calm = true) : CallR X (.builtin "min") (rBi X.K .mn2) := by
  rintro pins s σ H vs us Q I rv ⟨Hs, ρ, B, ds, d, le, bx, r, e, h⟩
  have e : bi_mn2 ds = some d := e
  unfold bi_mn2 at e
  split at e <;> cases e
  obtain ⟨x, y, rfl, rx, ry⟩ := two_of r
  cases rx.int
  cases ry.int
  exact call_min2 hc pins s σ H _ us Q I rv ⟨_, _, rfl, h.int le bx⟩
theorem bi_mx2_ok (hc : X.calm = true) : CallR X (.builtin "max") (rBi X.K .mx2) := by
  rintro pins s σ H vs us Q I rv ⟨Hs, ρ, B, ds, d, le, bx, r, e, h⟩
  have e : bi_mx2 ds = some d := e
  unfold bi_mx2 at e
  split at e <;> cases e
  obtain ⟨x, y, rfl, rx, ry⟩ := two_of r
  cases rx.int
  cases ry.int
  exact call_max2 hc pins s σ H _ us Q I rv ⟨_, _, rfl, h.int le bx⟩
theorem bi_all_ok (hc : X.calm = true) : CallR X (.builtin "all") (rBi X.K .all) := by
  rintro pins s σ H vs us Q I rv ⟨Hs, ρ, B, ds, d, le, bx, r, e, h⟩
  have e : bi_all ds = some d := e
  unfold bi_all at e
  split at e
  · obtain ⟨x, rfl, rx⟩ := one_of r
    obtain ⟨a, xs, rfl, ha, rr⟩ := rx.lst le
    obtain ⟨ns, e1, rfl⟩ := Option.map_eq_some_iff.mp e
    have := blL_rep rr e1
    subst this
    exact cr_all hc pins s σ H _ us Q I rv ⟨a, ns, rfl, SqL.of ha, h.bl le bx⟩
  · cases e
theorem bi_any_ok (hc : X.calm = true) : CallR X (.builtin "any") (rBi X.K .any) := by
  rintro pins s σ H vs us Q I rv ⟨Hs, ρ, B, ds, d, le, bx, r, e, h⟩
  have e : bi_any ds = some d := e
  unfold bi_any at e
  split at e
  · obtain ⟨x, rfl, rx⟩ := one_of r
    obtain ⟨a, xs, rfl, ha, rr⟩ := rx.lst le
    obtain ⟨ns, e1, rfl⟩ := Option.map_eq_some_iff.mp e
    have := blL_rep rr e1
    subst this
    exact cr_any hc pins s σ H _ us Q I rv ⟨a, ns, rfl, SqL.of ha, h.bl le bx⟩
  · cases e
theorem bi_tuple_ok : CallR X (.type "tuple") (rBi X.K .tuple) := by
  rintro pins s σ H vs us Q I rv ⟨Hs, ρ, B, ds, d, le, bx, r, e, h⟩
  have e : bi_tuple ds = some d := e
  unfold bi_tuple at e
  split at e <;> cases e
  · obtain ⟨x, rfl, rx⟩ := one_of r
    obtain ⟨a, xs, rfl, ha, rr⟩ := rx.lst le
    exact call_tuple_of pins s σ H _ us Q I rv ⟨a, xs, rfl, .inl ⟨SqL.of ha, Yld.tup h le bx rr⟩⟩
  · obtain ⟨x, rfl, rx⟩ := one_of r
    have rt := rx.rep_tup
    obtain ⟨a, xs, rfl, ha, rr⟩ := rx.tup le
    exact call_tuple_of pins s σ H _ us Q I rv ⟨a, xs, rfl, .inr ⟨SqT.of ha, h.here le bx rt⟩⟩
theorem bi_list_ok : CallR X (.type "list") (rBiN X.K .list) := by
  rintro pins s σ H vs us Q I rv ⟨Hs, ρ, B, ds, d, le, bx, r, e, h⟩
  have e : bi_list ds = some d := e
  unfold bi_list at e
  split at e <;> cases e
  · obtain ⟨x, rfl, rx⟩ := one_of r
    obtain ⟨a, xs, rfl, ha, rr⟩ := rx.scr le
    exact call_list_of pins s σ H _ us Q I rv ⟨a, xs, rfl, .inl ha, YldF.lst h le bx rr⟩
  · obtain ⟨x, rfl, rx⟩ := one_of r
    obtain ⟨a, xs, rfl, ha, rr⟩ := rx.lst le
    exact call_list_of pins s σ H _ us Q I rv ⟨a, xs, rfl, .inl (SqL.of ha), YldF.lst h le bx rr⟩
  · obtain ⟨x, rfl, rx⟩ := one_of r
    obtain ⟨a, xs, rfl, ha, rr⟩ := rx.tup le
    exact call_list_of pins s σ H _ us Q I rv ⟨a, xs, rfl, .inr (SqT.of ha), YldF.lst h le bx rr⟩
end
end Pz
end
section
set_option Elab.async false
set_option linter.all false
set_option maxRecDepth 100000
namespace Pz
open PySem PySem.Spec PyProof.Rows L2

section
variable {X : Cx} {Φ : Fn} {W : WX} {elt tp it : Expr} {ifs : List Expr} {scope : Scope} {own : List (Str × Nat)} {cpos spos py : Pos} {tg : Tg} {iit ic ie : E} {i : Nat} {y : Str}
theorem fresh_core {K : PySem.W.Frag} {W : XK} {E : En} {D_ : Ends} {Hs H : Hp} {ρ : List Addr} {σV : L2.St} {σ : Sg} {B : List D} {x : D × List D} (s : SSt K E Hs ρ H σV σ B)
    (out : OutS K W E D_ ((if isLD x.1 then Rs.ok (Sl.own x.1, x.2) else .bad).bind fun x => (asg Φ (.nm i) x.1 σ x.2).bind fun y => .ok (.next, y.1, y.2))) :
    isLD x.1 = true ∧ YldF K Hs ρ H x.2 x.1 fun v H' => D_.nx (σV.set i (some v)) H' := by
  have hl : isLD x.1 = true := by
    cases z : isLD x.1 with
    | true => rfl
    | false =>
      rw [z, if_neg Bool.false_ne_true] at out
      exact out.elim
  rw [if_pos hl] at out
  have out : OutS K W E D_ ((if i < σ.length then Rs.ok (σ.set i (.own x.1), x.2) else .bad).bind fun y => .ok (.next, y.1, y.2)) := out
  have hi : i < σ.length := by
    by_cases z : i < σ.length
    · exact z
    · rw [if_neg z] at out; exact out.elim
  rw [if_pos hi] at out
  refine ⟨hl, fun a H' Hs' ρ' g l b r n nr hn => out _ H' Hs' ρ' ((s.grow g l b).setO hi r n nr (s.gr.none_ hn) fun j f h1 h2 => ?_)⟩
  obtain ⟨a', e1, h3, _⟩ := s.st.slotV h1
  rw [h2] at e1
  cases e1
  obtain ⟨u, hu⟩ := h3.some_
  rw [hn] at hu; cases hu
/-- name = [..] on one line -/
theorem s_setLc (hc : X.calm = true) (hN : X.N.Nodup) (hy : X.N[i]? = some y) (hyl : X.env.scope.names.lookup y = some .local)
    (hsw : swapsWith (.ListComp elt [⟨tp, it, ifs, 0⟩] scope cpos) (some (.Name y py)) spos.line X.env = pure true) (hi : IOk X Φ WX0 true tp it iit) (ok : BlkOk X.N X.env.scope scope own) (hv : own.map (·.2) = tg.names)
    (hg : ∀ (s : Shared) (H : Hp) (C : Addr) (cl : List (Str × Addr)) (fp : List Addr), GOk (X.blk s H scope (compEnvC scope cl C X.env) fp) tp tg)
    (ht : ∀ (s : Shared) (H : Hp) (C : Addr) (cl : List (Str × Addr)) (fp : List Addr), TsOk (X.blk s H scope (compEnvC scope cl C X.env) fp) Φ WX0 ifs ic)
    (he : ∀ (s : Shared) (H : Hp) (C : Addr) (cl : List (Str × Addr)) (fp : List Addr), EOk (X.blk s H scope (compEnvC scope cl C X.env) fp) Φ WX0 elt ie)
    (hs : ∀ x, foldedSetIterable it X.env x = pure x := by intro _; rfl) : StOk X Φ (.Assign [.Name y py] (.ListComp elt [⟨tp, it, ifs, 0⟩] scope cpos) spos) (.asg (.nm i) (.lc tg iit ic ie)) :=
  ⟨fun W E => (ps_setLc (own := own) hc hN hy hyl hsw hi.run ok (fun s H C cl fp => (hg s H C cl fp).run) (fun s H C cl fp => (ht s H C cl fp).run) (fun s H C cl fp => (he s H C cl fp).run false) hs).weaken fun D_ σV H ⟨Hs, ρ, σ, B, s, out⟩ => by
    rw [hv]
    refine lc_core (ic := ic) (ie := ie) (p := false) Yld.shf (fun _ _ _ _ h => .of (p := false) h) ⟨Hs, ρ, σ, B, s.st, ?_⟩
    have out : OutS X.K W E D_ ((ev Φ false (.lc tg iit ic ie) σ B).bind fun x => (asg Φ (.nm i) (.val x.1) σ x.2).bind fun y => .ok (.next, y.1, y.2)) := by
      have out : OutS X.K W E D_ ((evX Φ (.lc tg iit ic ie) σ B).bind fun x => (asg Φ (.nm i) x.1 σ x.2).bind fun y => .ok (.next, y.1, y.2)) := out
      rw [evX_val (by nofun), Rs.bind_bind] at out
      exact out
    cases q : ev Φ false (.lc tg iit ic ie) σ B with
    | bad => rw [q] at out; exact out
    | ex c ps B => exact exx_any
    | ok x =>
      rw [q] at out
      obtain ⟨hi, out⟩ := asg_if out
      exact fun v H' Hs' ρ' g l b r => out _ H' Hs' ρ' ((s.grow g l b).setV hi r.val)⟩
theorem s_setLcF (hc : X.calm = true) (hN : X.N.Nodup) (hy : X.N[i]? = some y) (hyl : X.env.scope.names.lookup y = some .local)
    (hsw : swapsWith (.ListComp elt [⟨tp, it, ifs, 0⟩] scope cpos) (some (.Name y py)) spos.line X.env = pure true) (hi : IOk X Φ WX0 true tp it iit) (ok : BlkOk X.N X.env.scope scope own) (hv : own.map (·.2) = tg.names)
    (hg : ∀ (s : Shared) (H : Hp) (C : Addr) (cl : List (Str × Addr)) (fp : List Addr), GOk (X.blk s H scope (compEnvC scope cl C X.env) fp) tp tg)
    (ht : ∀ (s : Shared) (H : Hp) (C : Addr) (cl : List (Str × Addr)) (fp : List Addr), TsOk (X.blk s H scope (compEnvC scope cl C X.env) fp) Φ WX0 ifs ic)
    (he : ∀ (s : Shared) (H : Hp) (C : Addr) (cl : List (Str × Addr)) (fp : List Addr), EOk (X.blk s H scope (compEnvC scope cl C X.env) fp) Φ WX0 elt ie)
    (hs : ∀ x, foldedSetIterable it X.env x = pure x := by intro _; rfl) : StOk X Φ (.Assign [.Name y py] (.ListComp elt [⟨tp, it, ifs, 0⟩] scope cpos) spos) (.asg (.nm i) (.fresh (.lc tg iit ic ie))) :=
  ⟨fun W E => (ps_setLc (own := own) hc hN hy hyl hsw hi.run ok (fun s H C cl fp => (hg s H C cl fp).run) (fun s H C cl fp => (ht s H C cl fp).run) (fun s H C cl fp => (he s H C cl fp).run false) hs).weaken fun D_ σV H ⟨Hs, ρ, σ, B, s, out⟩ => by
    rw [hv]
    refine lc_core (ic := ic) (ie := ie) (p := false) YldF.shf (fun _ _ _ _ h => .ofF h) ⟨Hs, ρ, σ, B, s.st, ?_⟩
    have out : OutS X.K W E D_ (((ev Φ false (.lc tg iit ic ie) σ B).bind fun x => if isLD x.1 then .ok (.own x.1, x.2) else .bad).bind fun x => (asg Φ (.nm i) x.1 σ x.2).bind fun y => .ok (.next, y.1, y.2)) := out
    cases q : ev Φ false (.lc tg iit ic ie) σ B with
    | bad => rw [q] at out; exact out
    | ex c ps B => exact exx_any
    | ok x =>
      rw [q] at out
      exact fresh_core s out⟩
end
/-! ### a, b = x, y -/
/-- a value on its way to a name -/
def SlV (K : PySem.W.Frag) (Hs : Hp) (ρ : List Addr) (H H0 : Hp) (sl : Sl) (v : V) : Prop :=
  match sl with
  | .val d => Rep K Hs ρ d v
  | .own d => ∃ a, v = .ref a ∧ OwnAt K Hs ρ H a d ∧ Hs a = none ∧ a ∉ ρ ∧ H0 a = none
  | .no => False
section
variable {K : PySem.W.Frag} {Hs Hs' H H' H0 : Hp} {ρ ρ' : List Addr} {sl : Sl} {v : V}
theorem SlV.grow (h : SlV K Hs ρ H H0 sl v) (g : Gr Hs H ρ Hs' H' ρ') : SlV K Hs' ρ' H' H0 sl v := by
  cases sl with
  | val d => exact g.rep h
  | own d =>
    obtain ⟨a, e, o, n, nr, h0⟩ := h
    obtain ⟨o', n', nr'⟩ := g.own o n nr
    exact ⟨a, e, o', n', nr', h0⟩
  | no => exact h
theorem SSt.setX {E : En} {σV : L2.St} {σ : Sg} {B : List D} {i : Nat} (s : SSt K E Hs ρ H σV σ B) (hi : i < σ.length) (h : SlV K Hs ρ H H0 sl v) (h0 : ∀ a, H0 a = none → E.H a = none)
    (nd : ∀ (j : Nat) (a : Addr) (e : D), σ[j]? = some (.own e) → σV[j]? = some (some (.ref a)) → H0 a ≠ none) : SSt K E Hs ρ H (σV.set i (some v)) (σ.set i sl) B := by
  cases sl with
  | val d => exact s.setV hi h
  | own d =>
    obtain ⟨a, rfl, o, n, nr, hz⟩ := h
    exact s.setO hi o n nr (h0 a hz) fun j e h1 h2 => nd j a e h1 h2 hz
  | no => exact h.elim
end
def YldX (K : PySem.W.Frag) (Hs : Hp) (ρ : List Addr) (H : Hp) (B : List D) (sl : Sl) (Q : VK) : Prop :=
  ∀ v H' Hs' ρ', Gr Hs H ρ Hs' H' ρ' → Le Hs' H' → BOk K Hs' ρ' H' B → SlV K Hs' ρ' H' H sl v → Q v H'
def rdX (K : PySem.W.Frag) (Φ : Fn) (W : WX) (e : E) : TE := fun σV H Q => ∃ Hs ρ σ B, Stt K Hs ρ H σV σ B ∧ OutG K (fun c d h => W c d σV h) Hs ρ H (evX Φ e σ B) fun x => YldX K Hs ρ H x.2 x.1 Q
structure XOk (X : Cx) (Φ : Fn) (W : WX) (pe : Expr) (ie : E) : Prop where
  run : PE X pe (rdX X.K Φ W ie)
section
variable {X : Cx} {Φ : Fn} {W : WX} {e e1 e2 e3 : Expr} {ie ie1 ie2 ie3 : E}
theorem x_val (h : EOk X Φ W e ie) (hn : ∀ f, ie ≠ .fresh f) : XOk X Φ W e ie := ⟨(h.run false).weaken fun σV H Q ⟨Hs, ρ, σ, B, st, out⟩ => by
  rw [evX_val hn] at out
  refine ⟨Hs, ρ, σ, B, st, ?_⟩
  cases q : ev Φ false ie σ B with
  | bad => rw [q] at out; exact out
  | ex c ps B => exact exx_any
  | ok x =>
    rw [q] at out
    exact fun v H' Hs' ρ' g l b r => (show YldX X.K Hs ρ H x.2 (.val x.1) Q from out) v H' Hs' ρ' g l b r.val⟩
theorem x_fr (h : FOk X Φ W e ie) : XOk X Φ W e (.fresh ie) := ⟨h.run.weaken fun σV H Q ⟨Hs, ρ, σ, B, st, out⟩ => by
  have out : OutG X.K (fun c d h => W c d σV h) Hs ρ H ((ev Φ false ie σ B).bind fun x => if isLD x.1 then .ok (.own x.1, x.2) else .bad) (fun x => YldX X.K Hs ρ H x.2 x.1 Q) := out
  refine ⟨Hs, ρ, σ, B, st, ?_⟩
  cases q : ev Φ false ie σ B with
  | bad => rw [q] at out; exact out
  | ex c ps B => exact exx_any
  | ok x =>
    rw [q] at out
    obtain ⟨hl, out⟩ := OutG.ite (show OutG X.K (fun c d h => W c d σV h) Hs ρ H (if isLD x.1 = true then Rs.ok (Sl.own x.1, x.2) else .bad) (fun x => YldX X.K Hs ρ H x.2 x.1 Q) from out)
    exact ⟨hl, fun a H' Hs' ρ' g l b o n nr hn => (show YldX X.K Hs ρ H x.2 (.own x.1) Q from out) _ H' Hs' ρ' g l b ⟨a, rfl, o, n, nr, hn⟩⟩⟩
theorem own_some {K : PySem.W.Frag} {E : En} {Hs H : Hp} {ρ : List Addr} {σV : L2.St} {σ : Sg} {B : List D} (s : SSt K E Hs ρ H σV σ B) (j : Nat) (a : Addr) (e : D) (h1 : σ[j]? = some (.own e)) (h2 : σV[j]? = some (some (.ref a))) : H a ≠ none := by
  obtain ⟨a', e1, h3, _⟩ := s.st.slotV h1
  rw [h2] at e1
  cases e1
  obtain ⟨u, hu⟩ := h3.some_
  rw [hu]; simp
/-- one more value evaluated ahead of the stores -/
theorem OutS.bindX {K : PySem.W.Frag} {W' : XK} {W0 : XK} {E : En} {D_ : Ends} {Hs H : Hp} {ρ : List Addr} {r : Rs (Sl × List D)} {f : Sl × List D → Rq} {Q : VK} (h : OutS K W0 E D_ (r.bind f))
    (k : ∀ sl B' v H' Hs' ρ', Gr Hs H ρ Hs' H' ρ' → Le Hs' H' → BOk K Hs' ρ' H' B' → SlV K Hs' ρ' H' H sl v → OutS K W0 E D_ (f (sl, B')) → Q v H') : OutG K W' Hs ρ H r fun x => YldX K Hs ρ H x.2 x.1 Q := by
  cases r with
  | ok x => exact fun v H' Hs' ρ' g l b r => k x.1 x.2 v H' Hs' ρ' g l b r h
  | ex c ps B => exact exx_any
  | bad => exact h
theorem s_par2 {i j : Nat} {x y : Str} {px py pt pos : Pos} {kt k2 pt2} (hc : X.calm = true) (hN : X.N.Nodup) (hi : X.N[i]? = some x) (hj : X.N[j]? = some y) (hij : i ≠ j)
    (hx : X.env.scope.names.lookup x = some .local) (hy : X.env.scope.names.lookup y = some .local) (h1 : XOk X Φ WX0 e1 ie1) (h2 : XOk X Φ WX0 e2 ie2)
    (hw : swappedStores [.Tuple [.Name x px, .Name y py] kt pt] (.Tuple [e1, e2] k2 pt2) X.env = pure (some [x, y]))
    (hs : swapsWithSole [.Tuple [.Name x px, .Name y py] kt pt] (.Tuple [e1, e2] k2 pt2) pos.line X.env = pure false := by rfl)
    (ha1 : starEach [e1, e2] X.env = (false, eval e1 X.env) :: starEach [e2] X.env := by rfl) (ha2 : starEach [e2] X.env = (false, eval e2 X.env) :: starEach [] X.env := by rfl) :
    StOk X Φ (.Assign [.Tuple [.Name x px, .Name y py] kt pt] (.Tuple [e1, e2] k2 pt2) pos) (.par [i, j] (.cons ie1 (.cons ie2 .nil))) :=
  ⟨fun W E => (ps_par hc hN hi hj hij hx hy (pa_cons h1.run (pa_cons h2.run pa_nil ha2) ha1) hw hs).weaken fun D_ σV H ⟨Hs, ρ, σ, B, s, out⟩ => by
    have out : OutS X.K W E D_ (((evX Φ ie1 σ B).bind fun x => ((evX Φ ie2 σ x.2).bind fun y => (Rs.ok ([], y.2)).bind fun z => Rs.ok (y.1 :: z.1, z.2)).bind fun y => Rs.ok (x.1 :: y.1, y.2)).bind fun x => (Rs.of (setAll [i, j] x.1 σ)).bind fun σ' => .ok (.next, σ', x.2)) := out
    rw [Rs.bind_bind] at out
    refine ⟨Hs, ρ, σ, B, s.st, OutS.bindX out fun sl1 B1 v1 H1 Hs1 ρ1 g1 l1 b1 r1 out => ?_⟩
    have s1 := s.grow g1 l1 b1
    rw [Rs.bind_bind, Rs.bind_bind] at out
    refine ⟨Hs1, ρ1, σ, B1, s1.st, OutS.bindX out fun sl2 B2 v2 H2 Hs2 ρ2 g2 l2 b2 r2 out => ⟨v1, v2, rfl, ?_⟩⟩
    have s2 := s1.grow g2 l2 b2
    have out : OutS X.K W E D_ ((Rs.of (if i < σ.length then (if j < (σ.set i sl1).length then some ((σ.set i sl1).set j sl2) else none) else none)).bind fun σ' => .ok (.next, σ', B2)) := out
    obtain ⟨σ', hset, out⟩ := OutS.of out
    obtain ⟨hi', hset⟩ := cons_ite' hset
    obtain ⟨hj', rfl⟩ := cons_ite hset
    have s3 := s2.setX hi' (r1.grow g2) (fun a h => s.gr.none_ h) (fun j a e h1 h2 => own_some s j a e h1 h2)
    refine out _ _ _ _ (s3.setX hj' r2 (fun a h => s1.gr.none_ h) fun k a e h1 h2 => ?_)
    rcases set_at h1 with ⟨q, rfl⟩ | ⟨q, h1⟩
    · subst q
      rw [List.getElem?_set_self (by rw [s.st.len]; exact hi')] at h2
      cases h2
      obtain ⟨a', e', o, _⟩ := r1
      cases e'
      obtain ⟨u, hu⟩ := o.some_
      rw [hu]; simp
    · rw [List.getElem?_set_ne q] at h2
      exact own_some s1 k a e h1 h2⟩
/-- a new thing that calls may change -/
theorem e_mkbox (h : FOk X Φ W e ie) : EOk X Φ W e (.mkbox ie) := ⟨fun p => h.run.weaken fun σV H Q ⟨Hs, ρ, σ, B, st, out⟩ => by
  have out : OutG X.K (fun c d h => W c d σV h) Hs ρ H ((ev Φ false ie σ B).bind fun x => if isLD x.1 then Rs.ok (Pz.D.box x.2.length, x.2 ++ [x.1]) else .bad) (fun x => Yld X.K p Hs ρ H x.2 x.1 Q) := out
  refine ⟨Hs, ρ, σ, B, st, ?_⟩
  cases q : ev Φ false ie σ B with
  | bad => rw [q] at out; exact out
  | ex c ps B => exact exx_any
  | ok x =>
    rw [q] at out
    obtain ⟨hl, out⟩ := OutG.ite (show OutG X.K (fun c d h => W c d σV h) Hs ρ H (if isLD x.1 = true then Rs.ok (Pz.D.box x.2.length, x.2 ++ [x.1]) else .bad) (fun x => Yld X.K p Hs ρ H x.2 x.1 Q) from out)
    have y : Yld X.K p Hs ρ H (x.2 ++ [x.1]) (.box x.2.length) Q := out
    refine ⟨hl, fun a H' Hs' ρ' g l b o n nr hn => y (.ref a) H' Hs' (ρ' ++ [a]) ⟨g.hs, g.fr, g.kp, g.th, g.rp.trans (List.prefix_append _ _), fun c hc => ?_⟩ l ⟨?_, ?_, fun m c d e1 e2 => ?_⟩ (.of (.box ?_))⟩
    · rcases List.mem_append.mp hc with hc | hc
      · exact g.rn c hc
      · cases List.mem_singleton.mp hc
        exact .inr hn
    · rw [List.length_append, List.length_append, b.len]; rfl
    · rw [List.nodup_append]
      refine ⟨b.nd, by simp, fun c hc d hd z => ?_⟩
      cases List.mem_singleton.mp hd
      subst z
      exact nr hc
    · by_cases hm : m < ρ'.length
      · rw [List.getElem?_append_left hm] at e1
        rw [List.getElem?_append_left (by rw [← b.len]; exact hm)] at e2
        obtain ⟨o1, n1⟩ := b.at_ m c d e1 e2
        exact ⟨o1.mono (Le.refl _) (List.prefix_append _ _) rfl, n1⟩
      · rw [List.getElem?_append_right (by omega)] at e1
        rw [List.getElem?_append_right (by rw [← b.len]; omega), ← b.len] at e2
        cases hk : m - ρ'.length with
        | zero =>
          rw [hk] at e1 e2
          cases e1
          cases e2
          exact ⟨o.mono (Le.refl _) (List.prefix_append _ _) rfl, n⟩
        | succ k => rw [hk] at e1; cases e1
    · rw [← b.len, List.getElem?_append_right (Nat.le_refl _), Nat.sub_self]; rfl⟩
/-- reading module constants -/
theorem e_globS' {X : Cx} {Φ : Fn} {W : WX} {pos : Pos} {x z : Str} {l : List Nat} (hg : Gl X x) (hm : ∃ t, X.mg x = some (.str z t)) (h : z = mk l) (hl : sOk l = true) (hd : (x == ("__debug__" : Str)) = false := by decide) : EOk X Φ W (.Name x pos) (.cst (.str l)) := by
  obtain ⟨t, hm⟩ := hm
  exact e_globS hg hm h hl hd
theorem e_globI' {X : Cx} {Φ : Fn} {W : WX} {pos : Pos} {x : Str} {i : Int} (hg : Gl X x) (hm : ∃ t, X.mg x = some (.int i t)) (hd : (x == ("__debug__" : Str)) = false := by decide) : EOk X Φ W (.Name x pos) (.cst (.int i)) := by
  obtain ⟨t, hm⟩ := hm
  exact e_globI hg hm hd
end
/-! ### sep.join(list) -/
def rJoin (K : PySem.W.Frag) : V → List V → Hp → VK → Prop := fun x vs H Q => ∃ Hs ρ B d ds r, Le Hs H ∧ BOk K Hs ρ H B ∧ RP K Hs ρ H d x ∧ Paired (RP K Hs ρ H) ds vs ∧ bi_join (d :: ds) = some r ∧ Yld K false Hs ρ H B r Q
theorem join_mk (s : List Nat) : ∀ xs : List (List Nat), Txt.join (mk s) (xs.map mk) = mk (joinS s xs) := fun xs => by
  rw [TL.join_eq]
  refine TL.ext_tl ?_
  rw [TL.tl_join]
  show TL.joinL s ((xs.map mk).map TL.tl) = joinS s xs
  rw [List.map_map]
  have : (xs.map (TL.tl ∘ mk)) = xs := by
    conv => rhs; rw [← List.map_id xs]
    exact List.map_congr_left fun _ _ => rfl
  rw [this]
  induction xs with
  | nil => rfl
  | cons a l ih =>
    cases l with
    | nil => rfl
    | cons b l =>
      show a ++ (s ++ TL.joinL s (b :: l)) = a ++ (s ++ joinS s (b :: l))
      rw [ih]
      conv => rhs; rw [← List.map_id (b :: l)]
      exact List.map_congr_left fun _ _ => rfl
theorem joinS_len (s : List Nat) : ∀ xs : List (List Nat), (joinS s xs).length ≤ (xs.map (·.length)).sum + xs.length * s.length
  | [] => by simp [joinS]
  | [a] => by simp [joinS]
  | a :: b :: l => by
    have ih := joinS_len s (b :: l)
    show (a ++ (s ++ joinS s (b :: l))).length ≤ _
    rw [List.length_append, List.length_append, List.map_cons, List.sum_cons, List.length_cons, Nat.succ_mul]
    omega
theorem joinS_mem {s : List Nat} {c : Nat} : ∀ {xs : List (List Nat)}, c ∈ joinS s xs → c ∈ s ∨ ∃ x ∈ xs, c ∈ x
  | [], h => by simp [joinS] at h
  | [a], h => .inr ⟨a, List.mem_singleton.mpr rfl, h⟩
  | a :: b :: l, h => by
    have h : c ∈ a ++ (s ++ joinS s (b :: l)) := h
    rcases List.mem_append.mp h with h | h
    · exact .inr ⟨a, List.mem_cons_self, h⟩
    · rcases List.mem_append.mp h with h | h
      · exact .inl h
      · rcases joinS_mem h with h | ⟨x, hx, h⟩
        · exact .inl h
        · exact .inr ⟨x, List.mem_cons_of_mem _ hx, h⟩
section
variable {X : Cx} {Φ : Fn} {W : WX} {a b : Expr} {ia ib : E} {apos cpos : Pos}
theorem join_ok : MtR X "str.join" (rJoin X.K) := by
  rintro pins s σ H x vs v us Q I rx rv ⟨Hs, ρ, B, d, ds, r, le, bx, rd, rs, e, h⟩
  unfold bi_join at e
  split at e
  · rename_i sp l heq
    cases heq
    obtain ⟨rfl, hs⟩ := rd.str
    obtain ⟨y, rfl, ry⟩ := one_of rs
    obtain ⟨p, xs, rfl, hp, rr⟩ := ry.lst le
    obtain ⟨ns, e1, e2⟩ := Option.bind_eq_some_iff.mp e
    obtain ⟨hl, rfl⟩ := cons_ite e2
    obtain ⟨hxs, hok⟩ := strL_rep rr e1
    subst hxs
    have hlen := joinS_len sp ns
    refine mt_join pins s σ H _ _ v us Q I rx rv ⟨mk sp, p, ns.map mk, rfl, rfl, .inl (SqL.of hp), ?_, ?_⟩
    · rw [List.map_map, List.length_map, mk_len]
      have : ns.map ((fun x : Str => x.length) ∘ mk) = ns.map (·.length) := List.map_congr_left fun x _ => mk_len x
      rw [this]
      omega
    · rw [join_mk]
      refine h.str le bx ⟨fun c hc => ?_, ?_⟩
      · rcases joinS_mem hc with hc | ⟨x, hx, hc⟩
        · exact hs.1 c hc
        · exact (hok x hx).1 c hc
      · show _ ≤ 16777216
        omega
  · rename_i sp l heq
    cases heq
    obtain ⟨rfl, hs⟩ := rd.str
    obtain ⟨y, rfl, ry⟩ := one_of rs
    obtain ⟨p, xs, rfl, hp, rr⟩ := ry.tup le
    obtain ⟨ns, e1, e2⟩ := Option.bind_eq_some_iff.mp e
    obtain ⟨hl, rfl⟩ := cons_ite e2
    obtain ⟨hxs, hok⟩ := strL_rep rr e1
    subst hxs
    have hlen := joinS_len sp ns
    refine mt_join pins s σ H _ _ v us Q I rx rv ⟨mk sp, p, ns.map mk, rfl, rfl, .inr (SqT.of hp), ?_, ?_⟩
    · rw [List.map_map, List.length_map, mk_len]
      have : ns.map ((fun x : Str => x.length) ∘ mk) = ns.map (·.length) := List.map_congr_left fun x _ => mk_len x
      rw [this]
      omega
    · rw [join_mk]
      refine h.str le bx ⟨fun c hc => ?_, ?_⟩
      · rcases joinS_mem hc with hc | ⟨x, hx, hc⟩
        · exact hs.1 c hc
        · exact (hok x hx).1 c hc
      · show _ ≤ 16777216
        omega
  · cases e
theorem e_join (ha : EOk X Φ W a ia) (hb : EOk X Φ W b ib)
    (hbase : attributeBase a "join" X.env (eval a X.env) = eval a X.env := by rfl)
    (hfew : ((backTo cpos (starEach [b] X.env)).all (fun x => !x.1) && (backToKw cpos (keywordEach [] X.env)).all (fun x => x.1.isSome)
      && decide ([b].length + ([] : List Keyword).length + (if ([] : List Keyword).isEmpty then 0 else 1) < 30)) = true := by rfl)
    (hline : (apos.endLine == cpos.line) = true := by rfl) (hst : starEach [b] X.env = (false, eval b X.env) :: starEach [] X.env := by rfl) :
    EOk X Φ W (.Call (.Attribute a "join" apos) [b] [] cpos) (.mt .join ia (.cons ib .nil)) :=
  ⟨fun p => (pe_bm PySem.F.plainAttrs_str PySem.F.slot_str_join PySem.F.type_str_join join_ok (ha.run true) ((a_cons hb a_nil hst).run true) hbase hfew hline hst).weaken fun σV H Q ⟨Hs, ρ, σ, B, st, out⟩ => by
    refine ⟨Hs, ρ, σ, B, st, Out.bind (p := p) (Q := Q) out fun x B1 v H1 Hs1 ρ1 g1 l1 b1 r1 out => ?_⟩
    obtain ⟨hr, out⟩ := OutG.ite (show OutG X.K _ Hs1 ρ1 H1 (if recv .join (drf B1 x) = true then (evs Φ true (.cons ib .nil) σ B1).bind fun y => (Rs.of (opBi .join ((x :: y.1).map (drf y.2)))).bind fun d => Rs.ok (d, y.2) else .bad) _ from out)
    have rx := drf_ok r1 b1
    have hv : ∃ s, v = .str s := by
      cases q : drf B1 x with
      | str s => rw [q] at rx; exact ⟨_, rx.str.1⟩
      | _ => rw [q] at hr; cases hr
    obtain ⟨s, rfl⟩ := hv
    refine ⟨rfl, Hs1, ρ1, σ, B1, st.grow g1 l1 b1, OutG.bindL Yld.shf out fun ds B2 vs H2 Hs2 ρ2 g2 l2 b2 r2 out => ?_⟩
    obtain ⟨d, hd, out⟩ := Out.of (p := p) (Q := Q) out
    exact ⟨Hs2, ρ2, B2, _, _, d, l2, b2, drf_ok (r1.grow g2) b2, rp_of r2 b2, hd, Yld.f (p := p) out⟩⟩
end
end Pz
end
section
set_option Elab.async false
set_option linter.all false
set_option maxRecDepth 100000
namespace Pz
open PySem PySem.Spec PyProof.Rows L2

/-! ### a dict is walked -/
section
variable {K : PySem.W.Frag} {Hs Hs' H H' : Hp} {ρ ρ' : List Addr} {a : Addr} {od : Obj} {u : HO} {B : List D}
theorem gr_unlock (hu : H a = some u) (g : Gr Hs (upd H a (.frz od u)) ρ Hs' H' ρ') : Gr Hs H ρ Hs' (upd H' a u) ρ' where
  hs := g.hs
  fr := fun b o h => by
    rcases g.fr b o h with q | q
    · exact .inl q
    · by_cases z : b = a
      · subst z; rw [upd_same] at q; cases q
      · rw [upd_ne z] at q; exact .inr q
  kp := fun b o h n => by
    by_cases z : b = a
    · subst z
      rw [upd_same, ← hu, h]
    · rw [upd_ne z]
      exact g.kp b o (by rw [upd_ne z]; exact h) n
  th := fun b o h => by
    by_cases z : b = a
    · subst z; exact ⟨_, upd_same⟩
    · rw [upd_ne z]
      exact g.th b o (by rw [upd_ne z]; exact h)
  rp := g.rp
  rn := fun b h => by
    rcases g.rn b h with q | q
    · exact .inl q
    · by_cases z : b = a
      · subst z; rw [upd_same] at q; cases q
      · rw [upd_ne z] at q; exact .inr q
theorem le_unlock (l : Le Hs' H') (hs : ∀ o, Hs' a = some o → o = u) : Le Hs' (upd H' a u) := fun b o h => by
  by_cases z : b = a
  · subst z
    rw [upd_same, hs o h]
    exact .inl rfl
  · rw [upd_ne z]
    exact l b o h
theorem bok_but (b : BOk K Hs ρ H B) (n : a ∉ ρ) {o : HO} : BOk K Hs ρ (upd H a o) B := by
  refine ⟨b.len, b.nd, fun m c d e1 e2 => ?_⟩
  obtain ⟨h, hn⟩ := b.at_ m c d e1 e2
  exact ⟨h.mono (Le.refl _) (List.prefix_refl _) (upd_ne fun z => n (by rw [← z]; exact List.mem_of_getElem? e1)), hn⟩
theorem repK_at : ∀ {l : List (D × D)} {kvs : List (Key × V)} {i : Nat} {d : D}, RepK K Hs ρ l kvs → (l.map (·.1))[i]? = some d → ∃ k v, kvs[i]? = some (k, v) ∧ KeyR d k
  | [], _, i, d, r, e => by cases r; simp at e
  | (k, x) :: l, kvs, i, d, r, e => by
    obtain ⟨kk, v, s, rfl, hk, _, hr⟩ := r.cons_inv
    cases i with
    | zero => simp at e; subst e; exact ⟨kk, v, rfl, hk⟩
    | succ i =>
      obtain ⟨k2, v2, h1, h2⟩ := repK_at (i := i) hr (by simpa using e)
      exact ⟨k2, v2, by simpa using h1, h2⟩
theorem KeyR.rep {d : D} {k : Key} (h : KeyR d k) : Rep K Hs ρ d (kV k) := by
  cases h with
  | int i => exact .int i
  | str h => exact .str h
/-- the keys of a locked dict -/
theorem itR_keys {l : List (D × D)} {kvs : List (Key × V)} (hH : H a = some (.frz od (.dK kvs))) (nr : a ∉ ρ) (r : RepK K Hs ρ l kvs) : ItR K true (Itk a od kvs) Hs ρ H (l.map (·.1)) := by
  have hk : ∀ Hs' H' ρ', Cnd true Hs H ρ Hs' H' ρ' → H' a = some (.frz od (.dK kvs)) := fun Hs' H' ρ' c => (c.2.2 rfl).kp a _ hH nr
  refine .same (fun i Hs' H' ρ' c le hi => ⟨hk _ _ _ c, by rw [List.length_map, r.length] at hi; exact hi⟩) (fun i Hs' H' ρ' c le hi => ⟨hk _ _ _ c, by rw [List.length_map, r.length] at hi; exact hi⟩) fun i Hs' H' ρ' x H2 d c le e y => ?_
  obtain ⟨e1, k, v, e2, rfl⟩ := y
  obtain ⟨k2, v2, e3, hk2⟩ := repK_at r e
  rw [e2] at e3
  cases e3
  exact ⟨e1, hk2.rep⟩
end
theorem _root_.L2.PE.or {X : Cx} {e : Expr} {t t' : TE} (h : PE X e t) (h' : PE X e t') : PE X e (fun σ H Q => t σ H Q ∨ t' σ H Q) := ⟨fun pins s σ H Q I q => q.elim (h.run pins s σ H Q I) (h'.run pins s σ H Q I)⟩
section
variable {X : Cx} {Φ : Fn} {W : WX} {pos : Pos} {elt tp : Expr} {ifs : List Expr} {scope : Scope} {own : List (Str × Nat)} {cpos : Pos} {tg : Tg} {iit ic ie : E} {i : Nat} {x : Str}
theorem lcd_core {R : Hp → List Addr → Hp → D × List D → Prop} {σV : L2.St} {H : Hp} {Q : VK} {p : Bool} (hd : iit = .own i ∨ iit = .var i)
    (hq : ∀ Hs ρ H x, R Hs ρ H x → YldN X.K Hs ρ H x.2 x.1 Q) (h : ∃ Hs ρ σ B, Stt X.K Hs ρ H σV σ B ∧ OutG X.K (fun c d h => W c d σV h) Hs ρ H (ev Φ p (.lcd 0 iit tg ic ie) σ B) (R Hs ρ H)) :
    tLc (iKeys (tVar i)) (rdP X.K tg) (rdT X.K Φ WX0 ic) (rdE X.K Φ WX0 false ie) tg.names σV H Q ∨ tLockE (tLc (iKeys (tVar i)) (rdP X.K tg) (rdT X.K Φ WX0 ic) (rdE X.K Φ WX0 false ie) tg.names) σV H Q := by
  obtain ⟨Hs, ρ, σ, B, st, out⟩ := h
  have out : OutG X.K (fun c d h => W c d σV h) Hs ρ H ((ev Φ true iit σ B).bind fun x => (Rs.of (itemsD 0 x.1)).bind fun ds => if ds.length ≤ ln then (lcLoop (lcF Φ tg ic ie (wv iit σ)) ds x.2).bind fun r => .ok (.lst r.1, r.2) else .bad) (R Hs ρ H) := out
  cases q : ev Φ true iit σ B with
  | bad => rw [q] at out; exact out.elim
  | ex c ps B' =>
    rcases hd with rfl | rfl <;> (unfold ev at q; split at q <;> cases q)
  | ok y =>
    rw [q] at out
    obtain ⟨ds, hds, out⟩ := OutG.of (show OutG X.K _ Hs ρ H ((Rs.of (itemsD 0 y.1)).bind fun ds => if ds.length ≤ ln then (lcLoop (lcF Φ tg ic ie (wv iit σ)) ds y.2).bind fun r => Rs.ok (.lst r.1, r.2) else .bad) (R Hs ρ H) from out)
    obtain ⟨hl, out⟩ := OutG.ite out
    obtain ⟨l, hy, rfl⟩ : ∃ l, y.1 = .dic false l ∧ ds = l.map (·.1) := by
      generalize y.1 = d at hds
      cases d with
      | dic t l =>
        cases t with
        | false => exact ⟨l, rfl, (Option.some.inj hds).symm⟩
        | true => cases hds
      | _ => cases hds
    -- where the dict stands
    have key : ∃ a kvs, σV[i]? = some (some (.ref a)) ∧ a ∉ ρ ∧ RepK X.K Hs ρ l kvs ∧ y.2 = B ∧
        ((H a = some (.dK kvs) ∧ (∀ o, Hs a = some o → o = .dK kvs) ∧ ∀ od, Stt X.K Hs ρ (upd H a (.frz od (.dK kvs))) σV (wv iit σ) B) ∨ ∃ od, H a = some (.frz od (.dK kvs)) ∧ Stt X.K Hs ρ H σV (wv iit σ) B) := by
      rcases hd with rfl | rfl
      · obtain ⟨d, hsl, hy2⟩ : ∃ d, σ[i]? = some (.own d) ∧ y = (d, B) := by
          unfold ev at q
          split at q
          · cases q; exact ⟨_, by assumption, rfl⟩
          · cases q
        subst hy2
        obtain rfl : d = .dic false l := hy
        obtain ⟨a, ea, ⟨kvs, hk, r⟩, n, nr⟩ := st.slotV hsl
        refine ⟨a, kvs, ea, nr, r, rfl, .inl ⟨hk, fun o h => (by rw [n] at h; cases h), fun od => ?_⟩⟩
        have st1 : Stt X.K Hs ρ H σV (σ.set i .no) B := by
          have := st.setN (i := i) (o := (some (.ref a)))
          have e2 : σV.set i (some (.ref a)) = σV := by
            refine List.ext_getElem? fun j => ?_
            by_cases z : i = j
            · subst z
              rw [ea, List.getElem?_set_self (List.getElem?_eq_some_iff.mp ea).1]
            · rw [List.getElem?_set_ne z]
          rw [e2] at this
          exact this
        refine ⟨fun b o h => ?_, bok_but st.bx nr, st1.len, fun j s h => ?_, st1.di⟩
        · rw [upd_ne (ne_of_none h n)]
          exact st.le b o h
        · have hs := st1.sl j s h
          cases s with
          | no => trivial
          | val f => exact hs
          | own f =>
            obtain ⟨b, eb, o, nb⟩ := st1.slotV h
            rw [eb]
            refine ⟨b, rfl, o.mono (Le.refl _) (List.prefix_refl _) (upd_ne fun z => ?_), nb⟩
            subst z
            rcases set_at h with ⟨_, z⟩ | ⟨z, h⟩
            · cases z
            · exact z (st.di i j b _ f hsl h ea eb)
      · obtain ⟨d, hsl, hy2⟩ : ∃ d, σ[i]? = some (.val d) ∧ y = (d, B) := by
          unfold ev at q
          split at q
          · cases q; exact ⟨_, by assumption, rfl⟩
          · cases q
        subst hy2
        obtain rfl : d = .dic false l := hy
        obtain ⟨v, e1, r⟩ := st.sl i _ hsl
        have ev_ : σV[i]? = some (some v) := by
          cases z : σV[i]? with
          | none => rw [z] at e1; cases e1
          | some o => rw [z] at e1; exact congrArg some e1
        cases r with
        | @dK _ a kvs hr rk =>
          have hsome : ∃ o, Hs a = some o := by
            rcases hr with h | ⟨o, h⟩
            · exact ⟨_, h⟩
            · exact ⟨_, h⟩
          have nr : a ∉ ρ := fun z => by
            obtain ⟨m, em⟩ := List.getElem?_of_mem z
            have hm : m < B.length := by rw [← st.bx.len]; exact (List.getElem?_eq_some_iff.mp em).1
            obtain ⟨_, hn⟩ := st.bx.at_ m a _ em (List.getElem?_eq_getElem hm)
            obtain ⟨o, ho⟩ := hsome
            rw [hn] at ho; cases ho
          refine ⟨a, kvs, ev_, nr, rk, rfl, ?_⟩
          rcases hr with h | ⟨o, h⟩
          · rcases st.le a _ h with h2 | ⟨_, od, h2⟩
            · refine .inl ⟨h2, fun o ho => (by rw [h] at ho; exact (Option.some.inj ho).symm), fun od => ⟨fun b o hb => ?_, bok_but st.bx nr, st.len, fun j s hj => ?_, st.di⟩⟩
              · by_cases z : b = a
                · subst z
                  rw [h] at hb; cases hb
                  exact .inr ⟨trivial, od, upd_same⟩
                · rw [upd_ne z]
                  exact st.le b o hb
              · have hs := st.sl j s hj
                cases s with
                | no => trivial
                | val f => exact hs
                | own f =>
                  obtain ⟨b, eb, o, nb⟩ := hs
                  exact ⟨b, eb, o.mono (Le.refl _) (List.prefix_refl _) (upd_ne fun z => by subst z; rw [h] at nb; cases nb.1), nb⟩
            · exact .inr ⟨od, h2, st⟩
          · exact .inr ⟨o, by
              rcases st.le a _ h with h2 | ⟨m, _⟩
              · exact h2
              · exact m.elim, st⟩
    obtain ⟨a, kvs, ea, nr, rk, hB, hh⟩ := key
    rw [hB] at out
    rcases hh with ⟨hH, hsu, hst⟩ | ⟨od, hH, hst⟩
    · refine .inr ⟨a, .dK kvs, hH, trivial, fun od => ⟨.ref a, ea, a, od, rfl, .inl ⟨kvs, upd_same, fun D hD => ?_⟩⟩⟩
      have hDa : D ≠ a := fun z => by subst z; rw [upd_same] at hD; cases hD
      refine lc_turns (Wi := WX0) (Q := fun v H' => H' a = some (.frz od (.dK kvs)) ∧ Q v (upd H' a (.dK kvs))) (hst od) (itR_keys upd_same nr rk) hl out hD fun l' B' H' Hs' ρ' r g l_ b o n nr' => ?_
      have hHa : H' a = some (.frz od (.dK kvs)) := g.kp a _ upd_same nr
      have nra : a ∉ ρ' := g.rhoN upd_same nr
      refine ⟨hHa, ?_⟩
      have y : YldF X.K Hs ρ H B' (.lst l') Q := hq _ _ _ _ r
      refine y D _ Hs' ρ' (gr_unlock hH g) (le_unlock l_ fun o ho => ?_) (bok_but b nra) (o.mono (Le.refl _) (List.prefix_refl _) (upd_ne hDa)) n nr' (by rw [upd_ne hDa] at hD; exact hD)
      rcases g.fr a o ho with ⟨w, hw⟩ | z
      · have := g.hs a w hw
        rw [ho] at this
        cases this
        exact hsu _ hw
      · rw [upd_same] at z; cases z
    · refine .inl ⟨.ref a, ea, a, od, rfl, .inl ⟨kvs, hH, fun D hD => ?_⟩⟩
      refine lc_turns (Wi := WX0) (Q := Q) hst (itR_keys hH nr rk) hl out hD fun l' B' H' Hs' ρ' r g l_ b o n nr' => ?_
      have y : YldF X.K Hs ρ H B' (.lst l') Q := hq _ _ _ _ r
      exact y D _ Hs' ρ' g l_ b o n nr' hD
theorem e_lcdK (hc : X.calm = true) (hN : X.N.Nodup) (hd : iit = .own i ∨ iit = .var i) (hx : X.N[i]? = some x) (ok : BlkOk X.N X.env.scope scope own) (hv : own.map (·.2) = tg.names)
    (hg : ∀ (s : Shared) (H : Hp) (C : Addr) (cl : List (Str × Addr)) (fp : List Addr), GOk (X.blk s H scope (compEnvC scope cl C X.env) fp) tp tg)
    (ht : ∀ (s : Shared) (H : Hp) (C : Addr) (cl : List (Str × Addr)) (fp : List Addr), TsOk (X.blk s H scope (compEnvC scope cl C X.env) fp) Φ WX0 ifs ic)
    (he : ∀ (s : Shared) (H : Hp) (C : Addr) (cl : List (Str × Addr)) (fp : List Addr), EOk (X.blk s H scope (compEnvC scope cl C X.env) fp) Φ WX0 elt ie)
    (hs : ∀ v, foldedSetIterable (.Name x pos) X.env v = pure v := by intro _; rfl) (hvs : Vis X.env.scope x := by first | exact .inl rfl | exact .inr (.inl rfl) | exact .inr (.inr rfl))
    (hdb : (x == ("__debug__" : Str)) = false := by decide) (hcd : (x == ("__classdict__" : Str)) = false := by decide) : EOk X Φ W (.ListComp elt [⟨tp, .Name x pos, ifs, 0⟩] scope cpos) (.lcd 0 iit tg ic ie) :=
  have h0 := pe_lc (own := own) (pos := cpos) hc hN (pi_keys (tg := tp) (pe_var (pos := pos) hx hvs hdb hcd)) ok (fun s H C cl fp => (hg s H C cl fp).run) (fun s H C cl fp => (ht s H C cl fp).run) (fun s H C cl fp => (he s H C cl fp).run false) hs
  ⟨fun p => (h0.or (pe_lock h0)).weaken fun σV H Q h => by
    rw [hv]
    exact lcd_core hd (fun _ _ _ _ h => .of (p := p) h) h⟩
end
end Pz
end
section
set_option Elab.async false
set_option linter.all false
set_option maxRecDepth 100000
namespace Pz

/-! ### the order of plain data -/
mutual
theorem eqv_ord : ∀ {a b : D}, a.ord = true → b.ord = true → (D.eqv a b = true ↔ a = b)
  | .int i, .int j, _, _ => by simp [D.eqv]
  | .int _, .str _, _, _ => by simp [D.eqv]
  | .int _, .tup _, _, _ => by simp [D.eqv]
  | .int _, .lst _, _, _ => by simp [D.eqv]
  | .str _, .int _, _, _ => by simp [D.eqv]
  | .str _, .str _, _, _ => by simp [D.eqv]
  | .str _, .tup _, _, _ => by simp [D.eqv]
  | .str _, .lst _, _, _ => by simp [D.eqv]
  | .tup _, .int _, _, _ => by simp [D.eqv]
  | .tup _, .str _, _, _ => by simp [D.eqv]
  | .tup x, .tup y, h, k => by
    have := eqv_ordL (x := x) (y := y) (by simpa [D.ord] using h) (by simpa [D.ord] using k)
    simp [D.eqv, this]
  | .tup _, .lst _, _, _ => by simp [D.eqv]
  | .lst _, .int _, _, _ => by simp [D.eqv]
  | .lst _, .str _, _, _ => by simp [D.eqv]
  | .lst _, .tup _, _, _ => by simp [D.eqv]
  | .lst x, .lst y, h, k => by
    have := eqv_ordL (x := x) (y := y) (by simpa [D.ord] using h) (by simpa [D.ord] using k)
    simp [D.eqv, this]
theorem eqv_ordL : ∀ {x y : List D}, D.ordL x = true → D.ordL y = true → (D.eqvL x y = true ↔ x = y)
  | [], [], _, _ => by simp [D.eqvL]
  | [], _ :: _, _, _ => by simp [D.eqvL]
  | _ :: _, [], _, _ => by simp [D.eqvL]
  | a :: x, b :: y, h, k => by
    have h : a.ord = true ∧ D.ordL x = true := by simpa [D.ordL] using h
    have k : b.ord = true ∧ D.ordL y = true := by simpa [D.ordL] using k
    have h1 := eqv_ord h.1 k.1
    have h2 := eqv_ordL h.2 k.2
    simp [D.eqvL, h1, h2]
end
theorem ltS_irr : ∀ x : List Nat, ltS x x = false
  | [] => rfl
  | a :: x => by simp [ltS, ltS_irr x]
theorem ltS_asym : ∀ x y : List Nat, ltS x y = true → ltS y x = false
  | [], [], h => by simp [ltS] at h
  | [], _ :: _, _ => rfl
  | _ :: _, [], h => by simp [ltS] at h
  | a :: x, b :: y, h => by
    simp only [ltS] at h ⊢
    by_cases e : a = b
    · subst e
      simp at h ⊢
      exact ltS_asym x y h
    · rw [if_neg e] at h
      rw [if_neg (fun z => e z.symm)]
      simp at h ⊢
      omega
theorem ltS_ntr : ∀ x y z : List Nat, ltS y x = false → ltS z y = false → ltS z x = false
  | x, y, [], h1, h2 => by
    cases y with
    | nil => exact h1
    | cons b y => simp [ltS] at h2
  | x, [], c :: z, h1, h2 => by
    cases x with
    | nil => rfl
    | cons a x => simp [ltS] at h1
  | [], b :: y, c :: z, h1, h2 => rfl
  | a :: x, b :: y, c :: z, h1, h2 => by
    simp only [ltS] at h1 h2 ⊢
    by_cases e1 : b = a
    · subst e1
      by_cases e2 : c = b
      · subst e2
        simp at h1 h2 ⊢
        exact ltS_ntr x y z h1 h2
      · rw [if_neg e2] at h2 ⊢
        exact h2
    · rw [if_neg e1] at h1
      by_cases e2 : c = b
      · subst e2
        rw [if_neg e1]
        exact h1
      · rw [if_neg e2] at h2
        have h1 : ¬ b < a := of_decide_eq_false h1
        have h2 : ¬ c < b := of_decide_eq_false h2
        rw [if_neg (by omega)]
        exact decide_eq_false (by omega)
theorem ltS_anti : ∀ x y : List Nat, ltS x y = false → ltS y x = false → x = y
  | [], [], _, _ => rfl
  | [], _ :: _, h, _ => by simp [ltS] at h
  | _ :: _, [], _, h => by simp [ltS] at h
  | a :: x, b :: y, h1, h2 => by
    simp only [ltS] at h1 h2
    by_cases e : a = b
    · subst e
      simp at h1 h2
      rw [ltS_anti x y h1 h2]
    · rw [if_neg e] at h1
      rw [if_neg (fun z => e z.symm)] at h2
      have h1 : ¬ a < b := of_decide_eq_false h1
      have h2 : ¬ b < a := of_decide_eq_false h2
      omega
mutual
theorem ltb_asym : ∀ (a b : D), a.ord = true → b.ord = true → D.ltb a b = true → D.ltb b a = false
  | .int i, b, _, _, h => by
    cases b with
    | int j => simp only [D.ltb] at h ⊢; have := of_decide_eq_true h; exact decide_eq_false (by omega)
    | _ => simp [D.ltb] at h
  | .str i, b, _, _, h => by
    cases b with
    | str j => simp only [D.ltb] at h ⊢; exact ltS_asym i j h
    | _ => simp [D.ltb] at h
  | .tup x, b, h1, h2, h => by
    cases b with
    | tup y => simp only [D.ltb] at h ⊢; exact ltbL_asym x y (by simpa [D.ord] using h1) (by simpa [D.ord] using h2) h
    | _ => simp [D.ltb] at h
  | .lst _, b, _, _, h => by simp [D.ltb] at h
theorem ltbL_asym : ∀ (x y : List D), D.ordL x = true → D.ordL y = true → D.ltbL x y = true → D.ltbL y x = false
  | [], [], _, _, h => by simp [D.ltbL] at h
  | [], _ :: _, _, _, _ => by simp [D.ltbL]
  | _ :: _, [], _, _, h => by simp [D.ltbL] at h
  | a :: x, b :: y, h1, h2, h => by
    have h1 : a.ord = true ∧ D.ordL x = true := by simpa [D.ordL] using h1
    have h2 : b.ord = true ∧ D.ordL y = true := by simpa [D.ordL] using h2
    simp only [D.ltbL] at h ⊢
    by_cases e : D.eqv a b = true
    · have e2 : D.eqv b a = true := (eqv_ord h2.1 h1.1).mpr ((eqv_ord h1.1 h2.1).mp e).symm
      rw [if_pos e] at h
      rw [if_pos e2]
      exact ltbL_asym x y h1.2 h2.2 h
    · have e2 : ¬ D.eqv b a = true := fun z => e ((eqv_ord h1.1 h2.1).mpr ((eqv_ord h2.1 h1.1).mp z).symm)
      rw [if_neg e] at h
      rw [if_neg e2]
      exact ltb_asym a b h1.1 h2.1 h
end
mutual
theorem ltb_anti : ∀ (a b : D), a.ord = true → b.ord = true → D.cmp a b = true → D.ltb a b = false → D.ltb b a = false → a = b
  | .int i, b, _, _, c, h, k => by
    cases b with
    | int j => simp only [D.ltb] at h k; have := of_decide_eq_false h; have := of_decide_eq_false k; congr 1; omega
    | _ => simp [D.cmp] at c
  | .str i, b, _, _, c, h, k => by
    cases b with
    | str j => simp only [D.ltb] at h k; rw [ltS_anti i j h k]
    | _ => simp [D.cmp] at c
  | .tup x, b, h1, h2, c, h, k => by
    cases b with
    | tup y => simp only [D.ltb] at h k; rw [ltbL_anti x y (by simpa [D.ord] using h1) (by simpa [D.ord] using h2) (by simpa [D.cmp] using c) h k]
    | _ => simp [D.cmp] at c
  | .lst _, b, _, _, c, _, _ => by simp [D.cmp] at c
theorem ltbL_anti : ∀ (x y : List D), D.ordL x = true → D.ordL y = true → D.cmpL x y = true → D.ltbL x y = false → D.ltbL y x = false → x = y
  | [], [], _, _, _, _, _ => rfl
  | [], _ :: _, _, _, _, h, _ => by simp [D.ltbL] at h
  | _ :: _, [], _, _, _, _, h => by simp [D.ltbL] at h
  | a :: x, b :: y, h1, h2, c, h, k => by
    have h1 : a.ord = true ∧ D.ordL x = true := by simpa [D.ordL] using h1
    have h2 : b.ord = true ∧ D.ordL y = true := by simpa [D.ordL] using h2
    have c : (D.eqv a b = true ∨ D.cmp a b = true) ∧ D.cmpL x y = true := by simpa [D.cmpL] using c
    simp only [D.ltbL] at h k
    by_cases e : D.eqv a b = true
    · have e3 := (eqv_ord h1.1 h2.1).mp e
      subst e3
      rw [if_pos e] at h k
      rw [ltbL_anti x y h1.2 h2.2 c.2 h k]
    · have e2 : ¬ D.eqv b a = true := fun z => e ((eqv_ord h1.1 h2.1).mpr ((eqv_ord h2.1 h1.1).mp z).symm)
      rw [if_neg e] at h
      rw [if_neg e2] at k
      exact absurd ((eqv_ord h1.1 h2.1).mpr (ltb_anti a b h1.1 h2.1 (c.1.resolve_left e) h k)) e
end
mutual
theorem ltb_ntr : ∀ (a b c : D), a.ord = true → b.ord = true → c.ord = true → D.cmp b a = true → D.cmp c b = true → D.cmp c a = true → D.ltb b a = false → D.ltb c b = false → D.ltb c a = false
  | a, b, .int k, _, _, _, c1, c2, c3, h, h2 => by
    cases b with
    | int j =>
      cases a with
      | int i => simp only [D.ltb] at h h2 ⊢; have := of_decide_eq_false h; have := of_decide_eq_false h2; exact decide_eq_false (by omega)
      | _ => simp [D.cmp] at c3
    | _ => simp [D.cmp] at c2
  | a, b, .str k, _, _, _, c1, c2, c3, h, h2 => by
    cases b with
    | str j =>
      cases a with
      | str i => simp only [D.ltb] at h h2 ⊢; exact ltS_ntr i j k h h2
      | _ => simp [D.cmp] at c3
    | _ => simp [D.cmp] at c2
  | a, b, .tup z, o1, o2, o3, c1, c2, c3, h, h2 => by
    cases b with
    | tup y =>
      cases a with
      | tup x =>
        simp only [D.ltb] at h h2 ⊢
        exact ltbL_ntr x y z (by simpa [D.ord] using o1) (by simpa [D.ord] using o2) (by simpa [D.ord] using o3) (by simpa [D.cmp] using c1) (by simpa [D.cmp] using c2) (by simpa [D.cmp] using c3) h h2
      | _ => simp [D.cmp] at c3
    | _ => simp [D.cmp] at c2
  | a, b, .lst _, _, _, _, _, c2, _, _, _ => by simp [D.cmp] at c2
theorem ltbL_ntr : ∀ (x y z : List D), D.ordL x = true → D.ordL y = true → D.ordL z = true → D.cmpL y x = true → D.cmpL z y = true → D.cmpL z x = true → D.ltbL y x = false → D.ltbL z y = false → D.ltbL z x = false
  | x, y, [], _, _, _, _, _, _, h1, h2 => by
    cases y with
    | nil => exact h1
    | cons b y => simp [D.ltbL] at h2
  | x, [], c :: z, _, _, _, _, _, _, h1, h2 => by
    cases x with
    | nil => simp [D.ltbL]
    | cons a x => simp [D.ltbL] at h1
  | [], b :: y, c :: z, _, _, _, _, _, _, h1, h2 => by simp [D.ltbL]
  | a :: x, b :: y, c :: z, o1, o2, o3, c1, c2, c3, h1, h2 => by
    have o1 : a.ord = true ∧ D.ordL x = true := by simpa [D.ordL] using o1
    have o2 : b.ord = true ∧ D.ordL y = true := by simpa [D.ordL] using o2
    have o3 : c.ord = true ∧ D.ordL z = true := by simpa [D.ordL] using o3
    have c1 : (D.eqv b a = true ∨ D.cmp b a = true) ∧ D.cmpL y x = true := by simpa [D.cmpL] using c1
    have c2 : (D.eqv c b = true ∨ D.cmp c b = true) ∧ D.cmpL z y = true := by simpa [D.cmpL] using c2
    have c3 : (D.eqv c a = true ∨ D.cmp c a = true) ∧ D.cmpL z x = true := by simpa [D.cmpL] using c3
    simp only [D.ltbL] at h1 h2 ⊢
    by_cases e1 : D.eqv b a = true
    · have q := (eqv_ord o2.1 o1.1).mp e1
      subst q
      rw [if_pos e1] at h1
      by_cases e2 : D.eqv c b = true
      · rw [if_pos e2] at h2 ⊢
        exact ltbL_ntr x y z o1.2 o2.2 o3.2 c1.2 c2.2 c3.2 h1 h2
      · rw [if_neg e2] at h2 ⊢
        exact h2
    · rw [if_neg e1] at h1
      by_cases e2 : D.eqv c b = true
      · have q := (eqv_ord o3.1 o2.1).mp e2
        subst q
        rw [if_neg e1]
        exact h1
      · rw [if_neg e2] at h2
        by_cases e3 : D.eqv c a = true
        · have q := (eqv_ord o3.1 o1.1).mp e3
          subst q
          exact absurd ((eqv_ord o2.1 o3.1).mpr (ltb_anti b c o2.1 o3.1 (c1.1.resolve_left e1) h1 h2)) e1
        · rw [if_neg e3]
          exact ltb_ntr a b c o1.1 o2.1 o3.1 (c1.1.resolve_left e1) (c2.1.resolve_left e2) (c3.1.resolve_left e3) h1 h2
end
/-! ### insertion sort -/
theorem insD_perm (x : D) : ∀ l : List D, (insD x l).Perm (x :: l)
  | [] => List.Perm.refl _
  | y :: l => by
    unfold insD
    split
    · exact ((insD_perm x l).cons y).trans (List.Perm.swap x y l)
    · exact List.Perm.refl _
theorem isort_perm : ∀ l : List D, (isort l).Perm l
  | [] => List.Perm.refl _
  | x :: l => (insD_perm x (isort l)).trans ((isort_perm l).cons x)
/-- all of a list may be ordered -/
structure OrdAll (l : List D) : Prop where
  ord : ∀ a ∈ l, a.ord = true
  cmp : ∀ a ∈ l, ∀ b ∈ l, D.cmp a b = true
theorem ordL_mem : ∀ {l : List D}, D.ordL l = true → ∀ a ∈ l, a.ord = true
  | _ :: l, h, a, ha => by
    have h := by simpa [D.ordL] using h
    rcases List.mem_cons.mp ha with rfl | ha
    · exact h.1
    · exact ordL_mem h.2 a ha
theorem OrdAll.of {l : List D} (h1 : D.ordL l = true) (h2 : cmpAll l = true) : OrdAll l :=
  ⟨ordL_mem h1, fun a ha b hb => List.all_eq_true.mp (List.all_eq_true.mp h2 a ha) b hb⟩
theorem OrdAll.sub {l m : List D} (h : OrdAll l) (s : ∀ a ∈ m, a ∈ l) : OrdAll m := ⟨fun a ha => h.ord a (s a ha), fun a ha b hb => h.cmp a (s a ha) b (s b hb)⟩
theorem insD_sorted {x : D} : ∀ {l : List D}, OrdAll (x :: l) → l.Pairwise (fun a b => D.ltb b a = false) → (insD x l).Pairwise (fun a b => D.ltb b a = false)
  | [], _, _ => by simp [insD]
  | y :: l, o, h => by
    rw [List.pairwise_cons] at h
    unfold insD
    split
    · rename_i hy
      rw [List.pairwise_cons]
      refine ⟨fun z hz => ?_, insD_sorted (o.sub fun a ha => ?_) h.2⟩
      · have hz := (insD_perm x l).mem_iff.mp hz
        rcases List.mem_cons.mp hz with rfl | hz
        · exact ltb_asym y z (o.ord y (by simp)) (o.ord z (by simp)) hy
        · exact h.1 z hz
      · rcases List.mem_cons.mp ha with rfl | ha
        · simp
        · exact List.mem_cons_of_mem _ (List.mem_cons_of_mem _ ha)
    · rename_i hy
      have hy : D.ltb y x = false := by simpa using hy
      rw [List.pairwise_cons]
      refine ⟨fun z hz => ?_, List.pairwise_cons.mpr h⟩
      rcases List.mem_cons.mp hz with rfl | hz
      · exact hy
      · have mx : x ∈ x :: y :: l := by simp
        have my : y ∈ x :: y :: l := by simp
        have mz : z ∈ x :: y :: l := List.mem_cons_of_mem _ (List.mem_cons_of_mem _ hz)
        exact ltb_ntr x y z (o.ord x mx) (o.ord y my) (o.ord z mz) (o.cmp y my x mx) (o.cmp z mz y my) (o.cmp z mz x mx) hy (h.1 z hz)
theorem isort_sorted : ∀ {l : List D}, OrdAll l → (isort l).Pairwise (fun a b => D.ltb b a = false)
  | [], _ => List.Pairwise.nil
  | x :: l, o => insD_sorted (o.sub fun a ha => by
      rcases List.mem_cons.mp ha with rfl | ha
      · simp
      · exact List.mem_cons_of_mem _ ((isort_perm l).mem_iff.mp ha)) (isort_sorted (o.sub fun a ha => List.mem_cons_of_mem _ ha))
theorem isort_uniq {l m : List D} (o : OrdAll l) (p : m.Perm l) (s : m.Pairwise (fun a b => D.ltb b a = false)) : m = isort l :=
  List.Perm.eq_of_pairwise (fun a b ha hb h1 h2 => by
    have ha := p.mem_iff.mp ha
    have hb := (isort_perm l).mem_iff.mp hb
    exact ltb_anti a b (o.ord a ha) (o.ord b hb) (o.cmp a ha b hb) h2 h1) s (isort_sorted o) (p.trans (isort_perm l).symm)
end Pz
end
section
set_option Elab.async false
set_option linter.all false
set_option maxRecDepth 100000
namespace Pz
open PySem PySem.Spec PyProof.Rows L2

/-! ### sorted -/
section
variable {K : PySem.W.Frag} {Hs : Hp} {ρ : List Addr}
mutual
theorem Rep.uniq : ∀ {d e : D} {x : V}, d.ord = true → e.ord = true → Rep K Hs ρ d x → Rep K Hs ρ e x → d = e
  | .int i, e, _, _, h, .int _, r => by
    cases e with
    | int j => cases r; rfl
    | str _ => cases r
    | tup _ => cases r
    | lst _ => cases r
    | _ => cases h
  | .str i, e, _, _, h, .str hi, r => by
    cases e with
    | str j =>
      generalize hz : V.str (mk i) = z at r
      cases r with
      | str hj => rw [mk_inj (V.str.inj hz)]
    | int _ => cases r
    | tup _ => cases r
    | lst _ => cases r
    | _ => cases h
  | .tup l, e, _, h1, h, .tup ha r1, r => by
    cases e with
    | tup m =>
      cases r with
      | tup hb r2 =>
        rw [ha] at hb
        cases hb
        rw [RepL.uniq (by simpa [D.ord] using h1) (by simpa [D.ord] using h) r1 r2]
    | lst m =>
      cases r with
      | lst hb r2 => rw [ha] at hb; cases hb
    | int _ => cases r
    | str _ => cases r
    | _ => cases h
  | .lst l, e, _, h1, h, .lst ha r1, r => by
    cases e with
    | lst m =>
      cases r with
      | lst hb r2 =>
        rw [ha] at hb
        cases hb
        rw [RepL.uniq (by simpa [D.ord] using h1) (by simpa [D.ord] using h) r1 r2]
    | tup m =>
      cases r with
      | tup hb r2 => rw [ha] at hb; cases hb
    | int _ => cases r
    | str _ => cases r
    | _ => cases h
theorem RepL.uniq : ∀ {d e : List D} {x : List V}, D.ordL d = true → D.ordL e = true → RepL K Hs ρ d x → RepL K Hs ρ e x → d = e
  | _, _, _, _, _, .nil, r => by cases r; rfl
  | _, _, _, h1, h2, .cons h t, r => by
    cases r with
    | cons h' t' =>
      have h1 := by simpa [D.ordL] using h1
      have h2 := by simpa [D.ordL] using h2
      rw [Rep.uniq h1.1 h2.1 h h', RepL.uniq h1.2 h2.2 t t']
end
open Classical in
noncomputable def pick (K : PySem.W.Frag) (Hs : Hp) (ρ : List Addr) (ds : List D) (v : Value) : D :=
  if h : ∃ d, d ∈ ds ∧ ∃ x, RelV x v ∧ Rep K Hs ρ d x then Classical.choose h else ds.headD .non
theorem pick_mem {ds : List D} (hne : ds ≠ []) (v : Value) : pick K Hs ρ ds v ∈ ds := by
  unfold pick
  split
  · rename_i h; exact (Classical.choose_spec h).1
  · cases ds with
    | nil => exact absurd rfl hne
    | cons a l => exact List.mem_cons_self
theorem pick_eq {ds : List D} (o : OrdAll ds) {d : D} {x : V} {v : Value} (hd : d ∈ ds) (rv : RelV x v) (r : Rep K Hs ρ d x) : pick K Hs ρ ds v = d := by
  have h : ∃ d, d ∈ ds ∧ ∃ x, RelV x v ∧ Rep K Hs ρ d x := ⟨d, hd, x, rv, r⟩
  unfold pick
  rw [dif_pos h]
  obtain ⟨h1, y, h2, h3⟩ := Classical.choose_spec h
  cases h2.inj rv
  exact Rep.uniq (o.ord _ h1) (o.ord d hd) h3 r
end
/-- the items of a tracked list, value by value -/
theorem at_of_mem {K : PySem.W.Frag} {Hs : Hp} {ρ : List Addr} {ds : List D} {xs : List V} {vs : List Value} (r : RepL K Hs ρ ds xs) (rv : Vals xs vs) {v : Value} (hv : v ∈ vs) : ∃ d x, d ∈ ds ∧ x ∈ xs ∧ RelV x v ∧ Rep K Hs ρ d x := by
  obtain ⟨i, hi⟩ := List.getElem?_of_mem hv
  have hil : i < xs.length := by rw [rv.length]; exact (List.getElem?_eq_some_iff.mp hi).1
  obtain ⟨u, hu, ru⟩ := rv.get (List.getElem?_eq_getElem hil)
  rw [hi] at hu; cases hu
  obtain ⟨d, hd, rd⟩ := r.get' (List.getElem?_eq_getElem hil)
  exact ⟨d, _, List.mem_of_getElem? hd, List.getElem_mem hil, ru, rd⟩
theorem depL_mem : ∀ {l : List D} {n : Nat}, D.depL l ≤ n → ∀ a ∈ l, a.dep ≤ n
  | _ :: l, n, h, a, ha => by
    simp only [D.depL] at h
    rcases List.mem_cons.mp ha with rfl | ha
    · omega
    · exact depL_mem (by omega : D.depL l ≤ n) a ha
section
variable {X : Cx} {pins : List (Addr × Obj)} {σ : L2.St} {H Hs : Hp} {s : Shared} {ρ : List Addr} {A : Around}
theorem one_lt (I : Inv X pins σ H s) (le : Le Hs H) {b : Bool} {d e : D} {x y : V} {v u : Value} {Q : Bool → Shared → Prop} {E : Value → Shared → Prop} (rd : Rep X.K Hs ρ d x) (re : Rep X.K Hs ρ e y) (rx : RelV x v) (ry : RelV y u) (hd : d.dep ≤ 64) (he : e.dep ≤ 64) (hu : A.units + d.dep + 1 < cLine)
    (hc : D.cmp d e = true) (hb : b = true → ∀ l, d ≠ .tup l) (h : Q (D.ltb d e) s) : wpAny (model X.prog X.w) A (oneLt' b v u) Q E s := by
  cases b with
  | false => exact PySem.W.kat_one _ _ (rc_lt I le true d e A x y v u rd re rx ry hd he hu hc X.prog X.w _ _ h)
  | true =>
    cases d with
    | int i =>
      cases e with
      | int j =>
        cases rd; cases re
        obtain ⟨t, rfl⟩ := rx
        obtain ⟨t', rfl⟩ := ry
        simp only [D.ltb] at h
        exact PyProof.Rows.oneLt_int h
      | _ => simp [D.cmp] at hc
    | str i =>
      cases e with
      | str j =>
        cases rd; cases re
        obtain ⟨t, rfl⟩ := rx
        obtain ⟨t', rfl⟩ := ry
        simp only [D.ltb] at h
        rw [ltS_lex] at h
        exact PyProof.Rows.oneLt_str (by simpa using h)
      | _ => simp [D.cmp] at hc
    | tup l => exact absurd rfl (hb rfl l)
    | _ => simp [D.cmp] at hc
theorem ltbL_fin : ∀ (l m : List D) (b : Bool), (∃ a x c y, l = a :: x ∧ m = c :: y) ∨ (D.ltbL l m = decide (l.length < m.length))
  | [], [], b => .inr (by simp [D.ltbL])
  | [], _ :: _, b => .inr (by simp [D.ltbL])
  | _ :: _, [], b => .inr (by simp [D.ltbL])
  | a :: x, c :: y, b => .inl ⟨a, x, c, y, rfl, rfl⟩
theorem kat_ok (I : Inv X pins σ H s) (le : Le Hs H) {b fin : Bool} {Q : Bool → Shared → Prop} : ∀ (l m : List D) (xs ys : List V) (its its2 : List Value) (i : Nat), RepL X.K Hs ρ l xs → RepL X.K Hs ρ m ys → Vals xs its → Vals ys its2 → D.depL l ≤ 62 → D.depL m ≤ 62 → A.units + D.depL l + 1 < cLine → D.cmpL l m = true →
    fin = decide (l.length < m.length) → ((b && i == 0) = true → ∀ a ∈ l.head?, ∀ q, a ≠ .tup q) → Q (D.ltbL l m) s → PySem.W.KatLex X.prog X.w A b fin Q (its.zip its2) i s
  | [], m, _, ys, its, its2, i, .nil, r2, v1, v2, _, _, _, _, hf, _, h => by
    cases v1
    rw [List.zip_nil_left]
    refine PySem.W.kat_nil ?_
    rcases ltbL_fin [] m b with ⟨_, _, _, _, z, _⟩ | z
    · cases z
    · rw [hf, ← z]; exact h
  | a :: l, [], _, _, its, its2, i, r1, .nil, v1, v2, _, _, _, _, hf, _, h => by
    cases v2
    rw [List.zip_nil_right]
    refine PySem.W.kat_nil ?_
    rcases ltbL_fin (a :: l) [] b with ⟨_, _, _, _, _, z⟩ | z
    · cases z
    · rw [hf, ← z]; exact h
  | a :: l, c :: m, _, _, _, _, i, .cons ra r1, .cons rc r2, v1, v2, h1, h2, hu, hc, hf, hb, h => by
    cases v1 with
    | cons va v1 =>
      cases v2 with
      | cons vc v2 =>
        rw [List.zip_cons_cons]
        have d1 : a.dep ≤ 62 ∧ D.depL l ≤ 62 ∧ a.dep ≤ D.depL (a :: l) ∧ D.depL l ≤ D.depL (a :: l) := by simp only [D.depL] at h1 ⊢; omega
        have d2 : c.dep ≤ 62 ∧ D.depL m ≤ 62 := by simp only [D.depL] at h2; omega
        have hc : (D.eqv a c = true ∨ D.cmp a c = true) ∧ D.cmpL l m = true := by simpa [D.cmpL] using hc
        refine PySem.W.kat_cons (rep_eqAt I le ra rc va vc (by omega) (by omega) (by omega) X.prog X.w _ _ ?_)
        refine PySem.W.kat_go (fun e => ?_) (fun e => ?_)
        · refine PySem.W.kat_yes (kat_ok I le l m _ _ _ _ (i + 1) r1 r2 v1 v2 d1.2.1 d2.2 (by omega) hc.2 ?_ (fun z => ?_) ?_)
          · rw [hf]; simp
          · rw [Bool.and_eq_true] at z
            exact absurd z.2 (by simp)
          · have h : Q (if D.eqv a c then D.ltbL l m else D.ltb a c) s := h
            rw [if_pos e] at h
            exact h
        · refine PySem.W.kat_no (one_lt I le ra rc va vc (by omega) (by omega) (by omega) (hc.1.resolve_left (by rw [e]; simp)) (fun z => hb z a rfl) ?_)
          have h : Q (if D.eqv a c then D.ltbL l m else D.ltb a c) s := h
          rw [e, if_neg Bool.false_ne_true] at h
          exact h
/-- the name of a value's type -/
def tyNm : D → String
  | .int _ => "int"
  | .str _ => "str"
  | .tup _ => "tuple"
  | .lst _ => "list"
  | _ => ""
theorem tyNm_same {a b : D} (h1 : a.ord = true) (h2 : b.ord = true) (h : D.eqv a b = true ∨ D.cmp a b = true) : tyNm a = tyNm b := by
  rcases h with h | h
  · rw [(eqv_ord h1 h2).mp h]
  · cases a <;> cases b <;> first | rfl | simp [D.cmp] at h
theorem looks_ty (I : Inv X pins σ H s) (le : Le Hs H) {a : D} {x : V} {v : Value} (h : a.ord = true) (r : Rep X.K Hs ρ a x) (rv : RelV x v) : PySem.W.Looks (model X.prog X.w) s.heap (typeOf v) (.type (tyNm a)) := by
  cases a with
  | int i => cases r; obtain ⟨t, rfl⟩ := rv; exact .now
  | str i => cases r; obtain ⟨t, rfl⟩ := rv; exact .now
  | tup l =>
    cases r with
    | tup ha _ =>
      cases rv
      obtain ⟨_, its, _, o, h1, h2, _⟩ := I.hok _ _ (le.tup ha)
      show PySem.W.Looks _ _ (typeOf (.ref _)) (.type "tuple")
      rw [← h2]
      exact (PySem.W.Looks.ld h1).andThen .now
  | lst l =>
    cases r with
    | lst ha _ =>
      cases rv
      obtain ⟨_, its, n, _, h1⟩ := I.hok _ _ (le.lst ha)
      show PySem.W.Looks _ _ (typeOf (.ref _)) (.type "list")
      exact (PySem.W.Looks.ld h1).andThen .now
  | _ => cases h
theorem tups_of (I : Inv X pins σ H s) (le : Le Hs H) : ∀ {ds : List D} {xs : List V} {vs : List Value}, RepL X.K Hs ρ ds xs → Vals xs vs → (∀ d ∈ ds, ∃ a l, d = .tup (a :: l)) →
    ∃ fs, PySem.W.KatTups s.heap vs fs ∧ fs.length = vs.length ∧ ∀ f ∈ fs, ∃ a x l, D.tup (a :: l) ∈ ds ∧ RelV x f ∧ Rep X.K Hs ρ a x
  | _, _, _, .nil, .nil, _ => ⟨[], .nil, rfl, fun _ h => by cases h⟩
  | d :: ds, _, _, .cons r rr, .cons v vv, h => by
    obtain ⟨a, l, rfl⟩ := h d List.mem_cons_self
    obtain ⟨fs, h1, h2, h3⟩ := tups_of I le rr vv fun d hd => h d (List.mem_cons_of_mem _ hd)
    cases r with
    | tup ha ri =>
      cases ri with
      | @cons _ x0 _ xs0 ra _ =>
        cases v
        obtain ⟨_, its, rv, o, g1, g2, n, g3⟩ := I.hok _ _ (le.tup ha)
        cases rv with
        | @cons _ f _ its0 rf _ =>
          refine ⟨f :: fs, .cons g1 g2 g3 rfl h1, congrArg Nat.succ h2, fun g hg => ?_⟩
          rcases List.mem_cons.mp hg with rfl | hg
          · exact ⟨a, x0, l, List.mem_cons_self, rf, ra⟩
          · obtain ⟨a', x', l', m, q⟩ := h3 g hg
            exact ⟨a', x', l', List.mem_cons_of_mem _ m, q⟩
theorem sortable_ok (I : Inv X pins σ H s) (le : Le Hs H) {ds : List D} {xs : List V} {vs : List Value} (r : RepL X.K Hs ρ ds xs) (rv : Vals xs vs) (o : OrdAll ds) (hd : D.depL ds ≤ 60) (hn : ds.all neT = true) (h2 : 2 ≤ vs.length) (hu : A.units + 63 < cLine)
    {h₁ : Heap} {a : Addr} (kk : ∀ b ob, s.heap.get? b = some ob → b ≠ a ∧ h₁.get? b = some ob) : SrtO.SortableO X.prog X.w A { s with heap := h₁ } a vs fun v u => D.ltb (pick X.K Hs ρ ds v) (pick X.K Hs ρ ds u) := by
  intro h' keep
  have I' : Inv X pins σ H { s with heap := h' } := I.kept (t' := s.toks) fun b u e => keep b u (kk b u e).1 (kk b u e).2
  have hl : ds.length = vs.length := r.length.trans rv.length
  obtain ⟨d0, dr, rfl⟩ : ∃ d0 dr, ds = d0 :: dr := by
    cases ds with
    | nil => simp at hl; omega
    | cons a b => exact ⟨a, b, rfl⟩
  have m0 : d0 ∈ d0 :: dr := List.mem_cons_self
  have o0 := o.ord d0 m0
  have same : ∀ d ∈ d0 :: dr, tyNm d = tyNm d0 := fun d hm => tyNm_same (o.ord d hm) o0 (.inr (o.cmp d hm d0 m0))
  -- items that are no tuples
  have plain : (∀ l, d0 ≠ .tup l) → ∃ κ, (∀ (Q : SortKind → Shared → Prop) (E : Value → Shared → Prop), Q κ { s with heap := h' } → wpAny (model X.prog X.w) A (keyKind' vs.toArray) Q E { s with heap := h' }) ∧
      SrtO.Cmp X.prog X.w A { s with heap := h' } κ (fun p => p.1 ∈ vs) (SrtO.lt2 fun v u => D.ltb (pick X.K Hs ρ (d0 :: dr) v) (pick X.K Hs ρ (d0 :: dr) u)) := fun hnt => by
    have hT : (Value.type (tyNm d0) != Value.type "tuple") = true := by
      cases d0 with
      | int _ => exact (by decide : (Value.type "int" != Value.type "tuple") = true)
      | str _ => exact (by decide : (Value.type "str" != Value.type "tuple") = true)
      | lst _ => exact (by decide : (Value.type "list" != Value.type "tuple") = true)
      | tup l => exact absurd rfl (hnt l)
      | _ => cases o0
    have hT2 : (Value.type (tyNm d0) == Value.type (tyNm d0)) = true := by simp
    refine ⟨oneType', fun Q E q => PySem.W.kas_kind (T := .type (tyNm d0)) h2 (fun v hv => ?_) hT hT2 q, fun p q hp hq => ?_⟩
    · obtain ⟨d, x, hm, hx, r1, r2⟩ := at_of_mem r rv hv
      rw [← same d hm]
      exact looks_ty I' le (o.ord d hm) r2 r1
    · obtain ⟨d, x, hm, hx, r1, r2⟩ := at_of_mem r rv hp
      obtain ⟨e, y, hm2, hy, r3, r4⟩ := at_of_mem r rv hq
      have dm := depL_mem hd d hm
      have em := depL_mem hd e hm2
      show wpAny (model X.prog X.w) A (keyLt' oneType' p.1 q.1) (fun r s' => s' = _ ∧ r = D.ltb (pick X.K Hs ρ (d0 :: dr) p.1) (pick X.K Hs ρ (d0 :: dr) q.1)) (fun _ _ => False) _
      rw [keyLt'_oneType, pick_eq o hm r1 r2, pick_eq o hm2 r3 r4]
      refine one_lt I' le r2 r4 r1 r3 (by omega) (by omega) (by omega) (o.cmp d hm e hm2) (fun _ l z => ?_) ⟨rfl, rfl⟩
      subst z
      have := same _ hm
      cases d0 with
      | tup l => exact hnt l rfl
      | int _ => exact absurd (show ("tuple" : String) = "int" from this) (by decide)
      | str _ => exact absurd (show ("tuple" : String) = "str" from this) (by decide)
      | lst _ => exact absurd (show ("tuple" : String) = "list" from this) (by decide)
      | _ => cases o0
  cases d0 with
  | tup l0 =>
    have tup_all : ∀ d ∈ D.tup l0 :: dr, ∃ a l, d = .tup (a :: l) := fun d hm => by
      have h1 := same d hm
      have h3 := List.all_eq_true.mp hn d hm
      cases d with
      | tup l =>
        cases l with
        | nil => cases h3
        | cons a l => exact ⟨a, l, rfl⟩
      | int _ => exact absurd (show ("int" : String) = "tuple" from h1) (by decide)
      | str _ => exact absurd (show ("str" : String) = "tuple" from h1) (by decide)
      | lst _ => exact absurd (show ("list" : String) = "tuple" from h1) (by decide)
      | _ => exact absurd (o.ord _ hm) (by simp [D.ord])
    obtain ⟨a0, l1, e0⟩ := tup_all _ m0
    cases e0
    obtain ⟨fs, k1, k2, k3⟩ := tups_of I' le r rv tup_all
    have sameF : ∀ {a : D} {l : List D}, D.tup (a :: l) ∈ D.tup (a0 :: l1) :: dr → a.ord = true ∧ tyNm a = tyNm a0 := fun {a l} hm => by
      have c : D.cmp (.tup (a :: l)) (.tup (a0 :: l1)) = true := o.cmp _ hm _ m0
      have oa : D.ord (.tup (a :: l)) = true := o.ord _ hm
      have c : (D.eqv a a0 = true ∨ D.cmp a a0 = true) ∧ D.cmpL l l1 = true := by simpa [D.cmp, D.cmpL] using c
      have oa : a.ord = true ∧ D.ordL l = true := by simpa [D.ord, D.ordL] using oa
      have ob : a0.ord = true ∧ D.ordL l1 = true := by simpa [D.ord, D.ordL] using o0
      exact ⟨oa.1, tyNm_same oa.1 ob.1 c.1⟩
    refine ⟨tuples' (Value.type (tyNm a0) != Value.type "tuple"), fun Q E q => PySem.W.kat_kind (T := .type (tyNm a0)) k1 (by omega) (fun f hf => ?_) (by simp) q, fun p q hp hq => ?_⟩
    · obtain ⟨a, x, l, hm, r1, r2⟩ := k3 f hf
      obtain ⟨g1, g2⟩ := sameF hm
      rw [← g2]
      exact looks_ty I' le g1 r2 r1
    · obtain ⟨d, x, hm, hx, r1, r2⟩ := at_of_mem r rv hp
      obtain ⟨e, y, hm2, hy, r3, r4⟩ := at_of_mem r rv hq
      have dm := depL_mem hd d hm
      have em := depL_mem hd e hm2
      show wpAny (model X.prog X.w) A (keyLt' _ p.1 q.1) (fun r s' => s' = _ ∧ r = D.ltb (pick X.K Hs ρ (D.tup (a0 :: l1) :: dr) p.1) (pick X.K Hs ρ (D.tup (a0 :: l1) :: dr) q.1)) (fun _ _ => False) _
      rw [pick_eq o hm r1 r2, pick_eq o hm2 r3 r4]
      obtain ⟨a, l, rfl⟩ := tup_all d hm
      obtain ⟨b, m, rfl⟩ := tup_all e hm2
      have hcmp := o.cmp _ hm _ hm2
      generalize hp1 : p.1 = v1 at r1 ⊢
      generalize hq1 : q.1 = v2 at r3 ⊢
      cases r2 with
      | tup h1 i1 =>
        cases r4 with
        | tup h2' i2 =>
          cases r1
          cases r3
          obtain ⟨_, its, w1, o1, g1, g2, n1, g3⟩ := I'.hok _ _ (le.tup h1)
          obtain ⟨_, its2, w2, o2, g4, g5, n2, g6⟩ := I'.hok _ _ (le.tup h2')
          simp only [D.dep] at dm em
          refine PySem.W.kat_lt g1 g3 g4 g6 (kat_ok I' le (a :: l) (b :: m) _ _ its its2 0 i1 i2 w1 w2 (by omega) (by omega) (by omega) (by simpa [D.cmp] using hcmp) ?_ (fun z c hc q hq => ?_) ⟨rfl, rfl⟩)
          · rw [List.size_toArray, List.size_toArray, ← w1.length, ← w2.length, ← i1.length, ← i2.length]
          · have : c = a := by simpa using hc.symm
            subst this
            subst hq
            have := (sameF hm).2
            rw [← this] at z
            exact absurd (show (Value.type "tuple" != Value.type "tuple" && (0 : Nat) == 0) = true from z) (by decide)
  | int _ => exact plain fun l z => by cases z
  | str _ => exact plain fun l z => by cases z
  | lst _ => exact plain fun l z => by cases z
  | _ => cases o0
/-- the sorted values, as data -/
theorem sorted_back {ds : List D} {xs : List V} {vs out : List Value} (r : RepL X.K Hs ρ ds xs) (rv : Vals xs vs) (o : OrdAll ds) (hp : out.Perm vs) (hs : SrtO.Srtd (fun v u => D.ltb (pick X.K Hs ρ ds v) (pick X.K Hs ρ ds u)) out) :
    ∃ ys, Vals ys out ∧ RepL X.K Hs ρ (isort ds) ys := by
  have e : out.map (pick X.K Hs ρ ds) = isort ds := by
    refine isort_uniq o ?_ (List.pairwise_map.mpr hs)
    have h1 := hp.map (pick X.K Hs ρ ds)
    have h2 : vs.map (pick X.K Hs ρ ds) = ds := by
      refine List.ext_getElem? fun i => ?_
      rw [List.getElem?_map]
      cases q : vs[i]? with
      | none =>
        have : ds.length ≤ i := by rw [r.length, rv.length]; exact List.getElem?_eq_none_iff.mp q
        rw [List.getElem?_eq_none this]
        rfl
      | some v =>
        have hil : i < xs.length := by rw [rv.length]; exact (List.getElem?_eq_some_iff.mp q).1
        obtain ⟨u, hu, ru⟩ := rv.get (List.getElem?_eq_getElem hil)
        rw [q] at hu; cases hu
        obtain ⟨d, hd, rd⟩ := r.get' (List.getElem?_eq_getElem hil)
        rw [hd]
        exact congrArg some (pick_eq o (List.mem_of_getElem? hd) ru rd)
    rw [h2] at h1
    exact h1
  rw [← e]
  have mem : ∀ v ∈ out, v ∈ vs := fun v hv => hp.mem_iff.mp hv
  clear e hp hs
  induction out with
  | nil => exact ⟨[], .nil, .nil⟩
  | cons v out ih =>
    obtain ⟨ys, h1, h2⟩ := ih fun u hu => mem u (List.mem_cons_of_mem _ hu)
    obtain ⟨d, x, hm, hx, r1, r2⟩ := at_of_mem r rv (mem v List.mem_cons_self)
    refine ⟨x :: ys, .cons r1 h1, ?_⟩
    rw [List.map_cons, pick_eq o hm r1 r2]
    exact .cons r2 h2
theorem pick_swo {K : PySem.W.Frag} {ds : List D} (o : OrdAll ds) : SrtO.Swo fun v u => D.ltb (pick K Hs ρ ds v) (pick K Hs ρ ds u) := by
  by_cases hne : ds = []
  · subst hne
    have : ∀ v : Value, pick K Hs ρ [] v = .non := fun v => by
      unfold pick
      rw [dif_neg]
      · rfl
      · rintro ⟨d, h, _⟩
        cases h
    refine ⟨fun x y h => ?_, fun x y z h1 h2 => ?_⟩
    · rw [this, this] at h; cases h
    · rw [this, this]; rfl
  · have m : ∀ v, pick K Hs ρ ds v ∈ ds := pick_mem hne
    exact ⟨fun x y h => ltb_asym _ _ (o.ord _ (m x)) (o.ord _ (m y)) h, fun x y z h1 h2 => ltb_ntr _ _ _ (o.ord _ (m x)) (o.ord _ (m y)) (o.ord _ (m z)) (o.cmp _ (m y) _ (m x)) (o.cmp _ (m z) _ (m y)) (o.cmp _ (m z) _ (m x)) h1 h2⟩
theorem sortD_some {l : List D} {d : D} (h : sortD l = some d) : d = .lst (isort l) ∧ OrdAll l ∧ D.depL l ≤ 60 ∧ l.all neT = true := by
  unfold sortD at h
  obtain ⟨hc, rfl⟩ := cons_ite h
  rw [Bool.and_eq_true, Bool.and_eq_true, Bool.and_eq_true, decide_eq_true_eq] at hc
  exact ⟨rfl, OrdAll.of hc.1.1.1 hc.1.1.2, hc.1.2, hc.2⟩
end
/-- the items of a tuple, collected -/
theorem collect_tup {prog : Program} {w : World} {A : Around} {E : Value → Shared → Prop} {s : Shared} {l : Addr} {vs : List Value} {Q : List Value → Shared → Prop} (hl : s.heap.IsTuple l vs.toArray)
    (h : Q vs { s with heap := (s.heap.push (seqObj "list" #[] 0)).update s.heap.objs.size (Obj.mapSeq (· ++ vs.toArray)) }) (hsz : vs.length ≤ sizeLine) :
    wpAny (model prog w) A (collect (.ref l)) Q E s := by
  obtain ⟨o, ho, hc, n, hd⟩ := id hl
  unfold collect
  refine wpAny_bind (wpAny_runValue (codeAny_builtin entry_proto_collect' ?_))
  show wpAny _ _ (do again (.builtin "list.__iadd__" ⟨[← newList [], .ref l], []⟩)) _ _ s
  refine wpAny_bind (wpAny_newList (wpAny_pure ⟨Code.quiet_builtin _ (by decide +kernel), codeAny_builtin entry_list_iadd' ?_⟩))
  show wpAny _ _ (Builtin.List.listExtendWith (.ref s.heap.objs.size) (.ref l) (.ref s.heap.objs.size)) _ _ { s with heap := s.heap.push (seqObj "list" #[] 0) }
  unfold Builtin.List.listExtendWith
  have ho' : (s.heap.push (seqObj "list" #[] 0)).get? l = some o := Heap.get?_push_of_some _ ho
  refine wpAny_bind (wpAny_typeOf (T := "tuple") ⟨o, ho', hc⟩ ?_)
  have ht : (Value.type "tuple" == Value.type "tuple") = true := by rfl
  rw [if_pos (by rw [ht]; simp)]
  refine wpAny_bind (listItems_at ho' hd ?_)
  refine wpAny_bind (listItems_at (xs := #[]) (n := 0) (Heap.get?_push_size _ rfl) rfl ?_)
  rw [if_neg (by simp)]
  refine wpAny_bind (listUpdate_at (xs := #[]) (n := 0) (Heap.get?_push_size _ rfl) rfl ?_ (Nat.zero_le _) (by show (#[] ++ vs.toArray).size ≤ sizeLine + 1; simp only [Array.size_append, List.size_toArray, List.length_nil]; omega))
  refine wpAny_pure ?_
  show wpAny (model prog w) A (do
      let o ← load s.heap.objs.size
      match o.data with
      | .seq xs _ => pure xs.toList
      | _ => unsupported "internal:collect") Q E { s with heap := (s.heap.push (seqObj "list" #[] 0)).update s.heap.objs.size (Obj.mapSeq (· ++ vs.toArray)) }
  refine wpAny_bind (wpAny_load (get?_update_seq (Heap.get?_push_size _ rfl) _) ?_)
  show wpAny _ _ (pure ((#[] : Array Value) ++ vs.toArray).toList) Q E _
  rw [show ((#[] : Array Value) ++ vs.toArray).toList = vs by simp]
  exact wpAny_pure h
theorem sorted_ordT {prog : Program} {w : World} {A : Around} {E : Value → Shared → Prop} {s : Shared} {l : Addr} {vs : List Value} {ltv : Value → Value → Bool} {Q : Value → Shared → Prop} (O : SrtO.Swo ltv) (hl : s.heap.IsTuple l vs.toArray) (hz : vs.length ≤ sizeLine)
    (hS : 2 ≤ vs.length → ∀ (h₁ : Heap) (a : Addr), h₁.get? a = some (seqObj "list" vs.toArray 0) → (∀ b o, s.heap.get? b = some o → b ≠ a ∧ h₁.get? b = some o) → SrtO.SortableO prog w A.in1.in1 { s with heap := h₁ } a vs ltv)
    (h : ∀ out : List Value, SrtO.Srtd ltv out → SrtO.Stb ltv out vs → Q (.ref (s.heap.objs.size + 1)) { s with heap := sortedAll s.heap vs out.toArray }) :
    wpAny (model prog w) A (call (.builtin "sorted") [.ref l]) Q E s := by
  refine Calls.call_function_entry kind_sorted plain_sorted entry_sorted (args_sorted1 _) ?_
  unfold Builtin.«sorted»
  refine wpAny_bind (m := checkCount "sorted" 1 1 _) (wpAny_pure ?_)
  refine wpAny_bind (collect_tup hl ?_ hz)
  refine wpAny_bind (wpAny_newList ?_ hz)
  have hsz : ((s.heap.push (seqObj "list" #[] 0)).update s.heap.objs.size (Obj.mapSeq (· ++ vs.toArray))).objs.size = s.heap.objs.size + 1 := by
    rw [Heap.size_update, size_push']
  have hoL : (((s.heap.push (seqObj "list" #[] 0)).update s.heap.objs.size (Obj.mapSeq (· ++ vs.toArray))).push (seqObj "list" vs.toArray 0)).get? (s.heap.objs.size + 1) = some (seqObj "list" vs.toArray 0) := by
    rw [← hsz]; exact Heap.get?_push_size _ rfl
  have keep : ∀ b o, s.heap.get? b = some o → b ≠ s.heap.objs.size + 1 ∧ (((s.heap.push (seqObj "list" #[] 0)).update s.heap.objs.size (Obj.mapSeq (· ++ vs.toArray))).push (seqObj "list" vs.toArray 0)).get? b = some o := fun b o q => by
    have hlt : b < s.heap.objs.size := Heap.lt_size q
    refine ⟨Nat.ne_of_lt (Nat.lt_succ_of_lt hlt), Heap.get?_push_of_some _ ?_⟩
    rw [Heap.get?_update_ne _ _ _ _ (Nat.ne_of_lt hlt)]
    exact Heap.get?_push_of_some _ q
  show wpAny _ _ _ _ _ { s with heap := ((s.heap.push (seqObj "list" #[] 0)).update s.heap.objs.size (Obj.mapSeq (· ++ vs.toArray))).push (seqObj "list" vs.toArray 0) }
  rw [hsz]
  refine wpAny_bind (wpAny_holding (wpAny_call_entry slot_list_sort ⟨_, hoL, rfl⟩ entry_list_sort (SrtO.list_sort_ord O hoL hz (fun h2 => hS h2 _ _ hoL keep) fun out hs hb => ⟨_, rfl, ?_⟩) (args_list_sort _)))
  exact wpAny_pure ⟨_, rfl, h out hs hb⟩
theorem bi_sorted_ok {X : Cx} (hu : X.A.units + 70 < cLine) : CallR X (.builtin "sorted") (rBiN X.K .sorted) := by
  rintro pins s σ H vs us Q I rv ⟨Hs, ρ, B, ds, d, le, bx, r, e, h⟩
  have e : bi_sorted ds = some d := e
  unfold bi_sorted at e
  split at e
  · obtain ⟨x, rfl, rx⟩ := one_of r
    rename_i l _
    obtain ⟨a, xs, rfl, ha, rr⟩ := rx.lst le
    obtain ⟨rfl, o, hd, hn⟩ := sortD_some e
    obtain ⟨its, rvv, hl, hz⟩ := I.list (SqL.of ha)
    rw [Vals.ref1 rv]
    refine SrtO.sorted_ord (pick_swo (K := X.K) (Hs := Hs) (ρ := ρ) o) hl.isList (by rw [← rvv.length]; exact hz) (fun h2 h₁ a' _ kk => sortable_ok I le rr rvv o hd hn h2 (by rw [in1_units, in1_units]; omega) kk) fun out h1 h2 => ?_
    obtain ⟨ys, w1, w2⟩ := sorted_back rr rvv o h2.perm h1
    obtain ⟨ep, he'⟩ := PyProof.Rows.sortedAll_at s.heap its out.toArray
    have hlen : ys.length ≤ sizeLine := by
      rw [← w2.length, (isort_perm l).length_eq, rr.length]
      exact hz
    exact ⟨.ref _, upd H (s.heap.objs.size + 1) (.lst ys), I.laid (t' := s.toks) (fun _ _ => PyProof.Rows.sortedAll_old) (Nat.le_succ _) ⟨hlen, out, ep, w1, he'⟩, rfl, YldF.lst h le bx w2 _ (I.hok.fresh (Nat.le_succ _))⟩
  · obtain ⟨x, rfl, rx⟩ := one_of r
    rename_i l _
    obtain ⟨a, xs, rfl, ha, rr⟩ := rx.tup le
    obtain ⟨rfl, o, hd, hn⟩ := sortD_some e
    obtain ⟨its, rvv, hl, hz⟩ := I.tuple (SqT.of ha)
    rw [Vals.ref1 rv]
    refine sorted_ordT (pick_swo (K := X.K) (Hs := Hs) (ρ := ρ) o) (show s.heap.IsTuple a its.toArray from hl) (by rw [← rvv.length]; exact hz) (fun h2 h₁ a' _ kk => sortable_ok I le rr rvv o hd hn h2 (by rw [in1_units, in1_units]; omega) kk) fun out h1 h2 => ?_
    obtain ⟨ys, w1, w2⟩ := sorted_back rr rvv o h2.perm h1
    obtain ⟨ep, he'⟩ := PyProof.Rows.sortedAll_at s.heap its out.toArray
    have hlen : ys.length ≤ sizeLine := by
      rw [← w2.length, (isort_perm l).length_eq, rr.length]
      exact hz
    exact ⟨.ref _, upd H (s.heap.objs.size + 1) (.lst ys), I.laid (t' := s.toks) (fun _ _ => PyProof.Rows.sortedAll_old) (Nat.le_succ _) ⟨hlen, out, ep, w1, he'⟩, rfl, YldF.lst h le bx w2 _ (I.hok.fresh (Nat.le_succ _))⟩
  · cases e
end Pz
end
section
set_option Elab.async false
set_option linter.all false
set_option maxRecDepth 100000
namespace Pz
open PySem PySem.Spec PyProof.Rows L2

/-! ### a set of ints and texts -/
def ke (e : Int × Value) : Key := match e.2 with
  | .int k _ => .inl k
  | .str x _ => .inr x
  | _ => .inl 0
def OkE (w : World) (e : Int × Value) : Prop := keyIs (ke e) e.2 = true ∧ e.1 = keyH w (ke e)
/-- the set at a: S its members -/
def MSet (w : World) (h : Heap) (a : Addr) (S : Key → Prop) : Prop :=
  ∃ o es ep t, h.get? a = some o ∧ o.ExactSet ∧ o.data = .set es ep t ∧ (∀ e ∈ es.toList, OkE w e) ∧ (es.toList.map ke).Nodup ∧ (∀ k, S k ↔ k ∈ es.toList.map ke) ∧
    es.size < scanBound ∧ t.fits es.size = true ∧ Ris t.place.toList ∧ (w.params.followText "set-order" = true ∨ t.led = true)
def MSetN (w : World) (h : Heap) (a : Addr) (S : Key → Prop) (n : Nat) : Prop :=
  ∃ o es ep t, h.get? a = some o ∧ o.ExactSet ∧ o.data = .set es ep t ∧ (∀ e ∈ es.toList, OkE w e) ∧ (es.toList.map ke).Nodup ∧ (∀ k, S k ↔ k ∈ es.toList.map ke) ∧
    es.size < scanBound ∧ t.fits es.size = true ∧ Ris t.place.toList ∧ (w.params.followText "set-order" = true ∨ t.led = true) ∧ es.size ≤ n
theorem MSetN.m {w : World} {h : Heap} {a : Addr} {S : Key → Prop} {n : Nat} (x : MSetN w h a S n) : MSet w h a S := by
  obtain ⟨o, es, ep, t, h1, h2, h3, h4, h5, h6, h7, h8, h9, h10, _⟩ := x
  exact ⟨o, es, ep, t, h1, h2, h3, h4, h5, h6, h7, h8, h9, h10⟩
theorem MSetN.at_ {w : World} {h h' : Heap} {a : Addr} {S : Key → Prop} {n : Nat} (x : MSetN w h a S n) (k : ∀ o, h.get? a = some o → h'.get? a = some o) : MSetN w h' a S n := by
  obtain ⟨o, es, ep, t, h1, r⟩ := x
  exact ⟨o, es, ep, t, k o h1, r⟩
section
variable {P : Program} {w : World} {A : Around} {E : Value → Shared → Prop} {s : Shared} {a : Addr} {S : Key → Prop}
theorem ok_is {e : Int × Value} (g : OkE w e) (k : Key) : (mixKind P w).is k e.2 = true ↔ ke e = k := by
  constructor
  · intro h
    exact (mixKind P w).inj e.2 _ _ g.1 h
  · rintro rfl
    exact g.1
theorem ok_scan {v : Value} {k : Key} (h : keyIs k v = true) : v.scannable = true := by
  rcases keyIs_shape h with ⟨i, t, rfl, rfl⟩ | ⟨x, t, rfl, rfl⟩ <;> rfl
theorem ok_elems {l : List (Int × Value)} (g : ∀ e ∈ l, OkE w e) : ElemsOf (mixKind P w) l := fun e he => ⟨⟨ke e, (g e he).1, (g e he).2⟩, ok_scan (g e he).1⟩
theorem ke_of {v : Value} {k : Key} {i : Int} (h : keyIs k v = true) : ke (i, v) = k := by
  rcases keyIs_shape h with ⟨i, t, rfl, rfl⟩ | ⟨x, t, rfl, rfl⟩ <;> rfl
theorem mset_tail {g : Bool → Sem Unit} (hg : ∀ (b : Bool) (s₁ : Shared) (Q' : Unit → Shared → Prop), Q' () s₁ → wpAny (model P w) A (g b) Q' E s₁)
    {o : Obj} {es : Array (Int × Value)} {ep : Nat} {t : SetTable} (ho : s.heap.get? a = some o) (hex : o.ExactSet) (hd : o.data = .set es ep t)
    {es1 : Array (Int × Value)} {t2 : SetTable} {S' : Key → Prop} {n : Nat} (g1 : ∀ e ∈ es1.toList, OkE w e) (nd1 : (es1.toList.map ke).Nodup) (m1 : ∀ k, S' k ↔ k ∈ es1.toList.map ke)
    (hb1 : es1.size < scanBound) (hf2 : t2.fits es1.size = true) (hr : Ris t2.place.toList) (hl : w.params.followText "set-order" = true ∨ t2.led = true) (hn : es1.size ≤ n) {wasDummy : Bool} {R : Option Bool → Shared → Prop}
    (hR : ∀ h', Heap.SameBut a s.heap h' → MSetN w h' a S' n → R (some true) { s with heap := h' }) :
    wpAny (model P w) A (do
        storeSet a es1 t2
        if (!wasDummy && t2.tooFull) = true then do
            g (relayAll t2 es1 (SetTable.grown es1.size)).2.2
            storeSet a (relayAll t2 es1 (SetTable.grown es1.size)).1 (relayAll t2 es1 (SetTable.grown es1.size)).2.1
            pure (some true)
          else pure (some true)) R E s := by
  refine wpAny_bind (wpAny_storeSet_of ho hd ?_ (fits_of_scanBound hb1))
  have ho1 := store_at (es' := es1) (t' := t2) ho hd
  have sb1 := Heap.SameBut.update s.heap a (Obj.putSet es1 t2)
  split
  · have pm := relayAll_perm t2 es1 (SetTable.grown es1.size)
    have hf3 := relayAll_fits t2 es1 (SetTable.grown es1.size)
    have hr3 := relayAll_ris t2 es1 (SetTable.grown es1.size)
    have hl3 := relayAll_led t2 es1 (SetTable.grown es1.size)
    generalize relayAll t2 es1 (SetTable.grown es1.size) = Z at pm hf3 hr3 hl3 ⊢
    obtain ⟨es2, t3, gave⟩ := Z
    dsimp only at pm hf3 hr3 hl3 ⊢
    have hsz : es2.size = es1.size := by rw [← Array.length_toList, pm.length_eq, Array.length_toList]
    have hb2 : es2.size < scanBound := by rw [hsz]; exact hb1
    refine wpAny_bind (hg _ _ _ ?_)
    refine wpAny_bind (wpAny_storeSet_of ho1 rfl ?_ (fits_of_scanBound hb2))
    have ho2 := store_at (es' := es2) (t' := t3) ho1 rfl
    refine wpAny_pure (hR _ (sb1.trans (Heap.SameBut.update _ a _)) ?_)
    exact ⟨_, es2, _, t3, ho2, hex, rfl, fun e he => g1 e (pm.mem_iff.mp he), (pm.map ke).nodup_iff.mpr nd1, fun k => (m1 k).trans (pm.map ke).mem_iff.symm, hb2, hf3, hr3,
      hl.imp id fun z => by rw [hl3]; exact z, by rw [hsz]; exact hn⟩
  · exact wpAny_pure (hR _ sb1 ⟨_, es1, _, t2, ho1, hex, rfl, g1, nd1, m1, hb1, hf2, hr, hl, hn⟩)
theorem mset_add {k : Key} {v : Value} {n : Nat} {Q : Bool → Shared → Prop} (R : MSetN w s.heap a S n) (hk : keyIs k v = true) (room : n + 1 < scanBound)
    (hQ : ∀ b h', Heap.SameBut a s.heap h' → MSetN w h' a (fun j => S j ∨ j = k) (n + 1) → Q b { s with heap := h' }) :
    wpAny (model P w) A (setAddHashed a v ((mixKind P w).hash k)) Q E s := by
  obtain ⟨o, es, ep, t, ho, hex, hd, g, nd, hm, hb, hf, hr, hl, hn⟩ := R
  have hkey : (mixKind P w).is k v = true := hk
  have hsc : v.scannable = true := ok_scan hk
  have hel : ElemsOf (mixKind P w) es.toList := ok_elems g
  unfold setAddHashed setAddHashedIn
  refine wpAny_holding (wpAny_bind (wpAny_setState_of ho hd hf ?_))
  dsimp only
  rw [byScan_of hsc hb hel]
  simp only [↓reduceIte]
  unfold setAddByScan
  refine wpAny_bind ?_
  refine wpAny_bind (wpAny_rule ?_)
  refine wpAny_bind (wpAny_setScan_of hkey ho hd hf hel ?_)
  cases hfi : List.findIdx? (fun e => (mixKind P w).is k e.2) es.toList with
  | some j =>
    dsimp only
    obtain ⟨hj, pj, _⟩ := List.findIdx?_eq_some_iff_getElem.mp hfi
    have hSk : S k := (hm k).2 (List.mem_map.mpr ⟨es.toList[j], List.getElem_mem hj, (ok_is (P := P) (g _ (List.getElem_mem hj)) k).mp pj⟩)
    refine wpAny_pure (wpAny_pure ?_)
    exact hQ _ s.heap (Heap.SameBut.refl a s.heap) ⟨o, es, ep, t, ho, hex, hd, g, nd, fun i => by
      rw [← hm i]
      exact ⟨fun z => z.elim id (fun e => e ▸ hSk), .inl⟩, hb, hf, hr, hl, Nat.le_succ_of_le hn⟩
  | none =>
    dsimp only
    have hnk : k ∉ es.toList.map ke := fun z => by
      obtain ⟨e, he, q⟩ := List.mem_map.mp z
      have c := List.findIdx?_eq_none_iff.mp hfi e he
      rw [(ok_is (P := P) (g e he) k).mpr q] at c
      cases c
    have hgw : ∀ (b : Bool) {s₁ : Shared} {Q' : Unit → Shared → Prop}, Q' () s₁ → wpAny (model P w) A (match b with | true => rule "set.scan.the-table-gave-way" | false => pure ()) Q' E s₁ :=
      fun b s₁ Q' q => by cases b <;> first | exact wpAny_pure q | exact wpAny_rule q
    have pm := layNew_perm t es ((mixKind P w).hash k) v
    have hf1 := layNew_fits t es ((mixKind P w).hash k) v
    have hr1 := layNew_ris t es ((mixKind P w).hash k) v hr
    have hl1 := layNew_led t es ((mixKind P w).hash k) v
    generalize layNew t es ((mixKind P w).hash k) v = Z at pm hf1 hr1 hl1 ⊢
    obtain ⟨es1, t1, wasDummy, gave⟩ := Z
    dsimp only at pm hf1 hr1 hl1 ⊢
    rw [Array.toList_push] at pm
    have pc : es1.toList.Perm (((mixKind P w).hash k, v) :: es.toList) := pm.trans (List.perm_append_singleton _ _)
    have ek : ke ((mixKind P w).hash k, v) = k := ke_of hk
    have pk : (es1.toList.map ke).Perm (k :: es.toList.map ke) := by
      have := pc.map ke
      rw [List.map_cons, ek] at this
      exact this
    have g1 : ∀ e ∈ es1.toList, OkE w e := fun e he => by
      rcases List.mem_cons.mp (pc.mem_iff.mp he) with z | z
      · rw [z]
        refine ⟨?_, ?_⟩
        · rw [ek]; exact hk
        · rw [ek]; rfl
      · exact g e z
    have nd1 : (es1.toList.map ke).Nodup := pk.nodup_iff.mpr (List.nodup_cons.mpr ⟨hnk, nd⟩)
    have m1 : ∀ i, (S i ∨ i = k) ↔ i ∈ es1.toList.map ke := fun i => by
      rw [hm i, pk.mem_iff, List.mem_cons]
      exact Or.comm
    have hsz : es1.size = es.size + 1 := by rw [← Array.length_toList, pc.length_eq, List.length_cons, Array.length_toList]
    have hb1 : es1.size < scanBound := by rw [hsz]; omega
    have hled : w.params.followText "set-order" = true ∨ t1.led = true := hl.imp id fun z => by rw [hl1]; exact z
    have hn1 : es1.size ≤ n + 1 := by omega
    refine wpAny_bind (hgw _ ?_)
    split
    · refine wpAny_bind ?_
      rw [hashByValue_scannable 8 hsc]
      refine wpAny_pure ?_
      refine mset_tail (n := n + 1) ?_ ho hex hd g1 nd1 m1 hb1 ?_ ?_ ?_ hn1 ?_
      · intro b s₁ Q' q; cases b <;> first | exact wpAny_pure q | exact wpAny_rule q
      · first | (split <;> first | exact hf1 | exact SetTable.fits_plain_off hf1) | exact hf1
      · first | (split <;> exact hr1) | exact hr1
      · first | (split <;> exact hled) | exact hled
      · intro h' sb r; dsimp only; exact wpAny_pure (hQ _ h' sb r)
    · refine wpAny_bind (wpAny_pure ?_)
      simp only [↓reduceIte]
      refine mset_tail (n := n + 1) ?_ ho hex hd g1 nd1 m1 hb1 hf1 hr1 hled hn1 ?_
      · intro b s₁ Q' q; cases b <;> first | exact wpAny_pure q | exact wpAny_rule q
      · intro h' sb r; dsimp only; exact wpAny_pure (hQ _ h' sb r)
theorem mset_fresh {h : Heap} {a : Addr} (ho : h.get? a = some { cls := .type "set", dict := none, data := .set #[] 0 (.fresh 0 0 (!w.params.followText "set-order")) }) : MSetN w h a (fun _ => False) 0 :=
  ⟨_, #[], 0, _, ho, ⟨rfl, rfl, rfl⟩, rfl, (fun e he => by simp at he), (by simp), (fun k => by simp), (by decide), (by rfl), List.Pairwise.nil, (by
    show _ ∨ (!w.params.followText "set-order") = true
    cases w.params.followText "set-order"
    · exact .inr rfl
    · exact .inl rfl), Nat.le_refl _⟩
/-- set.update's loop -/
theorem mset_loop {I : Addr} {fp wr : List Addr} {G : Array GenState → Array GenState → Prop} {n : Nat} {Pv : Nat → Value → Prop} {St : Nat → Shared → Prop} {R : Result → Shared → Prop}
    (W : WalksS P w A.in1 I fp wr G n Pv St) (S0 : Addr) (hSf : S0 ∉ fp) (ks : List Key) (hn : n = ks.length) (hfew : ks.length + 1 < scanBound) (hval : ∀ i v, Pv i v → ∃ k, ks[i]? = some k ∧ keyIs k v = true)
    (h0 : Heap) (hS0 : h0.get? S0 = none) (hw0 : ∀ b ∈ wr, h0.get? b = none) :
    ∀ (k i : Nat) (s : Shared), n - i = k → i ≤ n → St i s → (∀ b o, h0.get? b = some o → s.heap.get? b = some o) → MSetN w s.heap S0 (fun k => k ∈ ks.take i) i →
      (∀ s', Moved (S0 :: wr) G s s' → MSetN w s'.heap S0 (fun k => k ∈ ks) n → (∀ b o, h0.get? b = some o → s'.heap.get? b = some o) → R (.ok (.ret .none)) s') →
      codeAny (model P w) A (.builtin "set.update.loop" ⟨[.ref S0, .ref I], []⟩) R s := by
  have hSw : S0 ∉ wr := fun h => hSf (W.sub _ h)
  have hsub : ∀ b ∈ wr, b ∈ S0 :: wr := fun b hb => List.mem_cons_of_mem _ hb
  have keepM : ∀ {s s' : Shared}, Moved wr G s s' → (∀ b o, h0.get? b = some o → s.heap.get? b = some o) → ∀ b o, h0.get? b = some o → s'.heap.get? b = some o := fun hm hkp b o e =>
    hm.heap b o (fun hb => by rw [hw0 b hb] at e; cases e) (hkp b o e)
  intro k
  induction k with
  | zero =>
    intro i s hk' hi hst hkp hS hR
    have hin : i = n := by omega
    subst hin
    refine codeAny_builtin F.entry_set_update_loop ?_
    rw [Around.under_plainId F.plain_set_update_loop _]
    show wpAny _ A.in1 (pyNext (.ref I) >>= _) _ _ s
    refine wpAny_bind (W.done s _ _ hst fun s' hm => ?_)
    show wpAny _ A.in1 (ret Value.none) _ _ s'
    have hkp' := keepM hm hkp
    rw [hn, List.take_length] at hS
    rw [hn] at hR
    exact wpAny_pure (hR s' (hm.mono hsub) (hS.at_ fun o e => hm.heap S0 o hSw e) hkp')
  | succ k ih =>
    intro i s hk' hi hst hkp hS hR
    have hlt : i < n := by omega
    refine codeAny_builtin F.entry_set_update_loop ?_
    rw [Around.under_plainId F.plain_set_update_loop _]
    show wpAny _ A.in1 (pyNext (.ref I) >>= _) _ _ s
    refine wpAny_bind (W.item i s _ _ hlt hst fun v s' hP hst' hm => ?_)
    obtain ⟨key, hp, hkv⟩ := hval i v hP
    have hkp' := keepM hm hkp
    have hS' := hS.at_ (h' := s'.heap) fun o e => hm.heap S0 o hSw e
    show wpAny _ A.in1 (holding [v] (setAdd S0 v) >>= _) _ _ s'
    refine wpAny_bind (wpAny_holding ?_)
    unfold setAdd
    refine wpAny_holding ?_
    refine wpAny_bind ((mixKind P w).pyHash (k := key) hkv ?_)
    refine mset_add (s := { s' with toks := s'.toks + 1 }) hS' hkv (by omega) fun b h' hsb hS2 => ?_
    have hkp2 : ∀ b o, h0.get? b = some o → h'.get? b = some o := fun b o e => (hsb.2 b (fun z => by rw [z, hS0] at e; cases e)).trans (hkp' b o e)
    have hS3 : MSetN w h' S0 (fun k => k ∈ ks.take (i + 1)) (i + 1) := by
      obtain ⟨o, es, ep, t, h1, h2, h3, h4, h5, h6, r⟩ := hS2
      refine ⟨o, es, ep, t, h1, h2, h3, h4, h5, fun j => ?_, r⟩
      have q : (j ∈ ks.take (i + 1)) ↔ (j ∈ ks.take i ∨ j = key) := by
        rw [List.take_add_one, hp]
        simp
      exact q.trans (h6 j)
    refine wpAny_pure ⟨plainId_quiet F.plain_set_update_loop _, ih (i + 1) _ (by omega) hlt (W.frame _ s' _ _ hst' (Nat.le_succ _) fun b hb o e => ?_) hkp2 hS3 fun s'' hm'' hS'' hkp'' => ?_⟩
    · rw [hsb.2 b (fun h : b = S0 => hSf (by rw [← h]; exact hb))]; exact e
    · refine hR s'' (Moved.trans W.gtrans ((hm.mono hsub).then_heap (Nat.le_succ _) fun b o hb e => ?_) hm'') hS'' hkp''
      rw [hsb.2 b (fun h : b = S0 => hb (by rw [h]; exact List.mem_cons_self))]; exact e
set_option maxHeartbeats 3200000 in
/-- set(xs) -/
theorem call_mset {l : Addr} {items : Array Value} (ks : List Key) {Q : Value → Shared → Prop} (hh : A.handled = none) (hl : s.heap.IsList l items) (hit : ∀ (i : Nat) (v : Value), items[i]? = some v → ∃ k, ks[i]? = some k ∧ keyIs k v = true) (hisz : items.size = ks.length) (hfew : ks.length + 1 < scanBound)
    (h : ∀ (h' : Heap) (tk : Nat), MSetN w h' s.heap.objs.size (fun k => k ∈ ks) ks.length → (∀ b o, s.heap.get? b = some o → h'.get? b = some o) → Q (.ref s.heap.objs.size) { s with heap := h', toks := tk }) :
    wpAny (model P w) A (call (.type "set") [.ref l]) Q E s := by
  obtain ⟨c, tl, hmro⟩ := F.called_set.mro
  have hmade := F.called_set.made
  have hsub := F.called_set.sub
  refine wpAny_call (codeAny_of_tree ?_)
  show wpAny _ _ (callAny (.type "set") _) _ _ _
  refine wpAny_pure ⟨Code.quiet_builtin _ (by decide +kernel), codeAny_builtin F.entry_type_call ?_⟩
  rw [Around.under_plain (weight_type_call_type "set" [.ref l] []) rfl]
  have h1 := F.called_set.notType
  have h2 := F.called_set.canCreate
  have hct := F.typeCall_set_1 (.ref l)
  repeat (any_goals (first | assumption | wp_step))

  refine codeAny_mono (code_set_led1 (.ref l) (E := E) (Q₁ := fun obj s₁ => obj = .ref s.heap.objs.size ∧ s₁ = { s with heap := s.heap.push { cls := .type "set", dict := none, data := .set #[] 0 (.fresh 0 0 (!w.params.followText "set-order")) } }) ⟨rfl, rfl⟩) fun r s₁ hr => ?_
  cases r with
  | error e => exact hr
  | ok fl =>
    cases fl with
    | ret obj =>
      obtain ⟨rfl, rfl⟩ := hr
      have hS : (s.heap.push { cls := .type "set", dict := none, data := .set #[] 0 (.fresh 0 0 (!w.params.followText "set-order")) }).get? s.heap.objs.size = some { cls := .type "set", dict := none, data := .set #[] 0 (.fresh 0 0 (!w.params.followText "set-order")) } := Heap.get?_push_size _ rfl
      have hT : Shared.TypeIs { s with heap := s.heap.push { cls := .type "set", dict := none, data := .set #[] 0 (.fresh 0 0 (!w.params.followText "set-order")) } } (.ref s.heap.objs.size) "set" := ⟨_, hS, rfl⟩
      have hli := F.called_set.init.lookup
      have hbi := F.called_set.init.bind (.ref s.heap.objs.size)
      repeat (any_goals (first | assumption | wp_step))

      refine codeAny_mono (codeAny_call_builtin (R := wants (fun r s₂ => r = .none ∧ ∃ h' tk, s₂ = { s with heap := h', toks := tk } ∧ MSetN w h' s.heap.objs.size (fun k => k ∈ ks) ks.length ∧
          (∀ b o, s.heap.get? b = some o → h'.get? b = some o)) E) F.called_set.init.plain F.entry_set_init (check_set_init_1 hT ?_)) fun r₂ s₂ hr₂ => ?_
      · obtain ⟨ol, hol, hcl, nl, hdl⟩ := hl
        obtain ⟨ocls, odict, odata, oslots⟩ := ol
        simp only at hcl hdl
        subst hcl; subst hdl
        have hol' : (s.heap.push { cls := .type "set", dict := none, data := .set #[] 0 (.fresh 0 0 (!w.params.followText "set-order")) }).get? l = some { cls := .type "list", dict := odict, data := .seq items nl, slots := oslots } := Heap.get?_push_of_some _ hol
        have hsls := F.sub_list_set
        have hslf := F.sub_list_frozenset
        have hne : (Value.type "list" == Value.type "dict") = false := by decide
        have hl1 : (s.heap.push { cls := .type "set", dict := none, data := .set #[] 0 (.fresh 0 0 (!w.params.followText "set-order")) }).IsList l items := ⟨_, hol', rfl, nl, rfl⟩
        unfold Builtin.«set.__init__» noKeywords Builtin.Frozenset.updateFrom
        generalize hPI : pyIter = PI
        wp_walk
        subst hPI

        refine wpAny_pyIter_list hl1 ?_
        refine wpAny_bind (wpAny_runValue ?_)
        have hlS : l < s.heap.objs.size := Heap.lt_size hol
        have hh3 : A.in1.in1.in1.handled = none := by simp [hh]
        have hneI : l ≠ (s.heap.push { cls := .type "set", dict := none, data := .set #[] 0 (.fresh 0 0 (!w.params.followText "set-order")) }).objs.size := by
          rw [Heap.size_push]; exact Nat.ne_of_lt (Nat.lt_succ_of_lt hlS)
        have hSf : s.heap.objs.size ∉ [(s.heap.push { cls := .type "set", dict := none, data := .set #[] 0 (.fresh 0 0 (!w.params.followText "set-order")) }).objs.size, l] := by
          rw [Heap.size_push]; simp only [List.mem_cons, List.mem_singleton, List.not_mem_nil, or_false, not_or]
          exact ⟨Nat.ne_of_lt (Nat.lt_succ_self _), Nat.ne_of_gt hlS⟩
        have none_of : ∀ b, s.heap.objs.size ≤ b → s.heap.get? b = none := fun b hb => by
          cases q : s.heap.get? b with
          | none => rfl
          | some o => exact absurd (Nat.lt_of_lt_of_le (Heap.lt_size q) hb) (Nat.lt_irrefl _)
        refine mset_loop ((Walks.list hh3 _ l hneI items).toS) s.heap.objs.size
          hSf ks hisz hfew hit s.heap (none_of _ (Nat.le_refl _)) (fun b hb => none_of b (by
            rw [List.mem_singleton.mp hb, Heap.size_push]
            exact Nat.le_succ _)) (items.size - 0) 0 _ (by omega) (Nat.zero_le _)
          ⟨⟨_, Heap.get?_push_size _ rfl, rfl, rfl⟩, (hl1.push _)⟩ (fun b o e => Heap.get?_push_of_some _ (Heap.get?_push_of_some _ e)) ?hS0 ?hR
        case hS0 =>
          have hget : ((s.heap.push { cls := .type "set", dict := none, data := .set #[] 0 (.fresh 0 0 (!w.params.followText "set-order")) }).push { cls := .type "list_iterator", data := .fields #[.ref l, .int 0 0] }).get? s.heap.objs.size
              = some { cls := .type "set", dict := none, data := .set #[] 0 (.fresh 0 0 (!w.params.followText "set-order")) } := Heap.get?_push_of_some _ hS
          have hf := mset_fresh (w := w) hget
          obtain ⟨o, es, ep, t, q1, q2, q3, q4, q5, q6, r⟩ := hf
          exact ⟨o, es, ep, t, q1, q2, q3, q4, q5, fun k => by rw [← q6 k]; simp, r⟩
        case hR =>
          intro s' hm hS' hkp
          obtain ⟨h', g2, d', tk', os'⟩ := s'
          have eg : g2 = s.gens := hm.gens
          have ed : d' = s.drawn := hm.drawn
          have eo : os' = s.os := hm.os
          subst eg; subst ed; subst eo
          show wpAny _ _ _ _ _ _
          refine wpAny_pure ?_
          show wpAny _ _ (ret Value.none) _ _ _
          rw [hisz] at hS'
          exact wpAny_pure ⟨rfl, h', tk', rfl, hS', hkp⟩

      · cases r₂ with
        | error e => exact hr₂
        | ok fl₂ =>
          cases fl₂ with
          | ret r =>
            obtain ⟨rfl, h', tk, rfl, hS', hk'⟩ := hr₂
            repeat (any_goals (first | assumption | wp_step))
            exact h _ _ hS' hk'
          | _ => exact hr₂.elim
    | _ => exact hr.elim
end
end Pz
end
section
set_option Elab.async false
set_option linter.all false
set_option maxRecDepth 100000
namespace Pz
open PySem PySem.Spec PyProof.Rows L2

/-! ### sorted(set(xs)) -/
theorem dedup_mem : ∀ {l : List D}, (∀ a ∈ l, a.ord = true) → ∀ x, x ∈ dedup l ↔ x ∈ l
  | [], _, x => by simp [dedup]
  | a :: l, h, x => by
    have ih := dedup_mem (l := l) (fun b hb => h b (List.mem_cons_of_mem _ hb))
    unfold dedup
    split
    · rename_i hc
      obtain ⟨y, hy, e⟩ := List.any_eq_true.mp hc
      have hy' := (ih y).mp hy
      have := (eqv_ord (h y (List.mem_cons_of_mem _ hy')) (h a List.mem_cons_self)).mp e
      subst this
      rw [ih x]
      exact ⟨fun z => List.mem_cons_of_mem _ z, fun z => (List.mem_cons.mp z).elim (fun e => by rw [e]; exact hy') id⟩
    · rw [List.mem_cons, List.mem_cons, ih x]
theorem dedup_nodup : ∀ {l : List D}, (∀ a ∈ l, a.ord = true) → (dedup l).Nodup
  | [], _ => List.nodup_nil
  | a :: l, h => by
    have h' : ∀ b ∈ l, b.ord = true := fun b hb => h b (List.mem_cons_of_mem _ hb)
    unfold dedup
    split
    · exact dedup_nodup h'
    · rename_i hc
      refine List.nodup_cons.mpr ⟨fun z => hc ?_, dedup_nodup h'⟩
      exact List.any_eq_true.mpr ⟨a, z, (eqv_ord (h a List.mem_cons_self) (h a List.mem_cons_self)).mpr rfl⟩
theorem key1_ord {a : D} (h : D.key1 a = true) : a.ord = true := by cases a <;> first | rfl | cases h
def keyD : Key → D
  | .inl i => .int i
  | .inr x => .str x.cps.toList
theorem repKs_mem : ∀ {l : List D} {ks : List Key}, RepKs l ks → l = ks.map keyD ∧ ∀ k ∈ ks, KeyR (keyD k) k
  | _, _, .nil => ⟨rfl, fun _ h => by cases h⟩
  | _, _, .int r => by
    obtain ⟨h1, h2⟩ := repKs_mem r
    refine ⟨by rw [List.map_cons, ← h1]; rfl, fun k hk => ?_⟩
    rcases List.mem_cons.mp hk with rfl | hk
    · exact .int _
    · exact h2 k hk
  | _, _, .str hx r => by
    obtain ⟨h1, h2⟩ := repKs_mem r
    refine ⟨by rw [List.map_cons, ← h1]; rfl, fun k hk => ?_⟩
    rcases List.mem_cons.mp hk with rfl | hk
    · exact .str hx
    · exact h2 k hk
section
variable {X : Cx} {Φ : Fn} {W : WX} {a : Expr} {ia : E} {p q pos pos2 : Pos}
abbrev mext (w : World) (q : Addr) (ks : List Key) : HO := .ext fun h => MSet w h q (fun k => k ∈ ks)
def rMkSet (K : PySem.W.Frag) (w : World) : List V → Hp → VK → Prop := fun vs H Q => ∃ Hs ρ l x ks, vs = [x] ∧ Le Hs H ∧ RP K Hs ρ H (.lst l) x ∧ l.length < 4000 ∧ RepKs l ks ∧ ∀ q, H q = none → Q (.ref q) (upd H q (mext w q ks))
theorem set_ok_ (hc : X.calm = true) : CallR X (.type "set") (rMkSet X.K X.w) := by
  rintro pins s σ H vs us Q I rv ⟨Hs, ρ, l, x, ks, rfl, le, rx, hl, hk, h⟩
  obtain ⟨a, xs, rfl, ha, rr⟩ := rx.lst le
  obtain ⟨its, rvv, pl, hz⟩ := I.list (SqL.of ha)
  rw [Vals.ref1 rv]
  have hlen : its.length = ks.length := by
    rw [← rvv.length, ← rr.length, (repKs_mem hk).1, List.length_map]
  refine call_mset (w := X.w) ks (I.ok.hd hc) pl.isList (fun i v hv => ?_) (by rw [List.size_toArray]; exact hlen) ?_ fun h' tk hS hkp => ?_
  · have hv : its[i]? = some v := by simpa using hv
    have hil : i < xs.length := by rw [rvv.length]; exact (List.getElem?_eq_some_iff.mp hv).1
    obtain ⟨u, hu, ru⟩ := rvv.get (List.getElem?_eq_getElem hil)
    rw [hv] at hu; cases hu
    obtain ⟨d, hd, rd⟩ := rr.get' (List.getElem?_eq_getElem hil)
    obtain ⟨e1, e2⟩ := repKs_mem hk
    rw [e1, List.getElem?_map] at hd
    obtain ⟨k, hkk, rfl⟩ := Option.map_eq_some_iff.mp hd
    refine ⟨k, hkk, ?_⟩
    have : xs[i] = kV k := by
      have hkr := e2 k (List.mem_of_getElem? hkk)
      generalize xs[i] = z at rd
      cases k with
      | inl j => cases rd; rfl
      | inr z =>
        cases rd
        rfl
    rw [this] at ru
    exact kV_is (P := X.prog) (w := X.w) ru
  · have := (repKs_mem hk).1
    have : l.length = ks.length := by rw [this, List.length_map]
    show ks.length + 1 < 4096
    omega
  · have m := hS.m
    have I2 := I.laid (a := s.heap.objs.size) (o := mext X.w s.heap.objs.size ks) (t' := tk) hkp (Nat.le_refl _) ⟨m, (by obtain ⟨o, _, _, _, ho, _⟩ := m; exact ⟨o, ho⟩), fun h1 h2 m1 k => (by
      obtain ⟨o, es, ep, t, ho, r⟩ := m1
      exact ⟨o, es, ep, t, k o ho, r⟩)⟩
    exact ⟨.ref _, _, I2, rfl, h _ (I.hok.fresh (Nat.le_refl _))⟩
def rSrtSet (K : PySem.W.Frag) (w : World) : List V → Hp → VK → Prop := fun vs H Q => ∃ Hs ρ q l ks, vs = [.ref q] ∧ Le Hs H ∧ H q = some (mext w q ks) ∧ RepKs l ks ∧ OrdAll (dedup l) ∧ (∀ a ∈ l, D.key1 a = true) ∧ ∀ p ys, H p = none → RepL K Hs ρ (isort (dedup l)) ys → Q (.ref p) (upd H p (.lst ys))
theorem sset_ok (hc : X.calm = true) (hu : X.A.units + 70 < cLine) : CallR X (.builtin "sorted") (rSrtSet X.K X.w) := by
  rintro pins s σ H vs us Q I rv ⟨Hs, ρ, q, l, ks, rfl, le, hq, hk, o, hk1, h⟩
  rw [Vals.ref1 rv]
  obtain ⟨⟨ob, es, ep, t, ho, hex, hd, g, nd, hm, hb, hf, hr, hl⟩, _, _⟩ := (show ObjOk X.prog X.w H s.heap q (mext X.w q ks) from I.hok q _ hq)
  refine Calls.call_function_entry kind_sorted plain_sorted entry_sorted (args_sorted1 _) ?_
  unfold Builtin.«sorted»
  refine wpAny_bind (m := checkCount "sorted" 1 1 _) (wpAny_pure ?_)
  refine wpAny_bind (collect_set (A := X.A.in1) (I.ok.hd hc) ⟨ob, ho, hex.1, hd⟩ hf hb hr hl fun s1 vs k1 hz g1 o1 pm => ?_)
  have I1 : Inv X pins σ H s1 := I.call' (ch := []) o1 (Un.kept k1) (I.hok.kept k1) (by rw [g1]; exact I.bare) fun b hb => by cases hb
  obtain ⟨e1, e2⟩ := repKs_mem hk
  -- the values as data
  let kv : Value → Key := fun v => ke (0, v)
  have hv : ∀ v ∈ vs, kv v ∈ ks ∧ keyIs (kv v) v = true := fun v hv => by
    obtain ⟨e, he, q⟩ := List.mem_map.mp (pm.mem_iff.mp hv)
    have : kv v = ke e := by rw [← q]; rfl
    rw [this, ← q]
    exact ⟨(hm _).mpr (List.mem_map_of_mem he), (g e he).1⟩
  have hvals : Vals (vs.map fun v => kV (kv v)) vs := by
    clear pm
    induction vs with
    | nil => exact .nil
    | cons v vs ih => exact .cons (relV_key (hv v List.mem_cons_self).2) (ih fun u hu => hv u (List.mem_cons_of_mem _ hu))
  have hrep : RepL X.K Hs ρ (vs.map fun v => keyD (kv v)) (vs.map fun v => kV (kv v)) := by
    clear pm hvals
    induction vs with
    | nil => exact .nil
    | cons v vs ih => exact .cons (e2 _ (hv v List.mem_cons_self).1).rep (ih fun u hu => hv u (List.mem_cons_of_mem _ hu))
  have kd_inj : ∀ a b : Key, keyD a = keyD b → a = b := fun a b e => by
    cases a with
    | inl i =>
      cases b with
      | inl j => cases e; rfl
      | inr y => cases e
    | inr x =>
      cases b with
      | inl j => cases e
      | inr y =>
        have := D.str.inj e
        rw [TL.ext_tl this]
  have hord : ∀ a ∈ l, a.ord = true := fun a ha => key1_ord (hk1 a ha)
  have hperm : (vs.map fun v => keyD (kv v)).Perm (dedup l) := by
    have pk : (vs.map kv).Perm (es.toList.map ke) := by
      have := pm.map kv
      rw [List.map_map] at this
      exact this
    have nd2 : (vs.map kv).Nodup := pk.nodup_iff.mpr nd
    have nd3 : ((vs.map kv).map keyD).Nodup := by
      rw [List.Nodup, List.pairwise_map]
      exact nd2.imp fun h z => h (kd_inj _ _ z)
    rw [List.map_map] at nd3
    refine (List.perm_ext_iff_of_nodup nd3 (dedup_nodup hord)).mpr fun a => ?_
    rw [dedup_mem hord, e1, List.mem_map, List.mem_map]
    constructor
    · rintro ⟨v, hv', rfl⟩
      exact ⟨kv v, (hv v hv').1, rfl⟩
    · rintro ⟨k, hk', rfl⟩
      have : k ∈ vs.map kv := pk.mem_iff.mpr ((hm k).mp hk')
      obtain ⟨v, hv', rfl⟩ := List.mem_map.mp this
      exact ⟨v, hv', rfl⟩
  have o2 : OrdAll (vs.map fun v => keyD (kv v)) := o.sub fun a ha => hperm.mem_iff.mp ha
  have dep0 : ∀ m : List D, (∀ a ∈ m, D.key1 a = true) → D.depL m = 0 ∧ m.all neT = true := fun m => by
    induction m with
    | nil => intro _; exact ⟨rfl, rfl⟩
    | cons a m ih =>
      intro h
      obtain ⟨i1, i2⟩ := ih fun b hb => h b (List.mem_cons_of_mem _ hb)
      have ha := h a List.mem_cons_self
      cases a with
      | int i => exact ⟨by simp [D.depL, D.dep, i1], by simp [neT, i2]⟩
      | str i => exact ⟨by simp [D.depL, D.dep, i1], by simp [neT, i2]⟩
      | _ => cases ha
  have hkey : ∀ a ∈ vs.map (fun v => keyD (kv v)), D.key1 a = true := fun a ha => hk1 a ((dedup_mem hord a).mp (hperm.mem_iff.mp ha))
  obtain ⟨hdep, hne⟩ := dep0 _ hkey
  have hvl : vs.length ≤ sizeLine := by
    have q1 : vs.length = es.size := by rw [pm.length_eq, List.length_map, Array.length_toList]
    have q2 : es.size < 4096 := hb
    rw [sizeLine_eq, q1]
    omega
  refine wpAny_bind (wpAny_newList ?_ hvl)
  have hoL : (s1.heap.push (seqObj "list" vs.toArray 0)).get? s1.heap.objs.size = some (seqObj "list" vs.toArray 0) := Heap.get?_push_size _ rfl
  refine wpAny_bind (wpAny_holding (wpAny_call_entry slot_list_sort ⟨_, hoL, rfl⟩ entry_list_sort (SrtO.list_sort_ord (pick_swo (K := X.K) (Hs := Hs) (ρ := ρ) o2) hoL hvl (fun h2 => sortable_ok I1 le hrep hvals o2 (by omega) hne h2 (by rw [in1_units, in1_units]; omega) fun b ob e => ⟨Nat.ne_of_lt (Heap.lt_size e), Heap.get?_push_of_some _ e⟩) fun out h1 h2 => ⟨_, rfl, ?_⟩) (args_list_sort _)))
  obtain ⟨ys, w1, w2⟩ := sorted_back hrep hvals o2 h2.perm h1
  have eiso : isort (vs.map fun v => keyD (kv v)) = isort (dedup l) := isort_uniq o ((isort_perm _).trans hperm) (isort_sorted o2)
  rw [eiso] at w2
  obtain ⟨c, hcx⟩ := sortedHeap_at (vs := vs) (out := out.toArray) hoL
  have hlen : ys.length ≤ sizeLine := by rw [w1.length, h2.len]; exact hvl
  have keep : ∀ b u, s1.heap.get? b = some u → (sortedHeap (s1.heap.push (seqObj "list" vs.toArray 0)) s1.heap.objs.size vs out.toArray).get? b = some u := fun b u e => by
    have hlt := Heap.lt_size e
    rw [sortedHeap_old (Nat.ne_of_lt hlt) (by rw [size_push']; exact Nat.lt_succ_of_lt hlt)]
    exact Heap.get?_push_of_some _ e
  refine wpAny_pure ⟨_, rfl, .ref s1.heap.objs.size, upd H s1.heap.objs.size (.lst ys), I1.laid (t' := s1.toks) keep (Nat.le_refl _) ⟨hlen, out, c, w1, hcx⟩, rfl, h _ ys (I1.hok.fresh (Nat.le_refl _)) w2⟩
theorem e_sset (hc : X.calm = true) (hu : X.A.units + 70 < cLine) (hg : Gl X "sorted") (hm : X.mg "sorted" = none) (hg2 : Gl X "set") (hm2 : X.mg "set" = none) (ha : EOk X Φ W a ia)
    (he : starEach [a] X.env = (false, eval a X.env) :: starEach [] X.env := by rfl) (he2 : starEach [.Call (.Name "set" q) [a] [] pos] X.env = (false, eval (.Call (.Name "set" q) [a] [] pos) X.env) :: starEach [] X.env := by rfl) :
    EOk X Φ W (.Call (.Name "sorted" p) [.Call (.Name "set" q) [a] [] pos] [] pos2) (.bi .sset (.cons ia .nil)) :=
  ⟨fun p => (pe_callB (sset_ok hc hu) hg hm (by decide +kernel) (pa_cons (pe_callTy (set_ok_ hc) hg2 hm2 (by decide +kernel) ((a_cons ha a_nil he).run true) (by decide) (by decide) he) pa_nil he2) (by decide) (by decide) he2).weaken fun σV H Q ⟨Hs, ρ, σ, B, st, out⟩ => by
    refine ⟨Hs, ρ, σ, B, st, Out.bindL (p := p) (Q := Q) out fun ds B1 vs H1 Hs1 ρ1 g1 l1 b1 r1 out => ?_⟩
    obtain ⟨d, hd, out⟩ := Out.of (p := p) (Q := Q) out
    have rp := rp_of r1 b1
    have hd : bi_sset (ds.map (drf B1)) = some d := hd
    generalize ds.map (drf B1) = es at rp hd
    unfold bi_sset at hd
    split at hd
    · rename_i l
      obtain ⟨x, rfl, rx⟩ := one_of rp
      obtain ⟨hcnd, hd⟩ := cons_ite' hd
      rw [Bool.and_eq_true, decide_eq_true_eq] at hcnd
      obtain ⟨rfl, o, _, _⟩ := sortD_some hd
      obtain ⟨aa, xs, rfl, ha', rr⟩ := rx.lst l1
      obtain ⟨ks, hks, _⟩ := RepKs.of hcnd.1 rr
      refine ⟨Hs1, ρ1, l, _, ks, rfl, l1, rx, hcnd.2, hks, fun q hq => ⟨Hs1, ρ1, q, l, ks, rfl, le_new l1 hq, upd_same, hks, o, fun a ha => List.all_eq_true.mp hcnd.1 a ha, fun p' ys hp' hys => ?_⟩⟩
      have y : Yld X.K p Hs1 ρ1 H1 B1 (.lst (isort (dedup l))) Q := out
      have hp0 : H1 p' = none := by
        by_cases z : p' = q
        · subst z; exact hq
        · rw [upd_ne z] at hp'; exact hp'
      exact y.toF p' _ Hs1 ρ1 ((gr_new hq).trans (gr_new hp')) (le_new (le_new l1 hq) hp') (bok_new hp' (bok_new hq b1)) ⟨ys, upd_same, hys⟩ (l1.there hp0) (rho_new hp0 b1) hp0
    · cases hd⟩
end
end Pz
end
section
set_option Elab.async false
set_option linter.all false
set_option maxRecDepth 100000
namespace Pz
open PySem PySem.Spec PyProof.Rows L2
theorem law_sp {K : PySem.W.Frag} {H : Hp} {a : Addr} {ns : List Int} {φ : List D → List D → Rs (D × List D)} (h : ∃ B, φ [.scr (ns.map .int)] [] = .ok (.bl true, B)) (hs : SqL K H a (ns.map V.int)) :
    spD K φ [.ref a] H (fun v _ => v = .bl true) fun _ _ _ => False := by
  obtain ⟨B, h⟩ := h
  have hr : ∀ ns : List Int, RepL K H [] (ns.map D.int) (ns.map V.int) := fun ns => by
    induction ns with
    | nil => exact .nil
    | cons n ns ih => exact .cons (.int n) ih
  refine ⟨H, [], [], [.scr (ns.map .int)], Le.refl _, ⟨rfl, List.nodup_nil, fun n a d e => by cases n <;> cases e⟩, .cons (.scr hs (hr ns)) .nil, ?_⟩
  rw [h]
  intro v H' Hs' ρ' g l b r
  exact bl_of r
end Pz
end
section
set_option Elab.async false
set_option linter.all false
set_option maxRecDepth 100000
namespace L2
open PySem PySem.Spec PyProof.Rows
/-! ### enumerate of a tuple, of a text -/
theorem meets_enum1 {v : Value} {o : Obj} {H : Heap → Prop} (B : Begins v o H) :
    Meets (Builtin.«enumerate.__new__» ⟨[.type "enumerate", v], []⟩) (fun _ R s => H s.heap ∧
      R (.ok (.ret (.ref (s.heap.push o).objs.size))) { s with heap := (s.heap.push o).push { cls := .type "enumerate", data := .fields #[.none, .bool false, .ref s.heap.objs.size, rawInt 0, .none, .none] } }) :=
  .of_wp fun prog w A R s h => by
    obtain ⟨hp, g, d, tk, os⟩ := s; obtain ⟨h1, h⟩ := h
    have hsub := sub_enumerate
    have q1 : ∀ {A' : Around} {E : Value → Shared → Prop} {Q : Value → Shared → Prop}, Q (.ref hp.objs.size) ⟨hp.push o, g, d, tk, os⟩ → wpAny (model prog w) A' (pyIter v) Q E ⟨hp, g, d, tk, os⟩ :=
      fun q => B.iter prog w _ _ ⟨hp, g, d, tk, os⟩ _ h1 q
    wp_walk using q1
    refine wpAny_stack_any fun st => wpAny_pure ?_
    split
    · rename_i c _ _ _ _ _
      cases (c == Value.type "enumerate")
      · wp_walk using q1
        exact ⟨_, rfl, h⟩
      · wp_walk using q1
        exact ⟨_, rfl, h⟩
    · wp_walk using q1
      exact ⟨_, rfl, h⟩
theorem call_enum1 {prog : Program} {w : World} {A : Around} {E : Value → Shared → Prop} {s : Shared} {v : Value} {o : Obj} {H : Heap → Prop} {Q : Value → Shared → Prop} (B : Begins v o H) (h1 : H s.heap)
    (h : ∀ h', IsEnum h' (s.heap.objs.size + 1) s.heap.objs.size 0 .none → h'.get? s.heap.objs.size = some o → h'.objs.size = s.heap.objs.size + 2 →
      (∀ b o, s.heap.get? b = some o → h'.get? b = some o) → Q (.ref (s.heap.objs.size + 1)) { s with heap := h' }) :
    wpAny (model prog w) A (call (.type "enumerate") [v]) Q E s := by
  refine callType_new F.called_enumerate (by decide) (F.typeCall_enumerate_1 _) (F.newCall_enumerate_1 _) (fun obj => F.args_object_init_2 obj _) F.entry_enumerate_new
    (meets_enum1 B) ⟨h1, ?_⟩
  have hz : (s.heap.push o).objs.size = s.heap.objs.size + 1 := Heap.size_push ..
  show _ ∧ _
  rw [hz]
  have he : IsEnum ((s.heap.push o).push { cls := .type "enumerate", data := .fields #[.none, .bool false, .ref s.heap.objs.size, rawInt 0, .none, .none] }) (s.heap.objs.size + 1) s.heap.objs.size 0 .none := by
    have := Heap.get?_push_size (s.heap.push o) (o := { cls := .type "enumerate", data := .fields #[.none, .bool false, .ref s.heap.objs.size, rawInt 0, .none, .none] }) rfl
    rw [hz] at this; exact this
  refine ⟨⟨_, he, rfl⟩, h _ he (Heap.get?_push_of_some _ (Heap.get?_push_size _ B.free)) (by rw [Heap.size_push, hz]) fun b o x => Heap.get?_push_of_some _ (Heap.get?_push_of_some _ x)⟩
/-- the tuple at a (of n items): each item in a new pair -/
def IteT (K : PySem.W.Frag) (a : Addr) (n : Nat) : It :=
  ⟨fun i H => ∃ (xs : List V) (x : V), SqT K H a xs ∧ xs.length = n ∧ xs[i]? = some x, fun i H v H' => ∃ T x, v = .ref T ∧ H T = none ∧ H' = upd H T (.tup [.int (i : Nat), x]) ∧ ∀ xs, SqT K H a xs → xs[i]? = some x, fun i H => ∃ xs : List V, SqT K H a xs ∧ xs.length = n ∧ n ≤ i⟩
theorem turn_enumT {P : Program} {w : World} {K : PySem.W.Frag} {elts : List Expr} {kk : Nat} {tpos : Pos} (a e it : Addr) (n : Nat) (hai : a ≠ it) (hea : e ≠ a) :
    Turn P w K (.Tuple elts kk tpos) (IteT K a n) [e, it] e (fun i h => (∃ old, IsEnum h e it ((i : Nat) : Int) old) ∧ h.IsTupleIter it a i ∧ e ≠ it ∧ i ≤ n) where
  mem := by simp
  obj := fun i h st b hb => by
    obtain ⟨⟨old, he⟩, ⟨o, ho, hc, hd⟩, _⟩ := st
    have e' : b = e ∨ b = it := by simpa using hb
    rcases e' with z | z
    · rw [z]; exact ⟨_, he, fun v q => nomatch q⟩
    · rw [z]; exact ⟨o, ho, fun v q => by rw [hd] at q; cases q⟩
  keep := fun i h h' st k => let ⟨⟨old, he⟩, hi, hne, hin⟩ := st; ⟨⟨old, k e (by simp) _ he⟩, hi.at fun o q => k it (by simp) o q, hne, hin⟩
  item := by
    intro X hP hw hK hc i pins s σ H E I hf st hg
    subst hP hw hK
    obtain ⟨⟨old, he⟩, hit, hne, hin⟩ := st
    obtain ⟨xs, x, hq, hn, hx⟩ := hg
    obtain ⟨its, rv, p, hz⟩ := I.tuple hq
    obtain ⟨u, hu, ru⟩ := rv.get hx
    have hel : e < s.heap.objs.size := Heap.lt_size he
    have hil : it < s.heap.objs.size := by obtain ⟨_, q, _⟩ := hit; exact Heap.lt_size q
    have hlt : i < its.toArray.size := by
      have h1 := (List.getElem?_eq_some_iff.mp hx).1
      have h2 := rv.length
      simp; omega
    refine wpAny_pyNext_enum_itemD (Draws.tuple (A := X.A.in1) (show X.A.in1.handled = none from I.ok.hd hc) it a hai its.toArray) he ⟨hit, p⟩ hlt hne (by simp [hea, hne]) fun x' h' tk hP ho hst hT hsz hk => ?_
    have hxu : x' = u := by
      have h3 : its.toArray[i]? = some u := by simpa using hu
      rw [h3] at hP
      exact (Option.some.inj hP).symm
    subst hxu
    refine ⟨_, rfl, wpAny_letOwnedTupleGo_enum (s := { s with heap := h', toks := tk + 1 }) ho fun h'' he' sb => ?_⟩
    have hT2 : h''.get? s.heap.objs.size = some { cls := .type "tuple", data := .seq #[.int i tk, x'] } := (sb.2 _ (Nat.ne_of_gt hel)).trans hT
    have new : ObjOk X.prog X.w (upd H s.heap.objs.size (.tup [.int (i : Nat), x])) h'' s.heap.objs.size (.tup [.int (i : Nat), x]) :=
      ⟨by show 2 ≤ sizeLine; decide, [.int i tk, x'], .cons ⟨_, rfl⟩ (.cons ru .nil), ⟨_, hT2, rfl, _, rfl⟩⟩
    have I1 : Inv X pins σ (upd H s.heap.objs.size (.tup [.int (i : Nat), x])) { s with heap := h'', toks := tk + 1 } :=
      I.turnedNew (ch := [e, it]) (fun b ob hb q => (sb.2 b (fun z => hb (by simp [z]))).trans (hk b ob (fun z => hb (by simp [z])) (fun z => hb (by simp [z])) q)) hf (Nat.le_refl _) new
    refine ⟨.ref s.heap.objs.size, _, I1, rfl, ⟨_, x, rfl, I.hok.fresh (Nat.le_refl _), rfl, fun ys hy => by rw [I.tuple_inj hy hq]; exact hx⟩, ⟨⟨x', ?_⟩, hst.1.at fun o q => (sb.2 it (Ne.symm hne)).trans q, hne, by
      have h1 := (List.getElem?_eq_some_iff.mp hx).1
      omega⟩, fun b hb => ?_⟩
    · have e1 : ((i + 1 : Nat) : Int) = (i : Int) + 1 := by omega
      rw [e1]; exact he'
    · have hb' : b < s.heap.objs.size := by
        have e' : b = e ∨ b = it := by simpa using hb
        rcases e' with z | z
        · rw [z]; exact hel
        · rw [z]; exact hil
      rw [upd_ne (Nat.ne_of_lt hb')]
      exact (hf b hb).1
  done := by
    intro X hP hw hK hc i pins s σ H E I hf st hg
    subst hP hw hK
    obtain ⟨⟨old, he⟩, hit, hne, hin⟩ := st
    obtain ⟨xs, hq, hn, hx⟩ := hg
    obtain ⟨its, rv, p, hz⟩ := I.tuple hq
    obtain ⟨f0, f1, f2, f3, f4, f5⟩ := hf it (by simp)
    have hl := rv.length
    have hi : i = its.toArray.size := by simp; omega
    subst hi
    exact wpAny_pyNext_enum_endD (Draws.tuple (A := X.A.in1) (show X.A.in1.handled = none from I.ok.hd hc) it a hai its.toArray) he ⟨hit, p⟩ fun h' eb => ⟨rfl, I.turned (t' := s.toks) (fun b o hb q => eb b o hb q) f0 f1 f3 f4 f5⟩
  self := fun A i s Q E st h => let ⟨⟨_, he⟩, _⟩ := st; wpAny_pyIter_enum he h
/-- a text: each sign in a new pair -/
def IteS (x : Str) : It :=
  ⟨fun i _ => i < x.cps.size, fun i H v H' => ∃ T c, v = .ref T ∧ H T = none ∧ H' = upd H T (.tup [.int (i : Nat), .str ⟨#[c]⟩]) ∧ x.cps[i]? = some c, fun i _ => x.cps.size ≤ i⟩
theorem turn_enumS {P : Program} {w : World} {K : PySem.W.Frag} {elts : List Expr} {kk : Nat} {tpos : Pos} (e it : Addr) (x : Str) (t : Tok) :
    Turn P w K (.Tuple elts kk tpos) (IteS x) [e, it] e (fun i h => (∃ old, IsEnum h e it ((i : Nat) : Int) old) ∧ h.IsStrIter it (strIterType x) x t i ∧ e ≠ it ∧ i ≤ x.cps.size) where
  mem := by simp
  obj := fun i h st b hb => by
    obtain ⟨⟨old, he⟩, ⟨o, ho, hc, hd⟩, _⟩ := st
    have e' : b = e ∨ b = it := by simpa using hb
    rcases e' with z | z
    · rw [z]; exact ⟨_, he, fun v q => nomatch q⟩
    · rw [z]; exact ⟨o, ho, fun v q => by rw [hd] at q; cases q⟩
  keep := fun i h h' st k => let ⟨⟨old, he⟩, ⟨o, ho, r⟩, hne, hin⟩ := st; ⟨⟨old, k e (by simp) _ he⟩, ⟨o, k it (by simp) o ho, r⟩, hne, hin⟩
  item := by
    intro X hP hw hK hc i pins s σ H E I hf st hg
    subst hP hw hK
    obtain ⟨⟨old, he⟩, hit, hne, hin⟩ := st
    have hel : e < s.heap.objs.size := Heap.lt_size he
    have hil : it < s.heap.objs.size := by obtain ⟨_, q, _⟩ := hit; exact Heap.lt_size q
    refine wpAny_pyNext_enum_itemD (Draws.text (A := X.A.in1) (show X.A.in1.handled = none from I.ok.hd hc) it x t) he hit hg hne (by simp [hne]) fun x' h' tk hP ho hst hT hsz hk => ?_
    obtain ⟨c, u, hcx, rfl⟩ := hP
    refine ⟨_, rfl, wpAny_letOwnedTupleGo_enum (s := { s with heap := h', toks := tk + 1 }) ho fun h'' he' sb => ?_⟩
    have hT2 : h''.get? s.heap.objs.size = some { cls := .type "tuple", data := .seq #[.int i tk, .str ⟨#[c]⟩ u] } := (sb.2 _ (Nat.ne_of_gt hel)).trans hT
    have new : ObjOk X.prog X.w (upd H s.heap.objs.size (.tup [.int (i : Nat), .str ⟨#[c]⟩])) h'' s.heap.objs.size (.tup [.int (i : Nat), .str ⟨#[c]⟩]) :=
      ⟨by show 2 ≤ sizeLine; decide, [.int i tk, .str ⟨#[c]⟩ u], .cons ⟨_, rfl⟩ (.cons ⟨_, rfl⟩ .nil), ⟨_, hT2, rfl, _, rfl⟩⟩
    have I1 : Inv X pins σ (upd H s.heap.objs.size (.tup [.int (i : Nat), .str ⟨#[c]⟩])) { s with heap := h'', toks := tk + 1 } :=
      I.turnedNew (ch := [e, it]) (fun b ob hb q => (sb.2 b (fun z => hb (by simp [z]))).trans (hk b ob (fun z => hb (by simp [z])) (fun z => hb (by simp [z])) q)) hf (Nat.le_refl _) new
    refine ⟨.ref s.heap.objs.size, _, I1, rfl, ⟨_, c, rfl, I.hok.fresh (Nat.le_refl _), rfl, hcx⟩, ⟨⟨.str ⟨#[c]⟩ u, ?_⟩, ?_, hne, hg⟩, fun b hb => ?_⟩
    · have e1 : ((i + 1 : Nat) : Int) = (i : Int) + 1 := by omega
      rw [e1]; exact he'
    · obtain ⟨o, ho, r⟩ := hst
      exact ⟨o, (sb.2 it (Ne.symm hne)).trans ho, r⟩
    · have hb' : b < s.heap.objs.size := by
        have e' : b = e ∨ b = it := by simpa using hb
        rcases e' with z | z
        · rw [z]; exact hel
        · rw [z]; exact hil
      rw [upd_ne (Nat.ne_of_lt hb')]
      exact (hf b hb).1
  done := by
    intro X hP hw hK hc i pins s σ H E I hf st hg
    subst hP hw hK
    obtain ⟨⟨old, he⟩, hit, hne, hin⟩ := st
    obtain ⟨f0, f1, f2, f3, f4, f5⟩ := hf it (by simp)
    have hg : x.cps.size ≤ i := hg
    have hi : i = x.cps.size := by omega
    subst hi
    exact wpAny_pyNext_enum_endD (Draws.text (A := X.A.in1) (show X.A.in1.handled = none from I.ok.hd hc) it x t) he hit fun h' eb => ⟨rfl, I.turned (t' := s.toks) (fun b o hb q => eb b o hb q) f0 f1 f3 f4 f5⟩
  self := fun A i s Q E st h => let ⟨⟨_, he⟩, _⟩ := st; wpAny_pyIter_enum he h
def iEnumV (K : PySem.W.Frag) (R : It → Hp → Prop) (v : V) (H1 : Hp) : Prop := (∃ a xs, v = .ref a ∧ SqL K H1 a xs ∧ R (Ite K a) H1) ∨ (∃ a xs, v = .ref a ∧ SqT K H1 a xs ∧ R (IteT K a xs.length) H1) ∨ ∃ x, v = .str x ∧ R (IteS x) H1
def iEnumA (K : PySem.W.Frag) (te : TE) : TI := fun σ H R => te σ H (iEnumV K R)
theorem pi_enumA {X : Cx} {e : Expr} {te : TE} {p pos tpos : Pos} {elts : List Expr} {kk : Nat} (hg : Gl X "enumerate") (hm : X.mg "enumerate" = none) (he : PE X e te) (hs : starEach [e] X.env = [(false, eval e X.env)] := by rfl) :
    PI X (.Tuple elts kk tpos) (.Call (.Name "enumerate" p) [e] [] pos) (iEnumA X.K te) := by
  refine ⟨fun pins s σ H R I h => ?_⟩
  refine Call_ (ld_blt I hg hm boot_enumerate (PyProof.Rows.callWith_type1 (thn ((pa_cons he pa_nil hs).run pos pins s σ H (fun vs H1 => match vs with | [v] => iEnumV X.K R v H1 | _ => False) I h) fun us s1 ⟨vs, H1, I1, r1, q1⟩ => ?_) hs rfl))
  match vs, r1, q1 with
  | [v], r1, q1 =>
    cases r1 with
    | cons r rr =>
      cases rr
      have fresh2 : ∀ b, b ∈ [s1.heap.objs.size + 1, s1.heap.objs.size] → FpOk X pins H1 b := fun b hb => by
        have e' : b = s1.heap.objs.size + 1 ∨ b = s1.heap.objs.size := by simpa using hb
        have hle : s1.heap.objs.size ≤ b := by
          rcases e' with z | z
          · rw [z]; exact Nat.le_add_right _ _
          · rw [z]; exact Nat.le_refl _
        exact I1.fpOk hle (I1.hok.fresh hle)
      rcases q1 with ⟨a, xs, ex, hq, q⟩ | ⟨a, xs, ex, hq, q⟩ | ⟨x, ex, q⟩
      · subst ex
        cases r
        obtain ⟨its, rv, p', hz⟩ := I1.list hq
        refine call_enumerate_list p'.isList fun h' he hit hsz hk => wpAny_pyIter_enum he ?_
        have I2 : Inv X pins σ H1 { s1 with heap := h' } := I1.kept (t' := s1.toks) hk
        exact ⟨s1.heap.objs.size + 1, [s1.heap.objs.size + 1, s1.heap.objs.size], _, _, H1, rfl, I2, turn_enum a (s1.heap.objs.size + 1) s1.heap.objs.size, ⟨⟨.none, he⟩, hit, Nat.succ_ne_self _⟩, fresh2, q⟩
      · subst ex
        cases r
        obtain ⟨its, rv, p', hz⟩ := I1.tuple hq
        have la : a < s1.heap.objs.size := by obtain ⟨o, ho, _⟩ := p'; exact Heap.lt_size ho
        refine call_enum1 (begins_tuple a its.toArray) (show Heap.IsTuple s1.heap a its.toArray from p') fun h' he hit hsz hk => wpAny_pyIter_enum he ?_
        have I2 : Inv X pins σ H1 { s1 with heap := h' } := I1.kept (t' := s1.toks) hk
        exact ⟨s1.heap.objs.size + 1, [s1.heap.objs.size + 1, s1.heap.objs.size], _, _, H1, rfl, I2, turn_enumT a (s1.heap.objs.size + 1) s1.heap.objs.size xs.length (Nat.ne_of_lt la) (Nat.ne_of_gt (Nat.lt_succ_of_lt la)), ⟨⟨.none, he⟩, ⟨_, hit, rfl, rfl⟩, Nat.succ_ne_self _, Nat.zero_le _⟩, fresh2, q⟩
      · subst ex
        obtain ⟨t, rfl⟩ := r
        refine call_enum1 (begins_text x t) trivial fun h' he hit hsz hk => wpAny_pyIter_enum he ?_
        have I2 : Inv X pins σ H1 { s1 with heap := h' } := I1.kept (t' := s1.toks) hk
        exact ⟨s1.heap.objs.size + 1, [s1.heap.objs.size + 1, s1.heap.objs.size], _, _, H1, rfl, I2, turn_enumS (s1.heap.objs.size + 1) s1.heap.objs.size x t, ⟨⟨.none, he⟩, ⟨_, hit, rfl, rfl⟩, Nat.succ_ne_self _, Nat.zero_le _⟩, fresh2, q⟩
end L2

namespace Pz
open PySem PySem.Spec PyProof.Rows L2
section
variable {K : PySem.W.Frag} {p : Bool} {Hs H : Hp} {ρ : List Addr}
theorem enm_at {l : List D} {i : Nat} {d : D} (h : (enmL l)[i]? = some d) : ∃ x, l[i]? = some x ∧ d = .tup [.int (i : Nat), x] := by
  unfold enmL at h
  rw [List.getElem?_map, List.getElem?_zipIdx] at h
  cases e : l[i]? with
  | none => rw [e] at h; cases h
  | some x => rw [e] at h; cases h; exact ⟨x, rfl, by simp⟩
theorem enm_len (l : List D) : (enmL l).length = l.length := by simp [enmL]
theorem zip_at {l m : List D} {i : Nat} {d : D} (h : (zipL l m)[i]? = some d) : ∃ x y, l[i]? = some x ∧ m[i]? = some y ∧ d = .tup [x, y] := by
  unfold zipL at h
  rw [List.getElem?_map] at h
  cases e : (l.zip m)[i]? with
  | none => rw [e] at h; cases h
  | some q =>
    rw [e] at h; cases h
    have := List.getElem?_zip_eq_some.1 e
    exact ⟨q.1, q.2, this.1, this.2, rfl⟩
theorem zip_len (l m : List D) : (zipL l m).length = min l.length m.length := by simp [zipL]
/-- a new pair -/
theorem pair_new {Hs' H' : Hp} {ρ' : List Addr} {B : List D} {T : Addr} {ds : List D} {xs : List V} (le : Le Hs' H') (b : BOk K Hs' ρ' H' B) (n : H' T = none) (r : RepL K Hs' ρ' ds xs) :
    ∃ Hs2, Gr Hs' H' ρ' Hs2 (upd H' T (.tup xs)) ρ' ∧ Le Hs2 (upd H' T (.tup xs)) ∧ BOk K Hs2 ρ' (upd H' T (.tup xs)) B ∧ Rep K Hs2 ρ' (.tup ds) (.ref T) :=
  have g : Gr Hs' H' ρ' (upd Hs' T (.tup xs)) (upd H' T (.tup xs)) ρ' := gr_upd le n
  ⟨_, g, upd_le le n, bok_upd le n b, .tup upd_same (g.repL r)⟩
/-- a list that stands still -/
theorem lst_keep {l : List D} {a : Addr} (r : Rep K Hs ρ (.lst l) (.ref a)) : ∃ xs, RepL K Hs ρ l xs ∧ ∀ Hs' H' ρ', Cnd p Hs H ρ Hs' H' ρ' → Le Hs' H' → H' a = some (.lst xs) := by
  cases r with
  | @lst _ _ xs h r => exact ⟨xs, r, fun Hs' H' ρ' c le => le.lst (c.1 _ _ h)⟩
theorem tup_keep {l : List D} {a : Addr} (r : Rep K Hs ρ (.tup l) (.ref a)) : ∃ xs, RepL K Hs ρ l xs ∧ ∀ Hs' H' ρ', Cnd p Hs H ρ Hs' H' ρ' → Le Hs' H' → H' a = some (.tup xs) := by
  cases r with
  | @tup _ _ xs h r => exact ⟨xs, r, fun Hs' H' ρ' c le => le.tup (c.1 _ _ h)⟩
theorem itR_enumL {l : List D} {a : Addr} (r : Rep K Hs ρ (.lst l) (.ref a)) : ItR K p (Ite K a) Hs ρ H (enmL l) := by
  obtain ⟨xs, r, hk⟩ := lst_keep (p := p) (H := H) r
  refine ⟨fun i Hs' H' ρ' c le hi => ?_, fun i Hs' H' ρ' c le hi => ⟨xs, SqL.of (hk _ _ _ c le), by rw [enm_len] at hi; rw [← r.length]; exact hi⟩, fun i Hs' H' ρ' B x H2 d c le b e y => ?_⟩
  · rw [enm_len] at hi
    obtain ⟨v, e, _⟩ := r.get (List.getElem?_eq_getElem hi)
    exact ⟨xs, v, SqL.of (hk _ _ _ c le), e⟩
  · obtain ⟨T, v, rfl, hn, rfl, hv⟩ := y
    obtain ⟨q, e1, rfl⟩ := enm_at e
    obtain ⟨w, ew, rw'⟩ := r.get e1
    have := hv xs (SqL.of (hk _ _ _ c le))
    rw [ew] at this; cases this
    exact pair_new le b hn (.cons (.int _) (.cons (rw'.mono (cnd_le c) c.2.1) .nil))
theorem itR_enumT {l : List D} {a : Addr} {ys : List V} (h0 : Hs a = some (.tup ys)) (r : RepL K Hs ρ l ys) : ItR K p (IteT K a ys.length) Hs ρ H (enmL l) := by
  have hk : ∀ Hs' H' ρ', Cnd p Hs H ρ Hs' H' ρ' → Le Hs' H' → H' a = some (.tup ys) := fun Hs' H' ρ' c le => le.tup (c.1 _ _ h0)
  refine ⟨fun i Hs' H' ρ' c le hi => ?_, fun i Hs' H' ρ' c le hi => ⟨ys, SqT.of (hk _ _ _ c le), rfl, by rw [enm_len] at hi; rw [← r.length]; exact hi⟩, fun i Hs' H' ρ' B x H2 d c le b e y => ?_⟩
  · rw [enm_len] at hi
    obtain ⟨v, e, _⟩ := r.get (List.getElem?_eq_getElem hi)
    exact ⟨ys, v, SqT.of (hk _ _ _ c le), rfl, e⟩
  · obtain ⟨T, v, rfl, hn, rfl, hv⟩ := y
    obtain ⟨q, e1, rfl⟩ := enm_at e
    obtain ⟨w, ew, rw'⟩ := r.get e1
    have := hv ys (SqT.of (hk _ _ _ c le))
    rw [ew] at this; cases this
    exact pair_new le b hn (.cons (.int _) (.cons (rw'.mono (cnd_le c) c.2.1) .nil))
theorem itR_enumS {l : List Nat} (h : SOk l) : ItR K p (IteS (mk l)) Hs ρ H (enmL (l.map fun c => .str [c])) := by
  refine ⟨fun i Hs' H' ρ' c le hi => ?_, fun i Hs' H' ρ' c le hi => ?_, fun i Hs' H' ρ' B x H2 d c le b e y => ?_⟩
  · show i < l.toArray.size
    rw [List.size_toArray]
    rw [enm_len] at hi
    simpa using hi
  · show l.toArray.size ≤ i
    rw [List.size_toArray]
    rw [enm_len] at hi
    simpa using hi
  · obtain ⟨T, z, rfl, hn, rfl, hz⟩ := y
    obtain ⟨q, e1, rfl⟩ := enm_at e
    have hz : l.toArray[i]? = some z := hz
    rw [List.getElem?_toArray] at hz
    rw [List.getElem?_map, hz] at e1
    cases e1
    exact pair_new le b hn (.cons (.int _) (.cons (.str ⟨fun k hk => by cases List.mem_singleton.mp hk; exact h.1 _ (List.mem_of_getElem? hz), Nat.le_trans (Nat.le_refl 1) (by decide : 1 ≤ ln)⟩) .nil))
theorem itR_zipL {l m : List D} {a b : Addr} (r : Rep K Hs ρ (.lst l) (.ref a)) (r2 : Rep K Hs ρ (.lst m) (.ref b)) : ItR K p (Itz K a b) Hs ρ H (zipL l m) := by
  obtain ⟨xs, r, hk⟩ := lst_keep (p := p) (H := H) r
  obtain ⟨ys, r2, hk2⟩ := lst_keep (p := p) (H := H) r2
  have l1 := r.length
  have l2 := r2.length
  refine ⟨fun i Hs' H' ρ' c le hi => ?_, fun i Hs' H' ρ' c le hi => ⟨xs, ys, SqL.of (hk _ _ _ c le), SqL.of (hk2 _ _ _ c le), by rw [zip_len] at hi; omega⟩, fun i Hs' H' ρ' B x H2 d c le b e y => ?_⟩
  · rw [zip_len] at hi
    obtain ⟨v, e, _⟩ := r.get (List.getElem?_eq_getElem (show i < l.length by omega))
    obtain ⟨v2, e2, _⟩ := r2.get (List.getElem?_eq_getElem (show i < m.length by omega))
    exact ⟨xs, ys, v, v2, SqL.of (hk _ _ _ c le), SqL.of (hk2 _ _ _ c le), e, e2⟩
  · obtain ⟨T, v, v2, rfl, hn, rfl, hv, hv2⟩ := y
    obtain ⟨q, q2, e1, e2, rfl⟩ := zip_at e
    obtain ⟨w, ew, rw'⟩ := r.get e1
    obtain ⟨w2, ew2, rw2⟩ := r2.get e2
    have h1 := hv xs (SqL.of (hk _ _ _ c le))
    have h2 := hv2 ys (SqL.of (hk2 _ _ _ c le))
    rw [ew] at h1; cases h1
    rw [ew2] at h2; cases h2
    exact pair_new le b hn (.cons (rw'.mono (cnd_le c) c.2.1) (.cons (rw2.mono (cnd_le c) c.2.1) .nil))
theorem itR_zipT {l m : List D} {a b : Addr} (r : Rep K Hs ρ (.tup l) (.ref a)) (r2 : Rep K Hs ρ (.tup m) (.ref b)) : ItR K p (RZ.ItzT K a b) Hs ρ H (zipL l m) := by
  obtain ⟨xs, r, hk⟩ := tup_keep (p := p) (H := H) r
  obtain ⟨ys, r2, hk2⟩ := tup_keep (p := p) (H := H) r2
  have l1 := r.length
  have l2 := r2.length
  refine ⟨fun i Hs' H' ρ' c le hi => ?_, fun i Hs' H' ρ' c le hi => ⟨xs, ys, SqT.of (hk _ _ _ c le), SqT.of (hk2 _ _ _ c le), by rw [zip_len] at hi; omega⟩, fun i Hs' H' ρ' B x H2 d c le b e y => ?_⟩
  · rw [zip_len] at hi
    obtain ⟨v, e, _⟩ := r.get (List.getElem?_eq_getElem (show i < l.length by omega))
    obtain ⟨v2, e2, _⟩ := r2.get (List.getElem?_eq_getElem (show i < m.length by omega))
    exact ⟨xs, ys, v, v2, SqT.of (hk _ _ _ c le), SqT.of (hk2 _ _ _ c le), e, e2⟩
  · obtain ⟨T, v, v2, rfl, hn, rfl, hv, hv2⟩ := y
    obtain ⟨q, q2, e1, e2, rfl⟩ := zip_at e
    obtain ⟨w, ew, rw'⟩ := r.get e1
    obtain ⟨w2, ew2, rw2⟩ := r2.get e2
    have h1 := hv xs (SqT.of (hk _ _ _ c le))
    have h2 := hv2 ys (SqT.of (hk2 _ _ _ c le))
    rw [ew] at h1; cases h1
    rw [ew2] at h2; cases h2
    exact pair_new le b hn (.cons (rw'.mono (cnd_le c) c.2.1) (.cons (rw2.mono (cnd_le c) c.2.1) .nil))
end
section
variable {X : Cx} {Φ : Fn} {W : WX} {a b : Expr} {ia ib : E} {p : Bool} {pp pos tpos : Pos} {elts : List Expr} {kk : Nat}
theorem i_enum (hg : Gl X "enumerate") (hm : X.mg "enumerate" = none) (ha : EOk X Φ W a ia) (hs : starEach [a] X.env = [(false, eval a X.env)] := by rfl) :
    IOk X Φ W p (.Tuple elts kk tpos) (.Call (.Name "enumerate" pp) [a] [] pos) (.enm ia) :=
  ⟨PI.weaken_ (pi_enumA hg hm (ha.run false) hs) fun σV H R ⟨Hs, ρ, σ, B, st, out⟩ => ⟨Hs, ρ, σ, B, st, by
    have out : OutG X.K (fun c d h => W c d σV h) Hs ρ H (((ev Φ false ia σ B).bind fun x => (Rs.of (itemsOf x.1)).bind fun l => .ok (.lst (enmL l), x.2)).bind fun x => (Rs.of (itemsOf x.1)).bind fun ds => .ok (ds, x.2)) (fun x => YldI X.K p Hs ρ H x.2 x.1 R) := out
    rw [Rs.bind_bind] at out
    refine OutG.bindE (q := false) YldI.shf out fun d B' v H' Hs' ρ' g l b r out => ?_
    rw [Rs.bind_bind] at out
    obtain ⟨ds, hd, out⟩ := OutG.of out
    have out : YldI X.K p Hs' ρ' H' B' (enmL ds) R := out
    have r := r.val
    cases d with
    | lst l' =>
      obtain rfl := Option.some.inj (show some l' = some ds from hd)
      have r0 := r
      cases r with
      | @lst _ a' xs h r => exact .inl ⟨a', xs, rfl, SqL.of (l.lst h), out _ _ _ _ .refl l b (itR_enumL r0)⟩
    | tup l' =>
      obtain rfl := Option.some.inj (show some l' = some ds from hd)
      have r0 := r
      cases r with
      | @tup _ a' xs h rr =>
        exact .inr (.inl ⟨a', xs, rfl, SqT.of (l.tup h), out _ _ _ _ .refl l b (itR_enumT h rr)⟩)
    | str l' =>
      obtain rfl := Option.some.inj (show some (l'.map fun c => D.str [c]) = some ds from hd)
      cases r with
      | str hl => exact .inr (.inr ⟨mk l', rfl, out _ _ _ _ .refl l b (itR_enumS hl)⟩)
    | _ => cases hd⟩⟩
theorem i_zip (hg : Gl X "zip") (hm : X.mg "zip" = none) (ha : EOk X Φ W a ia) (hb : EOk X Φ W b ib) (hs : starEach [a, b] X.env = (false, eval a X.env) :: starEach [b] X.env := by rfl) (hs2 : starEach [b] X.env = (false, eval b X.env) :: starEach [] X.env := by rfl) (hpl : (backTo pos (starEach [b] X.env)).any (·.1) = false := by rfl) :
    IOk X Φ W p (.Tuple elts kk tpos) (.Call (.Name "zip" pp) [a, b] [] pos) (.zip ia ib) :=
  ⟨PI.weaken_ (RZ.pi_zipA hg hm ((a_cons ha (a_cons hb a_nil hs2) hs : AOk X Φ W [a, b] (.cons ia (.cons ib .nil))).run false) hs hpl) fun σV H R ⟨Hs, ρ, σ, B, st, out⟩ => ⟨Hs, ρ, σ, B, st, by
    have out : OutG X.K (fun c d h => W c d σV h) Hs ρ H (((ev Φ false ia σ B).bind fun x => (ev Φ false ib σ x.2).bind fun y => (Rs.of (zipD x.1 y.1)).bind fun l => .ok (.lst l, y.2)).bind fun x => (Rs.of (itemsOf x.1)).bind fun ds => .ok (ds, x.2)) (fun x => YldI X.K p Hs ρ H x.2 x.1 R) := out
    show OutL X.K (fun c d h => W c d σV h) false Hs ρ H ((ev Φ false ia σ B).bind fun x => ((ev Φ false ib σ x.2).bind fun y => Rs.ok ([y.1], y.2)).bind fun y => .ok (x.1 :: y.1, y.2)) _
    rw [Rs.bind_bind] at out
    cases q : ev Φ false ia σ B with
    | bad => rw [q] at out; exact out
    | ex c ps B => rw [q] at out; exact out
    | ok x =>
      rw [q] at out
      simp only [Rs.bind_ok] at out ⊢
      rw [Rs.bind_bind] at out
      rw [Rs.bind_bind]
      cases q2 : ev Φ false ib σ x.2 with
      | bad => rw [q2] at out; exact out
      | ex c ps B => rw [q2] at out; exact out
      | ok y =>
        rw [q2] at out
        simp only [Rs.bind_ok] at out ⊢
        rw [Rs.bind_bind] at out
        obtain ⟨ds, hd, out⟩ := OutG.of out
        have out : YldI X.K p Hs ρ H y.2 ds R := out
        intro vs H' Hs' ρ' g l b r
        obtain ⟨v, v2, rfl, r1, r2⟩ : ∃ v v2, vs = [v, v2] ∧ Rep X.K Hs' ρ' x.1 v ∧ Rep X.K Hs' ρ' y.1 v2 := by
          cases r with
          | cons h t =>
            cases t with
            | cons h2 t => cases t; exact ⟨_, _, rfl, h.val, h2.val⟩
        obtain ⟨d1, B1⟩ := x
        obtain ⟨d2, B2⟩ := y
        cases d1 with
        | lst l1 =>
          cases d2 with
          | lst l2 =>
            obtain rfl := Option.some.inj (show some (zipL l1 l2) = some ds from hd)
            have r10 := r1
            have r20 := r2
            cases r1 with
            | @lst _ a1 xs h1 _ =>
              cases r2 with
              | @lst _ a2 ys h2 _ => exact ⟨a1, a2, xs, ys, rfl, .inl ⟨SqL.of (l.lst h1), SqL.of (l.lst h2), out _ _ _ _ g l b (itR_zipL r10 r20)⟩⟩
          | _ => cases hd
        | tup l1 =>
          cases d2 with
          | tup l2 =>
            obtain rfl := Option.some.inj (show some (zipL l1 l2) = some ds from hd)
            have r10 := r1
            have r20 := r2
            cases r1 with
            | @tup _ a1 xs h1 _ =>
              cases r2 with
              | @tup _ a2 ys h2 _ => exact ⟨a1, a2, xs, ys, rfl, .inr ⟨SqT.of (l.tup h1), SqT.of (l.tup h2), out _ _ _ _ g l b (itR_zipT r10 r20)⟩⟩
          | _ => cases hd
        | _ => cases hd⟩⟩
end
end Pz
end
section
set_option Elab.async false
set_option linter.all false
set_option maxRecDepth 100000
namespace Pz
open PySem PySem.Spec PyProof.Rows L2
/-! ### xs += ys of an owned list -/
def rAugL (K : PySem.W.Frag) : TIp := fun x y H Q => ∃ Hs ρ a l m, x = .ref a ∧ Le Hs H ∧ OwnAt K Hs ρ H a (.lst l) ∧ RP K Hs ρ H (.lst m) y ∧ l.length + m.length ≤ ln ∧ ∀ o, OwnAt K Hs ρ (upd H a o) a (.lst (l ++ m)) → Q (.ref a) (upd H a o)
section
variable {X : Cx} {Φ : Fn} {W : WX} {e : Expr} {ie : E} {pos : Pos}
theorem augL_ok : PIp X .Add (rAugL X.K) := by
  intro pins s σ H x y v u Q I rx ry ⟨Hs, ρ, a, l, m, ex, le, own, rb, hl, h⟩
  subst ex
  obtain ⟨xs, hx, rx2⟩ := own
  obtain ⟨b, ys, rfl, hy, ry2⟩ := rb.lst le
  exact iop_ext pins s σ H _ _ v u Q I rx ry ⟨a, b, xs, ys, rfl, rfl, hx, hy, by rw [← rx2.length, ← ry2.length, ln_eq]; exact hl, h _ ⟨_, upd_same, rx2.append ry2⟩⟩
theorem s_aug {i : Nat} {x : Str} {p1 : Pos} (hN : X.N.Nodup) (hi : X.N[i]? = some x) (hx : Loc X.env.scope x) (he : EOk X Φ WX0 e ie) (hf : X.fn x = true ∨ X.env.scope.names.lookup x = some .local) : StOk X Φ (.AugAssign (.Name x p1) .Add e pos) (.aug i ie) :=
  ⟨fun W E => (ps_aug hN hi hx (he.run true) augL_ok hf).weaken fun D_ σV H ⟨Hs, ρ, σ, B, s, out⟩ => by
    have out : OutS X.K W E D_ ((match σ[i]? with
      | some (.own c) => (ev Φ true ie σ B).bind fun x => (Rs.of (augD c (drf x.2 x.1))).bind fun d => .ok (.next, σ.set i (.own d), x.2)
      | _ => .bad)) := out
    have hsl : ∃ c, σ[i]? = some (.own c) := by
      cases q2 : σ[i]? with
      | none => rw [q2] at out; exact out.elim
      | some w =>
        cases w with
        | own c => exact ⟨c, rfl⟩
        | _ => rw [q2] at out; exact out.elim
    obtain ⟨c, hsl⟩ := hsl
    rw [hsl] at out
    have out : OutS X.K W E D_ ((ev Φ true ie σ B).bind fun x => (Rs.of (augD c (drf x.2 x.1))).bind fun d => .ok (.next, σ.set i (.own d), x.2)) := out
    obtain ⟨a, ea, _⟩ := s.st.slotV hsl
    refine ⟨.ref a, ea, Hs, ρ, σ, B, s.st, OutS.bindE out fun y B1 u H1 Hs1 ρ1 g1 l1 b1 r1 out => ?_⟩
    obtain ⟨d, hd, out⟩ := OutS.of out
    have s1 := s.grow g1 l1 b1
    obtain ⟨a', ea', hw, n, nr⟩ := s1.st.slotV hsl
    rw [ea] at ea'
    cases ea'
    have hr := drf_ok r1 b1
    revert hd hr
    cases c with
    | lst l =>
      cases drf B1 y with
      | lst m =>
        intro hd hr
        obtain ⟨hl, rfl⟩ := cons_ite (show (if l.length + m.length ≤ ln then some (D.lst (l ++ m)) else none) = some d from hd)
        refine ⟨Hs1, ρ1, a, l, m, rfl, l1, hw, hr, hl, fun o ho => ?_⟩
        have hset : σV.set i (some (.ref a)) = σV := by
          apply List.ext_getElem?
          intro j
          rw [List.getElem?_set]
          by_cases hj : i = j
          · subst hj
            rw [if_pos rfl, ea]
            have := (List.getElem?_eq_some_iff.mp ea).1
            rw [if_pos this]
          · rw [if_neg hj]
        show D_.nx (σV.set i (some (.ref a))) (upd H1 a o)
        rw [hset]
        exact out σV _ _ _ (s1.mut hsl ea ho)
      | _ => intro hd; cases hd
    | _ => intro hd; cases hd⟩
/-! ### d.update(e) of an owned dict -/
theorem putK_keys {κ : Type} [DecidableEq κ] (k : κ) (v : V) (kvs : List (κ × V)) : (kvs.map (·.1)).Nodup → ((putK kvs k v).map (·.1)).Nodup := by
  intro nd
  unfold putK
  by_cases h : (kvs.any fun kv => decide (kv.1 = k)) = true
  · rw [if_pos h]
    have : (kvs.map fun kv => if kv.1 = k then (kv.1, v) else kv).map (·.1) = kvs.map (·.1) := by
      rw [List.map_map]
      refine List.map_congr_left fun p _ => ?_
      by_cases e : p.1 = k <;> simp [e]
    first
      | rw [this]; exact nd
      | (have h2 := this; simp only [List.map_map] at h2 ⊢; rw [h2]; exact nd)
  · rw [if_neg h, List.map_append, List.nodup_append]
    refine ⟨nd, by simp, ?_⟩
    intro a ha b hb e
    have hb : b = k := by simpa using hb
    subst hb e
    obtain ⟨p, hp, rfl⟩ := List.mem_map.1 ha
    exact h (List.any_eq_true.2 ⟨p, hp, by simp⟩)
theorem RepK.merge {K : PySem.W.Frag} {Hs : Hp} {ρ : List Addr} : ∀ {m : List (D × D)} {more : List (Key × V)} {l : List (D × D)} {kvs : List (Key × V)}, RepK K Hs ρ m more → (kvs.map (·.1)).Nodup → RepK K Hs ρ l kvs →
    RepK K Hs ρ (m.foldl (fun acc p => kput p.1 p.2 acc) l) (mergeK kvs more)
  | [], _, l, kvs, r, nd, rl => by cases r; exact rl
  | (k, d) :: m, more, l, kvs, r, nd, rl => by
    obtain ⟨kk, v, s, rfl, hk, hd, hr⟩ := r.cons_inv
    exact RepK.merge (l := kput k d l) (kvs := putK kvs kk v) hr (putK_keys kk v kvs nd) (RepK.put hk hd nd rl)
def rUpdD (K : PySem.W.Frag) : V → List V → Hp → VK → Prop := fun x vs H Q => ∃ Hs ρ a l m v, x = .ref a ∧ vs = [v] ∧ Le Hs H ∧ OwnAt K Hs ρ H a (.dic false l) ∧ Hs a = none ∧ Rep K Hs ρ (.dic false m) v ∧ l.length + m.length ≤ ln ∧
  ∀ o, OwnAt K Hs ρ (upd H a o) a (.dic false (m.foldl (fun acc p => kput p.1 p.2 acc) l)) → Q .non (upd H a o)
theorem mt_updD : MtR X "dict.update" (rUpdD X.K) := by
  intro pins s σ H x vs v us Q I rx rv ⟨Hs, ρ, a, l, m, y, ex, ev', le, own, hn, rm, hl, q⟩
  subst ex ev'
  cases rx
  obtain ⟨u, rfl, ru⟩ := rv.one
  obtain ⟨kvs, hx, rk⟩ := own
  cases rm with
  | @dK _ b more hb rb =>
    cases ru
    have hne : a ≠ b := by
      rintro rfl
      rcases hb with h | ⟨o, h⟩ <;> rw [hn] at h <;> cases h
    obtain ⟨z, hd, ws, rel, dd⟩ := dk_of I.hok hx
    obtain ⟨z2, hd2, ws2, rel2, dd2⟩ := dk_rd I.hok (le.rd hb)
    have hz : kvs.length + more.length ≤ sizeLine := by rw [← rk.length, ← rb.length, ln_eq]; exact hl
    refine call_meetsIn PySem.F.slot_dict_update dd.typeIs PySem.F.entry_dict_update (PySem.F.args_dict_update_2 _ _) (meets_dict_update (mixKind X.prog X.w) a b hne hd2)
      ⟨ws, ws2, dd, dd2, (by rw [← rel.length, ← rel2.length]; exact hz), fun h' dd' _ hs => ?_⟩
    have he : ∃ q, h'.get? a = some q := let ⟨q, _, _, hq, _⟩ := dd'; ⟨q, hq⟩
    have hz2 : (mergeK kvs more).length ≤ sizeLine := Nat.le_trans (length_mergeK more kvs) hz
    refine ⟨.non, _, d_write I (by rw [hx]; exact True.intro) hs he (dk_new hz2 hd (rel2.merge rel) dd'), rfl, q _ ⟨_, upd_same, RepK.merge rb (dK_nodup I (.inl hx)) rk⟩⟩
theorem s_upd {i : Nat} {x : Str} {p1 apos cpos : Pos} (hN : X.N[i]? = some x) (hv : Vis X.env.scope x) (he : EOk X Φ WX0 e ie)
    (hbase : attributeBase (.Name x p1) "update" X.env (eval (.Name x p1) X.env) = eval (.Name x p1) X.env := by rfl)
    (hfew : ((backTo cpos (starEach [e] X.env)).all (fun x => !x.1) && (backToKw cpos (keywordEach [] X.env)).all (fun x => x.1.isSome)
      && decide (([e] : List Expr).length + ([] : List Keyword).length + (if ([] : List Keyword).isEmpty then 0 else 1) < 30)) = true := by rfl)
    (hline : (apos.endLine == cpos.line) = true := by rfl) (hst : starEach [e] X.env = (false, eval e X.env) :: starEach [] X.env := by rfl)
    (hsw : swapsWith (.Call (.Attribute (.Name x p1) "update" apos) [e] [] cpos) none pos.line X.env = pure false := by rfl)
    (hd : (x == ("__debug__" : Str)) = false := by decide) (hcd : (x == ("__classdict__" : Str)) = false := by decide) :
    StOk X Φ (.Expr (.Call (.Attribute (.Name x p1) "update" apos) [e] [] cpos) pos) (.upd i ie) :=
  ⟨fun W E => (ps_expr (pe_bm PySem.F.plainAttrs_dict PySem.F.slot_dict_update PySem.F.type_dict_update mt_updD (pe_var hN hv hd hcd) ((a_cons he a_nil hst).run false) hbase hfew hline hst) hsw).weaken fun D_ σV H ⟨Hs, ρ, σ, B, s, out⟩ => by
    have out : OutS X.K W E D_ ((match σ[i]? with
      | some (.own (.dic t l)) => (ev Φ false ie σ B).bind fun x => (Rs.of (updL (.dic t l) x.1)).bind fun d => .ok (.next, σ.set i (.own d), x.2)
      | _ => .bad)) := out
    have hsl : ∃ t l, σ[i]? = some (.own (.dic t l)) := by
      cases q2 : σ[i]? with
      | none => rw [q2] at out; exact out.elim
      | some w =>
        cases w with
        | own c =>
          cases c with
          | dic t l => exact ⟨t, l, rfl⟩
          | _ => rw [q2] at out; exact out.elim
        | _ => rw [q2] at out; exact out.elim
    obtain ⟨t, l, hsl⟩ := hsl
    rw [hsl] at out
    have out : OutS X.K W E D_ ((ev Φ false ie σ B).bind fun x => (Rs.of (updL (.dic t l) x.1)).bind fun d => .ok (.next, σ.set i (.own d), x.2)) := out
    obtain ⟨a, ea, hw, n, nr⟩ := s.st.slotV hsl
    have hty : tyV X.K "dict" (.ref a) H := by
      cases t with
      | false => obtain ⟨kvs, h, _⟩ := hw; exact .inr (.inr (.inl ⟨rfl, .inl ⟨kvs, h⟩⟩))
      | true => obtain ⟨kvs, h, _⟩ := hw; exact .inr (.inr (.inl ⟨rfl, .inr ⟨kvs, h⟩⟩))
    refine ⟨.ref a, ea, hty, Hs, ρ, σ, B, s.st, ?_⟩
    have out : OutS X.K W E D_ (((ev Φ false ie σ B).bind fun x => Rs.ok ([x.1], x.2)).bind fun x => match x.1 with
      | [y] => (Rs.of (updL (.dic t l) y)).bind fun d => .ok (.next, σ.set i (.own d), x.2)
      | _ => .bad) := by rw [Rs.bind_bind]; exact out
    show OutL X.K _ false Hs ρ H ((ev Φ false ie σ B).bind fun x => Rs.ok ([x.1], x.2)) _
    cases q : ev Φ false ie σ B with
    | bad => rw [q] at out; exact out
    | ex c ps B => exact exx_any
    | ok y =>
      rw [q] at out
      intro vs H1 Hs1 ρ1 g1 l1 b1 r1
      have s1 := s.grow g1 l1 b1
      cases r1 with
      | @cons _ v _ vs h t' =>
        cases t'
        obtain ⟨a', ea', hw', n', nr'⟩ := s1.st.slotV hsl
        rw [ea] at ea'
        cases ea'
        have out : OutS X.K W E D_ ((Rs.of (updL (.dic t l) y.1)).bind fun d => .ok (.next, σ.set i (.own d), y.2)) := out
        obtain ⟨d, hd, out⟩ := OutS.of out
        obtain ⟨y1, y2⟩ := y
        cases y1 with
        | dic u m =>
          cases t with
          | true => cases hd
          | false =>
            cases u with
            | true => cases hd
            | false =>
              obtain ⟨hl, rfl⟩ := cons_ite (show (if l.length + m.length ≤ ln then some (D.dic false (m.foldl (fun acc p => kput p.1 p.2 acc) l)) else none) = some d from hd)
              exact ⟨Hs1, ρ1, a, l, m, v, rfl, rfl, l1, hw', n', h.val, hl, fun o ho => out σV _ _ _ (s1.mut hsl ea ho)⟩
        | _ => (cases t <;> cases hd)⟩
/-! ### dict(pairs) -/
theorem pairs_rep {K : PySem.W.Frag} {Hs H : Hp} {ρ : List Addr} (le : Le Hs H) : ∀ {l : List D} {xs : List V} {prs : List (D × D)}, RepL K Hs ρ l xs → pairsOf l = some prs → (prs.all fun p => p.1.keyOk false) = true →
    ∃ (ps : List Addr) (kvs : List (Key × V)), xs = ps.map V.ref ∧ Paired (fun p kv => SqT K H p [kV kv.1, kv.2]) ps kvs ∧ RepK K Hs ρ prs kvs
  | [], xs, prs, r, e, h => by
    cases r
    cases e
    exact ⟨[], [], rfl, .nil, .nil⟩
  | d :: l, xs, prs, r, e, h => by
    cases r with
    | @cons _ v _ vs hd hr =>
      cases d with
      | tup ks =>
        match ks, e, hd with
        | [k, y], e, hd =>
          obtain ⟨prs', e', rfl⟩ := Option.map_eq_some_iff.mp (show (pairsOf l).map ((k, y) :: ·) = some prs from e)
          rw [List.all_cons, Bool.and_eq_true] at h
          obtain ⟨ps, kvs, rfl, hp, hk⟩ := pairs_rep le hr e' h.2
          cases hd with
          | @tup _ a zs hz rz =>
            obtain ⟨x1, x2, rfl, r1, r2⟩ := rz.two
            obtain ⟨kk, hkk, rfl⟩ := key_of (H := H) h.1 (.inl r1)
            exact ⟨a :: ps, (kk, x2) :: kvs, rfl, .cons (SqT.of (le.tup hz)) hp, RepK.cons_of hkk r2 hk⟩
      | _ => cases e
theorem bi_dict_ok (hc : X.calm = true) : CallR X (.type "dict") (rBiN X.K .dict) := by
  rintro pins s σ H vs us Q I rv ⟨Hs, ρ, B, ds, d, le, bx, r, e, h⟩
  have e : bi_dict ds = some d := e
  unfold bi_dict at e
  split at e
  · cases e
    obtain ⟨x, rfl, rx⟩ := one_of r
    obtain ⟨a, kvs, rfl, ha, rr⟩ := rx.dK le
    obtain ⟨u, eu, ru⟩ := vals1 rv
    subst eu
    cases ru
    exact d_copyOf I ha fun p s' hp I' => ⟨.ref p, _, I', rfl, YldF.dK h le bx rr p hp⟩
  · obtain ⟨x, rfl, rx⟩ := one_of r
    obtain ⟨a, xs, rfl, ha, rr⟩ := rx.lst le
    obtain ⟨prs, e1, e2⟩ := Option.bind_eq_some_iff.mp e
    obtain ⟨hk, rfl⟩ := cons_ite (show (if (prs.all fun p => p.1.keyOk false) = true then some (D.dic false (mkDic prs)) else none) = some d from e2)
    obtain ⟨ps, kvs, rfl, hp, hr⟩ := pairs_rep le rr e1 hk
    exact call_dictP hc pins s σ H _ us Q I rv ⟨a, ps, kvs, rfl, SqL.of ha, hp, YldF.dK h le bx (RepK.merge hr List.nodup_nil .nil)⟩
  · cases e
end
end Pz
end
section
set_option Elab.async false
set_option linter.all false
set_option maxRecDepth 100000
namespace Pz
open PySem PySem.Spec PyProof.Rows L2
/-! ### a dict's keys, sorted -/
theorem repK_keys {K : PySem.W.Frag} {Hs : Hp} {ρ : List Addr} : ∀ {l : List (D × D)} {kvs : List (Key × V)}, RepK K Hs ρ l kvs → Paired KeyR (l.map (·.1)) (kvs.map (·.1))
  | [], _, r => by cases r; exact .nil
  | (k, d) :: l, _, r => by
    obtain ⟨kk, v, s, rfl, hk, _, hr⟩ := r.cons_inv
    exact .cons hk (repK_keys hr)
theorem keys_str : ∀ {l : List D} {ks : List Key} {ss : List (List Nat)}, Paired KeyR l ks → strL l = some ss → ks = (ss.map mk).map Sum.inr ∧ l = ss.map .str ∧ ∀ x ∈ ss, SOk x
  | [], _, ss, r, e => by cases r; cases e; exact ⟨rfl, rfl, by simp⟩
  | d :: l, _, ss, r, e => by
    cases r with
    | cons h t =>
      cases h with
      | int i => cases e
      | @str x hx =>
        obtain ⟨ss', e', rfl⟩ := Option.map_eq_some_iff.mp (show (strL l).map (x :: ·) = some ss from e)
        obtain ⟨rfl, rfl, h3⟩ := keys_str t e'
        refine ⟨rfl, rfl, fun y hy => ?_⟩
        rcases List.mem_cons.1 hy with rfl | hy
        · exact hx
        · exact h3 y hy
theorem keys_int : ∀ {l : List D} {ks : List Key} {ss : List Int}, Paired KeyR l ks → intL l = some ss → ks = ss.map Sum.inl ∧ l = ss.map .int
  | [], _, ss, r, e => by cases r; cases e; exact ⟨rfl, rfl⟩
  | d :: l, _, ss, r, e => by
    cases r with
    | cons h t =>
      cases h with
      | @str x hx => cases e
      | int i =>
        obtain ⟨ss', e', rfl⟩ := Option.map_eq_some_iff.mp (show (intL l).map (i :: ·) = some ss from e)
        obtain ⟨rfl, rfl⟩ := keys_int t e'
        exact ⟨rfl, rfl⟩
theorem ordL_strs : ∀ l : List (List Nat), D.ordL (l.map .str) = true
  | [] => rfl
  | _ :: l => ordL_strs l
theorem ordL_ints : ∀ l : List Int, D.ordL (l.map .int) = true
  | [] => rfl
  | _ :: l => ordL_ints l
theorem repL_strs {K : PySem.W.Frag} {Hs : Hp} {ρ : List Addr} : ∀ l : List (List Nat), (∀ x ∈ l, SOk x) → RepL K Hs ρ (l.map .str) ((l.map mk).map V.str)
  | [], _ => .nil
  | a :: l, h => .cons (.str (h a List.mem_cons_self)) (repL_strs l fun x hx => h x (List.mem_cons_of_mem _ hx))
theorem repL_ints {K : PySem.W.Frag} {Hs : Hp} {ρ : List Addr} : ∀ l : List Int, RepL K Hs ρ (l.map .int) (l.map V.int)
  | [] => .nil
  | a :: l => .cons (.int a) (repL_ints l)
theorem lt_cps (x y : List Nat) : ltCps x y = ltS x y := by
  rw [ltS_lex]; exact PyProof.Rows.ltCps_eq x y
theorem rising_pw : ∀ (l : List Str) (p : Str), PyProof.Rows.risingS p l = true → (p :: l).Pairwise (fun a b => ltS b.cps.toList a.cps.toList = false)
  | [], p, _ => by simp
  | x :: l, p, h => by
    have h : (!ltCps x.cps.toList p.cps.toList && PyProof.Rows.risingS x l) = true := h
    rw [Bool.and_eq_true, Bool.not_eq_true', lt_cps] at h
    have ih := rising_pw l x h.2
    refine List.pairwise_cons.2 ⟨fun y hy => ?_, ih⟩
    rcases List.mem_cons.1 hy with rfl | hy
    · exact h.1
    · exact ltS_ntr _ _ _ h.1 ((List.pairwise_cons.1 ih).1 y hy)
theorem sortedS_pw : ∀ (l : List Str), PyProof.Rows.sortedS l = true → l.Pairwise (fun a b => ltS b.cps.toList a.cps.toList = false)
  | [], _ => List.Pairwise.nil
  | x :: l, h => rising_pw l x h
theorem bi_sortd_ok {X : Cx} (hc : X.calm = true) : CallR X (.builtin "sorted") (rBiN X.K .sortd) := by
  rintro pins s σ H vs us Q I rv ⟨Hs, ρ, B, ds, d, le, bx, r, e, h⟩
  have e : bi_sortd ds = some d := e
  unfold bi_sortd at e
  split at e
  · rename_i l _
    obtain ⟨x, rfl, rx⟩ := one_of r
    obtain ⟨a, kvs, rfl, ha, rr⟩ := rx.dK le
    obtain ⟨hh, rfl⟩ := cons_ite e
    rw [Bool.and_eq_true, decide_eq_true_eq, Bool.or_eq_true] at hh
    have hk := repK_keys rr
    have hl := rr.length
    rcases hh.2 with q | q
    · obtain ⟨ss, e1⟩ := Option.isSome_iff_exists.1 q
      obtain ⟨h1, h2, h3⟩ := keys_str hk e1
      have hsl : ss.length = l.length := by have := congrArg List.length h2; simpa using this.symm
      refine call_sortedD hc pins s σ H _ us Q I rv ⟨a, kvs, ss.map mk, rfl, ha, h1, by rw [List.length_map]; omega, fun ys p hp hs hn => ?_⟩
      have hy : ys = (ys.map fun z => z.cps.toList).map mk := by
        rw [List.map_map]
        conv => lhs; rw [← List.map_id ys]
        rfl
      have hp2 : (ys.map fun z => z.cps.toList).Perm ss := by
        have := hp.map fun z : Str => z.cps.toList
        rw [List.map_map] at this
        have e : ss.map ((fun z : Str => z.cps.toList) ∘ mk) = ss := by
          conv => rhs; rw [← List.map_id ss]
          rfl
        rwa [e] at this
      have e4 : isort (l.map (·.1)) = (ys.map fun z => z.cps.toList).map .str := by
        rw [h2]
        symm
        refine isort_uniq (OrdAll.of ?_ ?_) (hp2.map D.str) ?_
        · exact ordL_strs ss
        · unfold cmpAll; simp [D.cmp]
        · rw [List.pairwise_map, List.pairwise_map]
          refine (sortedS_pw ys hs).imp fun {x y} hxy => ?_
          show ltS _ _ = false
          exact hxy
      rw [e4] at h
      have hok : ∀ x ∈ ys.map fun z => z.cps.toList, SOk x := fun x hx => h3 x (hp2.mem_iff.1 hx)
      rw [hy]
      generalize (ys.map fun z => z.cps.toList) = zs at h hok
      exact YldF.lst h le bx (repL_strs zs hok) p hn
    · obtain ⟨ss, e1⟩ := Option.isSome_iff_exists.1 q
      obtain ⟨h1, h2⟩ := keys_int hk e1
      have hsl : ss.length = l.length := by have := congrArg List.length h2; simpa using this.symm
      refine call_sortedDI hc pins s σ H _ us Q I rv ⟨a, kvs, ss, rfl, ha, h1, by omega, fun ys p hp hs hn => ?_⟩
      have e4 : isort (l.map (·.1)) = ys.map .int := by
        rw [h2]
        symm
        refine isort_uniq (OrdAll.of ?_ ?_) (hp.map D.int) ?_
        · exact ordL_ints ss
        · unfold cmpAll; simp [D.cmp]
        · rw [List.pairwise_map]
          refine hs.imp fun {x y} hxy => ?_
          simp [D.ltb]; omega
      rw [e4] at h
      exact YldF.lst h le bx (repL_ints ys) p hn
  · cases e
end Pz
end
section
set_option Elab.async false
set_option linter.all false
set_option maxRecDepth 100000
namespace Pz
open PySem PySem.Spec PyProof.Rows L2
open PySem.W (alike alikeAll dataLt dataLt_int dataLt_str dataLt_tuple dataLt_all_yes dataLt_all_no eqv_refl_alike keyToksAll keyToks lex_atom)
/-! ### least and greatest of ordered data -/
theorem pyL_map : ∀ l : List D, D.pyL l = l.map D.py
  | [] => rfl
  | d :: l => by rw [D.pyL, pyL_map l]; rfl
section
variable {X : Cx} {pins : List (Addr × Obj)} {σ : L2.St} {H Hs : Hp} {s : Shared} {ρ : List Addr}
mutual
theorem reads_of (I : Inv X pins σ H s) (le : Le Hs H) : ∀ (d : D) (x : V) (v : Value), d.ord = true → Rep X.K Hs ρ d x → RelV x v → ∃ as, Reads s.heap v d.py as
  | .int i => fun x v ho r rv => by
    cases r
    obtain ⟨t, rfl⟩ := rv
    exact ⟨_, .int i t⟩
  | .str l => fun x v ho r rv => by
    cases r
    obtain ⟨t, rfl⟩ := rv
    exact ⟨_, .str _ t⟩
  | .tup l => fun x v ho r rv => by
    cases r with
    | @tup _ a xs h rr =>
      cases rv
      obtain ⟨its, rvv, ⟨o, ho', hc, n, hd⟩, _⟩ := I.tuple (SqT.of (le.tup h))
      obtain ⟨as, ha⟩ := readsL_of I le l xs its (by simpa [D.ord] using ho) rr rvv
      exact ⟨as, by rw [D.py]; exact .tuple ho' hc hd (by simpa using ha)⟩
  | .lst l => fun x v ho r rv => by
    cases r with
    | @lst _ a xs h rr =>
      cases rv
      obtain ⟨its, rvv, p, _⟩ := I.list (SqL.of (le.lst h))
      obtain ⟨o, ho', hc, n, hd⟩ := p.isList
      obtain ⟨as, ha⟩ := readsL_of I le l xs its (by simpa [D.ord] using ho) rr rvv
      exact ⟨_, by rw [D.py]; exact .list ho' hc hd (by simpa using ha)⟩
  | .non => fun x v ho r rv => by simp [D.ord] at ho
  | .bl _ => fun x v ho r rv => by simp [D.ord] at ho
  | .dic _ _ => fun x v ho r rv => by simp [D.ord] at ho
  | .box _ => fun x v ho r rv => by simp [D.ord] at ho
  | .fn _ => fun x v ho r rv => by simp [D.ord] at ho
  | .scr _ => fun x v ho r rv => by simp [D.ord] at ho
theorem readsL_of (I : Inv X pins σ H s) (le : Le Hs H) : ∀ (l : List D) (xs : List V) (vs : List Value), D.ordL l = true → RepL X.K Hs ρ l xs → Vals xs vs → ∃ as, ReadsAll s.heap vs (D.pyL l) as
  | [] => fun xs vs ho r rv => by
    cases r
    cases rv
    exact ⟨_, .nil⟩
  | d :: l => fun xs vs ho r rv => by
    cases r with
    | cons rd rl =>
      cases rv with
      | cons vd vl =>
        rw [D.ordL, Bool.and_eq_true] at ho
        obtain ⟨as, h1⟩ := reads_of I le d _ _ ho.1 rd vd
        obtain ⟨bs, h2⟩ := readsL_of I le l _ _ ho.2 rl vl
        exact ⟨_, .cons h1 h2⟩
end
end
mutual
theorem alike_self : ∀ d : D, d.ord = true → alike d.py d.py = true
  | .int _, _ => by simp [D.py, alike]
  | .str _, _ => by simp [D.py, alike]
  | .tup l, h => by rw [D.py, alike]; exact alikeL_self l (by simpa [D.ord] using h)
  | .lst l, h => by rw [D.py, alike]; exact alikeL_self l (by simpa [D.ord] using h)
  | .non, h => by simp [D.ord] at h
  | .bl _, h => by simp [D.ord] at h
  | .dic _ _, h => by simp [D.ord] at h
  | .box _, h => by simp [D.ord] at h
  | .fn _, h => by simp [D.ord] at h
  | .scr _, h => by simp [D.ord] at h
theorem alikeL_self : ∀ l : List D, D.ordL l = true → alikeAll (D.pyL l) (D.pyL l) = true
  | [], _ => by simp [D.pyL, alikeAll]
  | d :: l, h => by
    rw [D.ordL, Bool.and_eq_true] at h
    rw [D.pyL, alikeAll, alike_self d h.1, alikeL_self l h.2]; rfl
end
mutual
theorem alike_of : ∀ a b : D, a.ord = true → b.ord = true → D.cmp a b = true → alike a.py b.py = true
  | .int _, b, ha, hb, h => by cases b <;> simp [D.cmp] at h; simp [D.py, alike]
  | .str _, b, ha, hb, h => by cases b <;> simp [D.cmp] at h; simp [D.py, alike]
  | .tup l, b, ha, hb, h => by
    cases b with
    | tup m =>
      rw [D.py, D.py, alike]
      exact alikeL_of l m (by simpa [D.ord] using ha) (by simpa [D.ord] using hb) (by simpa [D.cmp] using h)
    | _ => simp [D.cmp] at h
  | .lst l, b, ha, hb, h => by cases b <;> simp [D.cmp] at h
  | .non, b, ha, hb, h => by simp [D.ord] at ha
  | .bl _, b, ha, hb, h => by simp [D.ord] at ha
  | .dic _ _, b, ha, hb, h => by simp [D.ord] at ha
  | .box _, b, ha, hb, h => by simp [D.ord] at ha
  | .fn _, b, ha, hb, h => by simp [D.ord] at ha
  | .scr _, b, ha, hb, h => by simp [D.ord] at ha
theorem alikeL_of : ∀ l m : List D, D.ordL l = true → D.ordL m = true → D.cmpL l m = true → alikeAll (D.pyL l) (D.pyL m) = true
  | [], m, ha, hb, h => by cases m <;> simp [D.pyL, alikeAll]
  | a :: l, [], ha, hb, h => by simp [D.pyL, alikeAll]
  | a :: l, b :: m, ha, hb, h => by
    rw [D.ordL, Bool.and_eq_true] at ha hb
    rw [D.cmpL, Bool.and_eq_true, Bool.or_eq_true] at h
    rw [D.pyL, D.pyL, alikeAll, Bool.and_eq_true]
    refine ⟨?_, alikeL_of l m ha.2 hb.2 h.2⟩
    rcases h.1 with q | q
    · have := (eqv_ord ha.1 hb.1).1 q
      subst this
      exact alike_self a ha.1
    · exact alike_of a b ha.1 hb.1 q
end
mutual
theorem eqv_py : ∀ a b : D, a.ord = true → b.ord = true → PyData.eqv a.py b.py = D.eqv a b
  | .int _, b, ha, hb => by cases b <;> simp [D.ord] at hb <;> simp [D.py, PyData.eqv, D.eqv]
  | .str x, b, ha, hb => by
    cases b <;> simp [D.ord] at hb <;> simp [D.py, PyData.eqv, D.eqv]
    rename_i y
    by_cases h : x = y
    · subst h; rw [beq_self_eq_true, beq_self_eq_true]
    · have : ¬ mk x = mk y := fun e => h (mk_inj e)
      rw [beq_eq_false_iff_ne.2 h, beq_eq_false_iff_ne.2 this]
  | .tup l, b, ha, hb => by
    cases b <;> simp [D.ord] at hb <;> simp [D.py, PyData.eqv, D.eqv]
    exact eqvL_py l _ (by simpa [D.ord] using ha) hb
  | .lst l, b, ha, hb => by
    cases b <;> simp [D.ord] at hb <;> simp [D.py, PyData.eqv, D.eqv]
    exact eqvL_py l _ (by simpa [D.ord] using ha) hb
  | .non, b, ha, hb => by simp [D.ord] at ha
  | .bl _, b, ha, hb => by simp [D.ord] at ha
  | .dic _ _, b, ha, hb => by simp [D.ord] at ha
  | .box _, b, ha, hb => by simp [D.ord] at ha
  | .fn _, b, ha, hb => by simp [D.ord] at ha
  | .scr _, b, ha, hb => by simp [D.ord] at ha
theorem eqvL_py : ∀ l m : List D, D.ordL l = true → D.ordL m = true → PyData.eqvAll (D.pyL l) (D.pyL m) = D.eqvL l m
  | [], m, ha, hb => by cases m <;> simp [D.pyL, PyData.eqvAll, D.eqvL]
  | a :: l, [], ha, hb => by simp [D.pyL, PyData.eqvAll, D.eqvL]
  | a :: l, b :: m, ha, hb => by
    rw [D.ordL, Bool.and_eq_true] at ha hb
    rw [D.pyL, D.pyL, PyData.eqvAll, D.eqvL, eqv_py a b ha.1 hb.1, eqvL_py l m ha.2 hb.2]
end
mutual
theorem lt_py : ∀ a b : D, a.ord = true → b.ord = true → D.cmp a b = true → dataLt a.py b.py = D.ltb a b
  | .int _, b, ha, hb, h => by cases b <;> simp [D.cmp] at h; simp only [D.py, D.ltb]; exact dataLt_int _ _
  | .str _, b, ha, hb, h => by cases b <;> simp [D.cmp] at h; simp only [D.py, D.ltb]; rw [ltS_lex]; exact dataLt_str _ _
  | .tup l, b, ha, hb, h => by
    cases b with
    | tup m =>
      rw [D.py, D.py, dataLt_tuple, D.ltb]
      exact ltL_py l m (by simpa [D.ord] using ha) (by simpa [D.ord] using hb) (by simpa [D.cmp] using h)
    | _ => simp [D.cmp] at h
  | .lst l, b, ha, hb, h => by cases b <;> simp [D.cmp] at h
  | .non, b, ha, hb, h => by simp [D.ord] at ha
  | .bl _, b, ha, hb, h => by simp [D.ord] at ha
  | .dic _ _, b, ha, hb, h => by simp [D.ord] at ha
  | .box _, b, ha, hb, h => by simp [D.ord] at ha
  | .fn _, b, ha, hb, h => by simp [D.ord] at ha
  | .scr _, b, ha, hb, h => by simp [D.ord] at ha
theorem ltL_py : ∀ l m : List D, D.ordL l = true → D.ordL m = true → D.cmpL l m = true → PyProof.Rows.lexLt itemOrd (keyToksAll (D.pyL l)) (keyToksAll (D.pyL m)) = D.ltbL l m
  | [], [], ha, hb, h => by
    rw [D.pyL, D.ltbL]
    decide +kernel
  | [], b :: m, ha, hb, h => by
    rw [D.pyL, D.pyL, D.ltbL, keyToksAll, keyToksAll]
    rw [lex_atom (by simp)]
    decide +kernel
  | a :: l, [], ha, hb, h => by
    rw [D.pyL, D.pyL, D.ltbL, keyToksAll, keyToksAll]
    rw [lex_atom (by simp)]
    decide +kernel
  | a :: l, b :: m, ha, hb, h => by
    rw [D.ordL, Bool.and_eq_true] at ha hb
    rw [D.cmpL, Bool.and_eq_true, Bool.or_eq_true] at h
    rw [D.pyL, D.pyL, D.ltbL]
    have he := eqv_py a b ha.1 hb.1
    by_cases g : D.eqv a b = true
    · rw [if_pos g]
      have := (eqv_ord ha.1 hb.1).1 g
      subst this
      rw [dataLt_all_yes (alike_self a ha.1) (he.trans g)]
      exact ltL_py l m ha.2 hb.2 h.2
    · rw [if_neg g]
      have hc : D.cmp a b = true := h.1.resolve_left g
      rw [dataLt_all_no (alike_of a b ha.1 hb.1 hc) (he.trans (by simpa using g))]
      exact lt_py a b ha.1 hb.1 hc
end
mutual
theorem py_dep : ∀ d : D, d.ord = true → d.py.depth ≤ d.dep
  | .int _, _ => by simp [D.py, PyData.depth]
  | .str _, _ => by simp [D.py, PyData.depth]
  | .tup l, h => by
    have := pyL_dep l (by simpa [D.ord] using h)
    rw [D.py, PyData.depth, D.dep]; omega
  | .lst l, h => by
    have := pyL_dep l (by simpa [D.ord] using h)
    rw [D.py, PyData.depth, D.dep]; omega
  | .non, h => by simp [D.ord] at h
  | .bl _, h => by simp [D.ord] at h
  | .dic _ _, h => by simp [D.ord] at h
  | .box _, h => by simp [D.ord] at h
  | .fn _, h => by simp [D.ord] at h
  | .scr _, h => by simp [D.ord] at h
theorem pyL_dep : ∀ l : List D, D.ordL l = true → PyData.depthAll (D.pyL l) ≤ D.depL l
  | [], _ => by simp [D.pyL, PyData.depthAll]
  | d :: l, h => by
    rw [D.ordL, Bool.and_eq_true] at h
    have h1 := py_dep d h.1
    have h2 := pyL_dep l h.2
    rw [D.pyL, PyData.depthAll, D.depL]; omega
end
theorem py_inj {a b : D} (ha : a.ord = true) (hb : b.ord = true) (h : a.py = b.py) : a = b := by
  have h1 := eqv_py a b ha hb
  rw [h] at h1
  have h2 : PyData.eqv b.py b.py = true := eqv_refl_alike _ (alike_self b hb)
  rw [h2] at h1
  exact (eqv_ord ha hb).1 h1.symm
theorem py_none {d : D} (h : d.ord = true) : d.py ≠ .none := by
  cases d <;> simp [D.ord] at h <;> simp [D.py]
theorem fold_mem {l : List D} (f : D → D → D) (hf : ∀ m x, f m x = m ∨ f m x = x) : ∀ (d : D), l.foldl f d = d ∨ l.foldl f d ∈ l := by
  induction l with
  | nil => intro d; exact .inl rfl
  | cons a l ih =>
    intro d
    rw [List.foldl_cons]
    rcases ih (f d a) with h | h
    · rcases hf d a with q | q
      · exact .inl (by rw [h, q])
      · exact .inr (by rw [h, q]; exact List.mem_cons_self)
    · exact .inr (List.mem_cons_of_mem _ h)
theorem mnF_or (m x : D) : mnF m x = m ∨ mnF m x = x := by unfold mnF; split <;> simp
theorem mxF_or (m x : D) : mxF m x = m ∨ mxF m x = x := by unfold mxF; split <;> simp
theorem minD_py : ∀ (l : List D) (d : D), OrdAll (d :: l) → PySem.W.minD d.py (D.pyL l) = (l.foldl mnF d).py
  | [], d, o => rfl
  | a :: l, d, o => by
    have hd := o.ord d (by simp)
    have ha := o.ord a (by simp)
    have hc := o.cmp a (by simp) d (by simp)
    have e : (if dataLt a.py d.py then a.py else d.py) = (mnF d a).py := by
      rw [lt_py a d ha hd hc]
      unfold mnF
      split <;> rfl
    show PySem.W.minD (if dataLt a.py d.py then a.py else d.py) (D.pyL l) = ((l.foldl mnF (mnF d a))).py
    rw [e]
    refine minD_py l (mnF d a) (o.sub fun x hx => ?_)
    rcases List.mem_cons.1 hx with rfl | hx
    · rcases mnF_or d a with q | q <;> rw [q] <;> simp
    · simp [hx]
theorem maxD_py : ∀ (l : List D) (d : D), OrdAll (d :: l) → PySem.W.maxD d.py (D.pyL l) = (l.foldl mxF d).py
  | [], d, o => rfl
  | a :: l, d, o => by
    have hd := o.ord d (by simp)
    have ha := o.ord a (by simp)
    have hc := o.cmp d (by simp) a (by simp)
    have e : (if dataLt d.py a.py then a.py else d.py) = (mxF d a).py := by
      rw [lt_py d a hd ha hc]
      unfold mxF
      split <;> rfl
    show PySem.W.maxD (if dataLt d.py a.py then a.py else d.py) (D.pyL l) = ((l.foldl mxF (mxF d a))).py
    rw [e]
    refine maxD_py l (mxF d a) (o.sub fun x hx => ?_)
    rcases List.mem_cons.1 hx with rfl | hx
    · rcases mxF_or d a with q | q <;> rw [q] <;> simp
    · simp [hx]
theorem ordOk_of {l : List D} (h : ordOk l = true) : OrdAll l ∧ D.ordL l = true ∧ D.depL l ≤ 60 := by
  unfold ordOk at h
  rw [Bool.and_eq_true, Bool.and_eq_true, decide_eq_true_eq] at h
  exact ⟨OrdAll.of h.1.1 h.1.2, h.1.1, h.2⟩
theorem alikeAll_of {l : List D} (o : OrdAll l) : PySem.W.AlikeAll (D.pyL l) := by
  rw [pyL_map]
  refine ⟨fun x hx y hy => ?_, fun x hx => ?_⟩
  · obtain ⟨a, ha, rfl⟩ := List.mem_map.1 hx
    obtain ⟨b, hb, rfl⟩ := List.mem_map.1 hy
    exact alike_of a b (o.ord a ha) (o.ord b hb) (o.cmp a ha b hb)
  · obtain ⟨a, ha, rfl⟩ := List.mem_map.1 hx
    exact py_none (o.ord a ha)
section
open PySem.W
variable {prog : Program} {w : World} {A : Around} {E : Value → Shared → Prop} {s : Shared}
theorem min2H {a b : Value} {Q : Value → Shared → Prop}
    (h : wpAny (model prog w) A.in1 (pyIter (.ref s.heap.objs.size)) (fun it s₂ => ∃ I fp wr G n P St H bt, it = .ref I ∧ WalksS prog w A.in1 I fp wr G n P St ∧ St 0 s₂ ∧ (∀ b ∈ fp, b < s₂.heap.objs.size) ∧ 0 < n ∧
      (∀ b o, H.get? b = some o → b ∉ wr) ∧ (∀ b o, H.get? b = some o → s₂.heap.get? b = some o) ∧ CmpIn prog w A.in1 .Lt H P bt ∧ ∀ v s', P (argBest bt (n - 1)) v → Moved wr G s₂ s' → Q v s') E { s with heap := s.heap.push { cls := .type "tuple", data := .seq #[a, b] } }) :
    wpAny (model prog w) A (call (.builtin "min") [a, b]) Q E s := by
  have hname : (toString "min" ++ toString ".loop" : String) = "min.loop" := by decide
  refine call_function_tree F.kind_min F.plain_min F.entry_min (F.args_min2 _ _) ?_
  show wpAny _ A.in1 (Builtin.Builtins.bindParams "min" ["key", "default"] 0 ⟨[], []⟩ >>= _) _ _ s
  refine wpAny_bind (wpAny_of_eq (show Builtin.Builtins.bindParams "min" ["key", "default"] 0 ⟨[], []⟩ = pure [none, none] from rfl) ?_)
  show wpAny _ A.in1 (newTuple [a, b] >>= _) _ _ s
  refine wpAny_bind (wpAny_newObj_type ?_)
  refine wpAny_bind (wpAny_mono h (fun it s₂ h₂ => ?_) fun _ _ e => e)
  obtain ⟨I, fp, wr, G, n, P, St, H, bt, rfl, W, hst, hfp, hn, hw, hkeep, hcmp, hQ⟩ := h₂
  refine wpAny_bind (wpAny_newObj_type ?_)
  have hSf : s₂.heap.objs.size ∉ fp := fun hm => Nat.lt_irrefl _ (hfp _ hm)
  rw [hname]
  refine wpAny_pure ⟨plainId_quiet F.plain_min_loop _, codeAny_min_loop_firstH W H hw bt hcmp s₂.heap.objs.size hSf (fresh_in hkeep) _ hn (fun b o e => Heap.get?_push_of_some _ (hkeep b o e)) (W.frame 0 s₂ _ s₂.toks hst (Nat.le_refl _) fun b _ o e => Heap.get?_push_of_some _ e) (Heap.get?_push_size _ rfl) fun v s' hP hm => ?_⟩
  exact hQ v s' hP (Moved.drop_new (tk := s₂.toks) hm (Nat.le_refl _))
theorem max2H {a b : Value} {Q : Value → Shared → Prop}
    (h : wpAny (model prog w) A.in1 (pyIter (.ref s.heap.objs.size)) (fun it s₂ => ∃ I fp wr G n P St H bt, it = .ref I ∧ WalksS prog w A.in1 I fp wr G n P St ∧ St 0 s₂ ∧ (∀ b ∈ fp, b < s₂.heap.objs.size) ∧ 0 < n ∧
      (∀ b o, H.get? b = some o → b ∉ wr) ∧ (∀ b o, H.get? b = some o → s₂.heap.get? b = some o) ∧ CmpIn prog w A.in1 .Gt H P bt ∧ ∀ v s', P (argBest bt (n - 1)) v → Moved wr G s₂ s' → Q v s') E { s with heap := s.heap.push { cls := .type "tuple", data := .seq #[a, b] } }) :
    wpAny (model prog w) A (call (.builtin "max") [a, b]) Q E s := by
  have hname : (toString "max" ++ toString ".loop" : String) = "max.loop" := by decide
  refine call_function_tree F.kind_max F.plain_max F.entry_max (F.args_max2 _ _) ?_
  show wpAny _ A.in1 (Builtin.Builtins.bindParams "max" ["key", "default"] 0 ⟨[], []⟩ >>= _) _ _ s
  refine wpAny_bind (wpAny_of_eq (show Builtin.Builtins.bindParams "max" ["key", "default"] 0 ⟨[], []⟩ = pure [none, none] from rfl) ?_)
  show wpAny _ A.in1 (newTuple [a, b] >>= _) _ _ s
  refine wpAny_bind (wpAny_newObj_type ?_)
  refine wpAny_bind (wpAny_mono h (fun it s₂ h₂ => ?_) fun _ _ e => e)
  obtain ⟨I, fp, wr, G, n, P, St, H, bt, rfl, W, hst, hfp, hn, hw, hkeep, hcmp, hQ⟩ := h₂
  refine wpAny_bind (wpAny_newObj_type ?_)
  have hSf : s₂.heap.objs.size ∉ fp := fun hm => Nat.lt_irrefl _ (hfp _ hm)
  rw [hname]
  refine wpAny_pure ⟨plainId_quiet F.plain_max_loop _, codeAny_max_loop_firstH W H hw bt hcmp s₂.heap.objs.size hSf (fresh_in hkeep) _ hn (fun b o e => Heap.get?_push_of_some _ (hkeep b o e)) (W.frame 0 s₂ _ s₂.toks hst (Nat.le_refl _) fun b _ o e => Heap.get?_push_of_some _ e) (Heap.get?_push_size _ rfl) fun v s' hP hm => ?_⟩
  exact hQ v s' hP (Moved.drop_new (tk := s₂.toks) hm (Nat.le_refl _))
theorem min2_data {a b : Value} {x y : PyData} {as : List Addr} {Q : Value → Shared → Prop} (hh : A.handled = none) (hr : ReadsAll s.heap [a, b] [x, y] as) (ha : AlikeAll [x, y]) (hu : A.units + 1 + PyData.depthAll [x, y] < cLine)
    (h : ∀ (i : Nat) v h' tk bs, [a, b][i]? = some v → Reads h' v (minD x [y]) bs → (∀ b o, s.heap.get? b = some o → h'.get? b = some o) → Q v { s with heap := h', toks := tk }) :
    wpAny (model prog w) A (call (.builtin "min") [a, b]) Q E s := by
  have k0 : ∀ c o, s.heap.get? c = some o → (s.heap.push { cls := .type "tuple", data := .seq #[a, b] }).get? c = some o := fun c o e => Heap.get?_push_of_some _ e
  have hr1 : ReadsAll (s.heap.push { cls := .type "tuple", data := .seq #[a, b] }) [a, b] [x, y] as := ReadsAll.keeps k0 hr
  have hl : Heap.IsTuple (s.heap.push { cls := .type "tuple", data := .seq #[a, b] }) s.heap.objs.size #[a, b] := ⟨_, Heap.get?_push_size _ rfl, rfl, 0, rfl⟩
  refine min2H (iter_tupleW (A := A.in1) (s := { s with heap := s.heap.push { cls := .type "tuple", data := .seq #[a, b] } }) hh hl fun s₂ e W st hfp hw hk => ?_)
  refine ⟨_, _, _, _, _, _, _, s.heap.push { cls := .type "tuple", data := .seq #[a, b] }, _, rfl, W, st, hfp, by simp, hw, hk, cmpIn_lt (A := A.in1) (s := { s with heap := s.heap.push { cls := .type "tuple", data := .seq #[a, b] } }) hr1 ha (by show A.units + 1 + _ < _; exact hu), fun v s' hP m => ?_⟩
  obtain ⟨h', tk, rfl, hk'⟩ := moved_old e rfl m
  obtain ⟨bs, r, _, _, _⟩ := readsAll_atA (vs := #[a, b]) hr1 _ v hP
  have e2 := (argBest_fold dataLt PyData.none x [y] [y].length (Nat.le_refl _)).2
  rw [List.take_length] at e2
  exact h _ v h' tk bs (by simpa using hP) (reads_keeps hk' (by unfold minD; rw [← e2]; exact r)) fun c o q => hk' c o (k0 c o q)
theorem max2_data {a b : Value} {x y : PyData} {as : List Addr} {Q : Value → Shared → Prop} (hh : A.handled = none) (hr : ReadsAll s.heap [a, b] [x, y] as) (ha : AlikeAll [x, y]) (hu : A.units + 1 + PyData.depthAll [x, y] < cLine)
    (h : ∀ (i : Nat) v h' tk bs, [a, b][i]? = some v → Reads h' v (maxD x [y]) bs → (∀ b o, s.heap.get? b = some o → h'.get? b = some o) → Q v { s with heap := h', toks := tk }) :
    wpAny (model prog w) A (call (.builtin "max") [a, b]) Q E s := by
  have k0 : ∀ c o, s.heap.get? c = some o → (s.heap.push { cls := .type "tuple", data := .seq #[a, b] }).get? c = some o := fun c o e => Heap.get?_push_of_some _ e
  have hr1 : ReadsAll (s.heap.push { cls := .type "tuple", data := .seq #[a, b] }) [a, b] [x, y] as := ReadsAll.keeps k0 hr
  have hl : Heap.IsTuple (s.heap.push { cls := .type "tuple", data := .seq #[a, b] }) s.heap.objs.size #[a, b] := ⟨_, Heap.get?_push_size _ rfl, rfl, 0, rfl⟩
  refine max2H (iter_tupleW (A := A.in1) (s := { s with heap := s.heap.push { cls := .type "tuple", data := .seq #[a, b] } }) hh hl fun s₂ e W st hfp hw hk => ?_)
  refine ⟨_, _, _, _, _, _, _, s.heap.push { cls := .type "tuple", data := .seq #[a, b] }, _, rfl, W, st, hfp, by simp, hw, hk, cmpIn_gt (A := A.in1) (s := { s with heap := s.heap.push { cls := .type "tuple", data := .seq #[a, b] } }) hr1 ha (by show A.units + 1 + _ < _; exact hu), fun v s' hP m => ?_⟩
  obtain ⟨h', tk, rfl, hk'⟩ := moved_old e rfl m
  obtain ⟨bs, r, _, _, _⟩ := readsAll_atA (vs := #[a, b]) hr1 _ v hP
  have e2 := (argBest_fold (fun p q => dataLt q p) PyData.none x [y] [y].length (Nat.le_refl _)).2
  rw [List.take_length] at e2
  exact h _ v h' tk bs (by simpa using hP) (reads_keeps hk' (by unfold maxD; rw [← e2]; exact r)) fun c o q => hk' c o (k0 c o q)
end
section
variable {X : Cx}
theorem pick_rep {pins : List (Addr × Obj)} {σ : L2.St} {H Hs : Hp} {s : Shared} {ρ : List Addr} {h' : Heap} {ds : List D} {xs : List V} {its : List Value} {i : Nat} {v : Value} {m : D} {bs : List Addr} (I : Inv X pins σ H s) (le : Le Hs H)
    (o : OrdAll ds) (rr : RepL X.K Hs ρ ds xs) (rv : Vals xs its) (hv : its[i]? = some v) (hm : m ∈ ds) (hr : Reads h' v m.py bs) (hk : ∀ b o, s.heap.get? b = some o → h'.get? b = some o) : ∃ x, RelV x v ∧ Rep X.K Hs ρ m x := by
  have hi : i < ds.length := by
    have h1 := (List.getElem?_eq_some_iff.mp hv).1
    have h2 := rv.length
    have h3 := rr.length
    omega
  obtain ⟨x, hx, rx⟩ := rr.get (List.getElem?_eq_getElem hi)
  obtain ⟨u, hu, ru⟩ := rv.get hx
  rw [hv] at hu
  cases hu
  obtain ⟨as, h4⟩ := reads_of I le ds[i] x v (o.ord _ (List.getElem_mem hi)) rx ru
  have h5 := PySem.W.reads_keeps hk h4
  have h6 := PySem.W.alike_unique _ _ _ _ _ (alike_of _ _ (o.ord _ (List.getElem_mem hi)) (o.ord _ hm) (o.cmp _ (List.getElem_mem hi) _ hm)) h5 hr
  have h7 := py_inj (o.ord _ (List.getElem_mem hi)) (o.ord _ hm) h6
  rw [h7] at rx
  exact ⟨x, ru, rx⟩
theorem bi_mng_ok (hu : X.A.units + 70 < cLine) (hc : X.calm = true) : CallR X (.builtin "min") (rBi X.K .mng) := by
  rintro pins s σ H vs us Q I rv ⟨Hs, ρ, B, ds, d, le, bx, r, e, h⟩
  have e : bi_mng ds = some d := e
  unfold bi_mng at e
  split at e
  · rename_i d0 l _
    obtain ⟨x, rfl, rx⟩ := one_of r
    obtain ⟨a, xs, rfl, ha, rr⟩ := rx.lst le
    obtain ⟨hok, rfl⟩ := cons_ite e
    obtain ⟨o, ho, hd⟩ := ordOk_of hok
    obtain ⟨its, rvv, hl, hz⟩ := I.list (SqL.of ha)
    rw [Vals.ref1 rv]
    obtain ⟨as, hr⟩ := readsL_of I le (d0 :: l) xs its ho rr rvv
    have hmem : l.foldl mnF d0 ∈ d0 :: l := by
      rcases fold_mem mnF mnF_or d0 with q | q
      · rw [q]; exact List.mem_cons_self
      · exact List.mem_cons_of_mem _ q
    refine PySem.W.min_list_data (I.ok.hd hc) hl.isList (x := d0.py) (xs := D.pyL l) (as := as) (by simpa [D.pyL] using hr) (by have := alikeAll_of o; rwa [D.pyL] at this) (by have := py_depthL (d0 :: l); rw [D.pyL] at this; omega) fun i v h' tk bs hv hrd hk => ?_
    rw [minD_py l d0 o] at hrd
    obtain ⟨y, ry, rep⟩ := pick_rep I le o rr rvv (by simpa using hv) hmem hrd hk
    exact ⟨y, H, I.kept (t' := tk) hk, ry, h.here le bx rep⟩
  · rename_i d0 l _
    obtain ⟨x, rfl, rx⟩ := one_of r
    obtain ⟨a, xs, rfl, ha, rr⟩ := rx.tup le
    obtain ⟨hok, rfl⟩ := cons_ite e
    obtain ⟨o, ho, hd⟩ := ordOk_of hok
    obtain ⟨its, rvv, hl, hz⟩ := I.tuple (SqT.of ha)
    rw [Vals.ref1 rv]
    obtain ⟨as, hr⟩ := readsL_of I le (d0 :: l) xs its ho rr rvv
    have hmem : l.foldl mnF d0 ∈ d0 :: l := by
      rcases fold_mem mnF mnF_or d0 with q | q
      · rw [q]; exact List.mem_cons_self
      · exact List.mem_cons_of_mem _ q
    refine PySem.W.min_tuple_data (I.ok.hd hc) (show s.heap.IsTuple a its.toArray from hl) (x := d0.py) (xs := D.pyL l) (as := as) (by simpa [D.pyL] using hr) (by have := alikeAll_of o; rwa [D.pyL] at this) (by have := py_depthL (d0 :: l); rw [D.pyL] at this; omega) fun i v h' tk bs hv hrd hk => ?_
    rw [minD_py l d0 o] at hrd
    obtain ⟨y, ry, rep⟩ := pick_rep I le o rr rvv (by simpa using hv) hmem hrd hk
    exact ⟨y, H, I.kept (t' := tk) hk, ry, h.here le bx rep⟩
  · cases e
theorem bi_mxg_ok (hu : X.A.units + 70 < cLine) (hc : X.calm = true) : CallR X (.builtin "max") (rBi X.K .mxg) := by
  rintro pins s σ H vs us Q I rv ⟨Hs, ρ, B, ds, d, le, bx, r, e, h⟩
  have e : bi_mxg ds = some d := e
  unfold bi_mxg at e
  split at e
  · rename_i d0 l _
    obtain ⟨x, rfl, rx⟩ := one_of r
    obtain ⟨a, xs, rfl, ha, rr⟩ := rx.lst le
    obtain ⟨hok, rfl⟩ := cons_ite e
    obtain ⟨o, ho, hd⟩ := ordOk_of hok
    obtain ⟨its, rvv, hl, hz⟩ := I.list (SqL.of ha)
    rw [Vals.ref1 rv]
    obtain ⟨as, hr⟩ := readsL_of I le (d0 :: l) xs its ho rr rvv
    have hmem : l.foldl mxF d0 ∈ d0 :: l := by
      rcases fold_mem mxF mxF_or d0 with q | q
      · rw [q]; exact List.mem_cons_self
      · exact List.mem_cons_of_mem _ q
    refine PySem.W.max_list_data (I.ok.hd hc) hl.isList (x := d0.py) (xs := D.pyL l) (as := as) (by simpa [D.pyL] using hr) (by have := alikeAll_of o; rwa [D.pyL] at this) (by have := py_depthL (d0 :: l); rw [D.pyL] at this; omega) fun i v h' tk bs hv hrd hk => ?_
    rw [maxD_py l d0 o] at hrd
    obtain ⟨y, ry, rep⟩ := pick_rep I le o rr rvv (by simpa using hv) hmem hrd hk
    exact ⟨y, H, I.kept (t' := tk) hk, ry, h.here le bx rep⟩
  · rename_i d0 l _
    obtain ⟨x, rfl, rx⟩ := one_of r
    obtain ⟨a, xs, rfl, ha, rr⟩ := rx.tup le
    obtain ⟨hok, rfl⟩ := cons_ite e
    obtain ⟨o, ho, hd⟩ := ordOk_of hok
    obtain ⟨its, rvv, hl, hz⟩ := I.tuple (SqT.of ha)
    rw [Vals.ref1 rv]
    obtain ⟨as, hr⟩ := readsL_of I le (d0 :: l) xs its ho rr rvv
    have hmem : l.foldl mxF d0 ∈ d0 :: l := by
      rcases fold_mem mxF mxF_or d0 with q | q
      · rw [q]; exact List.mem_cons_self
      · exact List.mem_cons_of_mem _ q
    refine PySem.W.max_tuple_data (I.ok.hd hc) (show s.heap.IsTuple a its.toArray from hl) (x := d0.py) (xs := D.pyL l) (as := as) (by simpa [D.pyL] using hr) (by have := alikeAll_of o; rwa [D.pyL] at this) (by have := py_depthL (d0 :: l); rw [D.pyL] at this; omega) fun i v h' tk bs hv hrd hk => ?_
    rw [maxD_py l d0 o] at hrd
    obtain ⟨y, ry, rep⟩ := pick_rep I le o rr rvv (by simpa using hv) hmem hrd hk
    exact ⟨y, H, I.kept (t' := tk) hk, ry, h.here le bx rep⟩
  · cases e
theorem bi_mng2_ok (hu : X.A.units + 70 < cLine) (hc : X.calm = true) : CallR X (.builtin "min") (rBi X.K .mng2) := by
  rintro pins s σ H vs us Q I rv ⟨Hs, ρ, B, ds, d, le, bx, r, e, h⟩
  have e : bi_mng2 ds = some d := e
  unfold bi_mng2 at e
  split at e
  · rename_i d0 d1 _
    obtain ⟨x, y, rfl, rx, ry⟩ := two_of r
    obtain ⟨hok, rfl⟩ := cons_ite e
    obtain ⟨o, ho, hd⟩ := ordOk_of hok
    have rx := cmp_repL (o.cmp d0 (by simp) d0 (by simp)) rx
    have ry := cmp_repL (o.cmp d1 (by simp) d1 (by simp)) ry
    obtain ⟨u, w, rfl⟩ : ∃ u w, us = [u, w] := by
      have := rv.length
      match us, this with
      | [u, w], _ => exact ⟨u, w, rfl⟩
    obtain ⟨as, hr⟩ := readsL_of I le [d0, d1] [x, y] [u, w] ho (.cons rx (.cons ry .nil)) rv
    have hmem : mnF d0 d1 ∈ [d0, d1] := by rcases mnF_or d0 d1 with q | q <;> rw [q] <;> simp
    refine min2_data (I.ok.hd hc) (x := d0.py) (y := d1.py) (as := as) (by simpa [D.pyL] using hr) (by have := alikeAll_of o; simpa [D.pyL] using this) (by have := py_depthL [d0, d1]; simp only [D.pyL] at this; omega) fun i v h' tk bs hv hrd hk => ?_
    have e2 := minD_py [d1] d0 o
    simp only [D.pyL] at e2
    rw [e2] at hrd
    obtain ⟨z, rz, rep⟩ := pick_rep I le o (.cons rx (.cons ry .nil)) rv hv hmem hrd hk
    exact ⟨z, H, I.kept (t' := tk) hk, rz, h.here le bx rep⟩
  · cases e
theorem bi_mxg2_ok (hu : X.A.units + 70 < cLine) (hc : X.calm = true) : CallR X (.builtin "max") (rBi X.K .mxg2) := by
  rintro pins s σ H vs us Q I rv ⟨Hs, ρ, B, ds, d, le, bx, r, e, h⟩
  have e : bi_mxg2 ds = some d := e
  unfold bi_mxg2 at e
  split at e
  · rename_i d0 d1 _
    obtain ⟨x, y, rfl, rx, ry⟩ := two_of r
    obtain ⟨hok, rfl⟩ := cons_ite e
    obtain ⟨o, ho, hd⟩ := ordOk_of hok
    have rx := cmp_repL (o.cmp d0 (by simp) d0 (by simp)) rx
    have ry := cmp_repL (o.cmp d1 (by simp) d1 (by simp)) ry
    obtain ⟨u, w, rfl⟩ : ∃ u w, us = [u, w] := by
      have := rv.length
      match us, this with
      | [u, w], _ => exact ⟨u, w, rfl⟩
    obtain ⟨as, hr⟩ := readsL_of I le [d0, d1] [x, y] [u, w] ho (.cons rx (.cons ry .nil)) rv
    have hmem : mxF d0 d1 ∈ [d0, d1] := by rcases mxF_or d0 d1 with q | q <;> rw [q] <;> simp
    refine max2_data (I.ok.hd hc) (x := d0.py) (y := d1.py) (as := as) (by simpa [D.pyL] using hr) (by have := alikeAll_of o; simpa [D.pyL] using this) (by have := py_depthL [d0, d1]; simp only [D.pyL] at this; omega) fun i v h' tk bs hv hrd hk => ?_
    have e2 := maxD_py [d1] d0 o
    simp only [D.pyL] at e2
    rw [e2] at hrd
    obtain ⟨z, rz, rep⟩ := pick_rep I le o (.cons rx (.cons ry .nil)) rv hv hmem hrd hk
    exact ⟨z, H, I.kept (t' := tk) hk, rz, h.here le bx rep⟩
  · cases e
end
end Pz
end
section
set_option Elab.async false
set_option linter.all false
set_option maxRecDepth 100000
namespace Pz
open PySem PySem.Spec PyProof.Rows L2

/-! ### a comprehension of two clauses -/
def del (H : Hp) (D : Addr) : Hp := fun a => if a = D then none else H a
theorem del_ne {H : Hp} {D a : Addr} (h : a ≠ D) : del H D a = H a := if_neg h
theorem del_at {H : Hp} {D : Addr} : del H D D = none := if_pos rfl
theorem del_some {H : Hp} {D a : Addr} {o : HO} (h : del H D a = some o) : a ≠ D ∧ H a = some o := by
  by_cases e : a = D
  · subst e; rw [del_at] at h; cases h
  · rw [del_ne e] at h; exact ⟨e, h⟩
theorem del_none {H : Hp} {D a : Addr} (h : H a = none) : del H D a = none := by
  by_cases e : a = D
  · subst e; exact del_at
  · rw [del_ne e]; exact h
section
variable {K : PySem.W.Frag} {Hs Hs' H H' : Hp} {ρ ρ' : List Addr} {D : Addr}
theorem Gr.del2 (g : Gr Hs H ρ Hs' H' ρ') : Gr Hs (del H D) ρ Hs' (del H' D) ρ' where
  hs := g.hs
  fr := fun a o h => by
    rcases g.fr a o h with q | q
    · exact .inl q
    · exact .inr (del_none q)
  kp := fun a o h n => by
    obtain ⟨e, h⟩ := del_some h
    rw [del_ne e]; exact g.kp a o h n
  th := fun a o h => by
    obtain ⟨e, h⟩ := del_some h
    rw [del_ne e]; exact g.th a o h
  rp := g.rp
  rn := fun a h => by
    rcases g.rn a h with q | q
    · exact .inl q
    · exact .inr (del_none q)
theorem Gr.delR (g : Gr Hs H ρ Hs' H' ρ') (n : H D = none) : Gr Hs H ρ Hs' (del H' D) ρ' where
  hs := g.hs
  fr := g.fr
  kp := fun a o h k => by rw [del_ne (ne_of_none h n)]; exact g.kp a o h k
  th := fun a o h => by rw [del_ne (ne_of_none h n)]; exact g.th a o h
  rp := g.rp
  rn := g.rn
theorem gr_undel : Gr Hs (del H D) ρ Hs H ρ where
  hs := fun _ _ h => h
  fr := fun a o h => .inl ⟨_, h⟩
  kp := fun a o h _ => (del_some h).2
  th := fun a o h => ⟨_, (del_some h).2⟩
  rp := List.prefix_refl _
  rn := fun a h => .inl h
theorem le_del (l : Le Hs H) (n : Hs D = none) : Le Hs (del H D) := fun a o h => by
  rw [del_ne (ne_of_none h n)]
  exact l a o h
theorem bok_del {B : List Pz.D} (b : BOk K Hs ρ H B) (n : D ∉ ρ) : BOk K Hs ρ (del H D) B := by
  refine ⟨b.len, b.nd, fun m c d e1 e2 => ?_⟩
  obtain ⟨h, hn⟩ := b.at_ m c d e1 e2
  exact ⟨h.mono (Le.refl _) (List.prefix_refl _) (del_ne fun z => n (by rw [← z]; exact List.mem_of_getElem? e1)), hn⟩
theorem wipeS_own : ∀ {vs : List Nat} {σ : Sg} {i : Nat} {d : Pz.D}, (wipeS σ vs)[i]? = some (.own d) → σ[i]? = some (.own d) ∧ i ∉ vs
  | [], _, _, _, h => ⟨h, List.not_mem_nil⟩
  | v :: vs, σ, i, d, h => by
    have h : ((wipeS σ vs).set v .no)[i]? = some (.own d) := h
    rcases set_at h with ⟨_, z⟩ | ⟨z, h⟩
    · cases z
    · obtain ⟨h1, h2⟩ := wipeS_own h
      exact ⟨h1, fun m => (List.mem_cons.mp m).elim (fun e => z e.symm) h2⟩
/-- slots that do not own a place stand without it -/
theorem stt_del {σV : L2.St} {σ : Sg} {B : List Pz.D} (s : Stt K Hs ρ H σV σ B) (n : Hs D = none) (nr : D ∉ ρ) (h : ∀ (i : Nat) (d : Pz.D) (a : Addr), σ[i]? = some (.own d) → σV[i]? = some (some (.ref a)) → a ≠ D) : Stt K Hs ρ (del H D) σV σ B := by
  refine ⟨le_del s.le n, bok_del s.bx nr, s.len, fun i x e => ?_, s.di⟩
  have hx := s.sl i x e
  cases x with
  | no => trivial
  | val d => exact hx
  | own d =>
    obtain ⟨a, ea, o, nb⟩ := s.slotV e
    rw [ea]
    exact ⟨a, rfl, o.mono (Le.refl _) (List.prefix_refl _) (del_ne (h i d a e ea)), nb⟩
/-- the turns of a comprehension that goes on with a list -/
theorem lc_turnsG {α : Type} {Φ : Fn} {tg : Tg} {ic ie : E} {Wi : WX} {W0 : XK} {p : Bool} {J : It} {ds : List Pz.D} {Hs0 Hs1 H0 H1 Hb : Hp} {ρ0 ρ1 : List Addr} {σV : L2.St} {σ : Sg} {B1 : List Pz.D} {f : List Pz.D × List Pz.D → Rs α} {R : α → Prop} {Fin : Hp → Prop} {acc0 : List Pz.D} {accV0 : List V}
    (st : Stt K Hs1 ρ1 H1 σV σ B1) (hit : ItR K p J Hs1 ρ1 H1 ds) (hl : acc0.length + ds.length ≤ ln)
    (out : OutG K W0 Hs0 ρ0 H0 ((lcLoop (lcF Φ tg ic ie σ) ds B1).bind f) R) (hD : H1 D = none)
    (gb : Gr Hs1 H1 ρ1 Hs1 Hb ρ1) (lb : Le Hs1 Hb) (bb : BOk K Hs1 ρ1 Hb B1) (hb : Hb D = some (.lst accV0)) (rb : RepL K Hs1 ρ1 acc0 accV0)
    (fin : ∀ l B H Hs ρ, OutG K W0 Hs0 ρ0 H0 (f (l, B)) R → Gr Hs1 H1 ρ1 Hs H ρ → Le Hs H → BOk K Hs ρ H B → OwnAt K Hs ρ H D (.lst (acc0 ++ l)) → Hs D = none → D ∉ ρ → l.length ≤ ds.length → Fin H) :
    ∃ W : Nat → Nat → Hp → Prop, (∃ m, W 0 m Hb) ∧ ∀ i m H, W i m H →
      (J.stop i H ∧ Fin H) ∨ (J.go i H ∧ ∃ Nx : Hp → Prop, (∀ H', Nx H' → ∃ m', m' < m ∧ W (i + 1) m' H') ∧ ∀ x H', J.yld i H x H' → rdP K tg x (L2.wipe σV tg.names) H' fun σ2 H2 => L2.wipe σ2 tg.names = L2.wipe σV tg.names ∧ rdT K Φ Wi ic σ2 H2 fun b H3 =>
        if b = true then rdE K Φ Wi false ie σ2 H3 fun y H4 => ∃ acc, H4 D = some (.lst acc) ∧ acc.length < sizeLine ∧ Nx (upd H4 D (.lst (acc ++ [y]))) else Nx H3) := by
  have hs0 : Hs1 D = none := st.le.there hD
  have hr0 : D ∉ ρ1 := rho_new hD st.bx
  let Inv_ : Nat → Hp → Prop := fun i H => i ≤ ds.length ∧ ∃ Hs ρ B acc accV, Gr Hs1 H1 ρ1 Hs H ρ ∧ Le Hs H ∧ BOk K Hs ρ H B ∧ H D = some (.lst accV) ∧ Hs D = none ∧ D ∉ ρ ∧ RepL K Hs ρ (acc0 ++ acc) accV ∧ acc.length ≤ i ∧
    OutG K W0 Hs0 ρ0 H0 ((lcLoop (lcF Φ tg ic ie σ) (ds.drop i) B).bind fun r => f (acc ++ r.1, r.2)) R
  refine ⟨fun i m H => m = ds.length - i ∧ Inv_ i H, ⟨_, rfl, Nat.zero_le _, Hs1, ρ1, B1, [], accV0, gb, lb, bb, hb, hs0, hr0, by rw [List.append_nil]; exact rb, Nat.zero_le _, out⟩, ?_⟩
  rintro i m H ⟨rfl, hi, Hs, ρ, B, acc, accV, g, l, b, h1, h2, h3, h4, h5, out⟩
  by_cases he : i = ds.length
  · subst he
    rw [List.drop_length] at out
    have out : OutG K W0 Hs0 ρ0 H0 (f (acc ++ [], B)) R := out
    rw [List.append_nil] at out
    exact .inl ⟨hit.stop _ Hs H ρ (.of g) l (Nat.le_refl _), fin acc B H Hs ρ out g l b ⟨_, h1, h4⟩ h2 h3 h5⟩
  · have hlt : i < ds.length := by omega
    rw [List.drop_eq_getElem_cons hlt] at out
    refine .inr ⟨hit.go i Hs H ρ (.of g) l hlt, fun H' => Inv_ (i + 1) H', fun H' h => ⟨ds.length - (i + 1), by omega, rfl, h⟩, fun x H' hy => ?_⟩
    obtain ⟨Hs2, g2, l2, b2, r2⟩ := hit.yld i Hs H ρ B x H' _ (.of g) l b (List.getElem?_eq_getElem hlt) hy
    have out : OutG K W0 Hs0 ρ0 H0 (((lcF Φ tg ic ie σ ds[i] B).bind fun x => (lcLoop (lcF Φ tg ic ie σ) (ds.drop (i + 1)) x.2).bind fun r => .ok ((match x.1 with | some y => y :: r.1 | none => r.1), r.2)).bind fun r => f (acc ++ r.1, r.2)) R := out
    rw [Rs.bind_bind] at out
    have out : OutG K W0 Hs0 ρ0 H0 (((Rs.of (put tg ds[i] (wipeS σ tg.names))).bind fun σ' => (ev Φ false ic σ' B).bind fun y => Pz.isB y.1 fun k =>
      if k then (ev Φ false ie σ' y.2).bind fun z => .ok (some z.1, z.2) else .ok (none, y.2)).bind fun x => ((lcLoop (lcF Φ tg ic ie σ) (ds.drop (i + 1)) x.2).bind fun r => .ok ((match x.1 with | some y => y :: r.1 | none => r.1), r.2)).bind fun r => f (acc ++ r.1, r.2)) R := out
    rw [Rs.bind_bind] at out
    obtain ⟨σ', hput, out⟩ := OutG.of out
    have hown : OwnAt K Hs ρ H D (.lst (acc0 ++ acc)) := ⟨_, h1, h4⟩
    refine ⟨Hs2, ρ, wipeS σ tg.names, B, _, σ', ((st.grow g l b).grow g2 l2 b2).wipe_ _, r2, hput, fun σV' st' kp => ⟨?_, ?_⟩⟩
    · rw [wipe_set (L2.wipe σV tg.names) tg.names σV' kp.lv kp.v, wipe_wipe]
    rw [Rs.bind_bind] at out
    refine ⟨Hs2, ρ, σ', B, st', OutG.bindC out fun y B3 v H3 Hs3 ρ3 g3 l3 b3 r3 out => ?_⟩
    have hown3 := (g2.trans g3).own hown h2 h3
    have out : OutG K W0 Hs0 ρ0 H0 ((Pz.isB y fun k => if k then (ev Φ false ie σ' B3).bind fun z => Rs.ok (some z.1, z.2) else .ok (none, B3)).bind fun x => ((lcLoop (lcF Φ tg ic ie σ) (ds.drop (i + 1)) x.2).bind fun r => .ok ((match x.1 with | some y => y :: r.1 | none => r.1), r.2)).bind fun r => f (acc ++ r.1, r.2)) R := out
    have hy : ∃ k, y = .bl k := by
      cases y with
      | bl k => exact ⟨k, rfl⟩
      | _ => exact out.elim
    obtain ⟨k, rfl⟩ := hy
    refine ⟨k, bl_of r3, ?_⟩
    cases k with
    | false =>
      rw [if_neg Bool.false_ne_true]
      obtain ⟨⟨accV3, hd3, hr3⟩, hn3, hp3⟩ := hown3
      refine ⟨hlt, Hs3, ρ3, B3, acc, accV3, (g.trans g2).trans g3, l3, b3, hd3, hn3, hp3, hr3, by omega, ?_⟩
      have out : OutG K W0 Hs0 ρ0 H0 (((lcLoop (lcF Φ tg ic ie σ) (ds.drop (i + 1)) B3).bind fun r => Rs.ok (r.1, r.2)).bind fun r => f (acc ++ r.1, r.2)) R := out
      rw [Rs.bind_bind] at out
      exact out
    | true =>
      rw [if_pos rfl]
      have out : OutG K W0 Hs0 ρ0 H0 (((ev Φ false ie σ' B3).bind fun z => Rs.ok (some z.1, z.2)).bind fun x => ((lcLoop (lcF Φ tg ic ie σ) (ds.drop (i + 1)) x.2).bind fun r => .ok ((match x.1 with | some y => y :: r.1 | none => r.1), r.2)).bind fun r => f (acc ++ r.1, r.2)) R := out
      rw [Rs.bind_bind] at out
      refine ⟨Hs3, ρ3, σ', B3, st'.grow g3 l3 b3, OutG.bindC out fun z B4 w H4 Hs4 ρ4 g4 l4 b4 r4 out => ?_⟩
      obtain ⟨⟨accV4, hd4, hr4⟩, hn4, hp4⟩ := ((g2.trans g3).trans g4).own hown h2 h3
      have lenA : accV4.length < sizeLine := by
        rw [← hr4.length, ln_eq, List.length_append]
        omega
      refine ⟨accV4, hd4, lenA, hlt, Hs4, ρ4, B4, acc ++ [z], accV4 ++ [w], ?_, ?_, ?_, upd_same, hn4, hp4, by rw [← List.append_assoc]; exact hr4.append (.cons r4.val .nil), by rw [List.length_append, List.length_singleton]; omega, ?_⟩
      · have gg := ((g.trans g2).trans g3).trans g4
        refine ⟨gg.hs, gg.fr, fun a o q n => ?_, fun a o q => ?_, gg.rp, gg.rn⟩
        · rw [upd_ne (ne_of_none q hD)]
          exact gg.kp a o q n
        · rw [upd_ne (ne_of_none q hD)]
          exact gg.th a o q
      · intro a o q
        rw [upd_ne (ne_of_none q hn4)]
        exact l4 a o q
      · refine ⟨b4.len, b4.nd, fun n a d e1 e2 => ?_⟩
        obtain ⟨h, hn⟩ := b4.at_ n a d e1 e2
        exact ⟨h.mono (Le.refl _) (List.prefix_refl _) (upd_ne fun z => hp4 (by rw [← z]; exact List.mem_of_getElem? e1)), hn⟩
      · have out : OutG K W0 Hs0 ρ0 H0 (((lcLoop (lcF Φ tg ic ie σ) (ds.drop (i + 1)) B4).bind fun r => Rs.ok (z :: r.1, r.2)).bind fun r => f (acc ++ r.1, r.2)) R := out
        rw [Rs.bind_bind] at out
        have e : (fun r : List Pz.D × List Pz.D => (Rs.ok (z :: r.1, r.2)).bind fun r => f (acc ++ r.1, r.2)) = fun r => f (acc ++ [z] ++ r.1, r.2) := by
          funext r
          show f (acc ++ z :: r.1, r.2) = _
          rw [List.append_assoc, List.singleton_append]
        rw [e] at out
        exact out
end
abbrev lcF2 (Φ : Fn) (tg : Tg) (ic : E) (tg2 : Tg) (it2 ic2 ie : E) (σ : Sg) : D → List D → Rs (List D × List D) := fun d B => (Rs.of (put tg d (wipeS σ (tg.names ++ tg2.names)))).bind fun σ' => (ev Φ false ic σ' B).bind fun y => Pz.isB y.1 fun k =>
  if k then (ev Φ false it2 σ' y.2).bind fun z => (Rs.of (itemsOf z.1)).bind fun es => if es.length ≤ 4096 then lcLoop (lcF Φ tg2 ic2 ie σ') es z.2 else .bad
  else .ok ([], y.2)
theorem ItR.low {K : PySem.W.Frag} {J : It} {Hs H H' : Hp} {ρ : List Addr} {ds : List D} (h : ItR K false J Hs ρ H ds) : ItR K false J Hs ρ H' ds where
  go := fun i Hs2 H2 ρ2 c l hi => h.go i Hs2 H2 ρ2 ⟨c.1, c.2.1, fun z => by cases z⟩ l hi
  stop := fun i Hs2 H2 ρ2 c l hi => h.stop i Hs2 H2 ρ2 ⟨c.1, c.2.1, fun z => by cases z⟩ l hi
  yld := fun i Hs2 H2 ρ2 B x H3 d c l b e y => h.yld i Hs2 H2 ρ2 B x H3 d ⟨c.1, c.2.1, fun z => by cases z⟩ l b e y
theorem lc2_turns {K : PySem.W.Frag} {Φ : Fn} {tg tg2 : Tg} {ic it2 ic2 ie : E} {Wi : WX} {W0 : XK} {p : Bool} {J : It} {ds : List D} {Hs0 Hs1 H0 H1 : Hp} {ρ0 ρ1 : List Addr} {σV : L2.St} {σ : Sg} {B1 : List D} {R : D × List D → Prop} {Q : VK}
    (st : Stt K Hs1 ρ1 H1 σV σ B1) (hit : ItR K p J Hs1 ρ1 H1 ds) (hl : ds.length ≤ 4096)
    (out : OutG K W0 Hs0 ρ0 H0 ((lcLoop2 (lcF2 Φ tg ic tg2 it2 ic2 ie σ) ds B1).bind fun r => .ok (.lst r.1, r.2)) R) {D : Addr} (hD : H1 D = none)
    (fin : ∀ l B H Hs ρ, R (.lst l, B) → Gr Hs1 H1 ρ1 Hs H ρ → Le Hs H → BOk K Hs ρ H B → OwnAt K Hs ρ H D (.lst l) → Hs D = none → D ∉ ρ → Q (.ref D) H) :
    ∃ W : Nat → Nat → Hp → Prop, (∃ m, W 0 m (upd H1 D (.lst []))) ∧ ∀ i m H, W i m H →
      (J.stop i H ∧ Q (.ref D) H) ∨ (J.go i H ∧ ∃ Nx : Hp → Prop, (∀ H', Nx H' → ∃ m', m' < m ∧ W (i + 1) m' H') ∧ ∀ x H', J.yld i H x H' → rdP K tg x (L2.wipe σV (tg.names ++ tg2.names)) H' fun σ2 H2 => L2.wipe σ2 (tg.names ++ tg2.names) = L2.wipe σV (tg.names ++ tg2.names) ∧ rdT K Φ Wi ic σ2 H2 fun b H3 =>
        if b = true then rdI K Φ Wi false it2 σ2 H3 fun J1 H4 => ∃ W1 : Nat → Nat → Hp → Prop, (∃ m, W1 0 m H4) ∧ ∀ j k H, W1 j k H →
          (J1.stop j H ∧ Nx H) ∨ (J1.go j H ∧ ∃ Nx1 : Hp → Prop, (∀ H', Nx1 H' → ∃ k', k' < k ∧ W1 (j + 1) k' H') ∧ ∀ x H', J1.yld j H x H' → rdP K tg2 x (L2.wipe σ2 tg2.names) H' fun σ3 H5 => L2.wipe σ3 tg2.names = L2.wipe σ2 tg2.names ∧ rdT K Φ Wi ic2 σ3 H5 fun b H6 =>
            if b = true then rdE K Φ Wi false ie σ3 H6 fun y H7 => ∃ acc, H7 D = some (.lst acc) ∧ acc.length < sizeLine ∧ Nx1 (upd H7 D (.lst (acc ++ [y]))) else Nx1 H6)
        else Nx H3) := by
  have hs0 : Hs1 D = none := st.le.there hD
  have hr0 : D ∉ ρ1 := rho_new hD st.bx
  have hln : ln = 4096 * 4096 := rfl
  let Inv_ : Nat → Hp → Prop := fun i H => i ≤ ds.length ∧ ∃ Hs ρ B acc accV, Gr Hs1 H1 ρ1 Hs H ρ ∧ Le Hs H ∧ BOk K Hs ρ H B ∧ H D = some (.lst accV) ∧ Hs D = none ∧ D ∉ ρ ∧ RepL K Hs ρ acc accV ∧ acc.length ≤ i * 4096 ∧
    OutG K W0 Hs0 ρ0 H0 ((lcLoop2 (lcF2 Φ tg ic tg2 it2 ic2 ie σ) (ds.drop i) B).bind fun r => .ok (.lst (acc ++ r.1), r.2)) R
  refine ⟨fun i m H => m = ds.length - i ∧ Inv_ i H, ⟨_, rfl, Nat.zero_le _, Hs1, ρ1, B1, [], [], gr_new hD, le_new st.le hD, bok_new hD st.bx, upd_same, hs0, hr0, .nil, Nat.zero_le _, out⟩, ?_⟩
  rintro i m H ⟨rfl, hi, Hs, ρ, B, acc, accV, g, l, b, h1, h2, h3, h4, h5, out⟩
  by_cases he : i = ds.length
  · subst he
    rw [List.drop_length] at out
    have out : R (.lst (acc ++ []), B) := out
    rw [List.append_nil] at out
    exact .inl ⟨hit.stop _ Hs H ρ (.of g) l (Nat.le_refl _), fin acc B H Hs ρ out g l b ⟨_, h1, h4⟩ h2 h3⟩
  · have hlt : i < ds.length := by omega
    rw [List.drop_eq_getElem_cons hlt] at out
    refine .inr ⟨hit.go i Hs H ρ (.of g) l hlt, fun H' => Inv_ (i + 1) H', fun H' h => ⟨ds.length - (i + 1), by omega, rfl, h⟩, fun x H' hy => ?_⟩
    obtain ⟨Hs2, g2, l2, b2, r2⟩ := hit.yld i Hs H ρ B x H' _ (.of g) l b (List.getElem?_eq_getElem hlt) hy
    have out : OutG K W0 Hs0 ρ0 H0 (((lcF2 Φ tg ic tg2 it2 ic2 ie σ ds[i] B).bind fun x => (lcLoop2 (lcF2 Φ tg ic tg2 it2 ic2 ie σ) (ds.drop (i + 1)) x.2).bind fun r => .ok (x.1 ++ r.1, r.2)).bind fun r => .ok (.lst (acc ++ r.1), r.2)) R := out
    rw [Rs.bind_bind] at out
    have out : OutG K W0 Hs0 ρ0 H0 (((Rs.of (put tg ds[i] (wipeS σ (tg.names ++ tg2.names)))).bind fun σ' => (ev Φ false ic σ' B).bind fun y => Pz.isB y.1 fun k =>
      if k then (ev Φ false it2 σ' y.2).bind fun z => (Rs.of (itemsOf z.1)).bind fun es => if es.length ≤ 4096 then lcLoop (lcF Φ tg2 ic2 ie σ') es z.2 else .bad
      else .ok ([], y.2)).bind fun x => ((lcLoop2 (lcF2 Φ tg ic tg2 it2 ic2 ie σ) (ds.drop (i + 1)) x.2).bind fun r => .ok (x.1 ++ r.1, r.2)).bind fun r => .ok (.lst (acc ++ r.1), r.2)) R := out
    rw [Rs.bind_bind] at out
    obtain ⟨σ', hput, out⟩ := OutG.of out
    have hown : OwnAt K Hs ρ H D (.lst acc) := ⟨_, h1, h4⟩
    have stw := ((st.grow g l b).grow g2 l2 b2).wipe_ (tg.names ++ tg2.names)
    refine ⟨Hs2, ρ, wipeS σ (tg.names ++ tg2.names), B, _, σ', stw, r2, hput, fun σV' st' kp => ⟨?_, ?_⟩⟩
    · rw [wipe_set (L2.wipe σV (tg.names ++ tg2.names)) (tg.names ++ tg2.names) σV' kp.lv (fun i hi => kp.v i fun z => hi (List.mem_append_left _ z)), wipe_wipe]
    rw [Rs.bind_bind] at out
    refine ⟨Hs2, ρ, σ', B, st', OutG.bindC out fun y B3 v H3 Hs3 ρ3 g3 l3 b3 r3 out => ?_⟩
    have hown2 := g2.own hown h2 h3
    have hown3 := g3.own hown2.1 hown2.2.1 hown2.2.2
    have out : OutG K W0 Hs0 ρ0 H0 ((Pz.isB y fun k => if k then (ev Φ false it2 σ' B3).bind fun z => (Rs.of (itemsOf z.1)).bind fun es => if es.length ≤ 4096 then lcLoop (lcF Φ tg2 ic2 ie σ') es z.2 else .bad else .ok ([], B3)).bind fun x => ((lcLoop2 (lcF2 Φ tg ic tg2 it2 ic2 ie σ) (ds.drop (i + 1)) x.2).bind fun r => .ok (x.1 ++ r.1, r.2)).bind fun r => .ok (.lst (acc ++ r.1), r.2)) R := out
    have hy : ∃ k, y = .bl k := by
      cases y with
      | bl k => exact ⟨k, rfl⟩
      | _ => exact out.elim
    obtain ⟨k, rfl⟩ := hy
    refine ⟨k, bl_of r3, ?_⟩
    cases k with
    | false =>
      rw [if_neg Bool.false_ne_true]
      obtain ⟨⟨accV3, hd3, hr3⟩, hn3, hp3⟩ := hown3
      refine ⟨hlt, Hs3, ρ3, B3, acc, accV3, (g.trans g2).trans g3, l3, b3, hd3, hn3, hp3, hr3, by rw [Nat.succ_mul]; omega, ?_⟩
      have out : OutG K W0 Hs0 ρ0 H0 (((lcLoop2 (lcF2 Φ tg ic tg2 it2 ic2 ie σ) (ds.drop (i + 1)) B3).bind fun r => Rs.ok ([] ++ r.1, r.2)).bind fun r => .ok (.lst (acc ++ r.1), r.2)) R := out
      rw [Rs.bind_bind] at out
      exact out
    | true =>
      rw [if_pos rfl]
      have out : OutG K W0 Hs0 ρ0 H0 (((ev Φ false it2 σ' B3).bind fun z => (Rs.of (itemsOf z.1)).bind fun es => if es.length ≤ 4096 then lcLoop (lcF Φ tg2 ic2 ie σ') es z.2 else .bad).bind fun x => ((lcLoop2 (lcF2 Φ tg ic tg2 it2 ic2 ie σ) (ds.drop (i + 1)) x.2).bind fun r => .ok (x.1 ++ r.1, r.2)).bind fun r => .ok (.lst (acc ++ r.1), r.2)) R := out
      rw [Rs.bind_bind] at out
      -- the slots own no part of the new list
      have hno : ∀ (i : Nat) (d : Pz.D) (a : Addr), σ'[i]? = some (.own d) → σV'[i]? = some (some (.ref a)) → a ≠ D := fun j d a e1 e2 z => by
        subst z
        obtain ⟨e3, n3⟩ := kp.s j d e1
        obtain ⟨e4, n4⟩ := wipeS_own e3
        rw [kp.v j n3, wipe_out n4] at e2
        obtain ⟨a', e5, o, _⟩ := st.slotV e4
        rw [e2] at e5
        cases e5
        obtain ⟨u, hu⟩ := o.some_
        rw [hD] at hu; cases hu
      have stD3 : Stt K Hs3 ρ3 (del H3 D) σV' σ' B3 := stt_del (st'.grow g3 l3 b3) hown3.2.1 hown3.2.2 hno
      refine ⟨Hs3, ρ3, σ', B3, st'.grow g3 l3 b3, ?_⟩
      cases q : ev Φ false it2 σ' B3 with
      | bad => rw [q] at out; exact out
      | ex c ps B => exact exx_any
      | ok z =>
        rw [q] at out
        obtain ⟨es, hes, out⟩ := OutG.of (show OutG K W0 Hs0 ρ0 H0 ((Rs.of (itemsOf z.1)).bind fun es => (if es.length ≤ 4096 then lcLoop (lcF Φ tg2 ic2 ie σ') es z.2 else .bad).bind fun x => ((lcLoop2 (lcF2 Φ tg ic tg2 it2 ic2 ie σ) (ds.drop (i + 1)) x.2).bind fun r => .ok (x.1 ++ r.1, r.2)).bind fun r => .ok (.lst (acc ++ r.1), r.2)) R from by rw [← Rs.bind_bind]; exact out)
        by_cases hle : es.length ≤ 4096
        · rw [if_pos hle] at out
          show OutG K _ Hs3 ρ3 H3 ((Rs.of (itemsOf z.1)).bind fun ds => Rs.ok (ds, z.2)) _
          rw [hes]
          intro J1 H4 Hs4 ρ4 g4 l4 b4 hit1
          obtain ⟨⟨accV4, hd4, hr4⟩, hn4, hp4⟩ := g4.own hown3.1 hown3.2.1 hown3.2.2
          have stD4 : Stt K Hs4 ρ4 (del H4 D) σV' σ' z.2 := stD3.grow g4.del2 (le_del l4 hn4) (bok_del b4 hp4)
          have hacc : acc.length + es.length ≤ ln := by
            rw [hln]
            have := Nat.mul_le_mul_right 4096 (show i + 1 ≤ 4096 by omega)
            rw [Nat.succ_mul] at this
            omega
          refine lc_turnsG (Wi := Wi) stD4 hit1.low hacc out del_at gr_undel l4 b4 hd4 hr4 fun l' B' H' Hs' ρ' out' g' l_ b_ o n nr hlen => ?_
          have hlen : l'.length ≤ es.length := hlen
          obtain ⟨accV5, hd5, hr5⟩ := o
          refine ⟨hlt, Hs', ρ', B', acc ++ l', accV5, ((((g.trans g2).trans g3).trans g4).delR hD).trans g', l_, b_, hd5, n, nr, hr5, by rw [List.length_append, Nat.succ_mul]; omega, ?_⟩
          rw [Rs.bind_bind] at out'
          have e : (fun r : List Pz.D × List Pz.D => (Rs.ok (l' ++ r.1, r.2)).bind fun r => Rs.ok (Pz.D.lst (acc ++ r.1), r.2)) = fun r => Rs.ok (Pz.D.lst (acc ++ l' ++ r.1), r.2) := by
            funext r
            show Rs.ok (Pz.D.lst (acc ++ (l' ++ r.1)), r.2) = _
            rw [List.append_assoc]
          have out' : OutG K W0 Hs0 ρ0 H0 ((lcLoop2 (lcF2 Φ tg ic tg2 it2 ic2 ie σ) (ds.drop (i + 1)) B').bind fun r => (Rs.ok (l' ++ r.1, r.2)).bind fun r => Rs.ok (Pz.D.lst (acc ++ r.1), r.2)) R := out'
          rw [e] at out'
          exact out'
        · rw [if_neg hle] at out
          exact out.elim
section
variable {X : Cx} {Φ : Fn} {W : WX} {elt tp it tp2 itp2 : Expr} {ifs ifs2 : List Expr} {scope : Scope} {own : List (Str × Nat)} {cpos : Pos} {tg tg2 : Tg} {iit ic iit2 ic2 ie : E}
theorem lc2_core_ {R : Hp → List Addr → Hp → D × List D → Prop} (hR : Shf R) {σV : L2.St} {H : Hp} {Q : VK} {p : Bool}
    (hq : ∀ Hs ρ H x, R Hs ρ H x → YldN X.K Hs ρ H x.2 x.1 Q) (h : ∃ Hs ρ σ B, Stt X.K Hs ρ H σV σ B ∧ OutG X.K (fun c d h => W c d σV h) Hs ρ H (ev Φ p (.lc2 tg iit ic tg2 iit2 ic2 ie) σ B) (R Hs ρ H)) :
    tLc2 (rdI X.K Φ W true iit) (rdP X.K tg) (rdT X.K Φ WX0 ic) (rdI X.K Φ WX0 false iit2) (rdP X.K tg2) (rdT X.K Φ WX0 ic2) (rdE X.K Φ WX0 false ie) (tg.names ++ tg2.names) tg2.names σV H Q := by
  obtain ⟨Hs, ρ, σ, B, st, out⟩ := h
  refine ⟨Hs, ρ, σ, B, st, ?_⟩
  have out : OutG X.K (fun c d h => W c d σV h) Hs ρ H ((ev Φ true iit σ B).bind fun x => (Rs.of (itemsOf x.1)).bind fun ds => if ds.length ≤ 4096 then (lcLoop2 (lcF2 Φ tg ic tg2 iit2 ic2 ie σ) ds x.2).bind fun r => .ok (.lst r.1, r.2) else .bad) (R Hs ρ H) := out
  cases q : ev Φ true iit σ B with
  | bad => rw [q] at out; exact out
  | ex c ps B => exact exx_any
  | ok x =>
    rw [q] at out
    obtain ⟨ds, hds, out⟩ := OutG.of (show OutG X.K _ Hs ρ H ((Rs.of (itemsOf x.1)).bind fun ds => if ds.length ≤ 4096 then (lcLoop2 (lcF2 Φ tg ic tg2 iit2 ic2 ie σ) ds x.2).bind fun r => Rs.ok (.lst r.1, r.2) else .bad) (R Hs ρ H) from out)
    obtain ⟨hl, out⟩ := OutG.ite out
    show OutG X.K _ Hs ρ H ((Rs.of (itemsOf x.1)).bind fun ds => Rs.ok (ds, x.2)) _
    rw [hds]
    intro J H1 Hs1 ρ1 g1 l1 b1 hit D hD
    refine lc2_turns (st.grow g1 l1 b1) hit hl out hD fun l B H' Hs' ρ' r g l_ b own n nr => ?_
    have y : YldF X.K Hs ρ H B (.lst l) Q := hq _ _ _ _ r
    exact y D H' Hs' ρ' (g1.trans g) l_ b own n nr (g1.none_ hD)
theorem e_lc2 (hc : X.calm = true) (hN : X.N.Nodup) (hi : IOk X Φ W true tp it iit) (ok : BlkOk X.N X.env.scope scope own) (hv : own.map (·.2) = tg.names ++ tg2.names)
    (hg : ∀ (s : Shared) (H : Hp) (C : Addr) (cl : List (Str × Addr)) (fp : List Addr), GOk (X.blk s H scope (compEnvC scope cl C X.env) fp) tp tg)
    (ht : ∀ (s : Shared) (H : Hp) (C : Addr) (cl : List (Str × Addr)) (fp : List Addr), TsOk (X.blk s H scope (compEnvC scope cl C X.env) fp) Φ WX0 ifs ic)
    (hi2 : ∀ (s : Shared) (H : Hp) (C : Addr) (cl : List (Str × Addr)) (fp : List Addr), IOk (X.blk s H scope (compEnvC scope cl C X.env) fp) Φ WX0 false tp2 itp2 iit2)
    (hg2 : ∀ (s : Shared) (H : Hp) (C : Addr) (cl : List (Str × Addr)) (fp : List Addr), GOk (X.blk s H scope (compEnvC scope cl C X.env) fp) tp2 tg2)
    (ht2 : ∀ (s : Shared) (H : Hp) (C : Addr) (cl : List (Str × Addr)) (fp : List Addr), TsOk (X.blk s H scope (compEnvC scope cl C X.env) fp) Φ WX0 ifs2 ic2)
    (he : ∀ (s : Shared) (H : Hp) (C : Addr) (cl : List (Str × Addr)) (fp : List Addr), EOk (X.blk s H scope (compEnvC scope cl C X.env) fp) Φ WX0 elt ie)
    (hs : ∀ x, foldedSetIterable it X.env x = pure x := by intro _; rfl) (hs2 : ∀ env x, foldedSetIterable itp2 env x = pure x := by intro _ _; rfl) : EOk X Φ W (.ListComp elt [⟨tp, it, ifs, 0⟩, ⟨tp2, itp2, ifs2, 0⟩] scope cpos) (.lc2 tg iit ic tg2 iit2 ic2 ie) :=
  ⟨fun p => (pe_lc2 (own := own) (vs1 := tg2.names) hc hN hi.run ok (fun i hi => by rw [hv]; exact List.mem_append_right _ hi) (fun s H C cl fp => (hg s H C cl fp).run) (fun s H C cl fp => (ht s H C cl fp).run) (fun s H C cl fp => (hi2 s H C cl fp).run) (fun s H C cl fp => (hg2 s H C cl fp).run) (fun s H C cl fp => (ht2 s H C cl fp).run) (fun s H C cl fp => (he s H C cl fp).run false) hs hs2).weaken fun σV H Q h => by
    rw [hv]
    exact lc2_core_ Yld.shf (fun _ _ _ _ h => .of h) h⟩
end
end Pz
namespace Pz
open PySem PySem.Spec PyProof.Rows L2
/-- a block in a block, none of whose names is free -/
theorem blkOk_in {N : List Str} {sc scope : Scope} {own : List (Str × Nat)} (h : blkC N { kind := .function, names := [], isGenerator := false, isCoroutine := false } scope own = true) : BlkOk N sc scope own := by
  have b := blkOk_by h
  refine ⟨b.kind, b.uniq, b.ix, fun y hy e => ?_, b.own⟩
  rcases b.free y hy e with q | q <;> cases q
end Pz
namespace Pz
open PySem PySem.Spec PyProof.Rows L2
section
variable {X : Cx} {Φ : Fn} {W : WX} {p pos : Pos} {x : Str} {k id : Nat}
theorem e_call0 (C : Cl X.prog X.w X.K X.mg X.base k Φ x id) (hr : Room k X.A) (hg : Gl X x) (hdb : (x == ("__debug__" : Str)) = false := by decide) : EOk X Φ W (.Call (.Name x p) [] [] pos) (.call id .nil) := by
  obtain ⟨f, fd, ps, F, hm, hk, hb⟩ := C.ex
  refine ⟨fun p => (pe_call0 (E := fun _ _ _ => False) F hr hg hm hk hb .nil pass0 hdb).weaken fun σV H Q ⟨Hs, ρ, σ, B, st, out⟩ => ?_⟩
  refine ⟨Hs, ρ, B, [], st.le, st.bx, .nil, ?_⟩
  have out : Out X.K (fun c d h => W c d σV h) p Hs ρ H (Φ id [] B) Q := out
  show Out X.K _ false Hs ρ H (Φ id [] B) Q
  cases q : Φ id [] B with
  | ok x => rw [q] at out; exact Yld.f (p := p) out
  | ex c ps B => exact exx_any
  | bad => rw [q] at out; exact out
end
end Pz
end
section
set_option Elab.async false
set_option linter.all false
set_option maxRecDepth 100000
set_option maxHeartbeats 4000000
/-! slices of tuples by steps -/
namespace HT
open PySem PySem.Spec PyProof.Rows
/-- the items of xs[lo:hi:k] -/
def stepV {α : Type} (xs : List α) (lo hi : Option Int) (k : Int) : List α :=
  (List.range (Builtin.Slice.slicePlaces (Builtin.Slice.sliceAdjust lo hi k (xs.length : Int)).1 (Builtin.Slice.sliceAdjust lo hi k (xs.length : Int)).2 k)).filterMap fun (m : Nat) => xs[((Builtin.Slice.sliceAdjust lo hi k (xs.length : Int)).1 + (m : Int) * k).toNat]?
section
variable {prog : Program} {w : World} {A : Around} {E : Value → Shared → Prop} {s : Shared}
theorem sliceApplied_step {sl : Addr} {vl vu vs : Value} {lo hi : Option Int} {k n : Int} {Q : Int × Int × Nat → Shared → Prop} (hs : s.heap.IsSliceOf sl vl vu vs) (pl : IsPart vl lo) (pu : IsPart vu hi) (ps : IsPart vs (some k)) (h0 : k ≠ 0)
    (h : Q ((Builtin.Slice.sliceAdjust lo hi k n).1, k, Builtin.Slice.slicePlaces (Builtin.Slice.sliceAdjust lo hi k n).1 (Builtin.Slice.sliceAdjust lo hi k n).2 k) s) : wpAny (model prog w) A (Builtin.Slice.sliceApplied (.ref sl) (pure n)) Q E s := by
  obtain ⟨os, hos, hcs, hds⟩ := id hs
  unfold Builtin.Slice.sliceApplied Builtin.Slice.sliceFields
  refine wpAny_bind (wpAny_bind (wpAny_field hos hds (x := vl) rfl (wpAny_bind (wpAny_field hos hds (x := vu) rfl (wpAny_bind (wpAny_field hos hds (x := vs) rfl (wpAny_pure ?_)))))))
  refine wpAny_bind (slicePart_ ps ?_)
  have hk : ((k : Int) == 0) = false := by simpa using h0
  show wpAny _ _ (if (k == 0) = true then _ else _) _ _ s
  rw [hk, if_neg Bool.false_ne_true]
  refine wpAny_bind (slicePart_ pl (wpAny_bind (slicePart_ pu (wpAny_bind (wpAny_pure ?_)))))
  exact wpAny_pure h
theorem getItem_tuple_step {t sl : Addr} {items : Array Value} {vl vu vs : Value} {lo hi : Option Int} {k : Int} {Q : Value → Shared → Prop} (ht : IsTup s.heap t items) (hs : s.heap.IsSliceOf sl vl vu vs) (pl : IsPart vl lo) (pu : IsPart vu hi) (ps : IsPart vs (some k)) (h0 : k ≠ 0) (h1 : k ≠ 1)
    (h : Q (.ref s.heap.objs.size) { s with heap := s.heap.push { cls := .type "tuple", data := .seq (stepV items.toList lo hi k).toArray } })
    (hsz : (stepV items.toList lo hi k).length ≤ sizeLine) : wpAny (model prog w) A (getItem (.ref t) (.ref sl)) Q E s := by
  have htake : sizeOk (.seq (stepV items.toList lo hi k).toArray) := by
    show (stepV items.toList lo hi k).toArray.size ≤ sizeLine
    rw [List.size_toArray]
    exact hsz
  obtain ⟨os, hos, hcs, hds⟩ := id hs
  have hTs : s.TypeIs (.ref sl) "slice" := ⟨os, hos, hcs⟩
  unfold getItem
  try with_reducible refine wpAny_holding ?_
  first | refine wpAny_bind (wpAny_pure ?_) | skip
  refine wpAny_bind (wpAny_sequenceKey ht.typeIs (by decide) ?_)
  refine wpAny_bind (wpAny_callSpecial?_slot (name := Str.ofString "__getitem__") ht.typeIs PyProof.Rows.slot_tuple_getitem
    (wpAny_call_entry PyProof.Rows.slot_tuple_getitem ht.typeIs entry_tuple_getitem ?_ (args_tuple_getitem _ _)))
  show wpAny _ _ (Builtin.Tuple.tupleItemsOf (.ref t) >>= _) _ _ s
  refine wpAny_bind (tupleItemsOf_ ht ?_)
  refine wpAny_bind (wpAny_typeOf hTs ?_)
  rw [if_pos (by decide)]
  refine wpAny_bind (sliceApplied_step hs pl pu ps h0 ?_)
  have hno : ¬ (((Builtin.Slice.sliceAdjust lo hi k (items.size : Int)).1 == 0 && k == 1 && (Builtin.Slice.slicePlaces (Builtin.Slice.sliceAdjust lo hi k (items.size : Int)).1 (Builtin.Slice.sliceAdjust lo hi k (items.size : Int)).2 k) == items.size) = true) := by
    intro q
    rw [Bool.and_eq_true, Bool.and_eq_true] at q
    exact h1 (eq_of_beq q.1.2)
  show wpAny _ _ (if ((Builtin.Slice.sliceAdjust lo hi k (items.size : Int)).1 == 0 && k == 1 && (Builtin.Slice.slicePlaces (Builtin.Slice.sliceAdjust lo hi k (items.size : Int)).1 (Builtin.Slice.sliceAdjust lo hi k (items.size : Int)).2 k) == items.size) = true then _ else _) _ _ s
  rw [if_neg hno]
  have e : ((List.range (Builtin.Slice.slicePlaces (Builtin.Slice.sliceAdjust lo hi k (items.size : Int)).1 (Builtin.Slice.sliceAdjust lo hi k (items.size : Int)).2 k)).filterMap fun (m : Nat) => items[((Builtin.Slice.sliceAdjust lo hi k (items.size : Int)).1 + (m : Int) * k).toNat]?) = stepV items.toList lo hi k := by
    unfold stepV
    rw [Array.length_toList]
    simp only [Array.getElem?_toList]
  rw [e]
  first
    | exact wpAny_bind (m := Builtin.Tuple.tupleExact _) (wpAny_newObj_type (wpAny_pure ⟨_, rfl, wpAny_pure h⟩) htake)
    | exact wpAny_bind (m := Builtin.Tuple.tupleExact _) (wpAny_newObj_type (wpAny_bind (wpAny_pure (wpAny_pure ⟨_, rfl, wpAny_pure h⟩))) htake)
    | exact wpAny_bind (wpAny_bind (m := Builtin.Tuple.tupleExact _) (wpAny_newObj_type (wpAny_pure (wpAny_pure ⟨_, rfl, wpAny_pure h⟩)) htake))
    | exact wpAny_bind (wpAny_bind (m := Builtin.Tuple.tupleExact _) (wpAny_newObj_type (wpAny_pure ⟨_, rfl, wpAny_pure h⟩) htake))
end
theorem fm_congr {α β : Type} {f g : α → Option β} : ∀ {l : List α}, (∀ a ∈ l, f a = g a) → l.filterMap f = l.filterMap g
  | [], _ => rfl
  | a :: l, h => by rw [List.filterMap_cons, List.filterMap_cons, h a (by simp), fm_congr (l := l) fun b hb => h b (by simp [hb])]
theorem pickV {α : Type} (xs : List α) : (List.range xs.length).filterMap (fun m => xs[m]?) = xs := by
  have := PySem.W.krv_all xs.toArray
  rw [List.size_toArray] at this
  simpa using this
theorem stepV_rev {α : Type} (xs : List α) : stepV xs none none (-1) = xs.reverse := by
  have e1 : (Builtin.Slice.sliceAdjust none none (-1) (xs.length : Int)).1 = (xs.length : Int) - 1 := rfl
  have e2 : (Builtin.Slice.sliceAdjust none none (-1) (xs.length : Int)).2 = -1 := rfl
  have e3 : Builtin.Slice.slicePlaces ((xs.length : Int) - 1) (-1) (-1) = xs.length := by
    unfold Builtin.Slice.slicePlaces
    have h1 : ¬ ((-1 : Int) > 0) := by decide
    rw [if_neg h1, show (- -1 : Int) = 1 by decide, Int.ediv_one]
    split <;> omega
  unfold stepV
  rw [e1, e2, e3]
  have e4 : ((List.range xs.length).filterMap fun (m : Nat) => xs[((xs.length : Int) - 1 + (m : Int) * (-1)).toNat]?) = ((List.range xs.length).map fun m => xs.length - 1 - m).filterMap fun m => xs[m]? := by
    rw [List.filterMap_map]
    refine fm_congr fun m hm => ?_
    have := List.mem_range.1 hm
    show xs[((xs.length : Int) - 1 + (m : Int) * (-1)).toNat]? = xs[xs.length - 1 - m]?
    congr 1
    omega
  rw [e4, PySem.W.krv_range, List.filterMap_reverse, pickV]
theorem pick_evens {α : Type} : ∀ ys : List α, (List.range ((ys.length + 1) / 2)).filterMap (fun m => ys[2 * m]?) = Pz.evens ys
  | [] => by simp [Pz.evens]
  | [a] => by simp [Pz.evens, List.range_succ]
  | a :: b :: ys => by
    have e : (((a :: b :: ys).length + 1) / 2) = (ys.length + 1) / 2 + 1 := by simp only [List.length_cons]; omega
    rw [e, List.range_succ_eq_map, List.filterMap_cons]
    show a :: _ = a :: Pz.evens ys
    rw [← pick_evens ys, List.filterMap_map]
    congr 1
theorem stepV_evens {α : Type} (xs : List α) (lo : Option Int) (i : Nat) (hlo : (Builtin.Slice.sliceAdjust lo none 2 (xs.length : Int)).1 = ((min i xs.length : Nat) : Int)) : stepV xs lo none 2 = Pz.evens (xs.drop i) := by
  have e2 : (Builtin.Slice.sliceAdjust lo none 2 (xs.length : Int)).2 = xs.length := by unfold Builtin.Slice.sliceAdjust; rfl
  have e3 : Builtin.Slice.slicePlaces ((min i xs.length : Nat) : Int) (xs.length : Int) 2 = ((xs.drop i).length + 1) / 2 := by
    unfold Builtin.Slice.slicePlaces
    have h1 : (2 : Int) > 0 := by decide
    rw [if_pos h1, List.length_drop]
    split <;> omega
  unfold stepV
  rw [hlo, e2, e3, ← pick_evens (xs.drop i)]
  refine fm_congr fun m hm => ?_
  have hm := List.mem_range.1 hm
  rw [List.getElem?_drop, List.length_drop] at *
  congr 1
  omega
end HT
namespace L2
open PySem PySem.Spec PyProof.Rows
theorem Vals.picked {xs : List V} {us : List Value} (r : Vals xs us) (f : Nat → Nat) : ∀ ms : List Nat, Vals (ms.filterMap fun m => xs[f m]?) (ms.filterMap fun m => us[f m]?)
  | [] => .nil
  | m :: ms => by
    have ih := Vals.picked r f ms
    rw [List.filterMap_cons, List.filterMap_cons]
    cases e : xs[f m]? with
    | none =>
      have : us[f m]? = none := by
        rw [List.getElem?_eq_none_iff] at e ⊢
        rw [← r.length]; exact e
      rw [this]; exact ih
    | some x =>
      obtain ⟨u, e2, q⟩ := r.get e
      rw [e2]; exact .cons q ih
theorem stepV_length {α : Type} (xs : List α) (lo hi : Option Int) (k : Int) : (HT.stepV xs lo hi k).length ≤ Builtin.Slice.slicePlaces (Builtin.Slice.sliceAdjust lo hi k (xs.length : Int)).1 (Builtin.Slice.sliceAdjust lo hi k (xs.length : Int)).2 k := by
  unfold HT.stepV
  refine Nat.le_trans (List.length_filterMap_le _ _) ?_
  rw [List.length_range]
  exact Nat.le_refl _
section
variable {X : Cx} {e : Expr} {te : TE} {lo : Option Expr} {tl : TO} {pos p2 : Pos}
/-- t[lo::k] -/
def tStep (K : PySem.W.Frag) (te : TE) (tl : TO) (k : Int) : TE := fun σ H Q => te σ H fun x H1 => tl σ H1 fun l H2 => ∃ a xs, x = .ref a ∧ SqT K H2 a xs ∧ (HT.stepV xs l none k).length ≤ xs.length ∧ ∀ p, H2 p = none → Q (.ref p) (upd H2 p (.tup (HT.stepV xs l none k)))
theorem pe_tstep {st : Expr} {ts : TE} {k : Int} (he : PE X e te) (hl : PO X lo tl) (hst : PE X st ts) (hts : ∀ σ H Q, Q (.int k) H → ts σ H Q) (h0 : k ≠ 0) (h1 : k ≠ 1)
    (hs : ∀ (a sl : Addr), subscripted (.Slice lo none (some st) p2) false (.ref a) (.ref sl) = operate [.ref a, .ref sl] (getItem (.ref a) (.ref sl)))
    : PE X (.Subscript e (.Slice lo none (some st) p2) pos) (tStep X.K te tl k) := by
  refine ⟨fun pins s σ H Q I h => ?_⟩
  refine Subscript_ (thn (he.run pins s σ H _ I h) fun v s1 ⟨x, H1, I1, r1, q1⟩ => ?_)
  refine wpAny_Slice (thn (hl.run pins s1 σ H1 _ I1 q1) fun vl s2 ⟨l, H2, I2, pl, q2⟩ => ?_)
  obtain ⟨a, xs, ex, hx, hlen, q⟩ := q2
  subst ex
  cases r1
  refine thn (po_none.run pins s2 σ H2 (fun o H3 => o = none ∧ H3 = H2) I2 ⟨rfl, rfl⟩) fun vu s3 ⟨u, H3, I3, pu, eu, e3⟩ => ?_
  subst eu e3
  refine thn ((po_some hst).run pins s3 σ H3 (fun o H4 => o = some k ∧ H4 = H3) I3 (hts _ _ _ ⟨k, rfl, rfl, rfl⟩)) fun vs s4 ⟨o, H4, I4, ps, eo, e4⟩ => ?_
  subst eo e4
  have I5 : Inv X pins σ H4 { s4 with heap := s4.heap.push { cls := .type "slice", data := .fields #[vl, vu, vs] } } := I4.kept (t' := s4.toks) fun b ob q => Heap.get?_push_of_some _ q
  obtain ⟨its, r, ht, hz⟩ := I5.tuple hx
  have hl2 := r.length
  show wpAny (model X.prog X.w) X.A (subscriptTail e (.Slice lo none (some st) p2) (.ref a) (.ref s4.heap.objs.size)) (EP X pins σ Q) X.xe { s4 with heap := s4.heap.push { cls := .type "slice", data := .fields #[vl, vu, vs] } }
  refine tail_any (ops := [.ref a, .ref s4.heap.objs.size]) ht.typeIs PyProof.Rows.slot_tuple_getitem.lookup ?_ (hs _ _)
  have hv : Vals (HT.stepV xs l none k) (HT.stepV its l none k) := by
    unfold HT.stepV
    rw [hl2]
    exact Vals.picked r _ _
  have hvl := hv.length
  refine HT.getItem_tuple_step ht (Heap.IsSliceOf.new _ vl vu vs) pl pu ps h0 h1 ?_ ?_
  · refine ⟨.ref _, _, I5.laid (t' := s4.toks) (o := .tup (HT.stepV xs l none k)) (fun b ob q => Heap.get?_push_of_some _ q) (Nat.le_refl _) ?_, rfl, q _ (I5.hok.fresh (Nat.le_refl _))⟩
    exact ⟨Nat.le_trans hlen hz, _, hv, IsTup.new _ _⟩
  · show (HT.stepV its l none k).length ≤ sizeLine
    rw [← hvl]
    exact Nat.le_trans hlen hz
end
end L2
namespace Pz
open PySem PySem.Spec PyProof.Rows L2
section
variable {K : PySem.W.Frag} {Hs : Hp} {ρ : List Addr}
theorem RepL.rev_ : ∀ {l : List D} {xs : List V}, RepL K Hs ρ l xs → RepL K Hs ρ l.reverse xs.reverse
  | [], _, r => by cases r; exact .nil
  | d :: l, _, r => by
    cases r with
    | cons h r =>
      rw [List.reverse_cons, List.reverse_cons]
      exact (RepL.rev_ r).append (.cons h .nil)
theorem RepL.evens_ : ∀ {l : List D} {xs : List V}, RepL K Hs ρ l xs → RepL K Hs ρ (evens l) (evens xs)
  | [], _, r => by cases r; exact .nil
  | [d], _, r => by
    cases r with
    | cons h r => cases r; exact .cons h .nil
  | d :: e :: l, _, r => by
    cases r with
    | cons h r =>
      cases r with
      | cons h2 r => exact .cons h (RepL.evens_ r)
theorem RepL.drop_ : ∀ (k : Nat) {l : List D} {xs : List V}, RepL K Hs ρ l xs → RepL K Hs ρ (l.drop k) (xs.drop k)
  | 0, _, _, r => r
  | k + 1, [], _, r => by cases r; exact .nil
  | k + 1, d :: l, _, r => by
    cases r with
    | cons h r => exact RepL.drop_ k r
theorem evens_len {α : Type} : ∀ l : List α, (evens l).length ≤ l.length
  | [] => Nat.le_refl _
  | [a] => Nat.le_refl _
  | a :: b :: l => by
    have := evens_len l
    show (evens l).length + 1 ≤ l.length + 1 + 1
    omega
end
section
variable {X : Cx} {Φ : Fn} {W : WX} {a : Expr} {ia : E} {pos p2 : Pos}
theorem revD_inv {d e : D} (h : revD d = some e) : (∃ l, d = .tup l ∧ e = .tup l.reverse) ∨ ∃ l, d = .lst l ∧ e = .lst l.reverse := by
  cases d with
  | tup l => exact .inl ⟨l, rfl, (Option.some.inj h).symm⟩
  | lst l => exact .inr ⟨l, rfl, (Option.some.inj h).symm⟩
  | _ => cases h
theorem evnD_inv {k : Nat} {d e : D} (h : evnD k d = some e) : ∃ l, d = .tup l ∧ e = .tup (evens (l.drop k)) := by
  cases d with
  | tup l => exact ⟨l, rfl, (Option.some.inj h).symm⟩
  | _ => cases h
theorem e_rev {k : Nat} {p1 p3 p4 : Pos} (ha : EOk X Φ W a ia) : EOk X Φ W (.Subscript a (.Slice none none (some (.UnaryOp .USub (.Constant (.int 1) k p1) p3)) p4) pos) (.rev ia) :=
  ⟨fun p => ((pe_tstep (k := -1) (ha.run true) po_none (pe_un un_neg pe_int) (fun σ H Q q => ⟨1, rfl, q⟩) (by decide) (by decide) (fun _ _ => by with_unfolding_all rfl)).or (pe_revL (ha.run true))).weaken fun σV H Q ⟨Hs, ρ, σ, B, st, out⟩ => by
    have out : OutG X.K (fun c d h => W c d σV h) Hs ρ H ((ev Φ true ia σ B).bind fun x => (Rs.of (revD (drf x.2 x.1))).bind fun d => Rs.ok (d, x.2)) (fun x => Yld X.K p Hs ρ H x.2 x.1 Q) := out
    cases q : ev Φ true ia σ B with
    | bad => rw [q] at out; exact out.elim
    | ex c ps B' =>
      refine .inl ⟨Hs, ρ, σ, B, st, ?_⟩
      rw [q] at out ⊢
      exact out
    | ok x =>
      rw [q] at out
      obtain ⟨d, hd, out⟩ := OutG.of (show OutG X.K _ Hs ρ H ((Rs.of (revD (drf x.2 x.1))).bind fun d => Rs.ok (d, x.2)) _ from out)
      have out : Yld X.K p Hs ρ H x.2 d Q := out
      rcases revD_inv hd with ⟨l, hl, rfl⟩ | ⟨l, hl, rfl⟩
      · refine .inl ⟨Hs, ρ, σ, B, st, ?_⟩
        rw [q]
        intro v H1 Hs1 ρ1 g1 l1 b1 r1
        have out := Yld.shift out g1
        have ra := drf_ok r1 b1
        rw [hl] at ra
        obtain ⟨b, xs, rfl, hp, r⟩ := ra.tup l1
        refine ⟨b, xs, rfl, SqT.of hp, by rw [HT.stepV_rev, List.length_reverse]; exact Nat.le_refl _, ?_⟩
        rw [HT.stepV_rev]
        exact Yld.tup (p := p) out l1 b1 r.rev_
      · refine .inr ⟨Hs, ρ, σ, B, st, ?_⟩
        rw [q]
        intro v H1 Hs1 ρ1 g1 l1 b1 r1
        have out := Yld.shift out g1
        have ra := drf_ok r1 b1
        rw [hl] at ra
        obtain ⟨b, xs, rfl, hp, r⟩ := ra.lst l1
        exact ⟨b, xs, rfl, SqL.of hp, YldF.lst (YldN.of (p := p) out) l1 b1 r.rev_⟩⟩
theorem adj0 (n : Nat) : (Builtin.Slice.sliceAdjust none none 2 (n : Int)).1 = ((min 0 n : Nat) : Int) := by
  unfold Builtin.Slice.sliceAdjust
  simp
theorem adj1 (n : Nat) : (Builtin.Slice.sliceAdjust (some 1) none 2 (n : Int)).1 = ((min 1 n : Nat) : Int) := by
  unfold Builtin.Slice.sliceAdjust
  simp
  omega
theorem evn_core {tl : TO} {p : Bool} {o : Option Int} {k : Nat} {σV : L2.St} {H : Hp} {Q : VK} (htl : ∀ σ H (R : Option Int → Hp → Prop), R o H → tl σ H R)
    (hadj : ∀ n : Nat, (Builtin.Slice.sliceAdjust o none 2 (n : Int)).1 = ((min k n : Nat) : Int)) (h : rdE X.K Φ W p (.evn ia k) σV H Q) : tStep X.K (rdE X.K Φ W true ia) tl 2 σV H Q := by
  obtain ⟨Hs, ρ, σ, B, st, out⟩ := h
  have out : OutG X.K (fun c d h => W c d σV h) Hs ρ H ((ev Φ true ia σ B).bind fun x => (Rs.of (evnD k (drf x.2 x.1))).bind fun d => Rs.ok (d, x.2)) (fun x => Yld X.K p Hs ρ H x.2 x.1 Q) := out
  refine ⟨Hs, ρ, σ, B, st, ?_⟩
  cases q : ev Φ true ia σ B with
  | bad => rw [q] at out; exact out.elim
  | ex c ps B' =>
    rw [q] at out
    exact out
  | ok x =>
    rw [q] at out
    obtain ⟨d, hd, out⟩ := OutG.of (show OutG X.K _ Hs ρ H ((Rs.of (evnD k (drf x.2 x.1))).bind fun d => Rs.ok (d, x.2)) _ from out)
    have out : Yld X.K p Hs ρ H x.2 d Q := out
    obtain ⟨l, hl, rfl⟩ := evnD_inv hd
    intro v H1 Hs1 ρ1 g1 l1 b1 r1
    have out := Yld.shift out g1
    have ra := drf_ok r1 b1
    rw [hl] at ra
    obtain ⟨b, xs, rfl, hp, r⟩ := ra.tup l1
    have he := HT.stepV_evens xs o k (hadj _)
    refine htl _ _ _ ⟨b, xs, rfl, SqT.of hp, ?_, ?_⟩
    · rw [he]
      refine Nat.le_trans (evens_len _) ?_
      rw [List.length_drop]; omega
    · rw [he]
      exact Yld.tup (p := p) out l1 b1 (RepL.evens_ (RepL.drop_ k r))
theorem e_evn0 {k : Nat} {p1 p4 : Pos} (ha : EOk X Φ W a ia) : EOk X Φ W (.Subscript a (.Slice none none (some (.Constant (.int 2) k p1)) p4) pos) (.evn ia 0) :=
  ⟨fun p => (pe_tstep (k := 2) (ha.run true) po_none pe_int (fun σ H Q q => q) (by decide) (by decide) (fun _ _ => by with_unfolding_all rfl)).weaken fun σV H Q h => evn_core (o := none) (fun _ _ _ r => r) adj0 h⟩
theorem e_evn1 {k k2 : Nat} {p1 p3 p4 : Pos} (ha : EOk X Φ W a ia) : EOk X Φ W (.Subscript a (.Slice (some (.Constant (.int 1) k2 p3)) none (some (.Constant (.int 2) k p1)) p4) pos) (.evn ia 1) :=
  ⟨fun p => (pe_tstep (k := 2) (ha.run true) (po_some pe_int) pe_int (fun σ H Q q => q) (by decide) (by decide) (fun _ _ => by with_unfolding_all rfl)).weaken fun σV H Q h => evn_core (o := some 1) (fun _ _ _ r => ⟨1, rfl, r⟩) adj1 h⟩
end
end Pz
end
section
set_option Elab.async false
set_option linter.all false
set_option maxRecDepth 100000
namespace Pz
open PySem PySem.Spec PyProof.Rows L2

/-! ### list(range(..)) -/
section
variable {K : PySem.W.Frag} {Hs : Hp} {ρ : List Addr}
theorem repL_rng (a : Int) : ∀ (n : Nat), RepL K Hs ρ ((List.range n).map fun k => .int (a + (k : Nat))) ((List.range n).map fun i => V.int (a + (i : Nat)))
  | 0 => .nil
  | n + 1 => by
    rw [List.range_succ, List.map_append, List.map_append]
    exact (repL_rng a n).append (.cons (.int _) .nil)
theorem rep_rgV (a b : Int) : RepL K Hs ρ (rngL a b ++ []) (rgV a b) := by
  rw [List.append_nil]
  exact repL_rng a _
end
section
variable {X : Cx} {Φ : Fn} {W : WX} {a b : Expr} {ia ib : E} {p pos pr posr : Pos}
/-- the bounds read, then the list -/
theorem lrg_end {p : Bool} {σ : Sg} {W0 : XK} {Hs : Hp} {ρ : List Addr} {H : Hp} {B : List D} {d e : D} {v w : V} {Q : VK} (le : Le Hs H) (bx : BOk X.K Hs ρ H B) (r1 : RP X.K Hs ρ H d v) (r2 : RP X.K Hs ρ H e w)
    (out : OutG X.K W0 Hs ρ H (((Rs.of (opBi .rng [d, e])).bind fun d => Rs.ok (d, B)).bind fun x => (ev Φ true (.lst .nil) σ x.2).bind fun y => (Rs.of (opB .add (drf y.2 x.1) (drf y.2 y.1))).bind fun d => .ok (d, y.2)) (fun x => Yld X.K p Hs ρ H x.2 x.1 Q)) :
    ∃ i j, v = .int i ∧ w = .int j ∧ RgOk i j ∧ ∀ q, H q = none → Q (.ref q) (upd H q (.lst (rgV i j))) := by
  have out : OutG X.K W0 Hs ρ H ((((Rs.of ((rngOf [d, e]).map D.lst)).bind fun d => Rs.ok (d, B))).bind fun x => (Rs.of (opB .add (drf B x.1) (.lst []))).bind fun d => .ok (d, B)) (fun x => Yld X.K p Hs ρ H x.2 x.1 Q) := by
    cases q : rngOf [d, e] with
    | none =>
      have q' : opBi .rng [d, e] = none := by show (rngOf [d, e]).map D.lst = none; rw [q]; rfl
      rw [q'] at out
      exact out
    | some l =>
      have q' : opBi .rng [d, e] = some (.lst l) := by show (rngOf [d, e]).map D.lst = _; rw [q]; rfl
      rw [q'] at out
      exact out
  obtain ⟨i, j, rfl, rfl⟩ : ∃ i j, d = .int i ∧ e = .int j := by
    cases d with
    | int i =>
      cases e with
      | int j => exact ⟨i, j, rfl, rfl⟩
      | _ => exact out.elim
    | _ => exact out.elim
  cases r1.int
  cases r2.int
  by_cases hb : (bnd i && bnd j) = true
  · have q : rngOf [.int i, .int j] = some (rngL i j) := by show (if (bnd i && bnd j) = true then some (rngL i j) else none) = _; rw [if_pos hb]
    rw [q] at out
    have out : OutG X.K W0 Hs ρ H ((Rs.of (if (rngL i j).length + 0 ≤ ln then some (.lst (rngL i j ++ [])) else none)).bind fun d => .ok (d, B)) (fun x => Yld X.K p Hs ρ H x.2 x.1 Q) := out
    by_cases hl : (rngL i j).length + 0 ≤ ln
    · rw [if_pos hl] at out
      have out : Yld X.K p Hs ρ H B (.lst (rngL i j ++ [])) Q := out
      rw [Bool.and_eq_true] at hb
      obtain ⟨h1, h2⟩ := bnd_ok hb.1
      obtain ⟨h3, h4⟩ := bnd_ok hb.2
      refine ⟨i, j, rfl, rfl, ⟨h1, h2, h3, h4, ?_⟩, YldF.lst (YldN.of (p := p) out) le bx (rep_rgV i j)⟩
      have : (rngL i j).length = (j - i).toNat := by unfold rngL; rw [List.length_map, List.length_range]
      rw [this] at hl
      exact hl
    · rw [if_neg hl] at out
      exact out.elim
  · have q : rngOf [.int i, .int j] = none := by show (if (bnd i && bnd j) = true then some (rngL i j) else none) = _; rw [if_neg hb]
    rw [q] at out
    exact out.elim
theorem e_listRg2 (hc : X.calm = true) (hg : Gl X "list") (hm : X.mg "list" = none) (hgr : Gl X "range") (hmr : X.mg "range" = none) (ha : EOk X Φ W a ia) (hb : EOk X Φ W b ib) (n1 : starEach [a, b] X.env = (false, eval a X.env) :: starEach [b] X.env := by rfl) (n2 : starEach [b] X.env = (false, eval b X.env) :: starEach [] X.env := by rfl) (n3 : (backTo posr (starEach [b] X.env)).any (·.1) = false := by rfl)
    (n4 : starEach [Expr.Call (.Name "range" pr) [a, b] [] posr] X.env = (false, eval (.Call (.Name "range" pr) [a, b] [] posr) X.env) :: starEach [] X.env := by rfl) :
    EOk X Φ W (.Call (.Name "list" p) [.Call (.Name "range" pr) [a, b] [] posr] [] pos) (.bin .add (.bi .rng (.cons ia (.cons ib .nil))) (.lst .nil)) :=
  ⟨fun p => (pe_listRg hc hg hm (prg_2 hgr hmr (ha.run true) (hb.run true) n1 n2 n3) n4).weaken fun σV H Q ⟨Hs, ρ, σ, B, st, out⟩ => by
    let rest : List D × List D → Rs (D × List D) := fun x => ((Rs.of (opBi .rng (x.1.map (drf x.2)))).bind fun d => Rs.ok (d, x.2)).bind fun x => (ev Φ true (.lst .nil) σ x.2).bind fun y => (Rs.of (opB .add (drf y.2 x.1) (drf y.2 y.1))).bind fun d => .ok (d, y.2)
    have out : OutG X.K (fun c d h => W c d σV h) Hs ρ H ((((ev Φ true ia σ B).bind fun x => ((ev Φ true ib σ x.2).bind fun y => Rs.ok (y.1 :: [], y.2)).bind fun z => Rs.ok (x.1 :: z.1, z.2)).bind fun x => (Rs.of (opBi .rng (x.1.map (drf x.2)))).bind fun d => Rs.ok (d, x.2)).bind fun x => (ev Φ true (.lst .nil) σ x.2).bind fun y => (Rs.of (opB .add (drf y.2 x.1) (drf y.2 y.1))).bind fun d => .ok (d, y.2)) (fun x => Yld X.K p Hs ρ H x.2 x.1 Q) := out
    refine ⟨Hs, ρ, σ, B, st, ?_⟩
    cases q1 : ev Φ true ia σ B with
    | bad => rw [q1] at out; exact out
    | ex c ps B' => rw [q1] at out; exact out
    | ok x =>
      rw [q1] at out
      intro v H1 Hs1 ρ1 g1 l1 b1 r1
      have out := OutG.shift Yld.shf out g1
      refine ⟨Hs1, ρ1, σ, x.2, st.grow g1 l1 b1, ?_⟩
      have out : OutG X.K (fun c d h => W c d σV h) Hs1 ρ1 H1 (((((ev Φ true ib σ x.2).bind fun y => Rs.ok (y.1 :: [], y.2)).bind fun z => Rs.ok (x.1 :: z.1, z.2)).bind fun x => (Rs.of (opBi .rng (x.1.map (drf x.2)))).bind fun d => Rs.ok (d, x.2)).bind fun x => (ev Φ true (.lst .nil) σ x.2).bind fun y => (Rs.of (opB .add (drf y.2 x.1) (drf y.2 y.1))).bind fun d => .ok (d, y.2)) (fun x => Yld X.K p Hs1 ρ1 H1 x.2 x.1 Q) := out
      cases q2 : ev Φ true ib σ x.2 with
      | bad => rw [q2] at out; exact out
      | ex c ps B' => rw [q2] at out; exact out
      | ok y =>
        rw [q2] at out
        intro u H2 Hs2 ρ2 g2 l2 b2 r2
        have out := OutG.shift Yld.shf out g2
        exact lrg_end (p := p) l2 b2 (drf_ok (r1.grow g2) b2) (drf_ok r2 b2) out⟩
theorem e_listRg1 (hc : X.calm = true) (hg : Gl X "list") (hm : X.mg "list" = none) (hgr : Gl X "range") (hmr : X.mg "range" = none) (ha : EOk X Φ W a ia) (n1 : starEach [a] X.env = (false, eval a X.env) :: starEach [] X.env := by rfl)
    (n4 : starEach [Expr.Call (.Name "range" pr) [a] [] posr] X.env = (false, eval (.Call (.Name "range" pr) [a] [] posr) X.env) :: starEach [] X.env := by rfl) :
    EOk X Φ W (.Call (.Name "list" p) [.Call (.Name "range" pr) [a] [] posr] [] pos) (.bin .add (.bi .rng (.cons (.cst (.int 0)) (.cons ia .nil))) (.lst .nil)) :=
  ⟨fun p => (pe_listRg hc hg hm (prg_1 hgr hmr (ha.run true) n1) n4).weaken fun σV H Q ⟨Hs, ρ, σ, B, st, out⟩ => by
    have out : OutG X.K (fun c d h => W c d σV h) Hs ρ H (((((ev Φ true ia σ B).bind fun y => Rs.ok (y.1 :: [], y.2)).bind fun z => Rs.ok (.int 0 :: z.1, z.2)).bind fun x => (Rs.of (opBi .rng (x.1.map (drf x.2)))).bind fun d => Rs.ok (d, x.2)).bind fun x => (ev Φ true (.lst .nil) σ x.2).bind fun y => (Rs.of (opB .add (drf y.2 x.1) (drf y.2 y.1))).bind fun d => .ok (d, y.2)) (fun x => Yld X.K p Hs ρ H x.2 x.1 Q) := out
    refine ⟨Hs, ρ, σ, B, st, ?_⟩
    cases q2 : ev Φ true ia σ B with
    | bad => rw [q2] at out; exact out
    | ex c ps B' => rw [q2] at out; exact out
    | ok y =>
      rw [q2] at out
      intro u H2 Hs2 ρ2 g2 l2 b2 r2
      have out := OutG.shift Yld.shf out g2
      obtain ⟨i, j, e1, e2, h1, h2⟩ := lrg_end (p := p) (v := .int 0) l2 b2 (d := .int 0) (drf_ok (p := true) (B := y.2) (d := .int 0) (RelP.of (.int 0)) b2) (drf_ok r2 b2) out
      cases e1
      exact ⟨j, e2, h1, h2⟩⟩
end
end Pz
end
section
set_option Elab.async false
set_option linter.all false
set_option maxRecDepth 100000
namespace Pz
open PySem PySem.Spec PyProof.Rows L2
/-! ### dict comprehensions: one clause, no tests, keys ints and texts -/
/-- the turns of a dict comprehension -/
abbrev dcF (Φ : Fn) (tg : Tg) (ik iv : E) (σ : Sg) : D → List D → Rs ((D × D) × List D) := fun d B => (Rs.of (put tg d (wipeS σ tg.names))).bind fun σ' => (ev Φ false ik σ' B).bind fun y => (ev Φ false iv σ' y.2).bind fun z =>
  if y.1.keyOk false then .ok ((y.1, z.1), z.2) else .bad
theorem dc_turns {K : PySem.W.Frag} {Φ : Fn} {tg : Tg} {ik iv : E} {Wi : WX} {W0 : XK} {p : Bool} {J : It} {ds : List D} {Hs0 Hs1 H0 H1 : Hp} {ρ0 ρ1 : List Addr} {σV : L2.St} {σ : Sg} {B1 : List D} {R : D × List D → Prop} {Q : VK}
    (st : Stt K Hs1 ρ1 H1 σV σ B1) (hit : ItR K p J Hs1 ρ1 H1 ds) (hl : ds.length ≤ ln)
    (out : OutG K W0 Hs0 ρ0 H0 ((dcLoop (dcF Φ tg ik iv σ) ds [] B1).bind fun r => .ok (.dic false r.1, r.2)) R) {D : Addr} (hD : H1 D = none)
    (fin : ∀ l B H Hs ρ, R (.dic false l, B) → Gr Hs1 H1 ρ1 Hs H ρ → Le Hs H → BOk K Hs ρ H B → OwnAt K Hs ρ H D (.dic false l) → Hs D = none → D ∉ ρ → Q (.ref D) H) :
    ∃ W : Nat → Nat → Hp → Prop, (∃ m, W 0 m (upd H1 D (.dK []))) ∧ ∀ i m H, W i m H →
      (J.stop i H ∧ Q (.ref D) H) ∨ (J.go i H ∧ ∃ Nx : Hp → Prop, (∀ H', Nx H' → ∃ m', m' < m ∧ W (i + 1) m' H') ∧ ∀ x H', J.yld i H x H' → rdP K tg x (L2.wipe σV tg.names) H' fun σ2 H2 => L2.wipe σ2 tg.names = L2.wipe σV tg.names ∧ rdT K Φ Wi (.cst (.bl true)) σ2 H2 fun b H3 =>
        if b = true then rdE K Φ Wi false ik σ2 H3 fun y H4 => rdE K Φ Wi false iv σ2 H4 fun z H5 => ∃ kvs k, y = kV k ∧ H5 D = some (.dK kvs) ∧ kvs.length < sizeLine ∧ Nx (upd H5 D (.dK (putK kvs k z))) else Nx H3) := by
  have hs0 : Hs1 D = none := st.le.there hD
  have hr0 : D ∉ ρ1 := rho_new hD st.bx
  let Iv : Nat → Hp → Prop := fun i H => i ≤ ds.length ∧ ∃ Hs ρ B acc kvs, Gr Hs1 H1 ρ1 Hs H ρ ∧ Le Hs H ∧ BOk K Hs ρ H B ∧ H D = some (.dK kvs) ∧ Hs D = none ∧ D ∉ ρ ∧ RepK K Hs ρ acc kvs ∧ (kvs.map (·.1)).Nodup ∧ kvs.length ≤ i ∧
    OutG K W0 Hs0 ρ0 H0 ((dcLoop (dcF Φ tg ik iv σ) (ds.drop i) acc B).bind fun r => .ok (.dic false r.1, r.2)) R
  refine ⟨fun i m H => m = ds.length - i ∧ Iv i H, ⟨_, rfl, Nat.zero_le _, Hs1, ρ1, B1, [], [], gr_new hD, le_new st.le hD, bok_new hD st.bx, upd_same, hs0, hr0, .nil, List.nodup_nil, Nat.zero_le _, out⟩, ?_⟩
  rintro i m H ⟨rfl, hi, Hs, ρ, B, acc, kvs, g, l, b, h1, h2, h3, h4, nd, h5, out⟩
  by_cases he : i = ds.length
  · subst he
    rw [List.drop_length] at out
    exact .inl ⟨hit.stop _ Hs H ρ (.of g) l (Nat.le_refl _), fin acc B H Hs ρ out g l b ⟨_, h1, h4⟩ h2 h3⟩
  · have hlt : i < ds.length := by omega
    rw [List.drop_eq_getElem_cons hlt] at out
    refine .inr ⟨hit.go i Hs H ρ (.of g) l hlt, fun H' => Iv (i + 1) H', fun H' h => ⟨ds.length - (i + 1), by omega, rfl, h⟩, fun x H' hy => ?_⟩
    obtain ⟨Hs2, g2, l2, b2, r2⟩ := hit.yld i Hs H ρ B x H' _ (.of g) l b (List.getElem?_eq_getElem hlt) hy
    have out : OutG K W0 Hs0 ρ0 H0 (((dcF Φ tg ik iv σ ds[i] B).bind fun x => dcLoop (dcF Φ tg ik iv σ) (ds.drop (i + 1)) (kput x.1.1 x.1.2 acc) x.2).bind fun r => .ok (.dic false r.1, r.2)) R := out
    rw [Rs.bind_bind] at out
    have out : OutG K W0 Hs0 ρ0 H0 (((Rs.of (put tg ds[i] (wipeS σ tg.names))).bind fun σ' => (ev Φ false ik σ' B).bind fun y => (ev Φ false iv σ' y.2).bind fun z =>
      if y.1.keyOk false then Rs.ok ((y.1, z.1), z.2) else .bad).bind fun x => (dcLoop (dcF Φ tg ik iv σ) (ds.drop (i + 1)) (kput x.1.1 x.1.2 acc) x.2).bind fun r => .ok (.dic false r.1, r.2)) R := out
    rw [Rs.bind_bind] at out
    obtain ⟨σ', hput, out⟩ := OutG.of out
    have hown : OwnAt K Hs ρ H D (.dic false acc) := ⟨_, h1, h4⟩
    refine ⟨Hs2, ρ, wipeS σ tg.names, B, _, σ', ((st.grow g l b).grow g2 l2 b2).wipe_ _, r2, hput, fun σV' st' kp => ⟨?_, ?_⟩⟩
    · rw [wipe_set (L2.wipe σV tg.names) tg.names σV' kp.lv kp.v, wipe_wipe]
    rw [Rs.bind_bind] at out
    refine ⟨Hs2, ρ, σ', B, st', ?_⟩
    show Yld K false Hs2 ρ H' B (.bl true) _
    intro v0 H3 Hs3 ρ3 g3 l3 b3 r3
    refine ⟨true, bl_of r3, ?_⟩
    show (if true = true then _ else _)
    rw [if_pos rfl]
    refine ⟨Hs3, ρ3, σ', B, st'.grow g3 l3 b3, OutG.bindC out fun y B4 v4 H4 Hs4 ρ4 g4 l4 b4 r4 out => ?_⟩
    rw [Rs.bind_bind] at out
    refine ⟨Hs4, ρ4, σ', B4, (st'.grow g3 l3 b3).grow g4 l4 b4, OutG.bindC out fun z B5 v5 H5 Hs5 ρ5 g5 l5 b5 r5 out => ?_⟩
    have hk : y.keyOk false = true := by
      cases q : y.keyOk false with
      | true => rfl
      | false =>
        rw [q] at out
        exact out.elim
    rw [if_pos hk] at out
    have out : OutG K W0 Hs0 ρ0 H0 ((dcLoop (dcF Φ tg ik iv σ) (ds.drop (i + 1)) (kput y z acc) B5).bind fun r => .ok (.dic false r.1, r.2)) R := out
    obtain ⟨kk, hkk, rfl⟩ := key_of (H := H4) hk (.inl r4.val)
    have gg := ((g2.trans g3).trans g4).trans g5
    obtain ⟨⟨kvs', hd5, hr5⟩, hn5, hp5⟩ := gg.own hown h2 h3
    have hkv : kvs' = kvs := by
      have := gg.kp D _ h1 h3
      rw [hd5] at this
      cases this
      rfl
    subst hkv
    have lenA : kvs'.length < sizeLine := by
      rw [ln_eq]
      omega
    have hlp : (putK kvs' kk v5).length ≤ kvs'.length + 1 := by
      unfold putK
      split
      · rw [List.length_map]; omega
      · rw [List.length_append]; simp
    refine ⟨kvs', kk, rfl, hd5, lenA, hlt, Hs5, ρ5, B5, kput y z acc, putK kvs' kk v5, ?_, ?_, ?_, upd_same, hn5, hp5, RepK.put hkk r5.val nd hr5, putK_keys kk v5 kvs' nd, by omega, out⟩
    · have g' := g.trans gg
      refine ⟨g'.hs, g'.fr, fun a o q n => ?_, fun a o q => ?_, g'.rp, g'.rn⟩
      · rw [upd_ne (ne_of_none q hD)]
        exact g'.kp a o q n
      · rw [upd_ne (ne_of_none q hD)]
        exact g'.th a o q
    · intro a o q
      rw [upd_ne (ne_of_none q hn5)]
      exact l5 a o q
    · refine ⟨b5.len, b5.nd, fun n a d e1 e2 => ?_⟩
      obtain ⟨h, hn⟩ := b5.at_ n a d e1 e2
      exact ⟨h.mono (Le.refl _) (List.prefix_refl _) (upd_ne fun z => hp5 (by rw [← z]; exact List.mem_of_getElem? e1)), hn⟩
section
variable {X : Cx} {Φ : Fn} {W : WX} {kx vx tp it : Expr} {scope : Scope} {own : List (Str × Nat)} {cpos : Pos} {tg : Tg} {iit ik iv : E}
theorem dc_read {R : Hp → List Addr → Hp → D × List D → Prop} (hR : Shf R) {σV : L2.St} {H : Hp} {Q : VK} {p : Bool}
    (hq : ∀ Hs ρ H x, R Hs ρ H x → YldN X.K Hs ρ H x.2 x.1 Q) (h : ∃ Hs ρ σ B, Stt X.K Hs ρ H σV σ B ∧ OutG X.K (fun c d h => W c d σV h) Hs ρ H (ev Φ p (.dc false tg iit ik iv) σ B) (R Hs ρ H)) :
    tDc (rdI X.K Φ W true iit) (rdP X.K tg) (rdT X.K Φ WX0 (.cst (.bl true))) (rdE X.K Φ WX0 false ik) (rdE X.K Φ WX0 false iv) tg.names σV H Q := by
  obtain ⟨Hs, ρ, σ, B, st, out⟩ := h
  refine ⟨Hs, ρ, σ, B, st, ?_⟩
  have out : OutG X.K (fun c d h => W c d σV h) Hs ρ H ((ev Φ true iit σ B).bind fun x => (Rs.of (itemsOf x.1)).bind fun ds => if ds.length ≤ ln then (dcLoop (dcF Φ tg ik iv σ) ds [] x.2).bind fun r => .ok (.dic false r.1, r.2) else .bad) (R Hs ρ H) := out
  cases q : ev Φ true iit σ B with
  | bad => rw [q] at out; exact out
  | ex c ps B => exact exx_any
  | ok x =>
    rw [q] at out
    obtain ⟨ds, hds, out⟩ := OutG.of (show OutG X.K _ Hs ρ H ((Rs.of (itemsOf x.1)).bind fun ds => if ds.length ≤ ln then (dcLoop (dcF Φ tg ik iv σ) ds [] x.2).bind fun r => Rs.ok (.dic false r.1, r.2) else .bad) (R Hs ρ H) from out)
    obtain ⟨hl, out⟩ := OutG.ite out
    show OutG X.K _ Hs ρ H ((Rs.of (itemsOf x.1)).bind fun ds => Rs.ok (ds, x.2)) _
    rw [hds]
    intro J H1 Hs1 ρ1 g1 l1 b1 hit D hD
    refine dc_turns (st.grow g1 l1 b1) hit hl out hD fun l B H' Hs' ρ' r g l_ b own n nr => ?_
    have y : YldF X.K Hs ρ H B (.dic false l) Q := hq _ _ _ _ r
    exact y D H' Hs' ρ' (g1.trans g) l_ b own n nr (g1.none_ hD)
theorem e_dc (hc : X.calm = true) (hN : X.N.Nodup) (hi : IOk X Φ W true tp it iit) (ok : BlkOk X.N X.env.scope scope own) (hv : own.map (·.2) = tg.names)
    (hg : ∀ (s : Shared) (H : Hp) (C : Addr) (cl : List (Str × Addr)) (fp : List Addr), GOk (X.blk s H scope (compEnvC scope cl C X.env) fp) tp tg)
    (hk : ∀ (s : Shared) (H : Hp) (C : Addr) (cl : List (Str × Addr)) (fp : List Addr), EOk (X.blk s H scope (compEnvC scope cl C X.env) fp) Φ WX0 kx ik)
    (he : ∀ (s : Shared) (H : Hp) (C : Addr) (cl : List (Str × Addr)) (fp : List Addr), EOk (X.blk s H scope (compEnvC scope cl C X.env) fp) Φ WX0 vx iv)
    (hs : ∀ x, foldedSetIterable it X.env x = pure x := by intro _; rfl) : EOk X Φ W (.DictComp kx vx [⟨tp, it, [], 0⟩] scope cpos) (.dc false tg iit ik iv) :=
  ⟨fun p => (pe_dc (own := own) hc hN hi.run ok (fun s H C cl fp => (hg s H C cl fp).run) (fun s H C cl fp => (ts_nil (Φ := Φ) (W := WX0)).run) (fun s H C cl fp => (hk s H C cl fp).run false) (fun s H C cl fp => (he s H C cl fp).run false) hs).weaken fun σV H Q h => by
    rw [hv]
    exact dc_read Yld.shf (fun _ _ _ _ h => .of h) h⟩
theorem f_dc (hc : X.calm = true) (hN : X.N.Nodup) (hi : IOk X Φ W true tp it iit) (ok : BlkOk X.N X.env.scope scope own) (hv : own.map (·.2) = tg.names)
    (hg : ∀ (s : Shared) (H : Hp) (C : Addr) (cl : List (Str × Addr)) (fp : List Addr), GOk (X.blk s H scope (compEnvC scope cl C X.env) fp) tp tg)
    (hk : ∀ (s : Shared) (H : Hp) (C : Addr) (cl : List (Str × Addr)) (fp : List Addr), EOk (X.blk s H scope (compEnvC scope cl C X.env) fp) Φ WX0 kx ik)
    (he : ∀ (s : Shared) (H : Hp) (C : Addr) (cl : List (Str × Addr)) (fp : List Addr), EOk (X.blk s H scope (compEnvC scope cl C X.env) fp) Φ WX0 vx iv)
    (hs : ∀ x, foldedSetIterable it X.env x = pure x := by intro _; rfl) : FOk X Φ W (.DictComp kx vx [⟨tp, it, [], 0⟩] scope cpos) (.dc false tg iit ik iv) :=
  ⟨(pe_dc (own := own) hc hN hi.run ok (fun s H C cl fp => (hg s H C cl fp).run) (fun s H C cl fp => (ts_nil (Φ := Φ) (W := WX0)).run) (fun s H C cl fp => (hk s H C cl fp).run false) (fun s H C cl fp => (he s H C cl fp).run false) hs).weaken fun σV H Q h => by
    rw [hv]
    exact dc_read YldF.shf (fun _ _ _ _ h => .ofF h) h⟩
end
end Pz
namespace Pz
open PySem PySem.Spec PyProof.Rows L2
/-! ### a, b, .. = x, y, .. by way of a tuple, things just made among them -/
/-- values on their way to names, each behind the ones ahead of it -/
inductive SlVs (K : PySem.W.Frag) (Hs : Hp) (ρ : List Addr) (H : Hp) : Hp → List Sl → List V → Prop
  | nil {H0 : Hp} : SlVs K Hs ρ H H0 [] []
  | cons {H0 H1 : Hp} {sl : Sl} {v : V} {sls : List Sl} {vs : List V} : SlV K Hs ρ H H0 sl v → (∀ a, H1 a = none → H0 a = none) → (∀ a d, sl = .own d → v = .ref a → H1 a ≠ none) → SlVs K Hs ρ H H1 sls vs → SlVs K Hs ρ H H0 (sl :: sls) (v :: vs)
section
variable {K : PySem.W.Frag} {Hs Hs' H H' H0 : Hp} {ρ ρ' : List Addr}
theorem SlVs.grow {sls : List Sl} {vs : List V} (h : SlVs K Hs ρ H H0 sls vs) (g : Gr Hs H ρ Hs' H' ρ') : SlVs K Hs' ρ' H' H0 sls vs := by
  induction h with
  | nil => exact .nil
  | cons h1 h2 h3 _ ih => exact .cons (h1.grow g) h2 h3 ih
theorem SlVs.len {sls : List Sl} {vs : List V} (h : SlVs K Hs ρ H H0 sls vs) : sls.length = vs.length := by
  induction h with
  | nil => rfl
  | cons _ _ _ _ ih => exact congrArg Nat.succ ih
def setsV : List Nat → List V → L2.St → L2.St
  | i :: is, v :: vs, σ => setsV is vs (σ.set i (some v))
  | _, _, σ => σ
theorem SSt.setXs {E : En} {B : List D} {sls : List Sl} {vs : List V} (h : SlVs K Hs ρ H H0 sls vs) : ∀ {is : List Nat} {σV : L2.St} {σ σ' : Sg}, SSt K E Hs ρ H σV σ B → setAll is sls σ = some σ' → (∀ a, H0 a = none → E.H a = none) →
    (∀ (j : Nat) (a : Addr) (e : D), σ[j]? = some (.own e) → σV[j]? = some (some (.ref a)) → H0 a ≠ none) → SSt K E Hs ρ H (setsV is vs σV) σ' B := by
  induction h with
  | nil =>
    intro is σV σ σ' s e _ _
    cases is with
    | nil => cases e; exact s
    | cons i is => cases e
  | @cons H0 H1 sl v sls vs h1 h2 h3 _ ih =>
    intro is σV σ σ' s e h0 nd
    cases is with
    | nil => cases e
    | cons i is =>
      obtain ⟨hi, e⟩ := cons_ite' (show (if i < σ.length then setAll is sls (σ.set i sl) else none) = some σ' from e)
      refine ih (is := is) (s.setX hi h1 h0 nd) e (fun a q => h0 a (h2 a q)) fun j a d e1 e2 => ?_
      rcases set_at e1 with ⟨q, rfl⟩ | ⟨q, e1⟩
      · subst q
        rw [List.getElem?_set_self (by rw [s.st.len]; exact hi)] at e2
        cases e2
        exact h3 a _ rfl rfl
      · rw [List.getElem?_set_ne q] at e2
        exact fun z => nd j a d e1 e2 (h2 a z)
end
def YldXs (K : PySem.W.Frag) (Hs : Hp) (ρ : List Addr) (H : Hp) (B : List D) (sls : List Sl) (Q : List V → Hp → Prop) : Prop :=
  ∀ vs H' Hs' ρ', Gr Hs H ρ Hs' H' ρ' → Le Hs' H' → BOk K Hs' ρ' H' B → SlVs K Hs' ρ' H' H sls vs → Q vs H'
def rdXs (K : PySem.W.Frag) (Φ : Fn) (W : WX) (es : Es) : TA := fun σV H Q => ∃ Hs ρ σ B, Stt K Hs ρ H σV σ B ∧ OutG K (fun c d h => W c d σV h) Hs ρ H (evXs Φ es σ B) fun x => YldXs K Hs ρ H x.2 x.1 Q
structure XsOk (X : Cx) (Φ : Fn) (W : WX) (pe : List Expr) (ie : Es) : Prop where
  run : PA X pe (rdXs X.K Φ W ie)
section
variable {X : Cx} {Φ : Fn} {W : WX} {e : Expr} {es : List Expr} {ie : E} {ies : Es}
theorem xs_nil : XsOk X Φ W [] .nil := ⟨pa_nil.weaken fun σV H Q ⟨Hs, ρ, σ, B, st, out⟩ => (show YldXs X.K Hs ρ H B [] Q from out) [] H Hs ρ .refl st.le st.bx .nil⟩
theorem xs_cons (h : XOk X Φ W e ie) (h2 : XsOk X Φ W es ies) (hst : starEach (e :: es) X.env = (false, eval e X.env) :: starEach es X.env := by rfl) : XsOk X Φ W (e :: es) (.cons ie ies) :=
  ⟨(pa_cons h.run h2.run hst).weaken fun σV H Q ⟨Hs, ρ, σ, B, st, out⟩ => by
    refine ⟨Hs, ρ, σ, B, st, ?_⟩
    have out : OutG X.K (fun c d h => W c d σV h) Hs ρ H ((evX Φ ie σ B).bind fun x => (evXs Φ ies σ x.2).bind fun y => .ok (x.1 :: y.1, y.2)) (fun x => YldXs X.K Hs ρ H x.2 x.1 Q) := out
    cases q : evX Φ ie σ B with
    | bad => rw [q] at out; exact out
    | ex c ps B => exact exx_any
    | ok x =>
      rw [q] at out
      intro v H1 Hs1 ρ1 g1 l1 b1 r1
      refine ⟨Hs1, ρ1, σ, x.2, st.grow g1 l1 b1, ?_⟩
      have out : OutG X.K (fun c d h => W c d σV h) Hs ρ H ((evXs Φ ies σ x.2).bind fun y => .ok (x.1 :: y.1, y.2)) (fun x => YldXs X.K Hs ρ H x.2 x.1 Q) := out
      cases q2 : evXs Φ ies σ x.2 with
      | bad => rw [q2] at out; exact out
      | ex c ps B => exact exx_any
      | ok y =>
        rw [q2] at out
        have out : YldXs X.K Hs ρ H y.2 (x.1 :: y.1) Q := out
        refine fun vs H2 Hs2 ρ2 g2 l2 b2 r2 => out (v :: vs) H2 Hs2 ρ2 (g1.trans g2) l2 b2 (.cons (H1 := H1) (r1.grow g2) (fun a q => g1.none_ q) (fun a d e1 e2 => ?_) r2)
        rw [e1] at r1
        obtain ⟨a', e', o, _⟩ := r1
        rw [e2] at e'
        cases e'
        obtain ⟨u, hu⟩ := o.some_
        rw [hu]; simp⟩
/-- plain names as targets -/
def gNs (is : List Nat) : TGs := fun vs σ H Q => vs.length = is.length ∧ Q (setsV is vs σ) H
structure NsOk (X : Cx) (pe : List Expr) (is : List Nat) : Prop where
  run : PGs X pe (gNs is)
theorem n_nil : NsOk X [] [] := ⟨⟨fun pins s σV H vs us Q I r ⟨e, q⟩ => pgs_nil.run pins s σV H vs us Q I r ⟨List.length_eq_zero_iff.1 e, by
  have : vs = [] := List.length_eq_zero_iff.1 e
  subst this
  exact q⟩⟩⟩
theorem n_cons {i : Nat} {is : List Nat} {x : Str} {pos : Pos} (hN : X.N.Nodup) (hi : X.N[i]? = some x) (hx : Loc X.env.scope x) (hf : X.fn x = true ∨ X.env.scope.names.lookup x = some .local) (h2 : NsOk X es is)
    (hs : (assignEach (.Name x pos :: es) X.env).map (·.2) = assign (.Name x pos) X.env :: (assignEach es X.env).map (·.2) := by rfl) : NsOk X (.Name x pos :: es) (i :: is) :=
  ⟨⟨fun pins s σV H vs us Q I r ⟨e, q⟩ => by
    cases vs with
    | nil => cases e
    | cons v vs => exact (pgs_cons (pg_name hN hi hx hf) h2.run hs).run pins s σV H (v :: vs) us Q I r ⟨v, vs, rfl, by simpa using e, q⟩⟩⟩
theorem setAll_len : ∀ {is : List Nat} {sls : List Sl} {σ σ' : Sg}, setAll is sls σ = some σ' → sls.length = is.length
  | [], [], _, _, _ => rfl
  | [], _ :: _, _, _, e => by cases e
  | _ :: _, [], _, _, e => by cases e
  | i :: is, sl :: sls, σ, σ', e => by
    obtain ⟨_, e⟩ := cons_ite' (show (if i < σ.length then setAll is sls (σ.set i sl) else none) = some σ' from e)
    exact congrArg Nat.succ (setAll_len e)
theorem s_parT {ns : List Expr} {is : List Nat} {pt pos pt2 : Pos} {kt k2} (hc : X.calm = true) (h : XsOk X Φ WX0 es ies) (hn : NsOk X ns is)
    (hl : (assignEach ns X.env).length = is.length := by rfl) (hst : (assignEach ns X.env).findIdx? (·.1) = none := by rfl)
    (hs : swapsWithSole [.Tuple ns kt pt] (.Tuple es k2 pt2) pos.line X.env = pure false := by rfl) (hw : swappedStores [.Tuple ns kt pt] (.Tuple es k2 pt2) X.env = pure none := by rfl)
    (h1 : (assignEach [.Tuple ns kt pt] X.env).map (·.2) = [assign (.Tuple ns kt pt) X.env] := by rfl) (hsz : is.length ≤ 100 := by decide) : StOk X Φ (.Assign [.Tuple ns kt pt] (.Tuple es k2 pt2) pos) (.par is ies) :=
  ⟨fun W E => (ps_asg (pe_tup h.run) (pg_tup hc hn.run hl hst) hs hw h1).weaken fun D_ σV H ⟨Hs, ρ, σ, B, s, out⟩ => by
    have out : OutS X.K W E D_ ((evXs Φ ies σ B).bind fun x => (Rs.of (setAll is x.1 σ)).bind fun σ' => .ok (.next, σ', x.2)) := out
    refine ⟨Hs, ρ, σ, B, s.st, ?_⟩
    cases q : evXs Φ ies σ B with
    | bad => rw [q] at out; exact out
    | ex c ps B => exact exx_any
    | ok x =>
      rw [q] at out
      obtain ⟨σ', hset, out⟩ := OutS.of out
      intro vs H1 Hs1 ρ1 g1 l1 b1 r1
      have hlen : vs.length = is.length := by rw [← r1.len]; exact setAll_len hset
      have s1 := s.grow g1 l1 b1
      refine ⟨by rw [hlen]; exact Nat.le_trans hsz (by decide), fun p hp => ⟨p, vs, rfl, SqT.of upd_same, hlen, hlen, ?_⟩⟩
      have g2 : Gr Hs1 H1 ρ1 Hs1 (upd H1 p (.tup vs)) ρ1 := gr_new hp
      have s2 := s1.grow g2 (le_new l1 hp) (bok_new hp b1)
      exact out _ _ _ _ (SSt.setXs (r1.grow g2) s2 hset (fun a h => s.gr.none_ h) fun j a e h1 h2 => own_some s j a e h1 h2)⟩
end
end Pz
end
section
set_option Elab.async false
set_option linter.all false
namespace Pz
/-! ### evaluation, step by step: what is still to be done stands as data, so that a rewriting goes from left to right -/
section
variable (Φ : Fn) (p : Bool) (σ : Sg) (B : List D)
abbrev Re := Rs (D × List D)
abbrev Res := Rs (List D × List D)
def kVar (B : List D) : Option Sl → Re
  | some (.val d) => .ok (d, B)
  | _ => .bad
@[simp] theorem kVar_v (d : D) : kVar B (some (.val d)) = .ok (d, B) := rfl
def kOwn (B : List D) : Option Sl → Re
  | some (.own d) => .ok (d, B)
  | _ => .bad
@[simp] theorem kOwn_o (d : D) : kOwn B (some (.own d)) = .ok (d, B) := rfl
def kOf (B : List D) : Option D → Re
  | some d => .ok (d, B)
  | none => .bad
@[simp] theorem kOf_s (d : D) : kOf B (some d) = .ok (d, B) := rfl
theorem kOf_if {c : Prop} [Decidable c] (d : D) (h : c) : kOf B (if c then some d else none) = .ok (d, B) := by rw [if_pos h]; rfl
@[simp] theorem kOf_if' {c : Prop} [Decidable c] (d : D) : kOf B (if c then some d else none) = if c then .ok (d, B) else .bad := by by_cases h : c <;> simp [h, kOf]
def kOb (B : List D) : Option Bool → Re
  | some d => .ok (.bl d, B)
  | none => .bad
@[simp] theorem kOb_s (d : Bool) : kOb B (some d) = .ok (.bl d, B) := rfl
theorem kOf_eq (o : Option D) : kOf B o = (Rs.of o).bind fun d => .ok (d, B) := by cases o <;> rfl
theorem kOb_eq (o : Option Bool) : kOb B o = (Rs.of o).bind fun d => .ok (.bl d, B) := by cases o <;> rfl
@[simp] theorem ev_cst (d : D) : ev Φ p (.cst d) σ B = .ok (d, B) := rfl
@[simp] theorem ev_var (i : Nat) : ev Φ p (.var i) σ B = kVar B σ[i]? := rfl
@[simp] theorem ev_own (i : Nat) : ev Φ true (.own i) σ B = kOwn B σ[i]? := by
  unfold ev; cases h : σ[i]? with
  | none => rfl
  | some s => cases s <;> rfl
def kBin2 (o : Bop) (x : D) : Re → Re
  | .ok (y, B) => kOf B (opB o (drf B x) (drf B y))
  | .ex c p B => .ex c p B
  | .bad => .bad
@[simp] theorem kBin2_ok (o : Bop) (x y : D) : kBin2 o x (.ok (y, B)) = kOf B (opB o (drf B x) (drf B y)) := rfl
def kBin1 (o : Bop) (b : E) (m : Re) : Re := m.bind fun x => kBin2 o x.1 (ev Φ true b σ x.2)
@[simp] theorem kBin1_ok (o : Bop) (b : E) (x : D) : kBin1 Φ σ o b (.ok (x, B)) = kBin2 o x (ev Φ true b σ B) := rfl
@[simp] theorem ev_bin (o : Bop) (a b : E) : ev Φ p (.bin o a b) σ B = kBin1 Φ σ o b (ev Φ true a σ B) := by
  show ((ev Φ true a σ B).bind fun x => (ev Φ true b σ x.2).bind fun y => (Rs.of (opB o (drf y.2 x.1) (drf y.2 y.1))).bind fun d => .ok (d, y.2)) = _
  unfold kBin1
  congr 1; funext x
  cases ev Φ true b σ x.2 with
  | ok y => exact (kOf_eq _ _).symm
  | ex c p B => rfl
  | bad => rfl
def kCmp2 (o : Cop) (x : D) : Re → Re
  | .ok (y, B) => kOb B (opC o (drf B x) (drf B y))
  | .ex c p B => .ex c p B
  | .bad => .bad
@[simp] theorem kCmp2_ok (o : Cop) (x y : D) : kCmp2 o x (.ok (y, B)) = kOb B (opC o (drf B x) (drf B y)) := rfl
def kCmp1 (o : Cop) (b : E) (m : Re) : Re := m.bind fun x => kCmp2 o x.1 (ev Φ true b σ x.2)
@[simp] theorem kCmp1_ok (o : Cop) (b : E) (x : D) : kCmp1 Φ σ o b (.ok (x, B)) = kCmp2 o x (ev Φ true b σ B) := rfl
@[simp] theorem ev_cmp (o : Cop) (a b : E) : ev Φ p (.cmp o a b) σ B = kCmp1 Φ σ o b (ev Φ true a σ B) := by
  show ((ev Φ true a σ B).bind fun x => (ev Φ true b σ x.2).bind fun y => (Rs.of (opC o (drf y.2 x.1) (drf y.2 y.1))).bind fun d => .ok (D.bl d, y.2)) = _
  unfold kCmp1
  congr 1; funext x
  cases ev Φ true b σ x.2 with
  | ok y => exact (kOb_eq _ _).symm
  | ex c p B => rfl
  | bad => rfl
def kCh3 (q : Cop) (y : D) (m : Re) : Re := kCmp2 q y m
@[simp] theorem kCh3_ok (q : Cop) (y z : D) : kCh3 q y (.ok (z, B)) = kOb B (opC q (drf B y) (drf B z)) := rfl
def kCh2b (q : Cop) (y : D) (c : E) (B : List D) : Option Bool → Re
  | some true => kCh3 q y (ev Φ true c σ B)
  | some false => .ok (.bl false, B)
  | none => .bad
@[simp] theorem kCh2b_t (q : Cop) (y : D) (c : E) : kCh2b Φ σ q y c B (some true) = kCh3 q y (ev Φ true c σ B) := rfl
@[simp] theorem kCh2b_f (q : Cop) (y : D) (c : E) : kCh2b Φ σ q y c B (some false) = .ok (.bl false, B) := rfl
theorem kCh2b_b (q : Cop) (y : D) (c : E) (k : Bool) : kCh2b Φ σ q y c B (some k) = if k then kCh3 q y (ev Φ true c σ B) else .ok (.bl false, B) := by cases k <;> rfl
def kCh2 (o q : Cop) (x : D) (c : E) : Re → Re
  | .ok (y, B) => kCh2b Φ σ q y c B (opC o (drf B x) (drf B y))
  | .ex c p B => .ex c p B
  | .bad => .bad
@[simp] theorem kCh2_ok (o q : Cop) (x y : D) (c : E) : kCh2 Φ σ o q x c (.ok (y, B)) = kCh2b Φ σ q y c B (opC o (drf B x) (drf B y)) := rfl
def kCh1 (o q : Cop) (b c : E) (m : Re) : Re := m.bind fun x => kCh2 Φ σ o q x.1 c (ev Φ true b σ x.2)
@[simp] theorem kCh1_ok (o q : Cop) (b c : E) (x : D) : kCh1 Φ σ o q b c (.ok (x, B)) = kCh2 Φ σ o q x c (ev Φ true b σ B) := rfl
@[simp] theorem ev_chain (o q : Cop) (a b c : E) : ev Φ p (.chain o q a b c) σ B = kCh1 Φ σ o q b c (ev Φ true a σ B) := by
  show ((ev Φ true a σ B).bind fun x => (ev Φ true b σ x.2).bind fun y => (Rs.of (opC o (drf y.2 x.1) (drf y.2 y.1))).bind fun d =>
      if d then (ev Φ true c σ y.2).bind fun z => (Rs.of (opC q (drf z.2 y.1) (drf z.2 z.1))).bind fun e => .ok (D.bl e, z.2) else .ok (D.bl false, y.2)) = _
  unfold kCh1
  congr 1; funext x
  cases ev Φ true b σ x.2 with
  | ok y =>
    show _ = kCh2b _ _ _ _ _ _ _
    show ((Rs.of (opC o (drf y.2 x.1) (drf y.2 y.1))).bind _) = _
    cases opC o (drf y.2 x.1) (drf y.2 y.1) with
    | none => rfl
    | some d =>
      cases d with
      | false => rfl
      | true =>
        show ((ev Φ true c σ y.2).bind _) = kCh3 q y.1 (ev Φ true c σ y.2)
        cases ev Φ true c σ y.2 with
        | ok z => exact (kOb_eq _ _).symm
        | ex c p B => rfl
        | bad => rfl
  | ex c p B => rfl
  | bad => rfl
def kAnd (b : E) (m : Re) : Re := m.bind fun x => isB x.1 fun k => if k then ev Φ false b σ x.2 else .ok (.bl false, x.2)
@[simp] theorem kAnd_t (b : E) : kAnd Φ σ b (.ok (.bl true, B)) = ev Φ false b σ B := rfl
@[simp] theorem kAnd_f (b : E) : kAnd Φ σ b (.ok (.bl false, B)) = .ok (.bl false, B) := rfl
theorem kAnd_b (b : E) (k : Bool) : kAnd Φ σ b (.ok (.bl k, B)) = if k then ev Φ false b σ B else .ok (.bl false, B) := rfl
@[simp] theorem ev_and (a b : E) : ev Φ p (.and a b) σ B = kAnd Φ σ b (ev Φ false a σ B) := rfl
def kOr (b : E) (m : Re) : Re := m.bind fun x => isB x.1 fun k => if k then .ok (.bl true, x.2) else ev Φ false b σ x.2
@[simp] theorem kOr_t (b : E) : kOr Φ σ b (.ok (.bl true, B)) = .ok (.bl true, B) := rfl
@[simp] theorem kOr_f (b : E) : kOr Φ σ b (.ok (.bl false, B)) = ev Φ false b σ B := rfl
theorem kOr_b (b : E) (k : Bool) : kOr Φ σ b (.ok (.bl k, B)) = if k then .ok (.bl true, B) else ev Φ false b σ B := rfl
@[simp] theorem ev_or (a b : E) : ev Φ p (.or a b) σ B = kOr Φ σ b (ev Φ false a σ B) := rfl
def kNot (m : Re) : Re := m.bind fun x => isB x.1 fun k => .ok (.bl (!k), x.2)
@[simp] theorem kNot_b (k : Bool) : kNot (.ok (.bl k, B)) = .ok (.bl (!k), B) := rfl
@[simp] theorem ev_not (a : E) : ev Φ p (.not a) σ B = kNot (ev Φ false a σ B) := rfl
def kIte (a b : E) (m : Re) : Re := m.bind fun x => isB x.1 fun k => if k then ev Φ false a σ x.2 else ev Φ false b σ x.2
@[simp] theorem kIte_t (a b : E) : kIte Φ σ a b (.ok (.bl true, B)) = ev Φ false a σ B := rfl
@[simp] theorem kIte_f (a b : E) : kIte Φ σ a b (.ok (.bl false, B)) = ev Φ false b σ B := rfl
theorem kIte_b (a b : E) (k : Bool) : kIte Φ σ a b (.ok (.bl k, B)) = if k then ev Φ false a σ B else ev Φ false b σ B := rfl
@[simp] theorem ev_ite (c a b : E) : ev Φ p (.ite c a b) σ B = kIte Φ σ a b (ev Φ false c σ B) := rfl
def kNeg (m : Re) : Re := m.bind fun x => match x.1 with | .int i => .ok (.int (-i), x.2) | _ => .bad
@[simp] theorem kNeg_ok (i : Int) : kNeg (.ok (.int i, B)) = .ok (.int (-i), B) := rfl
@[simp] theorem ev_neg (a : E) : ev Φ p (.neg a) σ B = kNeg (ev Φ false a σ B) := rfl
def kSub2 (x : D) : Re → Re
  | .ok (y, B) => kOf B (subD (drf B x) (drf B y))
  | .ex c p B => .ex c p B
  | .bad => .bad
@[simp] theorem kSub2_ok (x y : D) : kSub2 x (.ok (y, B)) = kOf B (subD (drf B x) (drf B y)) := rfl
def kSub1 (b : E) (m : Re) : Re := m.bind fun x => kSub2 x.1 (ev Φ true b σ x.2)
@[simp] theorem kSub1_ok (b : E) (x : D) : kSub1 Φ σ b (.ok (x, B)) = kSub2 x (ev Φ true b σ B) := rfl
@[simp] theorem ev_sub (a b : E) : ev Φ p (.sub a b) σ B = kSub1 Φ σ b (ev Φ true a σ B) := by
  show ((ev Φ true a σ B).bind fun x => (ev Φ true b σ x.2).bind fun y => (Rs.of (subD (drf y.2 x.1) (drf y.2 y.1))).bind fun d => .ok (d, y.2)) = _
  unfold kSub1
  congr 1; funext x
  cases ev Φ true b σ x.2 with
  | ok y => exact (kOf_eq _ _).symm
  | ex c p B => rfl
  | bad => rfl
def kCut3 (hi : E) (x : D) (l : Option Int) (m : Re) : Re := m.bind fun z => (Rs.of (part hi z.1)).bind fun h => kOf z.2 (cutD (drf z.2 x) l h)
theorem kCut3_ok (hi : E) (x z : D) (l h : Option Int) (e : part hi z = some h) : kCut3 hi x l (.ok (z, B)) = kOf B (cutD (drf B x) l h) := by
  show ((Rs.of (part hi z)).bind _) = _
  rw [e]; rfl
@[simp] theorem kCut3_no (x : D) (l : Option Int) : kCut3 .nop x l (.ok (.non, B)) = kOf B (cutD (drf B x) l none) := rfl
@[simp] theorem kCut3_int (hi : E) (x : D) (l : Option Int) (i : Int) (h : hi ≠ .nop) : kCut3 hi x l (.ok (.int i, B)) = kOf B (cutD (drf B x) l (some i)) := by
  refine kCut3_ok _ _ _ _ _ _ ?_
  cases hi <;> first | rfl | exact absurd rfl h
def kCut2 (lo hi : E) (x : D) (m : Re) : Re := m.bind fun y => (Rs.of (part lo y.1)).bind fun l => kCut3 hi x l (ev Φ false hi σ y.2)
@[simp] theorem kCut2_no (hi : E) (x : D) : kCut2 Φ σ .nop hi x (.ok (.non, B)) = kCut3 hi x none (ev Φ false hi σ B) := rfl
@[simp] theorem kCut2_int (lo hi : E) (x : D) (i : Int) (h : lo ≠ .nop) : kCut2 Φ σ lo hi x (.ok (.int i, B)) = kCut3 hi x (some i) (ev Φ false hi σ B) := by
  show ((Rs.of (part lo (.int i))).bind _) = _
  have : part lo (.int i) = some (some i) := by cases lo <;> first | rfl | exact absurd rfl h
  rw [this]; rfl
def kCut1 (lo hi : E) (m : Re) : Re := m.bind fun x => kCut2 Φ σ lo hi x.1 (ev Φ false lo σ x.2)
@[simp] theorem kCut1_ok (lo hi : E) (x : D) : kCut1 Φ σ lo hi (.ok (x, B)) = kCut2 Φ σ lo hi x (ev Φ false lo σ B) := rfl
@[simp] theorem ev_cut (a lo hi : E) : ev Φ p (.cut a lo hi) σ B = kCut1 Φ σ lo hi (ev Φ true a σ B) := by
  show ((ev Φ true a σ B).bind fun x => (ev Φ false lo σ x.2).bind fun y => (Rs.of (part lo y.1)).bind fun l => (ev Φ false hi σ y.2).bind fun z =>
      (Rs.of (part hi z.1)).bind fun h => (Rs.of (cutD (drf z.2 x.1) l h)).bind fun d => .ok (d, z.2)) = _
  unfold kCut1 kCut2 kCut3
  simp only [kOf_eq]
@[simp] theorem ev_nop : ev Φ p .nop σ B = .ok (.non, B) := rfl
def kRev (m : Re) : Re := m.bind fun x => kOf x.2 (revD (drf x.2 x.1))
@[simp] theorem kRev_ok (x : D) : kRev (.ok (x, B)) = kOf B (revD (drf B x)) := rfl
@[simp] theorem ev_rev (a : E) : ev Φ p (.rev a) σ B = kRev (ev Φ true a σ B) := by
  show ((ev Φ true a σ B).bind fun x => (Rs.of (revD (drf x.2 x.1))).bind fun d => .ok (d, x.2)) = _
  unfold kRev; simp only [kOf_eq]
def kEvn (k : Nat) (m : Re) : Re := m.bind fun x => kOf x.2 (evnD k (drf x.2 x.1))
@[simp] theorem kEvn_ok (k : Nat) (x : D) : kEvn k (.ok (x, B)) = kOf B (evnD k (drf B x)) := rfl
@[simp] theorem ev_evn (a : E) (k : Nat) : ev Φ p (.evn a k) σ B = kEvn k (ev Φ true a σ B) := by
  show ((ev Φ true a σ B).bind fun x => (Rs.of (evnD k (drf x.2 x.1))).bind fun d => .ok (d, x.2)) = _
  unfold kEvn; simp only [kOf_eq]
def kTup (m : Res) : Re := m.bind fun x => if x.1.length ≤ ln then .ok (.tup x.1, x.2) else .bad
@[simp] theorem kTup_ok (x : List D) : kTup (.ok (x, B)) = if x.length ≤ ln then .ok (.tup x, B) else .bad := rfl
@[simp] theorem ev_tup (es : Es) : ev Φ p (.tup es) σ B = kTup (evs Φ false es σ B) := rfl
def kLst (m : Res) : Re := m.bind fun x => if x.1.length ≤ ln then .ok (.lst x.1, x.2) else .bad
@[simp] theorem kLst_ok (x : List D) : kLst (.ok (x, B)) = if x.length ≤ ln then .ok (.lst x, B) else .bad := rfl
@[simp] theorem ev_lst (es : Es) : ev Φ p (.lst es) σ B = kLst (evs Φ false es σ B) := rfl
@[simp] theorem ev_dnew (t : Bool) : ev Φ p (.dnew t) σ B = .ok (.dic t [], B) := rfl
def kCall (f : Nat) (m : Res) : Re := m.bind fun x => Φ f x.1 x.2
@[simp] theorem kCall_ok (f : Nat) (x : List D) : kCall Φ f (.ok (x, B)) = Φ f x B := rfl
@[simp] theorem ev_call (f : Nat) (es : Es) : ev Φ p (.call f es) σ B = kCall Φ f (evs Φ false es σ B) := rfl
def kBi (b : Bi) (m : Res) : Re := m.bind fun x => kOf x.2 (opBi b (x.1.map (drf x.2)))
@[simp] theorem kBi_ok (b : Bi) (x : List D) : kBi b (.ok (x, B)) = kOf B (opBi b (x.map (drf B))) := rfl
@[simp] theorem ev_bi (b : Bi) (es : Es) : ev Φ p (.bi b es) σ B = kBi b (evs Φ true es σ B) := by
  show ((evs Φ true es σ B).bind fun x => (Rs.of (opBi b (x.1.map (drf x.2)))).bind fun d => .ok (d, x.2)) = _
  unfold kBi; simp only [kOf_eq]
def kMt2 (b : Bi) (x : D) (m : Res) : Re := m.bind fun y => kOf y.2 (opBi b ((x :: y.1).map (drf y.2)))
@[simp] theorem kMt2_ok (b : Bi) (x : D) (y : List D) : kMt2 b x (.ok (y, B)) = kOf B (opBi b ((x :: y).map (drf B))) := rfl
def kMt1 (b : Bi) (es : Es) (m : Re) : Re := m.bind fun x => if recv b (drf x.2 x.1) then kMt2 b x.1 (evs Φ true es σ x.2) else .bad
@[simp] theorem kMt1_ok (b : Bi) (es : Es) (x : D) : kMt1 Φ σ b es (.ok (x, B)) = if recv b (drf B x) then kMt2 b x (evs Φ true es σ B) else .bad := rfl
@[simp] theorem ev_mt (b : Bi) (a : E) (es : Es) : ev Φ p (.mt b a es) σ B = kMt1 Φ σ b es (ev Φ true a σ B) := by
  show ((ev Φ true a σ B).bind fun x => if recv b (drf x.2 x.1) then (evs Φ true es σ x.2).bind fun y => (Rs.of (opBi b ((x.1 :: y.1).map (drf y.2)))).bind fun d => .ok (d, y.2) else .bad) = _
  unfold kMt1 kMt2; simp only [kOf_eq]
def kIsi (t : Ty) (m : Re) : Re := m.bind fun x => kOb x.2 (isiD t (drf x.2 x.1))
@[simp] theorem kIsi_ok (t : Ty) (x : D) : kIsi t (.ok (x, B)) = kOb B (isiD t (drf B x)) := rfl
@[simp] theorem ev_isi (a : E) (t : Ty) : ev Φ p (.isi a t) σ B = kIsi t (ev Φ true a σ B) := by
  show ((ev Φ true a σ B).bind fun x => (Rs.of (isiD t (drf x.2 x.1))).bind fun d => .ok (D.bl d, x.2)) = _
  unfold kIsi; simp only [kOb_eq]
def kBox (m : Re) : Re := m.bind fun x => if isLD x.1 then .ok (.box x.2.length, x.2 ++ [x.1]) else .bad
@[simp] theorem kBox_ok (x : D) : kBox (.ok (x, B)) = if isLD x then .ok (.box B.length, B ++ [x]) else .bad := rfl
def kEnm2 (B : List D) : Option (List D) → Re
  | some l => .ok (.lst (enmL l), B)
  | none => .bad
@[simp] theorem kEnm2_s (l : List D) : kEnm2 B (some l) = .ok (.lst (enmL l), B) := rfl
def kEnm (m : Re) : Re := m.bind fun x => kEnm2 x.2 (itemsOf x.1)
@[simp] theorem kEnm_ok (x : D) : kEnm (.ok (x, B)) = kEnm2 B (itemsOf x) := rfl
@[simp] theorem ev_enm (a : E) : ev Φ p (.enm a) σ B = kEnm (ev Φ false a σ B) := by
  show ((ev Φ false a σ B).bind fun x => (Rs.of (itemsOf x.1)).bind fun l => .ok (D.lst (enmL l), x.2)) = _
  unfold kEnm
  congr 1; funext x
  cases itemsOf x.1 <;> rfl
def kZip3 (B : List D) : Option (List D) → Re
  | some l => .ok (.lst l, B)
  | none => .bad
@[simp] theorem kZip3_s (l : List D) : kZip3 B (some l) = .ok (.lst l, B) := rfl
def kZip2 (x : D) (m : Re) : Re := m.bind fun y => kZip3 y.2 (zipD x y.1)
@[simp] theorem kZip2_ok (x y : D) : kZip2 x (.ok (y, B)) = kZip3 B (zipD x y) := rfl
def kZip1 (b : E) (m : Re) : Re := m.bind fun x => kZip2 x.1 (ev Φ false b σ x.2)
@[simp] theorem kZip1_ok (b : E) (x : D) : kZip1 Φ σ b (.ok (x, B)) = kZip2 x (ev Φ false b σ B) := rfl
@[simp] theorem ev_zip (a b : E) : ev Φ p (.zip a b) σ B = kZip1 Φ σ b (ev Φ false a σ B) := by
  show ((ev Φ false a σ B).bind fun x => (ev Φ false b σ x.2).bind fun y => (Rs.of (zipD x.1 y.1)).bind fun l => .ok (D.lst l, y.2)) = _
  unfold kZip1 kZip2
  congr 1; funext x
  congr 1; funext y
  cases zipD x.1 y.1 <;> rfl
@[simp] theorem zipD_lst (l m : List D) : zipD (.lst l) (.lst m) = some (zipL l m) := rfl
@[simp] theorem zipD_tup (l m : List D) : zipD (.tup l) (.tup m) = some (zipL l m) := rfl
@[simp] theorem ev_mkbox (e : E) : ev Φ p (.mkbox e) σ B = kBox (ev Φ false e σ B) := rfl
/-- a turn of a comprehension -/
def turn (tg : Tg) (c e : E) (d : D) : List D → Rs (Option D × List D) := fun B => (Rs.of (put tg d (wipeS σ tg.names))).bind fun σ' => (ev Φ false c σ' B).bind fun y => isB y.1 fun k =>
  if k then (ev Φ false e σ' y.2).bind fun z => .ok (some z.1, z.2) else .ok (none, y.2)
def kT3 (m : Re) : Rs (Option D × List D) := m.bind fun z => .ok (some z.1, z.2)
@[simp] theorem kT3_ok (z : D) : kT3 (.ok (z, B)) = .ok (some z, B) := rfl
def kT2 (e : E) (m : Re) : Rs (Option D × List D) := m.bind fun y => isB y.1 fun k => if k then kT3 (ev Φ false e σ y.2) else .ok (none, y.2)
@[simp] theorem kT2_t (e : E) : kT2 Φ σ e (.ok (.bl true, B)) = kT3 (ev Φ false e σ B) := rfl
@[simp] theorem kT2_f (e : E) : kT2 Φ σ e (.ok (.bl false, B)) = .ok (none, B) := rfl
theorem kT2_b (e : E) (k : Bool) : kT2 Φ σ e (.ok (.bl k, B)) = if k then kT3 (ev Φ false e σ B) else .ok (none, B) := rfl
def kT1 (c e : E) (B : List D) : Option Sg → Rs (Option D × List D)
  | some σ' => kT2 Φ σ' e (ev Φ false c σ' B)
  | none => .bad
@[simp] theorem kT1_s (c e : E) (σ' : Sg) : kT1 Φ c e B (some σ') = kT2 Φ σ' e (ev Φ false c σ' B) := rfl
theorem turn_eq (tg : Tg) (c e : E) (d : D) : turn Φ σ tg c e d B = kT1 Φ c e B (put tg d (wipeS σ tg.names)) := by
  unfold turn
  cases put tg d (wipeS σ tg.names) <;> rfl
def kLcE (m : Res) : Re := m.bind fun r => .ok (.lst r.1, r.2)
@[simp] theorem kLcE_ok (r : List D) : kLcE (.ok (r, B)) = .ok (.lst r, B) := rfl
def kLc2 (tg : Tg) (c e : E) (B : List D) : Option (List D) → Re
  | some ds => if ds.length ≤ ln then kLcE (lcLoop (turn Φ σ tg c e) ds B) else .bad
  | none => .bad
@[simp] theorem kLc2_s (tg : Tg) (c e : E) (ds : List D) : kLc2 Φ σ tg c e B (some ds) = if ds.length ≤ ln then kLcE (lcLoop (turn Φ σ tg c e) ds B) else .bad := rfl
def kLc1 (tg : Tg) (c e : E) (m : Re) : Re := m.bind fun x => kLc2 Φ σ tg c e x.2 (itemsOf x.1)
@[simp] theorem kLc1_ok (tg : Tg) (c e : E) (x : D) : kLc1 Φ σ tg c e (.ok (x, B)) = kLc2 Φ σ tg c e B (itemsOf x) := rfl
@[simp] theorem ev_lc (tg : Tg) (it c e : E) : ev Φ p (.lc tg it c e) σ B = kLc1 Φ σ tg c e (ev Φ true it σ B) := by
  show ((ev Φ true it σ B).bind fun x => (Rs.of (itemsOf x.1)).bind fun ds => if ds.length ≤ ln then (lcLoop (turn Φ σ tg c e) ds x.2).bind fun r => .ok (D.lst r.1, r.2) else .bad) = _
  unfold kLc1
  congr 1; funext x
  cases itemsOf x.1 <;> rfl
def kLcd1 (k : Nat) (tg : Tg) (c e : E) (m : Re) : Re := m.bind fun x => kLc2 Φ σ tg c e x.2 (itemsD k x.1)
@[simp] theorem kLcd1_ok (k : Nat) (tg : Tg) (c e : E) (x : D) : kLcd1 Φ σ k tg c e (.ok (x, B)) = kLc2 Φ σ tg c e B (itemsD k x) := rfl
@[simp] theorem ev_lcd (k : Nat) (tg : Tg) (it c e : E) : ev Φ p (.lcd k it tg c e) σ B = kLcd1 Φ (wv it σ) k tg c e (ev Φ true it σ B) := by
  show ((ev Φ true it σ B).bind fun x => (Rs.of (itemsD k x.1)).bind fun ds => if ds.length ≤ ln then (lcLoop (turn Φ (wv it σ) tg c e) ds x.2).bind fun r => .ok (D.lst r.1, r.2) else .bad) = _
  unfold kLcd1
  congr 1; funext x
  cases itemsD k x.1 <;> rfl
@[simp] theorem wv_own (i : Nat) : wv (.own i) σ = σ.set i .no := rfl
@[simp] theorem wv_var (i : Nat) : wv (.var i) σ = σ := rfl
@[simp] theorem evs_nil : evs Φ p .nil σ B = .ok ([], B) := rfl
def kCons2 (x : D) (m : Res) : Res := m.bind fun y => .ok (x :: y.1, y.2)
@[simp] theorem kCons2_ok (x : D) (y : List D) : kCons2 x (.ok (y, B)) = .ok (x :: y, B) := rfl
def kCons1 (es : Es) (m : Re) : Res := m.bind fun x => kCons2 x.1 (evs Φ p es σ x.2)
@[simp] theorem kCons1_ok (es : Es) (x : D) : kCons1 Φ p σ es (.ok (x, B)) = kCons2 x (evs Φ p es σ B) := rfl
@[simp] theorem evs_cons (e : E) (es : Es) : evs Φ p (.cons e es) σ B = kCons1 Φ p σ es (ev Φ p e σ B) := rfl
@[simp] theorem exs_nil : exs Φ .nil σ B = .ok (.next, σ, B) := rfl
def kSeq (ss : Ss) (m : Rq) : Rq := m.bind fun x => match x.1 with | .next => exs Φ ss x.2.1 x.2.2 | fl => .ok (fl, x.2.1, x.2.2)
@[simp] theorem kSeq_n (ss : Ss) : kSeq Φ ss (.ok (.next, σ, B)) = exs Φ ss σ B := rfl
@[simp] theorem kSeq_r (ss : Ss) (d : D) : kSeq Φ ss (.ok (.ret d, σ, B)) = .ok (.ret d, σ, B) := rfl
@[simp] theorem kSeq_b (ss : Ss) : kSeq Φ ss (.ok (.brk, σ, B)) = .ok (.brk, σ, B) := rfl
@[simp] theorem kSeq_c (ss : Ss) : kSeq Φ ss (.ok (.cnt, σ, B)) = .ok (.cnt, σ, B) := rfl
@[simp] theorem exs_cons (s : S) (ss : Ss) : exs Φ (.cons s ss) σ B = kSeq Φ ss (ex Φ s σ B) := rfl
def kRet (σ : Sg) (m : Re) : Rq := m.bind fun x => .ok (.ret x.1, σ, x.2)
@[simp] theorem kRet_ok (x : D) : kRet σ (.ok (x, B)) = .ok (.ret x, σ, B) := rfl
@[simp] theorem ex_ret (e : E) : ex Φ (.ret e) σ B = kRet (frzAll σ) (ev Φ false e (frzAll σ) B) := rfl
@[simp] theorem ex_retN : ex Φ .retN σ B = .ok (.ret .non, σ, B) := rfl
@[simp] theorem ex_brk : ex Φ .brk σ B = .ok (.brk, σ, B) := rfl
@[simp] theorem ex_cnt : ex Φ .cnt σ B = .ok (.cnt, σ, B) := rfl
@[simp] theorem ex_pass : ex Φ .pass σ B = .ok (.next, σ, B) := rfl
def kIf (a b : Ss) (m : Re) : Rq := m.bind fun x => isB x.1 fun k => if k then exs Φ a σ x.2 else exs Φ b σ x.2
@[simp] theorem kIf_t (a b : Ss) : kIf Φ σ a b (.ok (.bl true, B)) = exs Φ a σ B := rfl
@[simp] theorem kIf_f (a b : Ss) : kIf Φ σ a b (.ok (.bl false, B)) = exs Φ b σ B := rfl
theorem kIf_b (a b : Ss) (k : Bool) : kIf Φ σ a b (.ok (.bl k, B)) = if k then exs Φ a σ B else exs Φ b σ B := rfl
@[simp] theorem ex_if (c : E) (a b : Ss) : ex Φ (.ifs c a b) σ B = kIf Φ σ a b (ev Φ false c σ B) := rfl
@[simp] theorem ex_fz (is : List Nat) (s : S) : ex Φ (.fz is s) σ B = ex Φ s (frzAt is σ) B := rfl
def kExpr (σ : Sg) (m : Re) : Rq := m.bind fun x => .ok (.next, σ, x.2)
@[simp] theorem kExpr_ok (x : D) : kExpr σ (.ok (x, B)) = .ok (.next, σ, B) := rfl
@[simp] theorem ex_expr (e : E) : ex Φ (.expr e) σ B = kExpr σ (ev Φ false e σ B) := rfl
def kNx (m : Rs (Sg × List D)) : Rq := m.bind fun y => .ok (.next, y.1, y.2)
@[simp] theorem kNx_ok : kNx (.ok (σ, B)) = .ok (.next, σ, B) := rfl
def kAsg (tg : Tg) (m : Rs (Sl × List D)) : Rq := m.bind fun x => kNx (asg Φ tg x.1 σ x.2)
@[simp] theorem kAsg_ok (tg : Tg) (x : Sl) : kAsg Φ σ tg (.ok (x, B)) = kNx (asg Φ tg x σ B) := rfl
@[simp] theorem ex_asg (tg : Tg) (e : E) : ex Φ (.asg tg e) σ B = kAsg Φ σ tg (evX Φ e σ B) := rfl
/-- .. one turn of a for -/
def forB (tg : Tg) (b : Ss) (d : D) (σ : Sg) (B : List D) : Rq := (Rs.of (put tg d σ)).bind fun σ' => exs Φ b σ' B
def kPut (b : Ss) (B : List D) : Option Sg → Rq
  | some σ => exs Φ b σ B
  | none => .bad
@[simp] theorem kPut_s (b : Ss) : kPut Φ b B (some σ) = exs Φ b σ B := rfl
@[simp] theorem kPut_if {c : Prop} [Decidable c] (b : Ss) : kPut Φ b B (if c then some σ else none) = if c then exs Φ b σ B else .bad := by by_cases h : c <;> simp [h, kPut]
@[simp] theorem forB_eq (tg : Tg) (b : Ss) (d : D) : forB Φ tg b d σ B = kPut Φ b B (put tg d σ) := by
  unfold forB
  cases put tg d σ <;> rfl
def kFor2 (tg : Tg) (b : Ss) (B : List D) : Option (List D) → Rq
  | some ds => forLoop (forB Φ tg b) ds σ B
  | none => .bad
@[simp] theorem kFor2_s (tg : Tg) (b : Ss) (ds : List D) : kFor2 Φ σ tg b B (some ds) = forLoop (forB Φ tg b) ds σ B := rfl
def kFor1 (tg : Tg) (b : Ss) (m : Re) : Rq := m.bind fun x => kFor2 Φ σ tg b x.2 (itemsOf x.1)
@[simp] theorem kFor1_ok (tg : Tg) (b : Ss) (x : D) : kFor1 Φ σ tg b (.ok (x, B)) = kFor2 Φ σ tg b B (itemsOf x) := rfl
@[simp] theorem ex_for (tg : Tg) (it : E) (b : Ss) : ex Φ (.for tg it b) σ B = kFor1 Φ σ tg b (ev Φ false it σ B) := by
  show ((ev Φ false it σ B).bind fun x => (Rs.of (itemsOf x.1)).bind fun ds => forLoop (fun d σ B => (Rs.of (put tg d σ)).bind fun σ' => exs Φ b σ' B) ds σ x.2) = _
  unfold kFor1
  congr 1; funext x
  cases itemsOf x.1 <;> rfl
theorem ex_whl (c : E) (b : Ss) : ex Φ (.whl c b) σ B = whlLoop (fun σ B => ev Φ false c σ B) (fun σ B => exs Φ b σ B) fuel σ B := rfl
def kApp (i : Nat) (l : List D) (m : Re) : Rq := m.bind fun x => if l.length < ln then .ok (.next, σ.set i (.own (.lst (l ++ [x.1]))), x.2) else .bad
@[simp] theorem kApp_ok (i : Nat) (l : List D) (x : D) : kApp σ i l (.ok (x, B)) = if l.length < ln then .ok (.next, σ.set i (.own (.lst (l ++ [x]))), B) else .bad := rfl
def kApp0 (i : Nat) (e : E) (B : List D) : Option Sl → Rq
  | some (.own (.lst l)) => kApp σ i l (ev Φ false e σ B)
  | _ => .bad
@[simp] theorem kApp0_s (i : Nat) (e : E) (l : List D) : kApp0 Φ σ i e B (some (.own (.lst l))) = kApp σ i l (ev Φ false e σ B) := rfl
@[simp] theorem ex_app (i : Nat) (e : E) : ex Φ (.app i e) σ B = kApp0 Φ σ i e B σ[i]? := by
  unfold ex
  cases h : σ[i]? with
  | none => rfl
  | some s => cases s with
    | own d => cases d <;> rfl
    | _ => rfl
def kAugV (i : Nat) (c : D) (m : Re) : Rq := m.bind fun x => (Rs.of (addV c (drf x.2 x.1))).bind fun d => .ok (.next, σ.set i (.val d), x.2)
def kAugV2 (i : Nat) (B : List D) : Option D → Rq
  | some d => .ok (.next, σ.set i (.val d), B)
  | none => .bad
@[simp] theorem kAugV2_s (i : Nat) (d : D) : kAugV2 σ i B (some d) = .ok (.next, σ.set i (.val d), B) := rfl
@[simp] theorem kAugV2_if {c : Prop} [Decidable c] (i : Nat) (d : D) : kAugV2 σ i B (if c then some d else none) = if c then .ok (.next, σ.set i (.val d), B) else .bad := by by_cases h : c <;> simp [h, kAugV2]
@[simp] theorem kAugV_ok (i : Nat) (c x : D) : kAugV σ i c (.ok (x, B)) = kAugV2 σ i B (addV c (drf B x)) := by
  show ((Rs.of (addV c (drf B x))).bind _) = _
  cases addV c (drf B x) <;> rfl
def kAugV0 (i : Nat) (e : E) (B : List D) : Option Sl → Rq
  | some (.val c) => kAugV σ i c (ev Φ true e σ B)
  | _ => .bad
@[simp] theorem kAugV0_s (i : Nat) (e : E) (c : D) : kAugV0 Φ σ i e B (some (.val c)) = kAugV σ i c (ev Φ true e σ B) := rfl
@[simp] theorem ex_augV (i : Nat) (e : E) : ex Φ (.augV i e) σ B = kAugV0 Φ σ i e B σ[i]? := by
  unfold ex
  cases h : σ[i]? with
  | none => rfl
  | some s => cases s <;> rfl
def kAug2 (i : Nat) (B : List D) : Option D → Rq
  | some d => .ok (.next, σ.set i (.own d), B)
  | none => .bad
@[simp] theorem kAug2_s (i : Nat) (d : D) : kAug2 σ i B (some d) = .ok (.next, σ.set i (.own d), B) := rfl
@[simp] theorem kAug2_if {c : Prop} [Decidable c] (i : Nat) (d : D) : kAug2 σ i B (if c then some d else none) = if c then .ok (.next, σ.set i (.own d), B) else .bad := by by_cases h : c <;> simp [h, kAug2]
def kAug1 (i : Nat) (c : D) (m : Re) : Rq := m.bind fun x => kAug2 σ i x.2 (augD c (drf x.2 x.1))
@[simp] theorem kAug1_ok (i : Nat) (c x : D) : kAug1 σ i c (.ok (x, B)) = kAug2 σ i B (augD c (drf B x)) := rfl
def kAug0 (i : Nat) (e : E) (B : List D) : Option Sl → Rq
  | some (.own c) => kAug1 σ i c (ev Φ true e σ B)
  | _ => .bad
@[simp] theorem kAug0_s (i : Nat) (e : E) (c : D) : kAug0 Φ σ i e B (some (.own c)) = kAug1 σ i c (ev Φ true e σ B) := rfl
@[simp] theorem ex_aug (i : Nat) (e : E) : ex Φ (.aug i e) σ B = kAug0 Φ σ i e B σ[i]? := by
  show (match σ[i]? with
    | some (.own c) => (ev Φ true e σ B).bind fun x => (Rs.of (augD c (drf x.2 x.1))).bind fun d => .ok (Fl.next, σ.set i (.own d), x.2)
    | _ => .bad) = _
  cases h : σ[i]? with
  | none => rfl
  | some s => cases s with
    | own c =>
      show ((ev Φ true e σ B).bind _) = (ev Φ true e σ B).bind _
      congr 1; funext x
      show ((Rs.of (augD c (drf x.2 x.1))).bind _) = _
      cases augD c (drf x.2 x.1) <;> rfl
    | _ => rfl
@[simp] theorem augD_lst (l m : List D) : augD (.lst l) (.lst m) = if l.length + m.length ≤ ln then some (.lst (l ++ m)) else none := rfl
def kUpd1 (i : Nat) (c : D) (m : Re) : Rq := m.bind fun x => kAug2 σ i x.2 (updL c x.1)
@[simp] theorem kUpd1_ok (i : Nat) (c x : D) : kUpd1 σ i c (.ok (x, B)) = kAug2 σ i B (updL c x) := rfl
def kUpd0 (i : Nat) (e : E) (B : List D) : Option Sl → Rq
  | some (.own (.dic t l)) => kUpd1 σ i (.dic t l) (ev Φ false e σ B)
  | _ => .bad
@[simp] theorem kUpd0_s (i : Nat) (e : E) (t : Bool) (l : List (D × D)) : kUpd0 Φ σ i e B (some (.own (.dic t l))) = kUpd1 σ i (.dic t l) (ev Φ false e σ B) := rfl
@[simp] theorem ex_upd (i : Nat) (e : E) : ex Φ (.upd i e) σ B = kUpd0 Φ σ i e B σ[i]? := by
  show (match σ[i]? with
    | some (.own (.dic t l)) => (ev Φ false e σ B).bind fun x => (Rs.of (updL (.dic t l) x.1)).bind fun d => .ok (Fl.next, σ.set i (.own d), x.2)
    | _ => .bad) = _
  cases h : σ[i]? with
  | none => rfl
  | some s => cases s with
    | own c =>
      cases c with
      | dic t l =>
        show ((ev Φ false e σ B).bind _) = (ev Φ false e σ B).bind _
        congr 1; funext x
        show ((Rs.of (updL (.dic t l) x.1)).bind _) = _
        cases updL (.dic t l) x.1 <;> rfl
      | _ => rfl
    | _ => rfl
@[simp] theorem updL_f (l m : List (D × D)) : updL (.dic false l) (.dic false m) = if l.length + m.length ≤ ln then some (.dic false (m.foldl (fun acc p => kput p.1 p.2 acc) l)) else none := rfl
/-! names -/
def kV (m : Re) : Rs (Sl × List D) := m.bind fun x => .ok (.val x.1, x.2)
@[simp] theorem kV_ok (x : D) : kV (.ok (x, B)) = .ok (.val x, B) := rfl
def kO (m : Re) : Rs (Sl × List D) := m.bind fun x => if isLD x.1 then .ok (.own x.1, x.2) else .bad
@[simp] theorem kO_ok (x : D) : kO (.ok (x, B)) = if isLD x then .ok (.own x, B) else .bad := rfl
@[simp] theorem exF_var (e : E) : evX Φ (.fresh e) σ B = kO (ev Φ false e σ B) := rfl
@[simp] theorem evX_var (i : Nat) : evX Φ (.var i) σ B = kV (ev Φ false (.var i) σ B) := rfl
@[simp] theorem evX_own (i : Nat) : evX Φ (.own i) σ B = kV (ev Φ false (.own i) σ B) := rfl
@[simp] theorem evX_cst (d : D) : evX Φ (.cst d) σ B = kV (ev Φ false (.cst d) σ B) := rfl
@[simp] theorem evX_bin (o : Bop) (a b : E) : evX Φ (.bin o a b) σ B = kV (ev Φ false (.bin o a b) σ B) := rfl
@[simp] theorem evX_cmp (o : Cop) (a b : E) : evX Φ (.cmp o a b) σ B = kV (ev Φ false (.cmp o a b) σ B) := rfl
@[simp] theorem evX_chain (o q : Cop) (a b c : E) : evX Φ (.chain o q a b c) σ B = kV (ev Φ false (.chain o q a b c) σ B) := rfl
@[simp] theorem evX_and (a b : E) : evX Φ (.and a b) σ B = kV (ev Φ false (.and a b) σ B) := rfl
@[simp] theorem evX_or (a b : E) : evX Φ (.or a b) σ B = kV (ev Φ false (.or a b) σ B) := rfl
@[simp] theorem evX_not (a : E) : evX Φ (.not a) σ B = kV (ev Φ false (.not a) σ B) := rfl
@[simp] theorem evX_neg (a : E) : evX Φ (.neg a) σ B = kV (ev Φ false (.neg a) σ B) := rfl
@[simp] theorem evX_ite (c a b : E) : evX Φ (.ite c a b) σ B = kV (ev Φ false (.ite c a b) σ B) := rfl
@[simp] theorem evX_sub (a b : E) : evX Φ (.sub a b) σ B = kV (ev Φ false (.sub a b) σ B) := rfl
@[simp] theorem evX_cut (a lo hi : E) : evX Φ (.cut a lo hi) σ B = kV (ev Φ false (.cut a lo hi) σ B) := rfl
@[simp] theorem evX_rev (a : E) : evX Φ (.rev a) σ B = kV (ev Φ false (.rev a) σ B) := rfl
@[simp] theorem evX_evn (a : E) (k : Nat) : evX Φ (.evn a k) σ B = kV (ev Φ false (.evn a k) σ B) := rfl
@[simp] theorem evX_tup (es : Es) : evX Φ (.tup es) σ B = kV (ev Φ false (.tup es) σ B) := rfl
@[simp] theorem evX_lst (es : Es) : evX Φ (.lst es) σ B = kV (ev Φ false (.lst es) σ B) := rfl
@[simp] theorem evX_dnew (t : Bool) : evX Φ (.dnew t) σ B = kV (ev Φ false (.dnew t) σ B) := rfl
@[simp] theorem evX_ddis (t : Bool) (ks vs : Es) : evX Φ (.ddis t ks vs) σ B = kV (ev Φ false (.ddis t ks vs) σ B) := rfl
@[simp] theorem evX_call (f : Nat) (es : Es) : evX Φ (.call f es) σ B = kV (ev Φ false (.call f es) σ B) := rfl
@[simp] theorem evX_bi (b : Bi) (es : Es) : evX Φ (.bi b es) σ B = kV (ev Φ false (.bi b es) σ B) := rfl
@[simp] theorem evX_isi (a : E) (t : Ty) : evX Φ (.isi a t) σ B = kV (ev Φ false (.isi a t) σ B) := rfl
@[simp] theorem evX_lc (tg : Tg) (it c e : E) : evX Φ (.lc tg it c e) σ B = kV (ev Φ false (.lc tg it c e) σ B) := rfl
@[simp] theorem evX_lc2 (tg : Tg) (it c : E) (tg2 : Tg) (it2 c2 e : E) : evX Φ (.lc2 tg it c tg2 it2 c2 e) σ B = kV (ev Φ false (.lc2 tg it c tg2 it2 c2 e) σ B) := rfl
@[simp] theorem evX_dc (t : Bool) (tg : Tg) (it k v : E) : evX Φ (.dc t tg it k v) σ B = kV (ev Φ false (.dc t tg it k v) σ B) := rfl
@[simp] theorem evX_lcd (k : Nat) (it : E) (tg : Tg) (c e : E) : evX Φ (.lcd k it tg c e) σ B = kV (ev Φ false (.lcd k it tg c e) σ B) := rfl
@[simp] theorem evX_mkbox (e : E) : evX Φ (.mkbox e) σ B = kV (ev Φ false (.mkbox e) σ B) := rfl
@[simp] theorem evX_mt (b : Bi) (a : E) (es : Es) : evX Φ (.mt b a es) σ B = kV (ev Φ false (.mt b a es) σ B) := rfl
@[simp] theorem evX_enm (a : E) : evX Φ (.enm a) σ B = kV (ev Φ false (.enm a) σ B) := rfl
@[simp] theorem evX_zip (a b : E) : evX Φ (.zip a b) σ B = kV (ev Φ false (.zip a b) σ B) := rfl
@[simp] theorem evXs_nil : evXs Φ .nil σ B = .ok ([], B) := rfl
def kXs2 (x : Sl) (m : Rs (List Sl × List D)) : Rs (List Sl × List D) := m.bind fun y => .ok (x :: y.1, y.2)
@[simp] theorem kXs2_ok (x : Sl) (y : List Sl) : kXs2 x (.ok (y, B)) = .ok (x :: y, B) := rfl
def kXs1 (es : Es) (m : Rs (Sl × List D)) : Rs (List Sl × List D) := m.bind fun x => kXs2 x.1 (evXs Φ es σ x.2)
@[simp] theorem kXs1_ok (es : Es) (x : Sl) : kXs1 Φ σ es (.ok (x, B)) = kXs2 x (evXs Φ es σ B) := rfl
@[simp] theorem evXs_cons (e : E) (es : Es) : evXs Φ (.cons e es) σ B = kXs1 Φ σ es (evX Φ e σ B) := rfl
def kPar2 (B : List D) : Option Sg → Rq
  | some σ' => .ok (.next, σ', B)
  | none => .bad
@[simp] theorem kPar2_s : kPar2 B (some σ) = .ok (.next, σ, B) := rfl
def kPar (is : List Nat) (m : Rs (List Sl × List D)) : Rq := m.bind fun x => kPar2 x.2 (setAll is x.1 σ)
@[simp] theorem kPar_ok (is : List Nat) (x : List Sl) : kPar σ is (.ok (x, B)) = kPar2 B (setAll is x σ) := rfl
@[simp] theorem ex_par (is : List Nat) (es : Es) : ex Φ (.par is es) σ B = kPar σ is (evXs Φ es σ B) := by
  show ((evXs Φ es σ B).bind fun x => (Rs.of (setAll is x.1 σ)).bind fun σ' => .ok (Fl.next, σ', x.2)) = _
  unfold kPar
  congr 1; funext x
  cases setAll is x.1 σ <;> rfl
@[simp] theorem setAll_nil : setAll [] [] σ = some σ := rfl
@[simp] theorem setAll_cons (i : Nat) (is : List Nat) (v : Sl) (vs : List Sl) : setAll (i :: is) (v :: vs) σ = if i < σ.length then setAll is vs (σ.set i v) else none := rfl
@[simp] theorem asg_nm (i : Nat) (v : Sl) : asg Φ (.nm i) v σ B = if i < σ.length then .ok (σ.set i v, B) else .bad := rfl
def kTp (B : List D) : Option Sg → Rs (Sg × List D)
  | some σ => .ok (σ, B)
  | none => .bad
@[simp] theorem kTp_s : kTp B (some σ) = .ok (σ, B) := rfl
@[simp] theorem asg_tp (l : Tgs) (d : D) : asg Φ (.tp l) (.val d) σ B = kTp B (put (.tp l) d σ) := by
  show ((Rs.of (put (.tp l) d σ)).bind fun σ' => .ok (σ', B)) = _
  cases put (.tp l) d σ <;> rfl
def kIx2 (i : Nat) (B : List D) : Option D → Rs (Sg × List D)
  | some c => .ok (σ.set i (.own c), B)
  | none => .bad
@[simp] theorem kIx2_s (i : Nat) (c : D) : kIx2 σ i B (some c) = .ok (σ.set i (.own c), B) := rfl
@[simp] theorem kIx2_if {b : Prop} [Decidable b] (i : Nat) (c : D) : kIx2 σ i B (if b then some c else none) = if b then .ok (σ.set i (.own c), B) else .bad := by by_cases h : b <;> simp [h, kIx2]
def kIx1 (i : Nat) (c d : D) (m : Re) : Rs (Sg × List D) := m.bind fun x => kIx2 σ i x.2 (setD c x.1 d)
@[simp] theorem kIx1_ok (i : Nat) (c d x : D) : kIx1 σ i c d (.ok (x, B)) = kIx2 σ i B (setD c x d) := rfl
def kIx0 (i : Nat) (k : E) (d : D) (B : List D) : Option Sl → Rs (Sg × List D)
  | some (.own c) => kIx1 σ i c d (ev Φ false k σ B)
  | _ => .bad
@[simp] theorem kIx0_s (i : Nat) (k : E) (d c : D) : kIx0 Φ σ i k d B (some (.own c)) = kIx1 σ i c d (ev Φ false k σ B) := rfl
@[simp] theorem asg_ix (i : Nat) (k : E) (d : D) : asg Φ (.ix i k) (.val d) σ B = kIx0 Φ σ i k d B σ[i]? := by
  show (match σ[i]? with
    | some (.own c) => (ev Φ false k σ B).bind fun x => (Rs.of (setD c x.1 d)).bind fun c' => .ok (σ.set i (.own c'), x.2)
    | _ => .bad) = _
  cases h : σ[i]? with
  | none => rfl
  | some s => cases s with
    | own c =>
      show ((ev Φ false k σ B).bind _) = (ev Φ false k σ B).bind _
      congr 1; funext x
      show ((Rs.of (setD c x.1 d)).bind _) = _
      cases setD c x.1 d <;> rfl
    | _ => rfl
def kBx3 (n : Nat) (B : List D) : Option D → Rs (Sg × List D)
  | some c => .ok (σ, B.set n c)
  | none => .bad
@[simp] theorem kBx3_s (n : Nat) (c : D) : kBx3 σ n B (some c) = .ok (σ, B.set n c) := rfl
def kBx2 (n : Nat) (d y : D) (B : List D) : Option D → Rs (Sg × List D)
  | some c => kBx3 σ n B (setD c y d)
  | none => .bad
@[simp] theorem kBx2_s (n : Nat) (d y c : D) : kBx2 σ n d y B (some c) = kBx3 σ n B (setD c y d) := rfl
def kBx1 (x d : D) (m : Re) : Rs (Sg × List D) := m.bind fun y => match x with
    | .box n => kBx2 σ n d y.1 y.2 y.2[n]?
    | _ => .bad
@[simp] theorem kBx1_ok (n : Nat) (d y : D) : kBx1 σ (.box n) d (.ok (y, B)) = kBx2 σ n d y B B[n]? := rfl
def kBx0 (k : E) (d : D) (m : Re) : Rs (Sg × List D) := m.bind fun x => kBx1 σ x.1 d (ev Φ false k σ x.2)
@[simp] theorem kBx0_ok (k : E) (d x : D) : kBx0 Φ σ k d (.ok (x, B)) = kBx1 σ x d (ev Φ false k σ B) := rfl
@[simp] theorem asg_bx (b k : E) (d : D) : asg Φ (.bx b k) (.val d) σ B = kBx0 Φ σ k d (ev Φ false b σ B) := by
  show ((ev Φ false b σ B).bind fun x => (ev Φ false k σ x.2).bind fun y => match x.1 with
    | .box n => match y.2[n]? with
      | some c => (Rs.of (setD c y.1 d)).bind fun c' => .ok (σ, y.2.set n c')
      | none => .bad
    | _ => .bad) = _
  unfold kBx0 kBx1
  congr 1; funext x
  congr 1; funext y
  cases x.1 with
  | box n =>
    show (match y.2[n]? with
      | some c => (Rs.of (setD c y.1 d)).bind fun c' => .ok (σ, y.2.set n c')
      | none => .bad) = kBx2 σ n d y.1 y.2 y.2[n]?
    cases y.2[n]? with
    | none => rfl
    | some c =>
      show ((Rs.of (setD c y.1 d)).bind _) = kBx3 σ n y.2 (setD c y.1 d)
      cases setD c y.1 d <;> rfl
  | _ => rfl
end
def kRun (m : Rq) : Re := m.bind fun x => match x.1 with
      | .ret d => .ok (d, x.2.2)
      | .next => .ok (.non, x.2.2)
      | _ => .bad
@[simp] theorem kRun_r (d : D) (σ : Sg) (B : List D) : kRun (.ok (.ret d, σ, B)) = .ok (d, B) := rfl
@[simp] theorem kRun_n (σ : Sg) (B : List D) : kRun (.ok (.next, σ, B)) = .ok (.non, B) := rfl
theorem run_succ (tb : Nat → Option Fd) (n f : Nat) (args : List D) (B : List D) {np ns : Nat} {body : Ss} (h : tb f = some ⟨np, ns, body⟩) (hl : args.length = np) : run tb (n + 1) f args B = kRun (exs (run tb n) body (start ns args) B) := by
  show (match tb f with
    | some fd => if args.length = fd.np then (exs (run tb n) fd.body (start fd.ns args) B).bind fun x => match x.1 with
      | .ret d => .ok (d, x.2.2)
      | .next => .ok (.non, x.2.2)
      | _ => .bad
      else .bad
    | none => .bad) = _
  rw [h]
  exact if_pos hl
@[simp] theorem drf_int (B : List D) (i : Int) : drf B (.int i) = .int i := rfl
@[simp] theorem drf_bl (B : List D) (i : Bool) : drf B (.bl i) = .bl i := rfl
@[simp] theorem drf_non (B : List D) : drf B .non = .non := rfl
@[simp] theorem drf_str (B : List D) (i : List Nat) : drf B (.str i) = .str i := rfl
@[simp] theorem drf_tup (B : List D) (i : List D) : drf B (.tup i) = .tup i := rfl
@[simp] theorem drf_lst (B : List D) (i : List D) : drf B (.lst i) = .lst i := rfl
@[simp] theorem drf_dic (B : List D) (t : Bool) (i : List (D × D)) : drf B (.dic t i) = .dic t i := rfl
@[simp] theorem drf_scr (B : List D) (i : List D) : drf B (.scr i) = .scr i := rfl
/-- comprehensions whose turns change no box -/
theorem lcLoop_map {f : D → List D → Rs (Option D × List D)} {g : D → Option D} {B : List D} : ∀ {ds : List D}, (∀ d ∈ ds, f d B = .ok (g d, B)) → lcLoop f ds B = .ok (ds.filterMap g, B)
  | [], _ => rfl
  | d :: ds, h => by
    rw [lcLoop, h d List.mem_cons_self]
    show ((lcLoop f ds B).bind _) = _
    rw [lcLoop_map fun e he => h e (List.mem_cons_of_mem _ he)]
    show Rs.ok _ = _
    rw [List.filterMap_cons]
    cases g d <;> rfl
/-- .. over the image of a list, each turn giving one -/
theorem lcLoop_all {α : Type} {f : D → List D → Rs (Option D × List D)} {c g : α → D} {B : List D} : ∀ {l : List α}, (∀ a ∈ l, f (c a) B = .ok (some (g a), B)) → lcLoop f (l.map c) B = .ok (l.map g, B)
  | [], _ => rfl
  | a :: l, h => by
    rw [List.map_cons, lcLoop, h a List.mem_cons_self]
    show ((lcLoop f (l.map c) B).bind _) = _
    rw [lcLoop_all fun e he => h e (List.mem_cons_of_mem _ he)]
    rfl
/-- .. kept or not by a test -/
theorem lcLoop_some {α : Type} {f : D → List D → Rs (Option D × List D)} {c g : α → D} {t : α → Bool} {B : List D} : ∀ {l : List α}, (∀ a ∈ l, f (c a) B = .ok (if t a then some (g a) else none, B)) → lcLoop f (l.map c) B = .ok ((l.filter t).map g, B)
  | [], _ => rfl
  | a :: l, h => by
    rw [List.map_cons, lcLoop, h a List.mem_cons_self]
    show ((lcLoop f (l.map c) B).bind _) = _
    rw [lcLoop_some (t := t) (g := g) fun e he => h e (List.mem_cons_of_mem _ he)]
    rw [List.filter_cons]
    cases t a <;> rfl
theorem blL_map {α : Type} (f : α → Bool) : ∀ s : List α, blL (s.map fun c => .bl (f c)) = some (s.map f)
  | [] => rfl
  | c :: s => by
    show (blL (s.map fun c => D.bl (f c))).map (f c :: ·) = _
    rw [blL_map f s]
    rfl
theorem sIx_nat (n d a : Nat) : Pz.sIx n d (some ((a : Nat) : Int)) = min a n := by
  show (if ((a : Nat) : Int) < 0 then (((a : Nat) : Int) + n).toNat else min ((a : Nat) : Int).toNat n) = _
  rw [if_neg (by omega)]
  rfl
/-- k items from a -/
def sl {α : Type} (t : List α) (a k : Nat) : List α := (t.drop a).take k
theorem cut_sl {α : Type} (t : List α) (a k : Nat) : cutL t (some ((a : Nat) : Int)) (some ((a : Int) + (k : Nat))) = sl t a k := by
  have e : (a : Int) + (k : Nat) = ((a + k : Nat) : Int) := by omega
  unfold cutL sl
  rw [e, sIx_nat, sIx_nat]
  by_cases h : a ≤ t.length
  · rw [Nat.min_eq_left h]
    by_cases h2 : a + k ≤ t.length
    · rw [Nat.min_eq_left h2, Nat.add_sub_cancel_left]
    · rw [List.take_of_length_le (by rw [List.length_drop]; omega), List.take_of_length_le (by rw [List.length_drop]; omega)]
  · rw [List.drop_eq_nil_of_le (by omega), List.drop_eq_nil_of_le (by omega)]
    simp
/-- a loop that goes through, as a fold -/
theorem forLoop_fold {α β : Type} {f : D → Sg → List D → Rq} {c : α → D} {S : β → Sg → Prop} {step : β → α → β} {B : List D} : ∀ {l : List α} {b : β} {σ : Sg}, (∀ a ∈ l, ∀ b σ, S b σ → ∃ σ', f (c a) σ B = .ok (.next, σ', B) ∧ S (step b a) σ') → S b σ → ∃ σ', forLoop f (l.map c) σ B = .ok (.next, σ', B) ∧ S (l.foldl step b) σ'
  | [], b, σ, _, h => ⟨σ, rfl, h⟩
  | a :: l, b, σ, hf, h => by
    obtain ⟨σ', h1, h2⟩ := hf a List.mem_cons_self b σ h
    obtain ⟨σ2, h3, h4⟩ := forLoop_fold (l := l) (fun e he => hf e (List.mem_cons_of_mem _ he)) h2
    refine ⟨σ2, ?_, h4⟩
    rw [List.map_cons, forLoop, h1]
    exact h3
/-- the whole numbers as values -/
def nD (l : List Nat) : List D := l.map fun a => .int (a : Nat)
theorem nD_snoc (l : List Nat) (a : Nat) : nD l ++ [.int (a : Nat)] = nD (l ++ [a]) := by simp [nD]
theorem atI_last {l : List Nat} (h : l ≠ []) : atI (nD l) (-1) = some (.int (l.getLast h : Nat)) := by
  have hp : 0 < l.length := List.length_pos_iff.2 h
  have hn : (nD l).length = l.length := by simp [nD]
  have e : ((-1 : Int) + l.length).toNat = l.length - 1 := by omega
  unfold atI ixN
  rw [hn, if_neg (by omega), if_pos (by omega), e, List.getLast_eq_getElem]
  show (nD l)[l.length - 1]? = _
  unfold nD
  rw [List.getElem?_map, List.getElem?_eq_getElem (by omega)]
  rfl
theorem opC_ge (i j : Int) : opC .ge (.int i) (.int j) = some (decide (j ≤ i)) := rfl
theorem opC_le (i j : Int) : opC .le (.int i) (.int j) = some (decide (i ≤ j)) := rfl
theorem opC_gtI (i j : Int) : opC .gt (.int i) (.int j) = some (decide (j < i)) := rfl
theorem opC_ltI (i j : Int) : opC .lt (.int i) (.int j) = some (decide (i < j)) := rfl
theorem nD_dep : ∀ f : List Nat, D.depL (nD f) = 0
  | [] => rfl
  | a :: f => by
    show max (D.dep (.int (a : Nat))) (D.depL (nD f)) = 0
    rw [nD_dep f]; rfl
theorem opC_nil (f : List Nat) : opC .eq (.lst (nD f)) (.lst []) = some (decide (f = [])) := by
  show (if ok64 _ && ok64 _ then some _ else none) = _
  have h1 : ok64 (.lst (nD f)) = true := by
    simp [ok64, D.dep, nD_dep]
  have h2 : ok64 (.lst []) = true := rfl
  rw [h1, h2]
  cases f <;> rfl
/-! ### lists of texts, sorted -/
def sD (l : List (List Nat)) : List D := l.map D.str
def insT (x : List Nat) : List (List Nat) → List (List Nat)
  | [] => [x]
  | y :: l => if ltS y x then y :: insT x l else x :: y :: l
def srt : List (List Nat) → List (List Nat)
  | [] => []
  | x :: l => insT x (srt l)
def ddp : List (List Nat) → List (List Nat)
  | [] => []
  | x :: l => if x ∈ ddp l then ddp l else x :: ddp l
theorem insD_str (x : List Nat) : ∀ l, insD (.str x) (sD l) = sD (insT x l)
  | [] => rfl
  | y :: l => by
    show (if ltS y x then D.str y :: insD (.str x) (sD l) else D.str x :: D.str y :: sD l) = sD (if ltS y x then y :: insT x l else x :: y :: l)
    rw [insD_str x l]
    split <;> rfl
theorem isort_str : ∀ l, isort (sD l) = sD (srt l)
  | [] => rfl
  | x :: l => by
    show insD (.str x) (isort (sD l)) = sD (insT x (srt l))
    rw [isort_str l, insD_str]
theorem dedup_str : ∀ l, dedup (sD l) = sD (ddp l)
  | [] => rfl
  | x :: l => by
    show (if (dedup (sD l)).any (fun y => D.eqv y (.str x)) then dedup (sD l) else D.str x :: dedup (sD l)) = sD (if x ∈ ddp l then ddp l else x :: ddp l)
    rw [dedup_str l]
    have e : (sD (ddp l)).any (fun y => D.eqv y (.str x)) = decide (x ∈ ddp l) := by
      rw [Bool.eq_iff_iff, List.any_eq_true, decide_eq_true_iff]
      constructor
      · rintro ⟨y, hy, h⟩
        obtain ⟨z, hz, rfl⟩ := List.mem_map.1 hy
        have : z = x := by simpa [D.eqv] using h
        exact this ▸ hz
      · intro h
        exact ⟨.str x, List.mem_map.2 ⟨x, h, rfl⟩, by simp [D.eqv]⟩
    rw [e]
    by_cases h : x ∈ ddp l
    · rw [if_pos h, if_pos (by simpa using h)]
    · rw [if_neg h, if_neg (by simpa using h)]
      rfl
theorem sD_ordL : ∀ l, D.ordL (sD l) = true
  | [] => rfl
  | x :: l => sD_ordL l
theorem sD_depL : ∀ l, D.depL (sD l) = 0
  | [] => rfl
  | x :: l => by
    show max 0 (D.depL (sD l)) = 0
    rw [sD_depL l]; rfl
theorem sortD_str (l : List (List Nat)) : sortD (sD l) = some (.lst (sD (srt l))) := by
  have h1 : cmpAll (sD l) = true := by
    unfold cmpAll sD
    simp [D.cmp]
  have h2 : (sD l).all neT = true := by
    unfold sD
    simp [neT]
  unfold sortD
  rw [sD_ordL, h1, sD_depL, h2, isort_str]
  rfl
theorem sset_str (l : List (List Nat)) (h : l.length < 4000) : bi_sset [.lst (sD l)] = some (.lst (sD (srt (ddp l)))) := by
  have h1 : (sD l).all D.key1 = true := by
    unfold sD
    simp [D.key1]
  have h2 : (sD l).length = l.length := by simp [sD]
  show (if _ then _ else none) = _
  rw [h1, h2, dedup_str, sortD_str, if_pos (by simpa using h)]
/-- a loop that may give its answer early -/
theorem forLoop_find {α : Type} {f : D → Sg → List D → Rq} {c : α → D} {S : Sg → Prop} {t : α → Option D} {B : List D} : ∀ {l : List α} {σ : Sg}, (∀ a ∈ l, ∀ σ, S σ → ∃ σ', S σ' ∧ f (c a) σ B = match t a with | none => .ok (.next, σ', B) | some d => .ok (.ret d, σ', B)) → S σ → ∃ σ', S σ' ∧ forLoop f (l.map c) σ B = match l.findSome? t with | none => .ok (.next, σ', B) | some d => .ok (.ret d, σ', B)
  | [], σ, _, h => ⟨σ, h, rfl⟩
  | a :: l, σ, hf, h => by
    obtain ⟨σ', h1, h2⟩ := hf a List.mem_cons_self σ h
    cases e : t a with
    | none =>
      rw [e] at h2
      obtain ⟨σ2, h3, h4⟩ := forLoop_find (l := l) (fun e he => hf e (List.mem_cons_of_mem _ he)) h1
      refine ⟨σ2, h3, ?_⟩
      rw [List.map_cons, forLoop, h2, List.findSome?_cons, e]
      exact h4
    | some d =>
      rw [e] at h2
      refine ⟨σ', h1, ?_⟩
      rw [List.map_cons, forLoop, h2, List.findSome?_cons, e]
      rfl
theorem opC_neS (f : List (List Nat)) : opC .ne (.lst (sD f)) (.lst []) = some (!decide (f = [])) := by
  show (if ok64 _ && ok64 _ then some _ else none).map not = _
  have h1 : ok64 (.lst (sD f)) = true := by
    simp [ok64, D.dep, sD_depL]
  have h2 : ok64 (.lst []) = true := rfl
  rw [h1, h2]
  cases f <;> rfl
end Pz
end
section
set_option Elab.async false
set_option linter.all false
namespace Pz
/-! ### what must hold behind a run -/
theorem bind_congr_ {α β : Type} {m m' : Rs α} {f : α → Rs β} (h : m = m') : m.bind f = m'.bind f := by rw [h]
def Wp {α : Type} (m : Rs α) (Q : α → Prop) : Prop := ∃ a, m = .ok a ∧ Q a
theorem Wp_congr_ {α : Type} {m m' : Rs α} {Q : α → Prop} (h : m = m') : Wp m Q = Wp m' Q := by rw [h]
variable {α β : Type}
@[simp] theorem wp_ok (a : α) (Q : α → Prop) : Wp (.ok a) Q ↔ Q a := ⟨fun ⟨b, h, q⟩ => by cases h; exact q, fun q => ⟨a, rfl, q⟩⟩
@[simp] theorem wp_bind (m : Rs α) (f : α → Rs β) (Q : β → Prop) : Wp (m.bind f) Q ↔ Wp m fun a => Wp (f a) Q := by
  constructor
  · rintro ⟨b, h, q⟩
    cases m with
    | ok a => exact ⟨a, rfl, b, h, q⟩
    | ex c p B => cases h
    | bad => cases h
  · rintro ⟨a, rfl, b, h, q⟩
    exact ⟨b, h, q⟩
theorem Wp.mono {m : Rs α} {Q R : α → Prop} (h : Wp m Q) (k : ∀ a, Q a → R a) : Wp m R := by
  obtain ⟨a, e, q⟩ := h
  exact ⟨a, e, k a q⟩
theorem Wp.of {m : Rs α} {a : α} {Q : α → Prop} (e : m = .ok a) (q : Q a) : Wp m Q := ⟨a, e, q⟩
@[simp] theorem wp_some_if {c : Prop} [Decidable c] (a : α) (Q : α → Prop) : Wp (Rs.of (if c then some a else none)) Q ↔ c ∧ Q a := by
  by_cases h : c
  · rw [if_pos h]; simp [h]
  · rw [if_neg h]; simp only [h, false_and, iff_false]; rintro ⟨b, e, _⟩; cases e
@[simp] theorem wp_if_bad {c : Prop} [Decidable c] (m : Rs α) (Q : α → Prop) : Wp (if c then m else .bad) Q ↔ c ∧ Wp m Q := by
  by_cases h : c
  · rw [if_pos h]; simp [h]
  · rw [if_neg h]; simp only [h, false_and, iff_false]; rintro ⟨b, e, _⟩; cases e
theorem wp_ifs {c : Bool} {m n : Rs α} {Q : α → Prop} (h1 : c = true → Wp m Q) (h2 : c = false → Wp n Q) : Wp (if c then m else n) Q := by
  cases c
  · exact h2 rfl
  · exact h1 rfl
theorem wp_ift {c : Prop} [Decidable c] {m n : Rs α} {Q : α → Prop} (h1 : c → Wp m Q) (h2 : ¬c → Wp n Q) : Wp (if c then m else n) Q := by
  by_cases h : c
  · rw [if_pos h]; exact h1 h
  · rw [if_neg h]; exact h2 h
theorem wp_self {α : Type} (a : α) : Wp (.ok a) fun x => x = a := ⟨a, rfl, rfl⟩
/-- one statement, then the rest -/
theorem wp_seq {Φ : Fn} {s : S} {ss : Ss} {σ : Sg} {B : List D} {P Q : Fl × Sg × List D → Prop} (h : Wp (ex Φ s σ B) P)
    (k : ∀ x, P x → Wp (match x.1 with | .next => exs Φ ss x.2.1 x.2.2 | fl => .ok (fl, x.2.1, x.2.2)) Q) : Wp (exs Φ (.cons s ss) σ B) Q := by
  obtain ⟨a, e, p⟩ := h
  obtain ⟨b, e2, q⟩ := k a p
  exact ⟨b, by rw [exs_cons, e]; exact e2, q⟩
/-- .. one that goes on -/
theorem wp_next {Φ : Fn} {s : S} {ss : Ss} {σ σ' : Sg} {B B' : List D} {Q : Fl × Sg × List D → Prop} (h : ex Φ s σ B = .ok (.next, σ', B'))
    (k : Wp (exs Φ ss σ' B') Q) : Wp (exs Φ (.cons s ss) σ B) Q := by
  obtain ⟨b, e2, q⟩ := k
  exact ⟨b, by rw [exs_cons, h]; exact e2, q⟩
/-! loops -/
theorem wp_for {f : D → Sg → List D → Rq} {Q : Fl × Sg × List D → Prop} (ds : List D) (I : Nat → Sg → List D → Prop) {σ : Sg} {B : List D} (h0 : I 0 σ B)
    (hs : ∀ (i : Nat) (hi : i < ds.length) (σ : Sg) (B : List D), I i σ B → Wp (f ds[i] σ B) fun x => match x.1 with
      | .next => I (i + 1) x.2.1 x.2.2
      | .cnt => I (i + 1) x.2.1 x.2.2
      | .brk => Q (.next, x.2.1, x.2.2)
      | .ret d => Q (.ret d, x.2.1, x.2.2))
    (hQ : ∀ σ B, I ds.length σ B → Q (.next, σ, B)) : Wp (forLoop f ds σ B) Q := by
  have main : ∀ (k i : Nat), i + k = ds.length → ∀ σ B, I i σ B → Wp (forLoop f (ds.drop i) σ B) Q := by
    intro k
    induction k with
    | zero =>
      intro i hi σ B h
      rw [List.drop_eq_nil_of_le (by omega)]
      have : i = ds.length := by omega
      subst this
      exact ⟨_, rfl, hQ _ _ h⟩
    | succ k ih =>
      intro i hi σ B h
      have hi' : i < ds.length := by omega
      rw [List.drop_eq_getElem_cons hi']
      obtain ⟨⟨fl, σ', B'⟩, e, q⟩ := hs i hi' σ B h
      unfold forLoop
      rw [e, Rs.bind_ok]
      cases fl with
      | next => exact ih (i + 1) (by omega) _ _ q
      | cnt => exact ih (i + 1) (by omega) _ _ q
      | brk => exact ⟨_, rfl, q⟩
      | ret d => exact ⟨_, rfl, q⟩
  have := main ds.length 0 (by omega) σ B h0
  simpa using this
theorem wp_whl {c : Sg → List D → Rs (D × List D)} {f : Sg → List D → Rq} {Q : Fl × Sg × List D → Prop} (I : Nat → Sg → List D → Prop)
    (hs : ∀ (k : Nat) (σ : Sg) (B : List D), I k σ B → Wp (c σ B) fun x => Wp (isB x.1 fun b => if b then (f σ x.2) else .ok (.brk, σ, x.2)) fun x => match x.1 with
      | .next => ∃ j, j < k ∧ I j x.2.1 x.2.2
      | .cnt => ∃ j, j < k ∧ I j x.2.1 x.2.2
      | .brk => Q (.next, x.2.1, x.2.2)
      | .ret d => Q (.ret d, x.2.1, x.2.2)) :
    ∀ {n k : Nat} {σ : Sg} {B : List D}, k < n → I k σ B → Wp (whlLoop c f n σ B) Q
  | 0, k, σ, B, hk, h => absurd hk (by omega)
  | n + 1, k, σ, B, hk, h => by
    obtain ⟨⟨d, B1⟩, e, q⟩ := hs k σ B h
    unfold whlLoop
    rw [e, Rs.bind_ok]
    obtain ⟨⟨fl, σ', B'⟩, e2, q2⟩ := q
    cases d with
    | bl b =>
      cases b with
      | false =>
        cases e2
        exact ⟨_, rfl, q2⟩
      | true =>
        have e2 : f σ B1 = .ok (fl, σ', B') := e2
        show Wp ((f σ B1).bind _) Q
        rw [e2, Rs.bind_ok]
        cases fl with
        | next => obtain ⟨j, hj, q⟩ := q2; exact wp_whl I hs (by omega) q
        | cnt => obtain ⟨j, hj, q⟩ := q2; exact wp_whl I hs (by omega) q
        | brk => exact ⟨_, rfl, q2⟩
        | ret d => exact ⟨_, rfl, q2⟩
    | _ => cases e2
/-- a comprehension, item by item: what is known of the list so far -/
theorem wp_lc {f : D → List D → Rs (Option D × List D)} {Q : List D × List D → Prop} (ds : List D) (I : Nat → List D → List D → Prop) {B : List D} (h0 : I 0 [] B)
    (hs : ∀ (i : Nat) (hi : i < ds.length) (acc B : List D), I i acc B → Wp (f ds[i] B) fun x => I (i + 1) (match x.1 with | some y => acc ++ [y] | none => acc) x.2)
    (hQ : ∀ acc B, I ds.length acc B → Q (acc, B)) : Wp (lcLoop f ds B) Q := by
  have main : ∀ (k i : Nat), i + k = ds.length → ∀ acc B, I i acc B → Wp (lcLoop f (ds.drop i) B) fun r => Q (acc ++ r.1, r.2) := by
    intro k
    induction k with
    | zero =>
      intro i hi acc B h
      rw [List.drop_eq_nil_of_le (by omega)]
      have : i = ds.length := by omega
      subst this
      exact ⟨_, rfl, by simpa using hQ _ _ h⟩
    | succ k ih =>
      intro i hi acc B h
      have hi' : i < ds.length := by omega
      rw [List.drop_eq_getElem_cons hi']
      obtain ⟨⟨o, B'⟩, e, q⟩ := hs i hi' acc B h
      unfold lcLoop
      rw [e, Rs.bind_ok]
      cases o with
      | none =>
        obtain ⟨⟨r, B2⟩, e2, q2⟩ := ih (i + 1) (by omega) _ _ q
        show Wp ((lcLoop f (ds.drop (i + 1)) B').bind _) _
        rw [e2]
        exact ⟨_, rfl, q2⟩
      | some y =>
        obtain ⟨⟨r, B2⟩, e2, q2⟩ := ih (i + 1) (by omega) _ _ q
        show Wp ((lcLoop f (ds.drop (i + 1)) B').bind _) _
        rw [e2]
        refine ⟨_, rfl, ?_⟩
        simpa using q2
  have := main ds.length 0 (by omega) [] B h0
  simpa using this
/-- .. each turn gives one item, told by a list -/
theorem wp_lcmap {f : D → List D → Rs (Option D × List D)} {Q : List D × List D → Prop} {γ : Type} (l : List γ) (c g : γ → D) {B : List D}
    (hs : ∀ a ∈ l, f (c a) B = .ok (some (g a), B)) (hQ : Q (l.map g, B)) : Wp (lcLoop f (l.map c) B) Q :=
  ⟨_, lcLoop_all hs, hQ⟩
theorem wp_lcfil {f : D → List D → Rs (Option D × List D)} {Q : List D × List D → Prop} {γ : Type} (l : List γ) (c g : γ → D) (t : γ → Bool) {B : List D}
    (hs : ∀ a ∈ l, f (c a) B = .ok (if t a then some (g a) else none, B)) (hQ : Q ((l.filter t).map g, B)) : Wp (lcLoop f (l.map c) B) Q :=
  ⟨_, lcLoop_some hs, hQ⟩
/-- a loop that goes through -/
theorem for_inv {f : D → Sg → List D → Rq} (ds : List D) (I : Nat → Sg → List D → Prop) {σ : Sg} {B : List D} (h0 : I 0 σ B)
    (hs : ∀ (i : Nat) (hi : i < ds.length) (σ : Sg) (B : List D), I i σ B → ∃ σ' B', I (i + 1) σ' B' ∧ f ds[i] σ B = .ok (.next, σ', B')) : ∃ σ' B', I ds.length σ' B' ∧ forLoop f ds σ B = .ok (.next, σ', B') := by
  have h : Wp (forLoop f ds σ B) fun x => x.1 = .next ∧ I ds.length x.2.1 x.2.2 := by
    refine wp_for ds I h0 (fun i hi σ B h => ?_) (fun σ B h => ⟨rfl, h⟩)
    obtain ⟨σ', B', h1, h2⟩ := hs i hi σ B h
    exact ⟨_, h2, h1⟩
  obtain ⟨⟨fl, σ', B'⟩, e, h1, h2⟩ := h
  have h1 : fl = .next := h1
  subst h1
  exact ⟨σ', B', h2, e⟩
/-! names -/
/-! ints -/
theorem rngL_nat (n : Nat) : rngL 0 (n : Int) = (List.range n).map fun a => .int (a : Nat) := by
  unfold rngL
  rw [show ((n : Int) - 0).toNat = n by omega]
  simp
theorem rngL_len (a b : Int) : (rngL a b).length = (b - a).toNat := by simp [rngL]
theorem rngL_get (a b : Int) (i : Nat) (h : i < (rngL a b).length) : (rngL a b)[i] = .int (a + (i : Nat)) := by simp [rngL]
theorem bnd_of {i : Int} (h : -(2 ^ 62) ≤ i) (h2 : i < 2 ^ 62) : bnd i = true := by unfold bnd; simp only [Bool.and_eq_true, decide_eq_true_eq]; exact ⟨h, h2⟩
theorem small_of {i : Int} (h : -(2 ^ 64) < i) (h2 : i < 2 ^ 64) : small i = true := by unfold small; simp only [Bool.and_eq_true, decide_eq_true_eq]; exact ⟨h, h2⟩
/-! one run of a def -/
theorem wp_run {tb : Nat → Option Fd} {n f : Nat} {args : List D} {B : List D} {np ns : Nat} {body : Ss} {Q : D × List D → Prop} (h : tb f = some ⟨np, ns, body⟩) (hn : 1 ≤ n) (hl : args.length = np)
    (k : Wp (exs (run tb (n - 1)) body (start ns args) B) fun x => match x.1 with
      | .ret d => Q (d, x.2.2)
      | .next => Q (.non, x.2.2)
      | _ => False) : Wp (run tb n f args B) Q := by
  obtain ⟨m, rfl⟩ : ∃ m, n = m + 1 := ⟨n - 1, by omega⟩
  rw [run_succ (h := h) (hl := hl)]
  unfold kRun
  rw [wp_bind]
  obtain ⟨⟨fl, σ, B'⟩, e, q⟩ := k
  refine ⟨_, e, ?_⟩
  cases fl with
  | ret d => exact ⟨_, rfl, q⟩
  | next => exact ⟨_, rfl, q⟩
  | brk => exact q.elim
  | cnt => exact q.elim
/-! the operations, one by one -/
@[simp] theorem opBi_len (x : List D) : opBi .len x = bi_len x := rfl
@[simp] theorem opBi_abs (x : List D) : opBi .abs x = bi_abs x := rfl
@[simp] theorem opBi_int (x : List D) : opBi .int x = bi_int x := rfl
@[simp] theorem opBi_str (x : List D) : opBi .str x = bi_str x := rfl
@[simp] theorem opBi_sum (x : List D) : opBi .sum x = bi_sum x := rfl
@[simp] theorem opBi_mn (x : List D) : opBi .mn x = bi_mn x := rfl
@[simp] theorem opBi_mx (x : List D) : opBi .mx x = bi_mx x := rfl
@[simp] theorem opBi_mn2 (x : List D) : opBi .mn2 x = bi_mn2 x := rfl
@[simp] theorem opBi_mx2 (x : List D) : opBi .mx2 x = bi_mx2 x := rfl
@[simp] theorem opBi_all (x : List D) : opBi .all x = bi_all x := rfl
@[simp] theorem opBi_any (x : List D) : opBi .any x = bi_any x := rfl
@[simp] theorem opBi_sorted (x : List D) : opBi .sorted x = bi_sorted x := rfl
@[simp] theorem opBi_sset (x : List D) : opBi .sset x = bi_sset x := rfl
@[simp] theorem opBi_tuple (x : List D) : opBi .tuple x = bi_tuple x := rfl
@[simp] theorem opBi_list (x : List D) : opBi .list x = bi_list x := rfl
@[simp] theorem opBi_getd (x : List D) : opBi .getd x = bi_getd x := rfl
@[simp] theorem opBi_get1 (x : List D) : opBi .get1 x = bi_get1 x := rfl
@[simp] theorem opBi_items (x : List D) : opBi .items x = bi_items x := rfl
@[simp] theorem opBi_join (x : List D) : opBi .join x = bi_join x := rfl
@[simp] theorem opBi_split (x : List D) : opBi .split x = bi_split x := rfl
@[simp] theorem opBi_count (x : List D) : opBi .count x = bi_count x := rfl
@[simp] theorem opBi_index (x : List D) : opBi .index x = bi_index x := rfl
@[simp] theorem opBi_mng (x : List D) : opBi .mng x = bi_mng x := rfl
@[simp] theorem opBi_mxg (x : List D) : opBi .mxg x = bi_mxg x := rfl
@[simp] theorem opBi_mng2 (x : List D) : opBi .mng2 x = bi_mng2 x := rfl
@[simp] theorem opBi_mxg2 (x : List D) : opBi .mxg2 x = bi_mxg2 x := rfl
@[simp] theorem opBi_sortd (x : List D) : opBi .sortd x = bi_sortd x := rfl
@[simp] theorem opBi_dict (x : List D) : opBi .dict x = bi_dict x := rfl
@[simp] theorem bi_dict_lst (l : List D) : bi_dict [.lst l] = (pairsOf l).bind fun ps => if ps.all fun p => p.1.keyOk false then some (.dic false (mkDic ps)) else none := rfl
@[simp] theorem opBi_rng (x : List D) : opBi .rng x = (rngOf x).map .lst := rfl
@[simp] theorem opBi_enm (x : D) : opBi .enm [x] = (itemsOf x).map fun l => .lst ((l.zipIdx).map fun p => .tup [.int (p.2 : Nat), p.1]) := rfl
@[simp] theorem opBi_zip (x y : D) : opBi .zip [x, y] = (itemsOf x).bind fun l => (itemsOf y).map fun m => .lst ((l.zip m).map fun p => .tup [p.1, p.2]) := rfl
@[simp] theorem rngOf_1 (b : Int) : rngOf [.int b] = if bnd b then some (rngL 0 b) else none := rfl
@[simp] theorem rngOf_2 (a b : Int) : rngOf [.int a, .int b] = if bnd a && bnd b then some (rngL a b) else none := rfl
@[simp] theorem rngOf_3 (a b c : Int) : rngOf [.int a, .int b, .int c] = if bnd a && bnd b then (if c = -1 then some (rngDn a b) else if decide (0 < c) && decide (c < 100000) then some (rngUp a b c.toNat) else none) else none := rfl
@[simp] theorem itemsOf_lst (l : List D) : itemsOf (.lst l) = some l := rfl
@[simp] theorem itemsOf_tup (l : List D) : itemsOf (.tup l) = some l := rfl
@[simp] theorem itemsOf_str (l : List Nat) : itemsOf (.str l) = some (l.map fun c => .str [c]) := rfl
@[simp] theorem bi_len_lst (l : List D) : bi_len [.lst l] = some (.int l.length) := rfl
@[simp] theorem bi_len_tup (l : List D) : bi_len [.tup l] = some (.int l.length) := rfl
@[simp] theorem bi_len_str (l : List Nat) : bi_len [.str l] = some (.int l.length) := rfl
@[simp] theorem bi_len_dic (t : Bool) (l : List (D × D)) : bi_len [.dic t l] = some (.int l.length) := rfl
@[simp] theorem bi_int_int (i : Int) : bi_int [.int i] = some (.int i) := rfl
@[simp] theorem bi_str_str (i : List Nat) : bi_str [.str i] = some (.str i) := rfl
@[simp] theorem bi_abs_int (i : Int) : bi_abs [.int i] = some (.int (if i < 0 then -i else i)) := rfl
@[simp] theorem bi_sum_lst (l : List D) : bi_sum [.lst l] = (intL l).map fun ns => .int ns.sum := rfl
@[simp] theorem bi_mn_lst (l : List D) : bi_mn [.lst l] = (intL l).bind fun ns => ns.min?.map .int := rfl
@[simp] theorem bi_mx_lst (l : List D) : bi_mx [.lst l] = (intL l).bind fun ns => ns.max?.map .int := rfl
@[simp] theorem bi_mn2_int (i j : Int) : bi_mn2 [.int i, .int j] = some (.int (if j < i then j else i)) := rfl
@[simp] theorem bi_mx2_int (i j : Int) : bi_mx2 [.int i, .int j] = some (.int (if j > i then j else i)) := rfl
@[simp] theorem bi_all_lst (l : List D) : bi_all [.lst l] = (blL l).map fun bs => .bl (bs.all id) := rfl
@[simp] theorem bi_any_lst (l : List D) : bi_any [.lst l] = (blL l).map fun bs => .bl (bs.any id) := rfl
@[simp] theorem bi_sum_tup (l : List D) : bi_sum [.tup l] = (intL l).map fun ns => .int ns.sum := rfl
@[simp] theorem bi_sorted_tup (l : List D) : bi_sorted [.tup l] = sortD l := rfl
@[simp] theorem bi_sorted_lst (l : List D) : bi_sorted [.lst l] = sortD l := rfl
@[simp] theorem bi_sset_lst (l : List D) : bi_sset [.lst l] = if l.all D.key1 && decide (l.length < 4000) then sortD (dedup l) else none := rfl
@[simp] theorem bi_tuple_lst (l : List D) : bi_tuple [.lst l] = some (.tup l) := rfl
@[simp] theorem bi_tuple_tup (l : List D) : bi_tuple [.tup l] = some (.tup l) := rfl
@[simp] theorem bi_list_scr (l : List D) : bi_list [.scr l] = some (.lst l) := rfl
@[simp] theorem bi_list_lst (l : List D) : bi_list [.lst l] = some (.lst l) := rfl
@[simp] theorem bi_list_tup (l : List D) : bi_list [.tup l] = some (.lst l) := rfl
@[simp] theorem opB_addI (i j : Int) : opB .add (.int i) (.int j) = some (.int (i + j)) := rfl
@[simp] theorem opB_subI (i j : Int) : opB .sub (.int i) (.int j) = some (.int (i - j)) := rfl
@[simp] theorem opB_mulI (i j : Int) : opB .mul (.int i) (.int j) = if small i || small j then some (.int (i * j)) else none := rfl
@[simp] theorem opB_fdivI (i j : Int) : opB .fdiv (.int i) (.int j) = if decide (0 < j) && decide (j < 1073741824) then some (.int (i / j)) else none := rfl
@[simp] theorem opB_modI (i j : Int) : opB .mod (.int i) (.int j) = if 0 < j then some (.int (i % j)) else none := rfl
@[simp] theorem opB_powI (i j : Int) : opB .pow (.int i) (.int j) = if decide (0 ≤ j) && decide (j ≤ 1000) && decide (i.natAbs < 2 ^ 64) then some (.int (i ^ j.toNat)) else none := rfl
@[simp] theorem opB_addS (x y : List Nat) : opB .add (.str x) (.str y) = if x.length + y.length ≤ ln then some (.str (x ++ y)) else none := rfl
@[simp] theorem opB_addL (x y : List D) : opB .add (.lst x) (.lst y) = if x.length + y.length ≤ ln then some (.lst (x ++ y)) else none := rfl
@[simp] theorem opB_addT (x y : List D) : opB .add (.tup x) (.tup y) = if x.length + y.length ≤ ln then some (.tup (x ++ y)) else none := rfl
@[simp] theorem opB_mulS (x : List Nat) (k : Int) : opB .mul (.str x) (.int k) = if decide (-1000000 < k) && decide (k < 1000000) && decide (x.length * k.toNat ≤ ln) then some (.str (repS x k.toNat)) else none := rfl
@[simp] theorem opB_mulL (x : List D) (k : Int) : opB .mul (.lst x) (.int k) = if decide (-1000000 < k) && decide (k < 1000000) && decide (x.length * k.toNat ≤ ln) then some (.lst (rep x k.toNat)) else none := rfl
@[simp] theorem opB_mulT (x : List D) (k : Int) : opB .mul (.tup x) (.int k) = if decide (-1000000 < k) && decide (k < 1000000) && decide (x.length * k.toNat ≤ ln) then some (.tup (rep x k.toNat)) else none := rfl
@[simp] theorem opC_leI (i j : Int) : opC .le (.int i) (.int j) = some (decide (i ≤ j)) := rfl
@[simp] theorem opC_geI (i j : Int) : opC .ge (.int i) (.int j) = some (decide (j ≤ i)) := rfl
@[simp] theorem opC_gtI_ (i j : Int) : opC .gt (.int i) (.int j) = some (decide (j < i)) := rfl
@[simp] theorem opC_ltI_ (i j : Int) : opC .lt (.int i) (.int j) = some (decide (i < j)) := rfl
@[simp] theorem opC_eqI (i j : Int) : opC .eq (.int i) (.int j) = some (decide (i = j)) := rfl
@[simp] theorem opC_neI (i j : Int) : opC .ne (.int i) (.int j) = some (!decide (i = j)) := rfl
@[simp] theorem opC_eqS (i j : List Nat) : opC .eq (.str i) (.str j) = some (decide (i = j)) := by
  show some (i == j) = _
  congr 1
  by_cases h : i = j <;> simp [h]
@[simp] theorem opC_neS_ (i j : List Nat) : opC .ne (.str i) (.str j) = some (!decide (i = j)) := by
  show some (!(i == j)) = _
  congr 2
  by_cases h : i = j <;> simp [h]
theorem opC_eq (a b : D) : opC .eq a b = eqD a b := rfl
theorem opC_ne (a b : D) : opC .ne a b = (eqD a b).map not := rfl
@[simp] theorem opC_in (a b : D) : opC .isIn a b = inD a b := rfl
@[simp] theorem opC_notIn (a b : D) : opC .notIn a b = (inD a b).map not := rfl
@[simp] theorem opC_is (a b : D) : opC .is a b = isD a b := rfl
@[simp] theorem opC_isNot (a b : D) : opC .isNot a b = (isD a b).map not := rfl
theorem eqD_nilL (l : List D) (h : D.depL l ≤ 60) : eqD (.lst l) (.lst []) = some l.isEmpty := by
  have h1 : ok64 (.lst l) = true := by
    have : D.dep (.lst l) = D.depL l + 1 := rfl
    unfold ok64; rw [this]; simp; omega
  unfold eqD
  rw [h1]
  cases l <;> rfl
theorem eqD_nilT (l : List D) (h : D.depL l ≤ 60) : eqD (.tup l) (.tup []) = some l.isEmpty := by
  have h1 : ok64 (.tup l) = true := by
    have : D.dep (.tup l) = D.depL l + 1 := rfl
    unfold ok64; rw [this]; simp; omega
  unfold eqD
  rw [h1]
  cases l <;> rfl
@[simp] theorem part_nop : part .nop .non = some none := rfl
@[simp] theorem subD_lst (l : List D) (i : Int) : subD (.lst l) (.int i) = atI l i := rfl
@[simp] theorem subD_tup (l : List D) (i : Int) : subD (.tup l) (.int i) = atI l i := rfl
@[simp] theorem subD_str (l : List Nat) (i : Int) : subD (.str l) (.int i) = (atI l i).map fun c => .str [c] := rfl
theorem atI_nat {γ : Type} (l : List γ) (i : Nat) (h : i < l.length) : atI l (i : Int) = some l[i] := by
  have h2 : (i : Int) < l.length := by omega
  unfold atI ixN
  rw [if_pos (by omega), if_pos h2]
  simp [h]
theorem atI_int {γ : Type} (l : List γ) (i : Int) (h0 : 0 ≤ i) (h : i < l.length) : atI l i = some (l[i.toNat]'(by omega)) := by
  unfold atI ixN
  rw [if_pos h0, if_pos h]
  have : i.toNat < l.length := by omega
  simp [this]
@[simp] theorem cutD_lst (l : List D) (a b : Option Int) : cutD (.lst l) a b = some (.lst (cutL l a b)) := rfl
@[simp] theorem cutD_tup (l : List D) (a b : Option Int) : cutD (.tup l) a b = some (.tup (cutL l a b)) := rfl
@[simp] theorem cutD_str (l : List Nat) (a b : Option Int) : cutD (.str l) a b = some (.str (cutL l a b)) := rfl
@[simp] theorem part_int (e : E) (i : Int) (h : e ≠ .nop) : part e (.int i) = some (some i) := by
  cases e <;> first | rfl | exact absurd rfl h
theorem cutL_from {γ : Type} (l : List γ) (a : Nat) : cutL l (some (a : Int)) none = l.drop a := by
  unfold cutL
  rw [sIx_nat]
  show (l.drop (min a l.length)).take (l.length - min a l.length) = _
  by_cases h : a ≤ l.length
  · rw [Nat.min_eq_left h, List.take_of_length_le (by rw [List.length_drop]; omega)]
  · rw [Nat.min_eq_right (by omega), List.drop_eq_nil_of_le (Nat.le_refl _), List.drop_eq_nil_of_le (by omega)]; simp
theorem cutL_to {γ : Type} (l : List γ) (a : Nat) : cutL l none (some (a : Int)) = l.take a := by
  unfold cutL
  rw [sIx_nat]
  show (l.drop 0).take (min a l.length - 0) = _
  rw [List.drop_zero, Nat.sub_zero]
  by_cases h : a ≤ l.length
  · rw [Nat.min_eq_left h]
  · rw [Nat.min_eq_right (by omega), List.take_of_length_le (Nat.le_refl _), List.take_of_length_le (by omega)]
theorem cutL_nat {γ : Type} (l : List γ) (a b : Nat) : cutL l (some (a : Int)) (some (b : Int)) = (l.drop a).take (b - a) := by
  unfold cutL
  rw [sIx_nat, sIx_nat]
  by_cases h : a ≤ l.length
  · rw [Nat.min_eq_left h]
    by_cases h2 : b ≤ l.length
    · rw [Nat.min_eq_left h2]
    · rw [Nat.min_eq_right (by omega), List.take_of_length_le (by rw [List.length_drop]; omega), List.take_of_length_le (by rw [List.length_drop]; omega)]
  · rw [List.drop_eq_nil_of_le (by omega), List.drop_eq_nil_of_le (by omega)]; simp
@[simp] theorem isi_int_int (i : Int) : isiD .int (.int i) = some true := rfl
@[simp] theorem put_nm (i : Nat) (d : D) (σ : Sg) : put (.nm i) d σ = if i < σ.length then some (σ.set i (.val d)) else none := rfl
@[simp] theorem put_tp (l : Tgs) (ds : List D) (σ : Sg) : put (.tp l) (.tup ds) σ = puts l ds σ := rfl
@[simp] theorem puts_nil (σ : Sg) : puts .nil [] σ = some σ := rfl
@[simp] theorem puts_cons (t : Tg) (l : Tgs) (d : D) (ds : List D) (σ : Sg) : puts (.cons t l) (d :: ds) σ = (put t d σ).bind fun σ' => puts l ds σ' := rfl
@[simp] theorem isLD_lst (l : List D) : isLD (.lst l) = true := rfl
@[simp] theorem isLD_dic (t : Bool) (l : List (D × D)) : isLD (.dic t l) = true := rfl
/-! two clauses -/
def turn2 (Φ : Fn) (σ : Sg) (tg : Tg) (c : E) (tg2 : Tg) (it2 c2 e : E) (d : D) : List D → Rs (List D × List D) := fun B => (Rs.of (put tg d (wipeS σ (tg.names ++ tg2.names)))).bind fun σ' => (ev Φ false c σ' B).bind fun y => isB y.1 fun k =>
  if k then (ev Φ false it2 σ' y.2).bind fun z => (Rs.of (itemsOf z.1)).bind fun es => if es.length ≤ 4096 then lcLoop (turn Φ σ' tg2 c2 e) es z.2 else .bad
  else .ok ([], y.2)
def kN4 (Φ : Fn) (σ' : Sg) (tg2 : Tg) (c2 e : E) (B : List D) : Option (List D) → Rs (List D × List D)
  | some es => if es.length ≤ 4096 then lcLoop (turn Φ σ' tg2 c2 e) es B else .bad
  | none => .bad
@[simp] theorem kN4_s (Φ : Fn) (σ' : Sg) (tg2 : Tg) (c2 e : E) (B es : List D) : kN4 Φ σ' tg2 c2 e B (some es) = if es.length ≤ 4096 then lcLoop (turn Φ σ' tg2 c2 e) es B else .bad := rfl
def kN3 (Φ : Fn) (σ' : Sg) (tg2 : Tg) (c2 e : E) (m : Re) : Rs (List D × List D) := m.bind fun z => kN4 Φ σ' tg2 c2 e z.2 (itemsOf z.1)
@[simp] theorem kN3_ok (Φ : Fn) (σ' : Sg) (tg2 : Tg) (c2 e : E) (z : D) (B : List D) : kN3 Φ σ' tg2 c2 e (.ok (z, B)) = kN4 Φ σ' tg2 c2 e B (itemsOf z) := rfl
def kN2 (Φ : Fn) (σ' : Sg) (tg2 : Tg) (it2 c2 e : E) (m : Re) : Rs (List D × List D) := m.bind fun y => isB y.1 fun k => if k then kN3 Φ σ' tg2 c2 e (ev Φ false it2 σ' y.2) else .ok ([], y.2)
@[simp] theorem kN2_t (Φ : Fn) (σ' : Sg) (tg2 : Tg) (it2 c2 e : E) (B : List D) : kN2 Φ σ' tg2 it2 c2 e (.ok (.bl true, B)) = kN3 Φ σ' tg2 c2 e (ev Φ false it2 σ' B) := rfl
@[simp] theorem kN2_f (Φ : Fn) (σ' : Sg) (tg2 : Tg) (it2 c2 e : E) (B : List D) : kN2 Φ σ' tg2 it2 c2 e (.ok (.bl false, B)) = .ok ([], B) := rfl
def kN1 (Φ : Fn) (c : E) (tg2 : Tg) (it2 c2 e : E) (B : List D) : Option Sg → Rs (List D × List D)
  | some σ' => kN2 Φ σ' tg2 it2 c2 e (ev Φ false c σ' B)
  | none => .bad
@[simp] theorem kN1_s (Φ : Fn) (c : E) (tg2 : Tg) (it2 c2 e : E) (B : List D) (σ' : Sg) : kN1 Φ c tg2 it2 c2 e B (some σ') = kN2 Φ σ' tg2 it2 c2 e (ev Φ false c σ' B) := rfl
theorem turn2_eq (Φ : Fn) (σ : Sg) (tg : Tg) (c : E) (tg2 : Tg) (it2 c2 e : E) (d : D) (B : List D) : turn2 Φ σ tg c tg2 it2 c2 e d B = kN1 Φ c tg2 it2 c2 e B (put tg d (wipeS σ (tg.names ++ tg2.names))) := by
  unfold turn2
  cases put tg d (wipeS σ (tg.names ++ tg2.names)) with
  | none => rfl
  | some σ' =>
    show ((ev Φ false c σ' B).bind fun y => isB y.1 fun k => if k then (ev Φ false it2 σ' y.2).bind fun z => (Rs.of (itemsOf z.1)).bind fun es => if es.length ≤ 4096 then lcLoop (turn Φ σ' tg2 c2 e) es z.2 else .bad else .ok ([], y.2)) = (ev Φ false c σ' B).bind _
    congr 1; funext y
    congr 1; funext k
    cases k with
    | false => rfl
    | true =>
      show ((ev Φ false it2 σ' y.2).bind fun z => (Rs.of (itemsOf z.1)).bind fun es => if es.length ≤ 4096 then lcLoop (turn Φ σ' tg2 c2 e) es z.2 else .bad) = (ev Φ false it2 σ' y.2).bind _
      congr 1; funext z
      cases itemsOf z.1 <;> rfl
def kM2 (Φ : Fn) (σ : Sg) (tg : Tg) (c : E) (tg2 : Tg) (it2 c2 e : E) (B : List D) : Option (List D) → Re
  | some ds => if ds.length ≤ 4096 then kLcE (lcLoop2 (turn2 Φ σ tg c tg2 it2 c2 e) ds B) else .bad
  | none => .bad
@[simp] theorem kM2_s (Φ : Fn) (σ : Sg) (tg : Tg) (c : E) (tg2 : Tg) (it2 c2 e : E) (B ds : List D) : kM2 Φ σ tg c tg2 it2 c2 e B (some ds) = if ds.length ≤ 4096 then kLcE (lcLoop2 (turn2 Φ σ tg c tg2 it2 c2 e) ds B) else .bad := rfl
def kM1 (Φ : Fn) (σ : Sg) (tg : Tg) (c : E) (tg2 : Tg) (it2 c2 e : E) (m : Re) : Re := m.bind fun x => kM2 Φ σ tg c tg2 it2 c2 e x.2 (itemsOf x.1)
@[simp] theorem kM1_ok (Φ : Fn) (σ : Sg) (tg : Tg) (c : E) (tg2 : Tg) (it2 c2 e : E) (x : D) (B : List D) : kM1 Φ σ tg c tg2 it2 c2 e (.ok (x, B)) = kM2 Φ σ tg c tg2 it2 c2 e B (itemsOf x) := rfl
@[simp] theorem ev_lc2 (Φ : Fn) (p : Bool) (σ : Sg) (tg : Tg) (it c : E) (tg2 : Tg) (it2 c2 e : E) (B : List D) : ev Φ p (.lc2 tg it c tg2 it2 c2 e) σ B = kM1 Φ σ tg c tg2 it2 c2 e (ev Φ true it σ B) := by
  show ((ev Φ true it σ B).bind fun x => (Rs.of (itemsOf x.1)).bind fun ds => if ds.length ≤ 4096 then (lcLoop2 (turn2 Φ σ tg c tg2 it2 c2 e) ds x.2).bind fun r => .ok (D.lst r.1, r.2) else .bad) = _
  unfold kM1
  congr 1; funext x
  cases itemsOf x.1 <;> rfl
theorem lcLoop2_all {α : Type} {f : D → List D → Rs (List D × List D)} {c : α → D} {g : α → List D} {B : List D} : ∀ {l : List α}, (∀ a ∈ l, f (c a) B = .ok (g a, B)) → lcLoop2 f (l.map c) B = .ok (l.flatMap g, B)
  | [], _ => rfl
  | a :: l, h => by
    show (f (c a) B).bind _ = _
    rw [h a (by simp), Rs.bind_ok, lcLoop2_all (l := l) fun b hb => h b (by simp [hb])]
    rfl
/-! a while loop -/
theorem whl_inv {c : Sg → List D → Rs (D × List D)} {f : Sg → List D → Rq} (I : Nat → Sg → List D → Prop) (P : Sg → List D → Prop) {n k : Nat} {σ : Sg} {B : List D} (hk : k < n) (h0 : I k σ B)
    (hs : ∀ (k : Nat) (σ : Sg) (B : List D), I k σ B → (c σ B = .ok (.bl false, B) ∧ P σ B) ∨ (c σ B = .ok (.bl true, B) ∧ ∃ σ' B' j, j < k ∧ I j σ' B' ∧ f σ B = .ok (.next, σ', B'))) : ∃ σ' B', P σ' B' ∧ whlLoop c f n σ B = .ok (.next, σ', B') := by
  have h : Wp (whlLoop c f n σ B) fun x => x.1 = .next ∧ P x.2.1 x.2.2 := by
    refine wp_whl I (fun k σ B h => ?_) hk h0
    rcases hs k σ B h with ⟨e, q⟩ | ⟨e, σ', B', j, hj, q, e2⟩
    · exact ⟨_, e, _, rfl, rfl, q⟩
    · exact ⟨_, e, _, e2, j, hj, q⟩
  obtain ⟨⟨fl, σ', B'⟩, e, h1, h2⟩ := h
  have h1 : fl = .next := h1
  subst h1
  exact ⟨σ', B', h2, e⟩
/-- a while loop, closed -/
def whlW (Φ : Fn) (c : E) (b : Ss) (σ : Sg) (B : List D) : Rq := whlLoop (fun σ B => ev Φ false c σ B) (fun σ B => exs Φ b σ B) fuel σ B
@[simp] theorem ex_whlW (Φ : Fn) (c : E) (b : Ss) (σ : Sg) (B : List D) : ex Φ (.whl c b) σ B = whlW Φ c b σ B := rfl
theorem whlW_inv {Φ : Fn} {c : E} {b : Ss} (I : Nat → Sg → List D → Prop) (P : Sg → List D → Prop) {k : Nat} {σ : Sg} {B : List D} (hk : k < 100000) (h0 : I k σ B)
    (hs : ∀ (k : Nat) (σ : Sg) (B : List D), I k σ B → (ev Φ false c σ B = .ok (.bl false, B) ∧ P σ B) ∨ (ev Φ false c σ B = .ok (.bl true, B) ∧ ∃ σ' B' j, j < k ∧ I j σ' B' ∧ exs Φ b σ B = .ok (.next, σ', B'))) : ∃ σ' B', P σ' B' ∧ whlW Φ c b σ B = .ok (.next, σ', B') :=
  whl_inv I P (n := fuel) hk h0 hs
end Pz
end
section
set_option Elab.async false
set_option linter.all false
namespace Pz
/-! ### what all laws share: the cup, rolls, one of several, alike values -/
def b__law_some : Ss := .cons (.ret (.sub (.var 1) (.call 0 (.cons (.var 0) (.cons (.bi .len (.cons (.var 1) (.nil))) (.nil)))))) (.nil)
def b__law_same : Ss := .cons (.ifs (.isi (.var 1) .tup) (.cons (.ifs (.or (.not (.isi (.var 0) .tup)) (.cmp .ne (.bi .len (.cons (.var 0) (.nil))) (.bi .len (.cons (.var 1) (.nil))))) (.cons (.ret (.cst (.bl false))) (.nil)) (.nil)) (.cons (.ret (.bi .all (.cons (.lc (.nm 2) (.bi .rng (.cons (.bi .len (.cons (.var 1) (.nil))) (.nil))) (.cst (.bl true)) (.call 2 (.cons (.sub (.var 0) (.var 2)) (.cons (.sub (.var 1) (.var 2)) (.nil))))) (.nil)))) (.nil))) (.nil)) (.cons (.ifs (.cmp .is (.var 1) (.cst .non)) (.cons (.ret (.cmp .is (.var 0) (.cst .non))) (.nil)) (.nil)) (.cons (.ifs (.isi (.var 1) .bool) (.cons (.ret (.ite (.var 1) (.cmp .is (.var 0) (.cst (.bl true))) (.cmp .is (.var 0) (.cst (.bl false))))) (.nil)) (.nil)) (.cons (.ifs (.isi (.var 1) .int) (.cons (.ret (.and (.isi (.var 0) .int) (.and (.not (.isi (.var 0) .bool)) (.cmp .eq (.bi .int (.cons (.var 0) (.nil))) (.var 1))))) (.nil)) (.nil)) (.cons (.ret (.and (.isi (.var 0) .str) (.cmp .eq (.bi .str (.cons (.var 0) (.nil))) (.var 1)))) (.nil)))))
def rollIR (k1 k2 k3 k4 m1 m2 : Int) : Ss := .cons (.ifs (.cmp .gt (.sub (.var 0) (.cst (.int 0))) (.cst (.int 0))) (.cons (.asg (.nm 2) (.bin .mod (.bi .int (.cons (.sub (.var 0) (.cst (.int 0))) (.nil))) (.var 1))) (.cons (.asg (.bx (.var 0) (.cst (.int 0))) (.bin .fdiv (.sub (.var 0) (.cst (.int 0))) (.var 1))) (.cons (.ret (.var 2)) (.nil)))) (.nil)) (.cons (.asg (.bx (.var 0) (.cst (.int 1))) (.bin .mod (.bi .int (.cons (.bin .add (.bin .mul (.sub (.var 0) (.cst (.int 1))) (.cst (.int k1))) (.cst (.int k2))) (.nil))) (.cst (.int m1)))) (.cons (.asg (.nm 3) (.bin .mod (.bi .int (.cons (.bin .mul (.sub (.var 0) (.cst (.int 1))) (.bin .add (.sub (.var 0) (.cst (.int 1))) (.cst (.int k3)))) (.nil))) (.cst (.int m2)))) (.cons (.ret (.bin .mod (.bi .int (.cons (.bin .fdiv (.var 3) (.cst (.int k4))) (.nil))) (.var 1))) (.nil))))
def cupIR (k1 k2 k3 k4 m1 : Int) : Ss := .cons (.asg (.nm 1) (.bi .abs (.cons (.sub (.bin .add (.bi .list (.cons (.var 0) (.nil))) (.lst (.cons (.cst (.int 0)) (.nil)))) (.cst (.int 0))) (.nil)))) (.cons (.ret (.mkbox (.lst (.cons (.ite (.cmp .ge (.var 1) (.bin .pow (.cst (.int 10)) (.cst (.int 18)))) (.bin .fdiv (.var 1) (.cst (.int k1))) (.cst (.int 0))) (.cons (.bin .add (.bin .mod (.bi .int (.cons (.bin .add (.bin .mul (.var 1) (.cst (.int k2))) (.cst (.int k3))) (.nil))) (.cst (.int m1))) (.cst (.int k4))) (.nil)))))) (.nil))
/-- the roll's box -/
def cupD (a b : Int) : D := .lst [.int a, .int b]
def okB (B : List D) : Prop := ∃ a b : Int, 0 ≤ a ∧ 0 ≤ b ∧ b < 2 ^ 40 ∧ B = [cupD a b]
theorem gt_int (i j : Int) : opC .gt (.int i) (.int j) = some (decide (j < i)) := rfl
variable {tb : Nat → Option Fd}
/-- the promise of a roll -/
def Roll (tb : Nat → Option Fd) : Prop := ∀ (n : Nat) (B : List D) (m : Int), 1 ≤ n → 0 < m → m < 1073741824 → okB B → ∃ (v : Nat) (B' : List D), (v : Int) < m ∧ okB B' ∧ run tb n 0 [.box 0, .int m] B = .ok (.int v, B')
def rollK (k1 k2 k3 k4 m1 m2 : Int) : Bool := decide (0 < m1) && decide (m1 < 34359738368) && decide (0 < m2) && decide (0 ≤ k1) && decide (k1 < 1000000) && decide (0 ≤ k2) && decide (k2 < 1000000) && decide (0 ≤ k3) && decide (k3 < 1000000) && decide (0 < k4) && decide (k4 < 1000000)
theorem roll_of {b : Ss} {k1 k2 k3 k4 m1 m2 : Int} (h : tb 0 = some ⟨2, 4, b⟩) (hb : b = rollIR k1 k2 k3 k4 m1 m2) (hk : rollK k1 k2 k3 k4 m1 m2 = true) : Roll tb := by
  subst hb
  intro n B m hn h0 h1 hB
  unfold rollK at hk
  simp only [Bool.and_eq_true, decide_eq_true_eq] at hk
  obtain ⟨⟨⟨⟨⟨⟨⟨⟨⟨⟨r1, r2⟩, r3⟩, q1⟩, q2⟩, q3⟩, q4⟩, q5⟩, q6⟩, q7⟩, q8⟩ := hk
  obtain ⟨a, b, ha, hb, hb2, rfl⟩ := hB
  obtain ⟨n, rfl⟩ : ∃ m, n = m + 1 := ⟨n - 1, by omega⟩
  rw [run_succ (h := h) (hl := rfl)]
  have hm : m < 1073741824 := by omega
  by_cases g : 0 < a
  · refine ⟨(a % m).toNat, [cupD (a / m) b], ?_, ⟨a / m, b, Int.ediv_nonneg ha (by omega), hb, hb2, rfl⟩, ?_⟩
    · have := Int.emod_lt_of_pos a h0
      have := Int.emod_nonneg a (by omega : m ≠ 0)
      omega
    · have := Int.emod_nonneg a (by omega : m ≠ 0)
      simp -implicitDefEqProofs [rollIR, Pz.start, cupD, drf, subD, atI, ixN, g, h0, hm, setD, frzAll, frzS, Int.toNat_of_nonneg this]
  · have d1 : (0 : Int) < m1 := r1
    have hc := Int.emod_nonneg (b * k1 + k2) (by omega : m1 ≠ 0)
    have hc2 := Int.emod_lt_of_pos (b * k1 + k2) d1
    obtain ⟨c, hcc⟩ : ∃ c, (b * k1 + k2) % m1 = c := ⟨_, rfl⟩
    rw [hcc] at hc hc2
    refine ⟨(c * (c + k3) % m2 / k4 % m).toNat, [cupD a c], ?_, ⟨a, _, ha, hc, by omega, rfl⟩, ?_⟩
    · have := Int.emod_lt_of_pos (c * (c + k3) % m2 / k4) h0
      have := Int.emod_nonneg (c * (c + k3) % m2 / k4) (by omega : m ≠ 0)
      omega
    · have := Int.emod_nonneg (c * (c + k3) % m2 / k4) (by omega : m ≠ 0)
      have s1 : small b = true := small_of (by omega) (by omega)
      have s2 : small c = true := small_of (by omega) (by omega)
      have s3 : k4 < 1073741824 := by omega
      simp -implicitDefEqProofs [rollIR, Pz.start, cupD, drf, subD, atI, ixN, g, h0, hm, setD, frzAll, frzS, s1, s2, s3, q7, r1, r3, hcc, Int.toNat_of_nonneg this]
theorem cup_of {b : Ss} {k1 k2 k3 k4 m1 : Int} (h : tb 3 = some ⟨1, 2, b⟩) (hb : b = cupIR k1 k2 k3 k4 m1) (hk : rollK k2 k3 k4 k1 m1 1 = true) (n : Nat) (hn : 1 ≤ n) (ns : List Int) (hl : ns.length ≤ 63) : ∃ B, okB B ∧ run tb n 3 [.scr (ns.map .int)] [] = .ok (.box 0, B) := by
  subst hb
  unfold rollK at hk
  simp only [Bool.and_eq_true, decide_eq_true_eq] at hk
  obtain ⟨⟨⟨⟨⟨⟨⟨⟨⟨⟨r1, r2⟩, r3⟩, q1⟩, q2⟩, q3⟩, q4⟩, q5⟩, q6⟩, q7⟩, q8⟩ := hk
  obtain ⟨n, rfl⟩ : ∃ m, n = m + 1 := ⟨n - 1, by omega⟩
  rw [run_succ (h := h) (hl := rfl)]
  have hl1 : 1 ≤ ln := by show 1 ≤ 16777216; omega
  have hl2 : 2 ≤ ln := by show 2 ≤ 16777216; omega
  have s1 : small k2 = true := small_of (by omega) (by omega)
  have s3 : k1 < 1073741824 := by omega
  obtain ⟨a, w, l, e1, e2, e3⟩ : ∃ (a : Int) (w : D) (l : List D), ns.map D.int ++ [D.int 0] = w :: l ∧ w = .int a ∧ (w :: l).length ≤ 64 := by
    cases ns with
    | nil => exact ⟨0, .int 0, [], rfl, rfl, by simp⟩
    | cons a t => exact ⟨a, .int a, t.map D.int ++ [D.int 0], rfl, rfl, by simp at hl ⊢; omega⟩
  subst e2
  obtain ⟨v, hv, hv2⟩ : ∃ v : Int, 0 ≤ v ∧ (if a < 0 then -a else a) = v := ⟨if a < 0 then -a else a, by (by_cases q : a < 0 <;> simp [q] <;> omega), rfl⟩
  have e := Int.emod_nonneg (v * k2 + k3) (by omega : m1 ≠ 0)
  have e2 := Int.emod_lt_of_pos (v * k2 + k3) r1
  have hln : ns.length + 1 ≤ ln := by
    show _ ≤ 16777216
    omega
  have e5 : atI (D.int a :: l) 0 = some (D.int a) := by
    have : (0 : Int) < (l.length : Int) + 1 := by omega
    simp [atI, ixN, this]
  by_cases g : (1000000000000000000 : Int) ≤ v
  · refine ⟨[cupD (v / k1) ((v * k2 + k3) % m1 + k4)], ⟨_, _, Int.ediv_nonneg hv (by omega), by omega, by omega, rfl⟩, ?_⟩
    simp -implicitDefEqProofs [cupIR, Pz.start, hln, hl1, hl2, e1, subD, e5, frzAll, frzS, hv2, s1, g, cupD, q7, s3, r1]
  · refine ⟨[cupD 0 ((v * k2 + k3) % m1 + k4)], ⟨_, _, by decide, by omega, by omega, rfl⟩, ?_⟩
    simp -implicitDefEqProofs [cupIR, Pz.start, hln, hl1, hl2, e1, subD, e5, frzAll, frzS, hv2, s1, g, cupD, q7, s3, r1]
/-- a sign of a text, or a value of a list or tuple, drawn -/
theorem some_s (hs : tb 1 = some ⟨2, 2, b__law_some⟩) (R : Roll tb) (n : Nat) (hn : 2 ≤ n) (B : List D) (s : List Nat) (h0 : s ≠ []) (h1 : s.length < 1000000) (hB : okB B) : ∃ (c : Nat) (B' : List D), c ∈ s ∧ okB B' ∧ run tb n 1 [.box 0, .str s] B = .ok (.str [c], B') := by
  have hp : 0 < s.length := List.length_pos_iff.2 h0
  obtain ⟨n, rfl⟩ : ∃ m, n = m + 1 := ⟨n - 1, by omega⟩
  obtain ⟨v, B', hv, hB', e⟩ := R n B s.length (by omega) (by omega) (by omega) hB
  have hv' : v < s.length := by omega
  refine ⟨s[v], B', List.getElem_mem hv', hB', ?_⟩
  rw [run_succ (h := hs) (hl := rfl)]
  have e2 : subD (.str s) (.int (v : Nat)) = some (.str [s[v]]) := by
    simp [subD, atI, ixN, hv']
  simp -implicitDefEqProofs [b__law_some, Pz.start, frzAll, frzS, e, e2]
theorem some_l (hs : tb 1 = some ⟨2, 2, b__law_some⟩) (R : Roll tb) (n : Nat) (hn : 2 ≤ n) (B : List D) (s : List D) (h0 : s ≠ []) (h1 : s.length < 1000000) (hB : okB B) : ∃ (c : D) (B' : List D), c ∈ s ∧ okB B' ∧ run tb n 1 [.box 0, .lst s] B = .ok (c, B') := by
  have hp : 0 < s.length := List.length_pos_iff.2 h0
  obtain ⟨n, rfl⟩ : ∃ m, n = m + 1 := ⟨n - 1, by omega⟩
  obtain ⟨v, B', hv, hB', e⟩ := R n B s.length (by omega) (by omega) (by omega) hB
  have hv' : v < s.length := by omega
  refine ⟨s[v], B', List.getElem_mem hv', hB', ?_⟩
  rw [run_succ (h := hs) (hl := rfl)]
  have e2 : subD (.lst s) (.int (v : Nat)) = some s[v] := by
    simp [subD, atI, ixN, hv']
  simp -implicitDefEqProofs [b__law_some, Pz.start, frzAll, frzS, e, e2]
mutual
/-- None, truth values, ints, texts, and tuples of these -/
def D.plain : D → Bool
  | .non => true
  | .bl _ => true
  | .int _ => true
  | .str _ => true
  | .tup l => decide (l.length ≤ 1000000) && D.plainL l
  | _ => false
def D.plainL : List D → Bool
  | [] => true
  | d :: l => d.plain && D.plainL l
end
theorem plainL_mem : ∀ {l : List D}, D.plainL l = true → ∀ d ∈ l, d.plain = true
  | a :: l, h, d, hd => by
    have h' : (a.plain && D.plainL l) = true := h
    rw [Bool.and_eq_true] at h'
    rcases List.mem_cons.1 hd with rfl | hd
    · exact h'.1
    · exact plainL_mem h'.2 d hd
theorem depL_mem_ : ∀ {l : List D} {d : D}, d ∈ l → d.dep ≤ D.depL l
  | a :: l, d, hd => by
    have e : D.depL (a :: l) = max a.dep (D.depL l) := rfl
    rcases List.mem_cons.1 hd with rfl | hd
    · omega
    · have := depL_mem_ hd; omega
theorem same_refl (hs : tb 2 = some ⟨2, 3, b__law_same⟩) : ∀ (n : Nat) (d : D) (B : List D), d.plain = true → d.dep < n → run tb n 2 [d, d] B = .ok (.bl true, B)
  | 0, _, _, _, h => absurd h (by omega)
  | n + 1, d, B, hp, hd => by
    rw [run_succ (h := hs) (hl := rfl)]
    cases d with
    | non => simp -implicitDefEqProofs [b__law_same, Pz.start, frzAll, frzS, isiD, isD]
    | bl b => cases b <;> simp -implicitDefEqProofs [b__law_same, Pz.start, frzAll, frzS, isiD, isD]
    | int i => simp -implicitDefEqProofs [b__law_same, Pz.start, frzAll, frzS, isiD, isD, eqD, ok64, D.dep, D.eqv]
    | str s => simp -implicitDefEqProofs [b__law_same, Pz.start, frzAll, frzS, isiD, isD, eqD, ok64, D.dep, D.eqv]
    | tup ds =>
      have hp' : (decide (ds.length ≤ 1000000) && D.plainL ds) = true := hp
      rw [Bool.and_eq_true, decide_eq_true_eq] at hp'
      have hd' : D.depL ds + 1 < n + 1 := hd
      have hb : bnd (ds.length : Int) = true := bnd_of (by omega) (by omega)
      have hln : ds.length ≤ ln := by show _ ≤ 16777216; omega
      have hc : lcLoop (turn (Pz.run tb n) [.val (.tup ds), .val (.tup ds), .no] (.nm 2) (.cst (.bl true)) (.call 2 (.cons (.sub (.var 0) (.var 2)) (.cons (.sub (.var 1) (.var 2)) (.nil))))) ((List.range ds.length).map fun a => .int (a : Nat)) B = .ok ((List.range ds.length).map fun a => D.bl ((fun _ => true) a), B) :=
        lcLoop_all fun a ha => by
          rw [List.mem_range] at ha
          have e2 : subD (.tup ds) (.int (a : Nat)) = some ds[a] := by simp [subD, atI, ixN, ha]
          have e3 := same_refl hs n ds[a] B (plainL_mem hp'.2 _ (List.getElem_mem ha)) (by have := depL_mem_ (List.getElem_mem ha); omega)
          simp -implicitDefEqProofs [turn, wipeS, Tg.names, e2, e3]
      have e3 := blL_map (fun _ : Nat => true) (List.range ds.length)
      simp -implicitDefEqProofs [b__law_same, Pz.start, hb, rngL_nat, frzAll, frzS, isiD, isD, eqD, ok64, D.dep, D.eqv, hln, hc, e3]
    | _ => cases hp
end Pz
end
section
set_option linter.all false
set_option maxRecDepth 100000
namespace Sp
open Pz
/-- 10 -/
def b_is_whole : Ss := .cons (.ret (.and (.isi (.var 0) .int) (.not (.isi (.var 0) .bool)))) (.nil)
/-- 11 -/
def b_fits_whole : Ss := .cons (.ret (.and (.call 10 (.cons (.var 0) (.nil))) (.chain .le .le (.var 1) (.var 0) (.var 2)))) (.nil)
/-- 12 -/
def b_is_tuple_of : Ss := .cons (.ret (.and (.isi (.var 0) .tup) (.chain .le .le (.var 1) (.bi .len (.cons (.var 0) (.nil))) (.var 2)))) (.nil)
/-- 13 -/
def b_fits_row : Ss := .cons (.ifs (.or (.not (.call 12 (.cons (.var 0) (.cons (.cst (.int 1)) (.cons (.bin .sub (.bin .mul (.cst (.int 2)) (.cst (.int 12))) (.cst (.int 1))) (.nil)))))) (.cmp .eq (.bin .mod (.bi .len (.cons (.var 0) (.nil))) (.cst (.int 2))) (.cst (.int 0)))) (.cons (.ret (.cst (.bl false))) (.nil)) (.nil)) (.cons (.par [1, 2] (.cons (.evn (.var 0) 0) (.cons (.evn (.var 0) 1) (.nil)))) (.cons (.ret (.and (.bi .all (.cons (.lc (.nm 3) (.var 1) (.cst (.bl true)) (.call 11 (.cons (.var 3) (.cons (.cst (.int 1)) (.cons (.cst (.int 30)) (.nil)))))) (.nil))) (.bi .all (.cons (.lc (.nm 3) (.var 2) (.cst (.bl true)) (.call 11 (.cons (.var 3) (.cons (.cst (.int 1)) (.cons (.cst (.int 20)) (.nil)))))) (.nil))))) (.nil)))
/-- 14 -/
def b_fits_lines : Ss := .cons (.ret (.and (.call 12 (.cons (.var 0) (.cons (.cst (.int 0)) (.cons (.cst (.int 12)) (.nil))))) (.bi .all (.cons (.lc (.nm 1) (.var 0) (.cst (.bl true)) (.call 13 (.cons (.var 1) (.nil)))) (.nil))))) (.nil)
/-- 15 -/
def b_need_lines : Ss := .cons (.ifs (.not (.call 14 (.cons (.var 0) (.nil)))) (.cons (.never) (.nil)) (.nil)) (.nil)
/-- 16 -/
def b_need_reach : Ss := .cons (.expr (.call 15 (.cons (.var 0) (.nil)))) (.cons (.ifs (.not (.call 11 (.cons (.var 1) (.cons (.cst (.int 0)) (.cons (.cst (.int 5)) (.nil)))))) (.cons (.never) (.nil)) (.nil)) (.nil))
/-- 17 -/
def b_blanks_in : Ss := .cons (.par [1, 2] (.cons (.fresh (.lst (.nil))) (.cons (.cst (.int 0)) (.nil)))) (.cons (.for (.tp (.cons (.nm 3) (.cons (.nm 4) (.nil)))) (.enm (.var 0)) (.cons (.ifs (.cmp .eq (.bin .mod (.var 3) (.cst (.int 2))) (.cst (.int 1))) (.cons (.app 1 (.tup (.cons (.var 2) (.cons (.bin .add (.var 2) (.var 4)) (.nil))))) (.nil)) (.nil)) (.cons (.asg (.nm 2) (.bin .add (.var 2) (.var 4))) (.nil)))) (.cons (.ret (.var 1)) (.nil)))
/-- 18 -/
def b_do_meet : Ss := .cons (.ret (.and (.cmp .le (.sub (.var 0) (.cst (.int 0))) (.bin .sub (.bin .add (.sub (.var 1) (.cst (.int 1))) (.var 2)) (.cst (.int 1)))) (.cmp .le (.sub (.var 1) (.cst (.int 0))) (.bin .sub (.bin .add (.sub (.var 0) (.cst (.int 1))) (.var 2)) (.cst (.int 1)))))) (.nil)
/-- 19 -/
def b_nexts_in : Ss := .cons (.par [2, 3] (.cons (.lc (.nm 5) (.var 0) (.cst (.bl true)) (.call 17 (.cons (.var 5) (.nil)))) (.cons (.fresh (.dnew false)) (.nil)))) (.cons (.for (.tp (.cons (.nm 4) (.cons (.nm 5) (.nil)))) (.enm (.var 2)) (.cons (.for (.tp (.cons (.nm 6) (.cons (.nm 7) (.nil)))) (.enm (.var 5)) (.cons (.asg (.nm 8) (.ite (.cmp .lt (.bin .add (.var 4) (.cst (.int 1))) (.bi .len (.cons (.var 2) (.nil)))) (.sub (.var 2) (.bin .add (.var 4) (.cst (.int 1)))) (.lst (.nil)))) (.cons (.asg (.ix 3 (.tup (.cons (.var 4) (.cons (.var 6) (.nil))))) (.lc (.tp (.cons (.nm 9) (.cons (.nm 10) (.nil)))) (.enm (.var 8)) (.call 18 (.cons (.var 7) (.cons (.var 10) (.cons (.var 1) (.nil))))) (.tup (.cons (.bin .add (.var 4) (.cst (.int 1))) (.cons (.var 9) (.nil)))))) (.nil)))) (.nil))) (.cons (.ret (.var 3)) (.nil)))
/-- 20 -/
def b_depths_in : Ss := .cons (.par [2, 3] (.cons (.call 19 (.cons (.var 0) (.cons (.var 1) (.nil)))) (.cons (.fresh (.dnew false)) (.nil)))) (.cons (.for (.nm 4) (.rev (.bi .sorted (.cons (.var 2) (.nil)))) (.cons (.asg (.nm 5) (.lc (.nm 7) (.sub (.var 2) (.var 4)) (.cst (.bl true)) (.sub (.own 3) (.var 7)))) (.cons (.asg (.nm 6) (.bi .mx (.cons (.bin .add (.lst (.cons (.cst (.int 0)) (.nil))) (.lc (.nm 8) (.var 5) (.cst (.bl true)) (.sub (.var 8) (.cst (.int 0))))) (.nil)))) (.cons (.asg (.ix 3 (.var 4)) (.tup (.cons (.bin .add (.var 6) (.cst (.int 1))) (.cons (.ite (.cmp .ne (.var 5) (.lst (.nil))) (.bi .sum (.cons (.lc (.nm 8) (.var 5) (.cmp .eq (.sub (.var 8) (.cst (.int 0))) (.var 6)) (.sub (.var 8) (.cst (.int 1)))) (.nil))) (.cst (.int 1))) (.nil))))) (.nil))))) (.cons (.ret (.var 3)) (.nil)))
/-- 21 -/
def b_river_from : Ss := .cons (.par [3, 4, 5] (.cons (.call 19 (.cons (.var 0) (.cons (.var 1) (.nil)))) (.cons (.call 20 (.cons (.var 0) (.cons (.var 1) (.nil)))) (.cons (.fresh (.lst (.cons (.var 2) (.nil)))) (.nil))))) (.cons (.whl (.cmp .ne (.sub (.var 3) (.sub (.own 5) (.neg (.cst (.int 1))))) (.lst (.nil))) (.cons (.asg (.nm 6) (.bin .sub (.sub (.sub (.var 4) (.sub (.own 5) (.neg (.cst (.int 1))))) (.cst (.int 0))) (.cst (.int 1)))) (.cons (.app 5 (.sub (.lc (.nm 7) (.sub (.var 3) (.sub (.own 5) (.neg (.cst (.int 1))))) (.cmp .eq (.sub (.sub (.var 4) (.var 7)) (.cst (.int 0))) (.var 6)) (.var 7)) (.cst (.int 0)))) (.nil)))) (.cons (.ret (.var 5)) (.nil)))
/-- 22 -/
def b_fits_river : Ss := .cons (.ifs (.or (.not (.isi (.var 2) .tup)) (.or (.cmp .eq (.var 2) (.tup (.nil))) (.not (.bi .all (.cons (.lc (.nm 4) (.var 2) (.cst (.bl true)) (.call 12 (.cons (.var 4) (.cons (.cst (.int 2)) (.cons (.cst (.int 2)) (.nil)))))) (.nil)))))) (.cons (.ret (.cst (.bl false))) (.nil)) (.nil)) (.cons (.asg (.nm 3) (.call 19 (.cons (.var 0) (.cons (.var 1) (.nil))))) (.cons (.ifs (.not (.bi .all (.cons (.lc (.tp (.cons (.nm 6) (.cons (.nm 7) (.nil)))) (.var 2) (.cst (.bl true)) (.and (.call 11 (.cons (.var 6) (.cons (.cst (.int 0)) (.cons (.bin .sub (.bi .len (.cons (.var 0) (.nil))) (.cst (.int 1))) (.nil))))) (.call 11 (.cons (.var 7) (.cons (.cst (.int 0)) (.cons (.cst (.int 12)) (.nil))))))) (.nil)))) (.cons (.ret (.cst (.bl false))) (.nil)) (.nil)) (.cons (.ifs (.not (.bi .all (.cons (.lc (.nm 8) (.var 2) (.cst (.bl true)) (.cmp .isIn (.var 8) (.var 3))) (.nil)))) (.cons (.ret (.cst (.bl false))) (.nil)) (.nil)) (.cons (.ret (.bi .all (.cons (.lc (.tp (.cons (.nm 4) (.cons (.nm 5) (.nil)))) (.zip (.var 2) (.cut (.var 2) (.cst (.int 1)) (.nop))) (.cst (.bl true)) (.cmp .isIn (.var 5) (.sub (.var 3) (.var 4)))) (.nil)))) (.nil)))))
/-- 23 -/
def b_are_lines : Ss := .cons (.ret (.call 14 (.cons (.var 0) (.nil)))) (.nil)
/-- 24 -/
def b_line_width : Ss := .cons (.expr (.call 15 (.cons (.tup (.cons (.var 0) (.nil))) (.nil)))) (.cons (.ret (.bi .sum (.cons (.var 0) (.nil)))) (.nil))
/-- 25 -/
def b_blank_places : Ss := .cons (.expr (.call 15 (.cons (.var 0) (.nil)))) (.cons (.ret (.bi .tuple (.cons (.lc (.nm 1) (.var 0) (.cst (.bl true)) (.bi .tuple (.cons (.call 17 (.cons (.var 1) (.nil))) (.nil)))) (.nil)))) (.nil))
/-- 26 -/
def b_is_river : Ss := .cons (.expr (.call 16 (.cons (.var 0) (.cons (.var 1) (.nil))))) (.cons (.ret (.call 22 (.cons (.var 0) (.cons (.var 1) (.cons (.var 2) (.nil)))))) (.nil))
/-- 27 -/
def b_longest_river : Ss := .cons (.expr (.call 16 (.cons (.var 0) (.cons (.var 1) (.nil))))) (.cons (.asg (.nm 2) (.call 20 (.cons (.var 0) (.cons (.var 1) (.nil))))) (.cons (.ifs (.cmp .eq (.var 2) (.dnew false)) (.cons (.ret (.tup (.nil))) (.nil)) (.nil)) (.cons (.asg (.nm 3) (.bi .mx (.cons (.lc (.nm 4) (.var 2) (.cst (.bl true)) (.sub (.sub (.var 2) (.var 4)) (.cst (.int 0)))) (.nil)))) (.cons (.ret (.bi .tuple (.cons (.call 21 (.cons (.var 0) (.cons (.var 1) (.cons (.bi .mn (.cons (.lc (.nm 4) (.var 2) (.cmp .eq (.sub (.sub (.var 2) (.var 4)) (.cst (.int 0))) (.var 3)) (.var 4)) (.nil))) (.nil))))) (.nil)))) (.nil)))))
/-- 28 -/
def b_longest_many : Ss := .cons (.expr (.call 16 (.cons (.var 0) (.cons (.var 1) (.nil))))) (.cons (.asg (.nm 2) (.call 20 (.cons (.var 0) (.cons (.var 1) (.nil))))) (.cons (.asg (.nm 3) (.bi .mx (.cons (.bin .add (.lst (.cons (.cst (.int 0)) (.nil))) (.lc (.nm 4) (.var 2) (.cst (.bl true)) (.sub (.sub (.var 2) (.var 4)) (.cst (.int 0))))) (.nil)))) (.cons (.ret (.bi .sum (.cons (.lc (.nm 4) (.var 2) (.cmp .eq (.sub (.sub (.var 2) (.var 4)) (.cst (.int 0))) (.var 3)) (.sub (.sub (.var 2) (.var 4)) (.cst (.int 1)))) (.nil)))) (.nil))))
/-- 29 -/
def b__law_set : Ss := .cons (.asg (.nm 2) (.tup (.cons (.bin .add (.cst (.int 1)) (.call 0 (.cons (.var 0) (.cons (.cst (.int 6)) (.nil))))) (.nil)))) (.cons (.for (.nm 3) (.bi .rng (.cons (.call 0 (.cons (.var 0) (.cons (.var 1) (.nil)))) (.nil))) (.cons (.asg (.nm 2) (.bin .add (.var 2) (.tup (.cons (.bin .add (.cst (.int 1)) (.call 1 (.cons (.var 0) (.cons (.lst (.cons (.cst (.int 0)) (.cons (.cst (.int 0)) (.cons (.cst (.int 1)) (.cons (.call 0 (.cons (.var 0) (.cons (.cst (.int 5)) (.nil)))) (.nil)))))) (.nil))))) (.cons (.bin .add (.cst (.int 1)) (.call 0 (.cons (.var 0) (.cons (.cst (.int 6)) (.nil))))) (.nil)))))) (.nil))) (.cons (.ret (.var 2)) (.nil)))
/-- 30 -/
def b__law_covered : Ss := .cons (.asg (.nm 1) (.fresh (.lst (.nil)))) (.cons (.for (.nm 2) (.bi .rng (.cons (.cst (.int 1)) (.cons (.bi .len (.cons (.var 0) (.nil))) (.cons (.cst (.int 2)) (.nil))))) (.cons (.asg (.nm 3) (.bi .sum (.cons (.cut (.var 0) (.nop) (.var 2)) (.nil)))) (.cons (.app 1 (.bin .add (.bi .rng (.cons (.var 3) (.cons (.bin .add (.var 3) (.sub (.var 0) (.var 2))) .nil))) (.lst .nil))) (.nil)))) (.cons (.ret (.var 1)) (.nil)))
/-- 31 -/
def b__law_meet : Ss := .cons (.asg (.nm 3) (.cst (.int 99))) (.cons (.for (.nm 4) (.var 0) (.cons (.asg (.nm 3) (.bi .mn (.cons (.bin .add (.lst (.cons (.var 3) (.nil))) (.lc (.nm 5) (.var 1) (.cst (.bl true)) (.bi .abs (.cons (.bin .sub (.var 4) (.var 5)) (.nil))))) (.nil)))) (.nil))) (.cons (.ret (.cmp .le (.var 3) (.var 2))) (.nil)))
/-- 32 -/
def b__law_below : Ss := .cons (.asg (.tp (.cons (.nm 3) (.cons (.nm 4) (.nil)))) (.var 2)) (.cons (.ifs (.cmp .ge (.bin .add (.var 3) (.cst (.int 1))) (.bi .len (.cons (.var 0) (.nil)))) (.cons (.ret (.lst (.nil))) (.nil)) (.nil)) (.cons (.asg (.tp (.cons (.nm 5) (.cons (.nm 6) (.nil)))) (.tup (.cons (.sub (.call 30 (.cons (.sub (.var 0) (.var 3)) (.nil))) (.var 4)) (.cons (.call 30 (.cons (.sub (.var 0) (.bin .add (.var 3) (.cst (.int 1)))) (.nil))) (.nil))))) (.cons (.ret (.lc (.nm 7) (.bi .rng (.cons (.bi .len (.cons (.var 6) (.nil))) (.nil))) (.call 31 (.cons (.var 5) (.cons (.sub (.var 6) (.var 7)) (.cons (.var 1) (.nil))))) (.tup (.cons (.bin .add (.var 3) (.cst (.int 1))) (.cons (.var 7) (.nil)))))) (.nil))))
/-- 33 -/
def b__law_rivers : Ss := .cons (.par [2, 3] (.cons (.lst (.nil)) (.cons (.lst (.nil)) (.nil)))) (.cons (.for (.tp (.cons (.nm 4) (.cons (.nm 5) (.nil)))) (.enm (.var 0)) (.cons (.asg (.nm 2) (.bin .add (.var 2) (.lc (.nm 8) (.bi .rng (.cons (.bin .fdiv (.bi .len (.cons (.var 5) (.nil))) (.cst (.int 2))) (.nil))) (.cst (.bl true)) (.tup (.cons (.tup (.cons (.var 4) (.cons (.var 8) (.nil)))) (.nil)))))) (.nil))) (.cons (.whl (.cmp .ne (.var 2) (.lst (.nil))) (.cons (.asg (.nm 3) (.bin .add (.var 3) (.var 2))) (.cons (.asg (.nm 6) (.lst (.nil))) (.cons (.for (.nm 7) (.var 2) (.cons (.asg (.nm 6) (.bin .add (.var 6) (.lc (.nm 9) (.call 32 (.cons (.var 0) (.cons (.var 1) (.cons (.sub (.var 7) (.neg (.cst (.int 1)))) (.nil))))) (.cst (.bl true)) (.bin .add (.var 7) (.tup (.cons (.var 9) (.nil))))))) (.nil))) (.cons (.asg (.nm 2) (.var 6)) (.nil)))))) (.cons (.ret (.var 3)) (.nil))))
/-- 34 -/
def b__law_near : Ss := .cons (.asg (.nm 2) (.lst (.cons (.var 1) (.cons (.rev (.var 1)) (.cons (.bi .list (.cons (.var 1) (.nil))) (.cons (.cst .non) (.cons (.tup (.nil)) (.cons (.cst (.str [114, 105, 118, 101, 114])) (.cons (.cst (.int 5)) (.cons (.cut (.var 1) (.cst (.int 1)) (.nop)) (.cons (.cut (.var 1) (.nop) (.neg (.cst (.int 1)))) (.cons (.bin .add (.var 1) (.cut (.var 1) (.neg (.cst (.int 1))) (.nop))) (.cons (.tup (.cons (.tup (.cons (.cst (.int 0)) (.cons (.cst (.int 0)) (.nil)))) (.nil))) (.cons (.tup (.cons (.tup (.cons (.cst (.int 0)) (.cons (.cst (.int 0)) (.nil)))) (.cons (.tup (.cons (.cst (.int 1)) (.cons (.cst (.int 0)) (.nil)))) (.nil)))) (.nil))))))))))))))) (.cons (.ifs (.cmp .eq (.var 1) (.tup (.nil))) (.cons (.ret (.bin .add (.var 2) (.lst (.cons (.tup (.cons (.tup (.cons (.cst (.int 0)) (.cons (.cst (.bl true)) (.nil)))) (.nil))) (.cons (.tup (.cons (.tup (.cons (.cst (.bl false)) (.cons (.cst (.int 0)) (.nil)))) (.nil))) (.nil)))))) (.nil)) (.nil)) (.cons (.asg (.nm 3) (.call 0 (.cons (.var 0) (.cons (.bi .len (.cons (.var 1) (.nil))) (.nil))))) (.cons (.asg (.tp (.cons (.nm 4) (.cons (.nm 5) (.nil)))) (.sub (.var 1) (.var 3))) (.cons (.asg (.nm 6) (.lst (.cons (.tup (.cons (.var 4) (.nil))) (.cons (.tup (.cons (.var 4) (.cons (.var 5) (.cons (.cst (.int 0)) (.nil))))) (.cons (.lst (.cons (.var 4) (.cons (.var 5) (.nil)))) (.cons (.cst .non) (.cons (.tup (.cons (.var 4) (.cons (.bin .add (.var 5) (.cst (.int 1))) (.nil)))) (.cons (.tup (.cons (.var 4) (.cons (.bin .sub (.var 5) (.cst (.int 1))) (.nil)))) (.cons (.tup (.cons (.bin .add (.var 4) (.cst (.int 1))) (.cons (.var 5) (.nil)))) (.cons (.tup (.cons (.var 4) (.cons (.cst (.bl true)) (.nil)))) (.cons (.tup (.cons (.cst (.bl true)) (.cons (.var 5) (.nil)))) (.nil)))))))))))) (.cons (.ret (.bin .add (.var 2) (.lc (.nm 7) (.bin .add (.var 6) (.lst (.cons (.tup (.cons (.var 4) (.cons (.cst (.int 99)) (.nil)))) (.cons (.tup (.cons (.neg (.cst (.int 1))) (.cons (.var 5) (.nil)))) (.cons (.tup (.cons (.var 4) (.cons (.cst .non) (.nil)))) (.cons (.tup (.cons (.cst (.str [48])) (.cons (.var 5) (.nil)))) (.nil))))))) (.cst (.bl true)) (.bin .add (.bin .add (.cut (.var 1) (.nop) (.var 3)) (.tup (.cons (.var 7) (.nil)))) (.cut (.var 1) (.bin .add (.var 3) (.cst (.int 1))) (.nop)))))) (.nil))))))
/-- 35 -/
def b__law_is_row : Ss := .cons (.ifs (.or (.not (.isi (.var 0) .tup)) (.cmp .notIn (.bi .len (.cons (.var 0) (.nil))) (.tup (.cons (.cst (.int 1)) (.cons (.cst (.int 3)) (.cons (.cst (.int 5)) (.cons (.cst (.int 7)) (.cons (.cst (.int 9)) (.cons (.cst (.int 11)) (.cons (.cst (.int 13)) (.cons (.cst (.int 15)) (.cons (.cst (.int 17)) (.cons (.cst (.int 19)) (.cons (.cst (.int 21)) (.cons (.cst (.int 23)) (.nil)))))))))))))))) (.cons (.ret (.cst (.bl false))) (.nil)) (.nil)) (.cons (.for (.tp (.cons (.nm 1) (.cons (.nm 2) (.nil)))) (.enm (.var 0)) (.cons (.ifs (.or (.not (.isi (.var 2) .int)) (.or (.isi (.var 2) .bool) (.not (.chain .le .le (.cst (.int 1)) (.var 2) (.ite (.cmp .eq (.bin .mod (.var 1) (.cst (.int 2))) (.cst (.int 1))) (.cst (.int 20)) (.cst (.int 30))))))) (.cons (.ret (.cst (.bl false))) (.nil)) (.nil)) (.nil))) (.cons (.ret (.cst (.bl true))) (.nil)))
/-- 36 -/
def b__law_bent : Ss := .cons (.asg (.nm 1) (.lst (.cons (.tup (.nil)) (.cons (.tup (.cons (.cst (.int 1)) (.cons (.cst (.int 1)) (.nil)))) (.cons (.tup (.cons (.cst (.int 0)) (.nil))) (.cons (.tup (.cons (.cst (.int 31)) (.nil))) (.cons (.tup (.cons (.cst (.int 30)) (.nil))) (.cons (.tup (.cons (.cst (.int 1)) (.cons (.cst (.int 20)) (.cons (.cst (.int 1)) (.nil))))) (.cons (.tup (.cons (.cst (.int 1)) (.cons (.cst (.int 21)) (.cons (.cst (.int 1)) (.nil))))) (.cons (.tup (.cons (.cst (.int 1)) (.cons (.cst (.int 0)) (.cons (.cst (.int 1)) (.nil))))) (.cons (.tup (.cons (.cst (.bl true)) (.nil))) (.cons (.tup (.cons (.cst .non) (.nil))) (.cons (.lst (.cons (.cst (.int 1)) (.nil))) (.cons (.cst .non) (.cons (.cst (.int 5)) (.cons (.bin .mul (.tup (.cons (.cst (.int 1)) (.nil))) (.cst (.int 23))) (.cons (.bin .mul (.tup (.cons (.cst (.int 1)) (.nil))) (.cst (.int 25))) (.cons (.tup (.cons (.cst (.str [49])) (.nil))) (.nil))))))))))))))))))) (.cons (.asg (.nm 2) (.lst (.cons (.var 0) (.cons (.bi .list (.cons (.var 0) (.nil))) (.cons (.cst .non) (.cons (.tup (.nil)) (.cons (.cst (.str [108, 105, 110, 101, 115])) (.cons (.cst (.int 5)) (.cons (.rev (.var 0)) (.cons (.bin .mul (.tup (.cons (.tup (.cons (.cst (.int 1)) (.nil))) (.nil))) (.cst (.int 12))) (.cons (.bin .mul (.tup (.cons (.tup (.cons (.cst (.int 1)) (.nil))) (.nil))) (.cst (.int 13))) (.nil)))))))))))) (.cons (.ret (.bin .add (.var 2) (.lc (.nm 3) (.var 1) (.cst (.bl true)) (.bin .add (.cut (.var 0) (.cst (.int 1)) (.nop)) (.tup (.cons (.var 3) (.nil))))))) (.nil)))
/-- 37 -/
def b__law_plain : Ss := .cons (.ifs (.or (.not (.isi (.var 0) .tup)) (.cmp .ne (.lc (.nm 1) (.var 0) (.not (.isi (.var 1) .tup)) (.var 1)) (.lst (.nil)))) (.cons (.ret (.cst (.bl false))) (.nil)) (.nil)) (.cons (.ret (.cmp .eq (.lc (.nm 1) (.var 0) (.cmp .ne (.lc (.nm 2) (.var 1) (.isi (.var 2) .bool) (.cst (.int 1))) (.lst (.nil))) (.var 1)) (.lst (.nil)))) (.nil))
/-- 38 -/
def b_rivers_through : Ss := .cons (.expr (.call 16 (.cons (.var 0) (.cons (.var 1) (.nil))))) (.cons (.ifs (.not (.call 11 (.cons (.var 2) (.cons (.cst (.int 1)) (.cons (.cst (.int 12)) (.nil)))))) (.cons (.never) (.nil)) (.nil)) (.cons (.asg (.nm 3) (.call 19 (.cons (.var 0) (.cons (.var 1) (.nil))))) (.cons (.asg (.nm 4) (.dc false (.nm 6) (.var 3) (.var 6) (.cst (.int 1)))) (.cons (.for (.nm 5) (.bi .rng (.cons (.bin .sub (.var 2) (.cst (.int 1))) (.nil))) (.cons (.asg (.nm 4) (.dc false (.nm 6) (.var 3) (.var 6) (.bi .sum (.cons (.lc (.nm 7) (.sub (.var 3) (.var 6)) (.cst (.bl true)) (.sub (.var 4) (.var 7))) (.nil))))) (.nil))) (.cons (.ret (.bi .sum (.cons (.lcd 0 (.var 4) (.nm 6) (.cst (.bl true)) (.sub (.var 4) (.var 6))) (.nil)))) (.nil))))))
/-- 39 -/
def b_river_lengths : Ss := .cons (.expr (.call 16 (.cons (.var 0) (.cons (.var 1) (.nil))))) (.cons (.par [2, 3] (.cons (.call 20 (.cons (.var 0) (.cons (.var 1) (.nil)))) (.cons (.fresh (.lst (.nil))) (.nil)))) (.cons (.for (.tp (.cons (.nm 4) (.cons (.nm 5) (.nil)))) (.enm (.var 0)) (.cons (.app 3 (.bi .tuple (.cons (.lc (.nm 6) (.bi .rng (.cons (.bin .fdiv (.bi .len (.cons (.var 5) (.nil))) (.cst (.int 2))) (.nil))) (.cst (.bl true)) (.sub (.sub (.var 2) (.tup (.cons (.var 4) (.cons (.var 6) (.nil))))) (.cst (.int 0)))) (.nil)))) (.nil))) (.cons (.ret (.bi .tuple (.cons (.var 3) (.nil)))) (.nil))))
/-- 40 -/
def b__law_counts : Ss := .cons (.asg (.nm 3) (.fresh (.dnew false))) (.cons (.for (.tp (.cons (.nm 4) (.cons (.nm 5) (.nil)))) (.enm (.var 0)) (.cons (.upd 3 (.bi .dict (.cons (.lc (.nm 9) (.bi .rng (.cons (.bin .fdiv (.bi .len (.cons (.var 5) (.nil))) (.cst (.int 2))) (.nil))) (.cst (.bl true)) (.tup (.cons (.tup (.cons (.var 4) (.cons (.var 9) (.nil)))) (.cons (.call 32 (.cons (.var 0) (.cons (.var 1) (.cons (.tup (.cons (.var 4) (.cons (.var 9) (.nil)))) (.nil))))) (.nil))))) (.nil)))) (.nil))) (.cons (.asg (.nm 6) (.fresh (.lst (.cons (.bi .dict (.cons (.lcd 0 (.own 3) (.nm 8) (.cst (.bl true)) (.tup (.cons (.var 8) (.cons (.cst (.int 1)) (.nil))))) (.nil))) (.nil))))) (.cons (.for (.nm 7) (.bi .rng (.cons (.bin .sub (.var 2) (.cst (.int 1))) (.nil))) (.cons (.app 6 (.bi .dict (.cons (.lcd 0 (.own 3) (.nm 8) (.cst (.bl true)) (.tup (.cons (.var 8) (.cons (.bi .sum (.cons (.lc (.nm 10) (.sub (.own 3) (.var 8)) (.cst (.bl true)) (.sub (.sub (.own 6) (.neg (.cst (.int 1)))) (.var 10))) (.nil))) (.nil))))) (.nil)))) (.nil))) (.cons (.ret (.var 6)) (.nil)))))
/-- 41 -/
def b_shared_in : Ss := .cons (.asg (.nm 3) (.bin .sub (.bi .len (.cons (.var 0) (.nil))) (.cst (.int 1)))) (.cons (.par [4, 5] (.cons (.bin .fdiv (.var 1) (.var 3)) (.cons (.bin .mod (.var 1) (.var 3)) (.nil)))) (.cons (.asg (.nm 6) (.cut (.var 0) (.nop) (.cst (.int 1)))) (.cons (.for (.nm 7) (.bi .rng (.cons (.var 3) (.nil))) (.cons (.asg (.nm 8) (.ite (.cmp .eq (.var 2) (.cst (.int 0))) (.cmp .lt (.var 7) (.var 5)) (.cmp .ge (.var 7) (.bin .sub (.var 3) (.var 5))))) (.cons (.asg (.nm 6) (.bin .add (.var 6) (.tup (.cons (.ite (.var 8) (.bin .add (.var 4) (.cst (.int 1))) (.var 4)) (.cons (.sub (.var 0) (.bin .add (.var 7) (.cst (.int 1)))) (.nil)))))) (.nil)))) (.cons (.ret (.var 6)) (.nil)))))
/-- 42 -/
def b_fits_words : Ss := .cons (.ret (.and (.call 12 (.cons (.var 0) (.cons (.cst (.int 2)) (.cons (.cst (.int 12)) (.nil))))) (.bi .all (.cons (.lc (.nm 1) (.var 0) (.cst (.bl true)) (.call 11 (.cons (.var 1) (.cons (.cst (.int 1)) (.cons (.cst (.int 30)) (.nil)))))) (.nil))))) (.nil)
/-- 43 -/
def b_need_share : Ss := .cons (.ifs (.not (.call 42 (.cons (.var 0) (.nil)))) (.cons (.never) (.nil)) (.nil)) (.cons (.asg (.nm 2) (.bin .sub (.bi .len (.cons (.var 0) (.nil))) (.cst (.int 1)))) (.cons (.ifs (.not (.call 11 (.cons (.var 1) (.cons (.bin .add (.bi .sum (.cons (.var 0) (.nil))) (.var 2)) (.cons (.bin .add (.bi .sum (.cons (.var 0) (.nil))) (.bin .mul (.var 2) (.cst (.int 20)))) (.nil)))))) (.cons (.never) (.nil)) (.nil)) (.nil)))
/-- 44 -/
def b_faults_in : Ss := .cons (.ret (.bi .sum (.cons (.lc (.nm 1) (.evn (.var 0) 1) (.cst (.bl true)) (.bin .mul (.var 1) (.var 1))) (.nil)))) (.nil)
/-- 45 -/
def b_shares_in : Ss := .cons (.asg (.nm 2) (.lst (.cons (.tup (.cons (.cut (.var 0) (.nop) (.cst (.int 1))) (.cons (.var 1) (.nil)))) (.nil)))) (.cons (.for (.tp (.cons (.nm 3) (.cons (.nm 4) (.nil)))) (.enm (.cut (.var 0) (.cst (.int 1)) (.nop))) (.cons (.par [5, 6] (.cons (.fresh (.lst (.nil))) (.cons (.bin .sub (.bin .sub (.bi .len (.cons (.var 0) (.nil))) (.cst (.int 2))) (.var 3)) (.nil)))) (.cons (.for (.tp (.cons (.nm 7) (.cons (.nm 8) (.nil)))) (.var 2) (.cons (.aug 5 (.lc (.nm 9) (.bi .rng (.cons (.cst (.int 1)) (.cons (.bin .add (.bi .mn2 (.cons (.cst (.int 20)) (.cons (.bin .sub (.var 8) (.var 6)) (.nil)))) (.cst (.int 1))) (.nil)))) (.cst (.bl true)) (.tup (.cons (.bin .add (.var 7) (.tup (.cons (.var 9) (.cons (.var 4) (.nil))))) (.cons (.bin .sub (.var 8) (.var 9)) (.nil)))))) (.nil))) (.cons (.fz [5] (.asg (.nm 2) (.var 5))) (.nil))))) (.cons (.ret (.lc (.tp (.cons (.nm 7) (.cons (.nm 8) (.nil)))) (.var 2) (.cmp .eq (.var 8) (.cst (.int 0))) (.var 7))) (.nil)))
/-- 46 -/
def b_shared_line : Ss := .cons (.expr (.call 43 (.cons (.var 0) (.cons (.var 1) (.nil))))) (.cons (.ifs (.not (.call 11 (.cons (.var 2) (.cons (.cst (.int 0)) (.cons (.cst (.int 1)) (.nil)))))) (.cons (.never) (.nil)) (.nil)) (.cons (.ret (.call 41 (.cons (.var 0) (.cons (.bin .sub (.var 1) (.bi .sum (.cons (.var 0) (.nil)))) (.cons (.var 2) (.nil)))))) (.nil)))
/-- 47 -/
def b_least_faults : Ss := .cons (.expr (.call 43 (.cons (.var 0) (.cons (.var 1) (.nil))))) (.cons (.ret (.call 44 (.cons (.call 41 (.cons (.var 0) (.cons (.bin .sub (.var 1) (.bi .sum (.cons (.var 0) (.nil)))) (.cons (.cst (.int 0)) (.nil))))) (.nil)))) (.nil))
/-- 48 -/
def b_lines_many : Ss := .cons (.expr (.call 43 (.cons (.var 0) (.cons (.var 1) (.nil))))) (.cons (.ifs (.cmp .gt (.bin .sub (.var 1) (.bi .sum (.cons (.var 0) (.nil)))) (.cst (.int 60))) (.cons (.never) (.nil)) (.nil)) (.cons (.par [2, 3] (.cons (.bin .sub (.var 1) (.bi .sum (.cons (.var 0) (.nil)))) (.cons (.bin .sub (.bi .len (.cons (.var 0) (.nil))) (.cst (.int 1))) (.nil)))) (.cons (.asg (.nm 4) (.bin .add (.lst (.cons (.cst (.int 1)) (.nil))) (.bin .mul (.lst (.cons (.cst (.int 0)) (.nil))) (.var 2)))) (.cons (.for (.nm 5) (.bi .rng (.cons (.var 3) (.nil))) (.cons (.asg (.nm 4) (.lc (.nm 6) (.bi .rng (.cons (.bin .add (.var 2) (.cst (.int 1))) (.nil))) (.cst (.bl true)) (.bi .sum (.cons (.cut (.var 4) (.bi .mx2 (.cons (.cst (.int 0)) (.cons (.bin .sub (.var 6) (.cst (.int 20))) (.nil)))) (.var 6)) (.nil))))) (.nil))) (.cons (.ret (.sub (.var 4) (.var 2))) (.nil))))))
/-- 49 -/
def b_calm_line : Ss := .cons (.expr (.call 43 (.cons (.var 0) (.cons (.var 1) (.nil))))) (.cons (.ifs (.not (.call 13 (.cons (.var 2) (.nil)))) (.cons (.never) (.nil)) (.nil)) (.cons (.ifs (.not (.call 11 (.cons (.var 3) (.cons (.cst (.int 0)) (.cons (.cst (.int 5)) (.nil)))))) (.cons (.never) (.nil)) (.nil)) (.cons (.ifs (.or (.cmp .gt (.bi .len (.cons (.var 0) (.nil))) (.cst (.int 4))) (.cmp .gt (.bin .sub (.var 1) (.bi .sum (.cons (.var 0) (.nil)))) (.cst (.int 60)))) (.cons (.never) (.nil)) (.nil)) (.cons (.asg (.nm 4) (.fresh (.lst (.nil)))) (.cons (.for (.nm 5) (.call 45 (.cons (.var 0) (.cons (.bin .sub (.var 1) (.bi .sum (.cons (.var 0) (.nil)))) (.nil)))) (.cons (.asg (.nm 6) (.lc (.nm 7) (.call 17 (.cons (.var 5) (.nil))) (.bi .any (.cons (.lc (.nm 8) (.call 17 (.cons (.var 2) (.nil))) (.cst (.bl true)) (.call 18 (.cons (.var 7) (.cons (.var 8) (.cons (.var 3) (.nil)))))) (.nil))) (.cst (.int 1)))) (.cons (.app 4 (.tup (.cons (.bi .len (.cons (.var 6) (.nil))) (.cons (.call 44 (.cons (.var 5) (.nil))) (.cons (.var 5) (.nil)))))) (.nil)))) (.cons (.ret (.sub (.bi .mng (.cons (.var 4) (.nil))) (.cst (.int 2)))) (.nil)))))))
/-- 50 -/
def b__law_all : Ss := .cons (.ifs (.cmp .eq (.bi .len (.cons (.var 0) (.nil))) (.cst (.int 1))) (.cons (.ret (.ite (.cmp .eq (.var 1) (.sub (.var 0) (.cst (.int 0)))) (.lst (.cons (.var 0) (.nil))) (.lst (.nil)))) (.nil)) (.nil)) (.cons (.asg (.nm 2) (.lst (.nil))) (.cons (.for (.nm 3) (.bi .rng (.cons (.cst (.int 1)) (.cons (.bin .add (.bi .mn2 (.cons (.cst (.int 20)) (.cons (.bin .sub (.var 1) (.bi .sum (.cons (.var 0) (.nil)))) (.nil)))) (.cst (.int 1))) (.nil)))) (.cons (.asg (.nm 2) (.bin .add (.var 2) (.lc (.nm 4) (.call 50 (.cons (.cut (.var 0) (.cst (.int 1)) (.nop)) (.cons (.bin .sub (.bin .sub (.var 1) (.sub (.var 0) (.cst (.int 0)))) (.var 3)) (.nil)))) (.cst (.bl true)) (.bin .add (.bin .add (.cut (.var 0) (.nop) (.cst (.int 1))) (.tup (.cons (.var 3) (.nil)))) (.var 4))))) (.nil))) (.cons (.ret (.var 2)) (.nil))))
class Has (tb : Nat → Option Fd) : Prop where
  some_ : tb 1 = some ⟨2, 2, b__law_some⟩
  same_ : tb 2 = some ⟨2, 3, b__law_same⟩
  roll_ : Roll tb
  h_is_whole : tb 10 = some ⟨1, 1, b_is_whole⟩
  h_fits_whole : tb 11 = some ⟨3, 3, b_fits_whole⟩
  h_is_tuple_of : tb 12 = some ⟨3, 3, b_is_tuple_of⟩
  h_fits_row : tb 13 = some ⟨1, 4, b_fits_row⟩
  h_fits_lines : tb 14 = some ⟨1, 2, b_fits_lines⟩
  h_need_lines : tb 15 = some ⟨1, 1, b_need_lines⟩
  h_need_reach : tb 16 = some ⟨2, 2, b_need_reach⟩
  h_blanks_in : tb 17 = some ⟨1, 5, b_blanks_in⟩
  h_do_meet : tb 18 = some ⟨3, 3, b_do_meet⟩
  h_nexts_in : tb 19 = some ⟨2, 11, b_nexts_in⟩
  h_depths_in : tb 20 = some ⟨2, 9, b_depths_in⟩
  h_river_from : tb 21 = some ⟨3, 8, b_river_from⟩
  h_fits_river : tb 22 = some ⟨3, 9, b_fits_river⟩
  h_are_lines : tb 23 = some ⟨1, 1, b_are_lines⟩
  h_line_width : tb 24 = some ⟨1, 1, b_line_width⟩
  h_blank_places : tb 25 = some ⟨1, 2, b_blank_places⟩
  h_is_river : tb 26 = some ⟨3, 3, b_is_river⟩
  h_longest_river : tb 27 = some ⟨2, 5, b_longest_river⟩
  h_longest_many : tb 28 = some ⟨2, 5, b_longest_many⟩
  h__law_set : tb 29 = some ⟨2, 4, b__law_set⟩
  h__law_covered : tb 30 = some ⟨1, 4, b__law_covered⟩
  h__law_meet : tb 31 = some ⟨3, 6, b__law_meet⟩
  h__law_below : tb 32 = some ⟨3, 8, b__law_below⟩
  h__law_rivers : tb 33 = some ⟨2, 10, b__law_rivers⟩
  h__law_near : tb 34 = some ⟨2, 8, b__law_near⟩
  h__law_is_row : tb 35 = some ⟨1, 3, b__law_is_row⟩
  h__law_bent : tb 36 = some ⟨1, 4, b__law_bent⟩
  h__law_plain : tb 37 = some ⟨1, 3, b__law_plain⟩
  h_rivers_through : tb 38 = some ⟨3, 8, b_rivers_through⟩
  h_river_lengths : tb 39 = some ⟨2, 7, b_river_lengths⟩
  h__law_counts : tb 40 = some ⟨3, 11, b__law_counts⟩
  h_shared_in : tb 41 = some ⟨3, 9, b_shared_in⟩
  h_fits_words : tb 42 = some ⟨1, 2, b_fits_words⟩
  h_need_share : tb 43 = some ⟨2, 3, b_need_share⟩
  h_faults_in : tb 44 = some ⟨1, 2, b_faults_in⟩
  h_shares_in : tb 45 = some ⟨2, 10, b_shares_in⟩
  h_shared_line : tb 46 = some ⟨3, 3, b_shared_line⟩
  h_least_faults : tb 47 = some ⟨2, 2, b_least_faults⟩
  h_lines_many : tb 48 = some ⟨2, 7, b_lines_many⟩
  h_calm_line : tb 49 = some ⟨4, 9, b_calm_line⟩
  h__law_all : tb 50 = some ⟨2, 5, b__law_all⟩
end Sp
end
section
set_option linter.all false
set_option maxRecDepth 100000
open Pz
namespace Sp
variable {tb : Nat → Option Fd} [hb : Has tb]
theorem m_is_whole (n : Nat) (i : Int) (B : List D) : Pz.run tb (n + 1) 10 [.int i] B = .ok (.bl true, B) := by
  rw [run_succ (h := hb.h_is_whole) (hl := rfl)]
  simp [b_is_whole, Pz.start, frzAll, frzS, isiD]
theorem m_fits_whole (n : Nat) (i lo hi : Int) (B : List D) : Pz.run tb (n + 2) 11 [.int i, .int lo, .int hi] B = .ok (.bl (decide (lo ≤ i ∧ i ≤ hi)), B) := by
  rw [show n + 2 = (n + 1) + 1 from rfl, run_succ (h := hb.h_fits_whole) (hl := rfl)]
  simp [b_fits_whole, Pz.start, frzAll, frzS, m_is_whole]
  by_cases h : lo ≤ i <;> simp [h]
theorem m_is_tuple_of (n : Nat) (l : List D) (lo hi : Int) (B : List D) : Pz.run tb (n + 1) 12 [.tup l, .int lo, .int hi] B = .ok (.bl (decide (lo ≤ l.length ∧ (l.length : Int) ≤ hi)), B) := by
  rw [run_succ (h := hb.h_is_tuple_of) (hl := rfl)]
  simp -implicitDefEqProofs [b_is_tuple_of, Pz.start, frzAll, frzS, isiD]
  by_cases h : lo ≤ l.length <;> simp [h]
theorem nD_len (l : List Nat) : (nD l).length = l.length := by simp [nD]
theorem nD_take (l : List Nat) (k : Nat) : (nD l).take k = nD (l.take k) := by simp [nD]
theorem nD_drop (l : List Nat) (k : Nat) : (nD l).drop k = nD (l.drop k) := by simp [nD]
theorem nD_app (l m : List Nat) : nD (l ++ m) = nD l ++ nD m := by simp [nD]
theorem intL_nD : ∀ l : List Nat, intL (nD l) = some (l.map fun (a : Nat) => (a : Int))
  | [] => rfl
  | a :: l => by
    show (intL (nD l)).map ((a : Int) :: ·) = _
    rw [intL_nD l]; rfl
theorem sum_cast : ∀ l : List Nat, (l.map fun (a : Nat) => (a : Int)).sum = ((l.sum : Nat) : Int)
  | [] => rfl
  | a :: l => by rw [List.map_cons, List.sum_cons, List.sum_cons, sum_cast l, Int.natCast_add]
theorem sum_nD (l : List Nat) : bi_sum [.tup (nD l)] = some (.int (l.sum : Nat)) := by
  show (intL (nD l)).map (fun ns => D.int ns.sum) = _
  rw [intL_nD, Option.map_some, sum_cast]
theorem atI_nDk (l : List Nat) (k : Nat) (x : Nat) (h : l[k]? = some x) : atI (nD l) (k : Int) = some (.int (x : Nat)) := by
  have hk : k < l.length := (List.getElem?_eq_some_iff.1 h).1
  rw [atI_nat _ k (by rw [nD_len]; exact hk)]
  have := (List.getElem?_eq_some_iff.1 h).2
  simp [nD, this]
theorem evens_nD : ∀ l : List Nat, evens (nD l) = nD (evens l)
  | [] => rfl
  | [a] => rfl
  | a :: b :: l => by
    show D.int a :: evens (nD l) = D.int a :: nD (evens l)
    rw [evens_nD l]
theorem all_tt {α : Type} (l : List α) : (l.all fun _ => true) = true := by simp
/-- widths of words -/
structure okW (ws : List Nat) : Prop where
  two : 2 ≤ ws.length
  few : ws.length ≤ 12
  ok : ∀ w ∈ ws, 1 ≤ w ∧ w ≤ 30
theorem m_fits_words (n : Nat) (ws : List Nat) (h : okW ws) (B : List D) : Pz.run tb (n + 3) 42 [.tup (nD ws)] B = .ok (.bl true, B) := by
  rw [show n + 3 = (n + 2) + 1 from rfl, run_succ (h := hb.h_fits_words) (hl := rfl)]
  obtain ⟨h1, h2, h3⟩ := h
  have hl : lcLoop (Pz.turn (Pz.run tb (n + 2)) [.val (.tup (nD ws)), .no] (.nm 1) (.cst (.bl true)) (.call 11 (.cons (.var 1) (.cons (.cst (.int 1)) (.cons (.cst (.int 30)) (.nil)))))) (nD ws) B = .ok (ws.map fun _ => .bl true, B) :=
    lcLoop_all fun m hm => by
      have := h3 m hm
      have q : decide ((1 : Int) ≤ m ∧ (m : Int) ≤ 30) = true := by simp; omega
      have e := m_fits_whole (tb := tb) n m 1 30 B
      rw [q] at e
      simp -implicitDefEqProofs [turn_eq, wipeS, Tg.names, e]
  have q : decide ((2 : Int) ≤ (nD ws).length ∧ ((nD ws).length : Int) ≤ 12) = true := by rw [nD_len]; simp; omega
  have hln : (nD ws).length ≤ ln := by show _ ≤ 16777216; rw [nD_len]; omega
  have hbl : blL (ws.map fun _ => D.bl true) = some (ws.map fun _ => true) := blL_map (fun _ => true) ws
  have e1 := m_is_tuple_of (tb := tb) (n + 1) (nD ws) 2 12 B
  rw [q] at e1
  simp -implicitDefEqProofs [b_fits_words, Pz.start, frzAll, frzS, e1, hl, hln, hbl, all_tt]
/-- a width that blanks can fill -/
structure okX (ws : List Nat) (x : Nat) : Prop where
  w : okW ws
  lo : ws.sum + (ws.length - 1) ≤ x
  hi : x ≤ ws.sum + (ws.length - 1) * 20
theorem m_need_share (n : Nat) (ws : List Nat) (x : Nat) (h : okX ws x) (B : List D) : Pz.run tb (n + 4) 43 [.tup (nD ws), .int (x : Nat)] B = .ok (.non, B) := by
  rw [show n + 4 = (n + 3) + 1 from rfl, run_succ (h := hb.h_need_share) (hl := rfl)]
  obtain ⟨hw, h1, h2⟩ := h
  have e1 := m_fits_words (tb := tb) n ws hw B
  have e2 := sum_nD ws
  have h2' := hw.two
  have h12 := hw.few
  have hl : ((nD ws).length : Int) = ws.length := by rw [nD_len]
  have e3 := m_fits_whole (tb := tb) (n + 1) x ((ws.sum : Nat) + ((ws.length : Int) - 1)) ((ws.sum : Nat) + ((ws.length : Int) - 1) * 20) B
  have q : decide (((ws.sum : Nat) + ((ws.length : Int) - 1)) ≤ (x : Nat) ∧ ((x : Nat) : Int) ≤ ((ws.sum : Nat) + ((ws.length : Int) - 1) * 20)) = true := by
    simp
    have : ((ws.length - 1 : Nat) : Int) = (ws.length : Int) - 1 := by omega
    omega
  rw [q] at e3
  have s1 : small 20 = true := rfl
  simp -implicitDefEqProofs [b_need_share, Pz.start, e1, e2, e3, hl, s1, -bi_sum_tup]
/-- blanks between words: a line -/
def weave : List Nat → List Nat → List Nat
  | [], _ => []
  | [w], _ => [w]
  | w :: ws, [] => w :: ws
  | w :: ws, b :: bs => w :: b :: weave ws bs
/-- the line with the blanks told by a function -/
def lineOf (ws : List Nat) (f : Nat → Nat) (k : Nat) : List Nat := ws.take 1 ++ (List.range k).flatMap fun a => [f a, ws.getD (a + 1) 0]
def shB (each more many even : Nat) (a : Nat) : Nat := if even = 0 then (if a < more then each + 1 else each) else (if many - more ≤ a then each + 1 else each)
def shared (ws : List Nat) (bl even : Nat) : List Nat := lineOf ws (shB (bl / (ws.length - 1)) (bl % (ws.length - 1)) (ws.length - 1) even) (ws.length - 1)
theorem lineOf_succ (ws : List Nat) (f : Nat → Nat) (k : Nat) : lineOf ws f (k + 1) = lineOf ws f k ++ [f k, ws.getD (k + 1) 0] := by
  unfold lineOf
  rw [List.range_succ, List.flatMap_append, List.append_assoc]
  rfl
theorem lineOf_len (ws : List Nat) (f : Nat → Nat) : ∀ k, (lineOf ws f k).length = (ws.take 1).length + 2 * k
  | 0 => by simp [lineOf]
  | k + 1 => by rw [lineOf_succ, List.length_append, lineOf_len ws f k]; simp; omega
theorem m_shared_in (n : Nat) (ws : List Nat) (h2 : 2 ≤ ws.length) (h12 : ws.length ≤ 1000) (bl even : Nat) (B : List D) :
    Pz.run tb (n + 1) 41 [.tup (nD ws), .int (bl : Nat), .int (even : Nat)] B = .ok (.tup (nD (shared ws bl even)), B) := by
  rw [run_succ (h := hb.h_shared_in) (hl := rfl)]
  obtain ⟨m, hm⟩ : ∃ m, ws.length - 1 = m := ⟨_, rfl⟩
  have hm0 : 0 < m := by omega
  have hl : ((nD ws).length : Int) - 1 = (m : Nat) := by rw [nD_len]; omega
  have hmod : bl % m < m := Nat.mod_lt _ hm0
  obtain ⟨q, hq⟩ : ∃ q, bl / m = q := ⟨_, rfl⟩
  obtain ⟨r, hr⟩ : ∃ r, bl % m = r := ⟨_, rfl⟩
  rw [hr] at hmod
  obtain ⟨f, hf⟩ : ∃ f, f = shB q r m even := ⟨_, rfl⟩
  obtain ⟨σ', B', ⟨x7, x8, rfl, rfl⟩, e⟩ := for_inv (f := forB (Pz.run tb n) (.nm 7) (.cons (.asg (.nm 8) (.ite (.cmp .eq (.var 2) (.cst (.int 0))) (.cmp .lt (.var 7) (.var 5)) (.cmp .ge (.var 7) (.bin .sub (.var 3) (.var 5))))) (.cons (.asg (.nm 6) (.bin .add (.var 6) (.tup (.cons (.ite (.var 8) (.bin .add (.var 4) (.cst (.int 1))) (.var 4)) (.cons (.sub (.var 0) (.bin .add (.var 7) (.cst (.int 1)))) (.nil)))))) (.nil)))) (σ := [.val (.tup (nD ws)), .val (.int (bl : Nat)), .val (.int (even : Nat)), .val (.int (m : Nat)), .val (.int (q : Nat)), .val (.int (r : Nat)), .val (.tup (nD (lineOf ws f 0))), .no, .no]) (B := B) ((List.range m).map fun k : Nat => .int (k : Nat))
    (fun i σ B' => ∃ x7 x8, σ = [.val (.tup (nD ws)), .val (.int (bl : Nat)), .val (.int (even : Nat)), .val (.int (m : Nat)), .val (.int (q : Nat)), .val (.int (r : Nat)), .val (.tup (nD (lineOf ws f i))), x7, x8] ∧ B' = B)
    ⟨_, _, rfl, rfl⟩ (by
      rintro i hi σ B ⟨x7, x8, rfl, rfl⟩
      simp at hi
      rw [List.getElem_map, List.getElem_range, lineOf_succ, nD_app]
      have hi1 : i + 1 < ws.length := by omega
      have a1 : atI (nD ws) ((i : Int) + 1) = some (.int (ws.getD (i + 1) 0 : Nat)) := by
        rw [show (i : Int) + 1 = ((i + 1 : Nat) : Int) by omega]
        exact atI_nDk _ _ _ (by simp [List.getD, hi1])
      obtain ⟨y, hy⟩ : ∃ y, ws.getD (i + 1) 0 = y := ⟨_, rfl⟩
      rw [hy] at a1 ⊢
      have l2 : 2 ≤ ln := by show 2 ≤ 16777216; omega
      have k1 : (nD (lineOf ws f i)).length + 2 ≤ ln := by show _ ≤ 16777216; rw [nD_len, lineOf_len]; have : (ws.take 1).length ≤ 1 := by rw [List.length_take]; omega
                                                           omega
      have hfi : f i = shB q r m even i := by rw [hf]
      have hn2 : nD [f i, y] = [.int (f i : Nat), .int (y : Nat)] := rfl
      rw [hn2, hfi]
      by_cases g : even = 0
      · subst g
        by_cases g2 : i < r
        · have g2' : (i : Int) < r := by omega
          have hs : shB q r m 0 i = q + 1 := by unfold shB; rw [if_pos rfl, if_pos g2]
          refine ⟨_, _, ⟨.val (.int (i : Nat)), .val (.bl true), rfl, rfl⟩, ?_⟩
          rw [hs]
          simp -implicitDefEqProofs [a1, l2, k1, g2, g2']
        · have g2' : ¬ (i : Int) < r := by omega
          have hs : shB q r m 0 i = q := by unfold shB; rw [if_pos rfl, if_neg g2]
          refine ⟨_, _, ⟨.val (.int (i : Nat)), .val (.bl false), rfl, rfl⟩, ?_⟩
          rw [hs]
          simp -implicitDefEqProofs [a1, l2, k1, g2, g2']
      · have g' : ¬ (even : Int) = 0 := by omega
        by_cases g2 : m - r ≤ i
        · have g2' : (m : Int) - r ≤ i := by omega
          have hs : shB q r m even i = q + 1 := by unfold shB; rw [if_neg g, if_pos g2]
          refine ⟨_, _, ⟨.val (.int (i : Nat)), .val (.bl true), rfl, rfl⟩, ?_⟩
          rw [hs]
          simp -implicitDefEqProofs [a1, l2, k1, g, g', g2']
        · have g2' : ¬ (m : Int) - r ≤ i := by omega
          have hs : shB q r m even i = q := by unfold shB; rw [if_neg g, if_neg g2]
          refine ⟨_, _, ⟨.val (.int (i : Nat)), .val (.bl false), rfl, rfl⟩, ?_⟩
          rw [hs]
          simp -implicitDefEqProofs [a1, l2, k1, g, g', g2'])
  rw [List.length_map, List.length_range] at e
  have hbd : bnd (m : Int) = true := bnd_of (by omega) (by omega)
  have c1 : cutL (nD ws) none (some (1 : Int)) = nD (lineOf ws f 0) := by
    have := cutL_to (nD ws) 1
    rw [nD_take] at this
    unfold lineOf
    simpa using this
  have d1 : opB .fdiv (.int (bl : Nat)) (.int (m : Nat)) = some (.int (q : Nat)) := by
    rw [opB_fdivI, if_pos]
    · rw [← hq, Int.natCast_ediv]
    · simp; omega
  have d2 : opB .mod (.int (bl : Nat)) (.int (m : Nat)) = some (.int (r : Nat)) := by
    rw [opB_modI, if_pos (by omega), ← hr, Int.natCast_emod]
  have hsh : shared ws bl even = lineOf ws f m := by unfold shared; rw [hm, hq, hr, hf]
  rw [hsh]
  simp -implicitDefEqProofs [b_shared_in, Pz.start, hl, d1, d2, c1, hbd, rngL_nat, e, frzAll, frzS, -opB_fdivI, -opB_modI]
end Sp
end
section
set_option linter.all false
set_option maxRecDepth 100000
open Pz
namespace Sp
variable {tb : Nat → Option Fd} [hb : Has tb]
/-- a line: words with blanks between -/
def wvn : List Nat → List Nat → List Nat
  | w :: ws, b :: bs => w :: b :: wvn ws bs
  | w :: _, [] => [w]
  | [], _ => []
theorem wvn_evens : ∀ {ws bs : List Nat}, ws.length = bs.length + 1 → evens (wvn ws bs) = ws
  | [w], [], _ => rfl
  | w :: v :: ws, b :: bs, h => by
    show w :: evens (wvn (v :: ws) bs) = _
    rw [wvn_evens (by simpa using h)]
  | [], _, h => by simp at h
  | w :: v :: ws, [], h => by simp at h
  | [w], b :: bs, h => by simp at h
theorem wvn_odds : ∀ {ws bs : List Nat}, ws.length = bs.length + 1 → evens ((wvn ws bs).drop 1) = bs
  | [w], [], _ => rfl
  | w :: [v], [b], _ => rfl
  | w :: v :: u :: ws, b :: c :: bs, h => by
    show b :: evens ((wvn (v :: u :: ws) (c :: bs)).drop 1) = _
    rw [wvn_odds (by simpa using h)]
  | [], _, h => by simp at h
  | w :: v :: ws, [], h => by simp at h
  | [w], b :: bs, h => by simp at h
  | [w, v], b :: c :: bs, h => by simp at h
  | w :: v :: u :: ws, [b], h => by simp at h
theorem wvn_sum : ∀ {ws bs : List Nat}, ws.length = bs.length + 1 → (wvn ws bs).sum = ws.sum + bs.sum
  | [w], [], _ => rfl
  | w :: v :: ws, b :: bs, h => by
    show (w :: b :: wvn (v :: ws) bs).sum = _
    rw [List.sum_cons, List.sum_cons, wvn_sum (by simpa using h), List.sum_cons (a := w), List.sum_cons (a := b)]
    omega
  | [], _, h => by simp at h
  | w :: v :: ws, [], h => by simp at h
  | [w], b :: bs, h => by simp at h
theorem wvn_len : ∀ {ws bs : List Nat}, ws.length = bs.length + 1 → (wvn ws bs).length = 2 * bs.length + 1
  | [w], [], _ => rfl
  | w :: v :: ws, b :: bs, h => by
    show (w :: b :: wvn (v :: ws) bs).length = _
    rw [List.length_cons, List.length_cons, wvn_len (by simpa using h), List.length_cons]
    omega
  | [], _, h => by simp at h
  | w :: v :: ws, [], h => by simp at h
  | [w], b :: bs, h => by simp at h
theorem wvn_snoc : ∀ {ws bs : List Nat} {v b : Nat}, ws.length = bs.length + 1 → wvn (ws ++ [v]) (bs ++ [b]) = wvn ws bs ++ [b, v]
  | [w], [], v, b, _ => rfl
  | w :: u :: ws, c :: bs, v, b, h => by
    show w :: c :: wvn ((u :: ws) ++ [v]) (bs ++ [b]) = w :: c :: (wvn (u :: ws) bs ++ [b, v])
    rw [wvn_snoc (by simpa using h)]
  | [], _, _, _, h => by simp at h
  | w :: u :: ws, [], _, _, h => by simp at h
  | [w], c :: bs, _, _, h => by simp at h
theorem lineOf_mk (ws : List Nat) (f : Nat → Nat) : ∀ k, k < ws.length → lineOf ws f k = wvn (ws.take (k + 1)) ((List.range k).map f)
  | 0, h => by
    unfold lineOf
    cases ws with
    | nil => cases h
    | cons w ws => rfl
  | k + 1, h => by
    rw [lineOf_succ, lineOf_mk ws f k (by omega), List.range_succ, List.map_append, List.take_succ_eq_append_getElem h]
    have : ws.getD (k + 1) 0 = ws[k + 1] := by simp [List.getD, h]
    rw [this]
    exact (wvn_snoc (by rw [List.length_take, List.length_map, List.length_range]; omega)).symm
def shBs (ws : List Nat) (bl even : Nat) : List Nat := (List.range (ws.length - 1)).map (shB (bl / (ws.length - 1)) (bl % (ws.length - 1)) (ws.length - 1) even)
theorem shared_mk {ws : List Nat} (h : 0 < ws.length) (bl even : Nat) : shared ws bl even = wvn ws (shBs ws bl even) := by
  unfold shared
  rw [lineOf_mk ws _ _ (by omega), show ws.length - 1 + 1 = ws.length by omega, List.take_length]
  rfl
/-! ### all lines -/
def allB : Nat → Nat → List (List Nat)
  | 0, S => if S = 0 then [[]] else []
  | k + 1, S => (List.range (min 20 S)).flatMap fun i => (allB k (S - (i + 1))).map ((i + 1) :: ·)
theorem mem_allB : ∀ {k S : Nat} {bs : List Nat}, bs ∈ allB k S ↔ bs.length = k ∧ bs.sum = S ∧ ∀ b ∈ bs, 1 ≤ b ∧ b ≤ 20
  | 0, S, bs => by
    unfold allB
    constructor
    · intro h
      by_cases g : S = 0
      · rw [if_pos g] at h
        have : bs = [] := by simpa using h
        subst this
        exact ⟨rfl, g.symm, by simp⟩
      · rw [if_neg g] at h; cases h
    · rintro ⟨h1, h2, _⟩
      have : bs = [] := List.length_eq_zero_iff.1 h1
      subst this
      have : S = 0 := h2.symm
      rw [if_pos this]; simp
  | k + 1, S, bs => by
    unfold allB
    rw [List.mem_flatMap]
    constructor
    · rintro ⟨i, hi, h⟩
      rw [List.mem_range] at hi
      obtain ⟨cs, hcs, rfl⟩ := List.mem_map.1 h
      obtain ⟨h1, h2, h3⟩ := mem_allB.1 hcs
      refine ⟨by simp [h1], by rw [List.sum_cons, h2]; omega, fun b hb => ?_⟩
      rcases List.mem_cons.1 hb with rfl | hb
      · omega
      · exact h3 b hb
    · rintro ⟨h1, h2, h3⟩
      cases bs with
      | nil => simp at h1
      | cons b cs =>
        have hb := h3 b (by simp)
        rw [List.sum_cons] at h2
        refine ⟨b - 1, List.mem_range.2 (by omega), List.mem_map.2 ⟨cs, mem_allB.2 ⟨by simpa using h1, by omega, fun c hc => h3 c (by simp [hc])⟩, by rw [show b - 1 + 1 = b by omega]⟩⟩
theorem flat_len {α β : Type} {f : α → List β} {b : Nat} : ∀ {l : List α}, (∀ a ∈ l, (f a).length ≤ b) → (l.flatMap f).length ≤ l.length * b
  | [], _ => by simp
  | a :: l, h => by
    have h1 := h a (by simp)
    have h2 := flat_len (l := l) fun x hx => h x (by simp [hx])
    rw [List.flatMap_cons, List.length_append, List.length_cons, Nat.succ_mul]
    omega
theorem allB_len : ∀ (k S : Nat), (allB k S).length ≤ 20 ^ k
  | 0, S => by unfold allB; split <;> simp
  | k + 1, S => by
    unfold allB
    refine Nat.le_trans (flat_len (b := 20 ^ k) fun i _ => by rw [List.length_map]; exact allB_len k _) ?_
    rw [List.length_range, Nat.pow_succ, Nat.mul_comm]
    exact Nat.mul_le_mul_left _ (by omega)
def rD (rows : List (List Nat)) : List D := rows.map fun r => .tup (nD r)
theorem rD_len (rows : List (List Nat)) : (rD rows).length = rows.length := by simp [rD]
theorem m_faults_in (n : Nat) (ws bs : List Nat) (h : ws.length = bs.length + 1) (hb2 : ∀ b ∈ bs, b ≤ 1000) (hl : bs.length ≤ 1000) (B : List D) :
    Pz.run tb (n + 1) 44 [.tup (nD (wvn ws bs))] B = .ok (.int ((bs.map fun b => b * b).sum : Nat), B) := by
  rw [run_succ (h := hb.h_faults_in) (hl := rfl)]
  have e1 : evens ((nD (wvn ws bs)).drop 1) = nD bs := by rw [nD_drop, evens_nD, wvn_odds h]
  have e1' : evens (nD (wvn ws bs)).tail = nD bs := by rw [← List.drop_one]; exact e1
  have l1 : lcLoop (Pz.turn (Pz.run tb n) [.val (.tup (nD (wvn ws bs))), .no] (.nm 1) (.cst (.bl true)) (.bin .mul (.var 1) (.var 1))) (nD bs) B = .ok (nD (bs.map fun b => b * b), B) := by
    have : nD (bs.map fun b => b * b) = bs.map fun (b : Nat) => D.int ((b : Int) * b) := by
      unfold nD
      rw [List.map_map]
      refine List.map_congr_left fun b _ => ?_
      show D.int ((b * b : Nat) : Int) = _
      rw [Int.natCast_mul]
    rw [this]
    exact lcLoop_all (c := fun b : Nat => D.int (b : Nat)) (g := fun b : Nat => D.int ((b : Int) * b)) fun b hb' => by
      have := hb2 b hb'
      have s : small (b : Int) = true := small_of (by omega) (by omega)
      simp -implicitDefEqProofs [turn_eq, wipeS, Tg.names, s]
  have hln : (nD bs).length ≤ ln := by show _ ≤ 16777216; rw [nD_len]; omega
  have hs := intL_nD (bs.map fun b => b * b)
  have hs2 := sum_cast (bs.map fun b => b * b)
  have hs3 : bi_sum [.lst (nD (bs.map fun b => b * b))] = some (.int ((bs.map fun b => b * b).sum : Nat)) := by
    show (intL _).map (fun ns => D.int ns.sum) = _
    rw [hs, Option.map_some, hs2]
  simp -implicitDefEqProofs [b_faults_in, Pz.start, evnD, e1, e1', l1, hln, hs3, frzAll, frzS, -bi_sum_lst]
def bodyA : Ss := (.cons (.asg (.nm 2) (.bin .add (.var 2) (.lc (.nm 4) (.call 50 (.cons (.cut (.var 0) (.cst (.int 1)) (.nop)) (.cons (.bin .sub (.bin .sub (.var 1) (.sub (.var 0) (.cst (.int 0)))) (.var 3)) (.nil)))) (.cst (.bl true)) (.bin .add (.bin .add (.cut (.var 0) (.nop) (.cst (.int 1))) (.tup (.cons (.var 3) (.nil)))) (.var 4))))) (.nil))
theorem m_law_all : ∀ (k : Nat) (n : Nat) (ws : List Nat) (S : Nat) (B : List D), ws.length = k + 1 → k ≤ 3 → S ≤ 1000 → ws.sum ≤ 1000 → Pz.run tb (n + k + 1) 50 [.tup (nD ws), .int (ws.sum + S : Nat)] B = .ok (.lst (rD ((allB k S).map (wvn ws))), B)
  | 0, n, ws, S, B, hl, _, _, _ => by
    rw [run_succ (h := hb.h__law_all) (hl := rfl)]
    obtain ⟨w, rfl⟩ : ∃ w, ws = [w] := by
      match ws, hl with
      | [w], _ => exact ⟨w, rfl⟩
    have l0 : 0 ≤ ln := by show 0 ≤ 16777216; omega
    have l1 : 1 ≤ ln := by show 1 ≤ 16777216; omega
    have s0 : nD [w] = [.int (w : Nat)] := rfl
    have a0 : atI [D.int (w : Nat)] 0 = some (.int (w : Nat)) := rfl
    by_cases g : S = 0
    · subst g
      have hr : rD ((allB 0 0).map (wvn [w])) = [.tup [.int (w : Nat)]] := rfl
      rw [hr]
      simp -implicitDefEqProofs [b__law_all, Pz.start, s0, a0, l0, l1, frzAll, frzS]
    · have hr : rD ((allB 0 S).map (wvn [w])) = [] := by unfold allB; rw [if_neg g]; rfl
      have g' : ¬ (w : Int) + S = w := by omega
      rw [hr]
      simp -implicitDefEqProofs [b__law_all, Pz.start, s0, a0, l0, l1, g, g', frzAll, frzS]
  | k + 1, n, ws, S, B, hl, hk, hS, hsum => by
    rw [show n + (k + 1) + 1 = (n + k + 1) + 1 by omega, run_succ (h := hb.h__law_all) (hl := rfl)]
    obtain ⟨w, vs, rfl⟩ : ∃ w vs, ws = w :: vs := by
      match ws, hl with
      | w :: vs, _ => exact ⟨w, vs, rfl⟩
    have hvl : vs.length = k + 1 := by simpa using hl
    rw [List.sum_cons] at hsum
    have l0 : 0 ≤ ln := by show 0 ≤ 16777216; omega
    have l1 : 1 ≤ ln := by show 1 ≤ 16777216; omega
    have hn1 : ((nD (w :: vs)).length : Int) = (k : Int) + 2 := by rw [nD_len, List.length_cons, hvl]; omega
    have hne : ¬ ((k : Int) + 2 = 1) := by omega
    have a0 : atI (nD (w :: vs)) 0 = some (.int (w : Nat)) := atI_nDk _ 0 _ rfl
    have c1 : cutL (nD (w :: vs)) (some 1) none = nD vs := cutL_from (nD (w :: vs)) 1
    have c2 : cutL (nD (w :: vs)) none (some 1) = [.int (w : Nat)] := cutL_to (nD (w :: vs)) 1
    have hsm := sum_nD (w :: vs)
    obtain ⟨f, hf⟩ : ∃ f : Nat → List (List Nat), f = fun i => ((allB k (S - (i + 1))).map ((i + 1) :: ·)).map (wvn (w :: vs)) := ⟨_, rfl⟩
    have hp : (20 : Nat) ^ k ≤ 400 := Nat.le_trans (Nat.pow_le_pow_right (by omega) (by omega : k ≤ 2)) (by decide)
    have hfl : ∀ i, (f i).length ≤ 400 := fun i => by
      rw [hf]
      show (((allB k (S - (i + 1))).map ((i + 1) :: ·)).map (wvn (w :: vs))).length ≤ 400
      rw [List.length_map, List.length_map]
      exact Nat.le_trans (allB_len k _) hp
    have hall : (allB (k + 1) S).map (wvn (w :: vs)) = (List.range (min 20 S)).flatMap f := by
      rw [allB, List.map_flatMap, hf]
    have hx : (((w :: vs).sum + S : Nat) : Int) = (w : Int) + (vs.sum : Nat) + S := by rw [List.sum_cons]; omega
    rw [hx]
    have hx2 : (((w :: vs).sum : Nat) : Int) = (w : Int) + (vs.sum : Nat) := by rw [List.sum_cons]; omega
    rw [hx2] at hsm
    obtain ⟨T, hT⟩ : ∃ T : Nat, vs.sum = T := ⟨_, rfl⟩
    rw [hT] at hsm hsum ⊢
    obtain ⟨σ', B', ⟨x3, rfl, rfl⟩, e⟩ := for_inv (f := forB (Pz.run tb (n + k + 1)) (.nm 3) bodyA) (σ := [.val (.tup (nD (w :: vs))), .val (.int ((w : Int) + (T : Nat) + S)), .val (.lst (rD ((List.range 0).flatMap f))), .no, .no]) (B := B) ((List.range (min 20 S)).map fun i : Nat => .int (1 + (i : Nat)))
      (fun i σ B' => ∃ x3, σ = [.val (.tup (nD (w :: vs))), .val (.int ((w : Int) + (T : Nat) + S)), .val (.lst (rD ((List.range i).flatMap f))), x3, .no] ∧ B' = B)
      ⟨_, rfl, rfl⟩ (by
        rintro i hi σ B ⟨x3, rfl, rfl⟩
        have hi' : i < min 20 S := by simpa using hi
        rw [List.getElem_map, List.getElem_range, List.range_succ, List.flatMap_append, List.flatMap_cons, List.flatMap_nil, List.append_nil]
        obtain ⟨acc, hacc⟩ : ∃ acc, (List.range i).flatMap f = acc := ⟨_, rfl⟩
        have haccl : acc.length ≤ i * 400 := by rw [← hacc]; have := flat_len (l := List.range i) (f := f) (b := 400) (fun k _ => hfl k); rwa [List.length_range] at this
        rw [hacc]
        have e1 := m_law_all k n vs (S - (i + 1)) B hvl (by omega) (by omega) (by rw [hT]; omega)
        have hw' : (w : Int) + (T : Nat) + S - w - (1 + (i : Nat)) = ((vs.sum + (S - (i + 1)) : Nat) : Int) := by rw [hT]; omega
        obtain ⟨y, hy⟩ : ∃ y : Nat, vs.sum + (S - (i + 1)) = y := ⟨_, rfl⟩
        rw [hy] at e1 hw'
        have l5 : lcLoop (Pz.turn (Pz.run tb (n + k + 1)) [.val (.tup (nD (w :: vs))), .val (.int ((w : Int) + (T : Nat) + S)), .val (.lst (rD acc)), .val (.int (1 + (i : Nat))), .no] (.nm 4) (.cst (.bl true)) (.bin .add (.bin .add (.cut (.var 0) (.nop) (.cst (.int 1))) (.tup (.cons (.var 3) (.nil)))) (.var 4))) (rD ((allB k (S - (i + 1))).map (wvn vs))) B
            = .ok (rD (f i), B) := by
          have h1 : rD (f i) = (allB k (S - (i + 1))).map fun bs => D.tup (.int (w : Nat) :: .int (1 + (i : Nat)) :: nD (wvn vs bs)) := by
            rw [hf]
            unfold rD
            rw [List.map_map, List.map_map]
            refine List.map_congr_left fun bs _ => ?_
            show D.tup (nD (wvn (w :: vs) ((i + 1) :: bs))) = _
            show D.tup (.int (w : Nat) :: .int ((i + 1 : Nat) : Int) :: nD (wvn vs bs)) = _
            rw [show ((i + 1 : Nat) : Int) = 1 + (i : Nat) by omega]
          have h2 : rD ((allB k (S - (i + 1))).map (wvn vs)) = (allB k (S - (i + 1))).map fun bs => D.tup (nD (wvn vs bs)) := by
            unfold rD; rw [List.map_map]; rfl
          rw [h1, h2]
          refine lcLoop_all (c := fun bs => D.tup (nD (wvn vs bs))) (g := fun bs => D.tup (.int (w : Nat) :: .int (1 + (i : Nat)) :: nD (wvn vs bs))) fun bs hbs => ?_
          obtain ⟨q1, _, _⟩ := mem_allB.1 hbs
          have hml := wvn_len (ws := vs) (bs := bs) (by omega)
          have k1 : 2 ≤ ln := by show 2 ≤ 16777216; omega
          have k2 : 2 + (nD (wvn vs bs)).length ≤ ln := by show _ ≤ 16777216; rw [nD_len, hml]; omega
          simp -implicitDefEqProofs [turn_eq, wipeS, Tg.names, c2, l1, k1, k2]
        have hln : (rD ((allB k (S - (i + 1))).map (wvn vs))).length ≤ ln := by show _ ≤ 16777216; rw [rD_len, List.length_map]; have := allB_len k (S - (i + 1)); omega
        have hln2 : (rD acc).length + (rD (f i)).length ≤ ln := by show _ ≤ 16777216; rw [rD_len, rD_len]; have := hfl i; omega
        have hsg : rD (acc ++ f i) = rD acc ++ rD (f i) := by simp [rD]
        refine ⟨_, _, ⟨.val (.int (1 + (i : Nat))), rfl, rfl⟩, ?_⟩
        rw [hsg]
        simp -implicitDefEqProofs [bodyA, c1, a0, hw', e1, l5, hln, hln2])
    rw [List.length_map, List.length_range] at e
    have hmn : (if (w : Int) + (T : Nat) + S - ((w : Int) + (T : Nat)) < 20 then (w : Int) + (T : Nat) + S - ((w : Int) + (T : Nat)) else 20) = ((min 20 S : Nat) : Int) := by split <;> omega
    have hr : rngL 1 (((min 20 S : Nat) : Int) + 1) = (List.range (min 20 S)).map fun i : Nat => .int (1 + (i : Nat)) := by
      unfold rngL
      rw [show (((min 20 S : Nat) : Int) + 1 - 1).toNat = min 20 S by omega]
    have hbd : bnd (((min 20 S : Nat) : Int) + 1) = true := bnd_of (by omega) (by omega)
    have hbd1 : bnd 1 = true := bnd_of (by omega) (by omega)
    have e : forLoop (forB (Pz.run tb (n + k + 1)) (.nm 3) bodyA) ((List.range (min 20 S)).map fun i : Nat => .int (1 + (i : Nat))) [.val (.tup (nD (w :: vs))), .val (.int ((w : Int) + (T : Nat) + S)), .val (.lst []), .no, .no] B' = _ := e
    unfold bodyA at e
    rw [hall]
    obtain ⟨M, hM⟩ : ∃ M : Nat, min 20 S = M := ⟨_, rfl⟩
    rw [hM] at hmn hr hbd e ⊢
    have hmn' : (if (S : Int) < 20 then (S : Int) else 20) = (M : Nat) := by rw [← hmn]; split <;> split <;> omega
    simp -implicitDefEqProofs [b__law_all, Pz.start, hn1, hne, hsm, hmn, hmn', hr, hbd, hbd1, e, l0, frzAll, frzS, -bi_sum_tup]
end Sp
end
section
set_option linter.all false
set_option maxRecDepth 100000
open Pz
namespace Sp
variable {tb : Nat → Option Fd} [hb : Has tb]
theorem shBs_len (ws : List Nat) (bl even : Nat) : (shBs ws bl even).length = ws.length - 1 := by simp [shBs]
theorem m_shared_line (n : Nat) (ws : List Nat) (x even : Nat) (h : okX ws x) (he : even ≤ 1) (B : List D) :
    Pz.run tb (n + 5) 46 [.tup (nD ws), .int (x : Nat), .int (even : Nat)] B = .ok (.tup (nD (wvn ws (shBs ws (x - ws.sum) even))), B) := by
  rw [show n + 5 = (n + 4) + 1 from rfl, run_succ (h := hb.h_shared_line) (hl := rfl)]
  have e1 := m_need_share (tb := tb) n ws x h B
  have e2 := m_fits_whole (tb := tb) (n + 2) even 0 1 B
  have q : decide ((0 : Int) ≤ even ∧ (even : Int) ≤ 1) = true := by simp; omega
  rw [q] at e2
  have h2 := h.w.two
  have h12 := h.w.few
  have hlo := h.lo
  have e3 := m_shared_in (tb := tb) (n + 3) ws h2 (by omega) (x - ws.sum) even B
  have e4 := sum_nD ws
  have hx : (x : Int) - (ws.sum : Nat) = ((x - ws.sum : Nat) : Int) := by omega
  rw [shared_mk (by omega)] at e3
  obtain ⟨y, hy⟩ : ∃ y, x - ws.sum = y := ⟨_, rfl⟩
  rw [hy] at e3 hx ⊢
  simp -implicitDefEqProofs [b_shared_line, Pz.start, e1, e2, e3, e4, hx, frzAll, frzS, -bi_sum_tup]
theorem shB_le (q r m even a : Nat) : shB q r m even a ≤ q + 1 := by
  unfold shB
  split <;> split <;> omega
def sq (bs : List Nat) : Nat := (bs.map fun b => b * b).sum
theorem m_least_faults (n : Nat) (ws : List Nat) (x : Nat) (h : okX ws x) (B : List D) :
    Pz.run tb (n + 5) 47 [.tup (nD ws), .int (x : Nat)] B = .ok (.int (sq (shBs ws (x - ws.sum) 0) : Nat), B) := by
  rw [show n + 5 = (n + 4) + 1 from rfl, run_succ (h := hb.h_least_faults) (hl := rfl)]
  have e1 := m_need_share (tb := tb) n ws x h B
  have h2 := h.w.two
  have h12 := h.w.few
  have hlo := h.lo
  have hhi := h.hi
  have e3 := m_shared_in (tb := tb) (n + 3) ws h2 (by omega) (x - ws.sum) 0 B
  have e4 := sum_nD ws
  have hx : (x : Int) - (ws.sum : Nat) = ((x - ws.sum : Nat) : Int) := by omega
  rw [shared_mk (by omega)] at e3
  have hq : (x - ws.sum) / (ws.length - 1) ≤ 20 := by
    refine Nat.div_le_of_le_mul ?_
    omega
  have e5 := m_faults_in (tb := tb) (n + 3) ws (shBs ws (x - ws.sum) 0) (by rw [shBs_len]; omega) (fun b hb => by
    obtain ⟨a, _, rfl⟩ := List.mem_map.1 hb
    have := shB_le ((x - ws.sum) / (ws.length - 1)) ((x - ws.sum) % (ws.length - 1)) (ws.length - 1) 0 a
    omega) (by rw [shBs_len]; omega) B
  obtain ⟨y, hy⟩ : ∃ y, x - ws.sum = y := ⟨_, rfl⟩
  rw [hy] at e3 e5 hx ⊢
  have e3 : Pz.run tb (n + 4) 41 [.tup (nD ws), .int (y : Nat), .int 0] B = _ := e3
  simp -implicitDefEqProofs [b_least_faults, Pz.start, e1, e3, e4, e5, hx, frzAll, frzS, sq, -bi_sum_tup]
/-! ### counts -/
def cnt (k s : Nat) : Nat := (allB k s).length
theorem cnt_zero (s : Nat) : cnt 0 s = if s = 0 then 1 else 0 := by
  unfold cnt allB
  split <;> simp
theorem sum_rev (f : Nat → Nat) : ∀ m : Nat, ((List.range m).map f).sum = ((List.range m).map fun i => f (m - 1 - i)).sum := by
  intro m
  have : (List.range m).map (fun i => f (m - 1 - i)) = ((List.range m).map f).reverse := by
    apply List.ext_getElem
    · simp
    · intro i h1 h2
      simp
  rw [this, List.sum_reverse]
theorem cnt_succ (k s : Nat) : cnt (k + 1) s = ((List.range (min 20 s)).map fun j => cnt k (s - min 20 s + j)).sum := by
  unfold cnt
  rw [allB, List.length_flatMap, sum_rev]
  congr 1
  refine List.map_congr_left fun i hi => ?_
  have := List.mem_range.1 hi
  rw [List.length_map]
  congr 2
  omega
def cntL (S k : Nat) : List Nat := (List.range (S + 1)).map (cnt k)
theorem cntL_len (S k : Nat) : (cntL S k).length = S + 1 := by simp [cntL]
theorem cntL_slice (S k s : Nat) (h : s ≤ S) : ((cntL S k).drop (s - min 20 s)).take (min 20 s) = (List.range (min 20 s)).map fun j => cnt k (s - min 20 s + j) := by
  apply List.ext_getElem
  · rw [List.length_take, List.length_drop, cntL_len, List.length_map, List.length_range]; omega
  · intro i h1 h2
    rw [List.getElem_take, List.getElem_drop]
    unfold cntL
    simp
theorem m_lines_many (n : Nat) (ws : List Nat) (x : Nat) (h : okX ws x) (hS : x - ws.sum ≤ 60) (B : List D) :
    Pz.run tb (n + 5) 48 [.tup (nD ws), .int (x : Nat)] B = .ok (.int (cnt (ws.length - 1) (x - ws.sum) : Nat), B) := by
  rw [show n + 5 = (n + 4) + 1 from rfl, run_succ (h := hb.h_lines_many) (hl := rfl)]
  have e1 := m_need_share (tb := tb) n ws x h B
  have h2 := h.w.two
  have h12 := h.w.few
  have hlo := h.lo
  have e4 := sum_nD ws
  obtain ⟨S, hSe⟩ : ∃ S, x - ws.sum = S := ⟨_, rfl⟩
  have hx : (x : Int) - (ws.sum : Nat) = (S : Nat) := by omega
  obtain ⟨m, hm⟩ : ∃ m, ws.length - 1 = m := ⟨_, rfl⟩
  have hl : ((nD ws).length : Int) - 1 = (m : Nat) := by rw [nD_len]; omega
  rw [hSe] at hS ⊢
  rw [hm]
  have hr : rngL 0 ((S : Int) + 1) = (List.range (S + 1)).map fun k : Nat => .int (k : Nat) := by
    rw [show (S : Int) + 1 = ((S + 1 : Nat) : Int) by omega]; exact rngL_nat _
  have hbd : bnd ((S : Int) + 1) = true := bnd_of (by omega) (by omega)
  have hbm : bnd (m : Int) = true := bnd_of (by omega) (by omega)
  have hS1 : S + 1 ≤ ln := by show _ ≤ 16777216; omega
  obtain ⟨σ', B', ⟨x5, rfl, rfl⟩, e⟩ := for_inv (f := forB (Pz.run tb (n + 4)) (.nm 5) (.cons (.asg (.nm 4) (.lc (.nm 6) (.bi .rng (.cons (.bin .add (.var 2) (.cst (.int 1))) (.nil))) (.cst (.bl true)) (.bi .sum (.cons (.cut (.var 4) (.bi .mx2 (.cons (.cst (.int 0)) (.cons (.bin .sub (.var 6) (.cst (.int 20))) (.nil)))) (.var 6)) (.nil))))) (.nil))) (σ := [.val (.tup (nD ws)), .val (.int (x : Nat)), .val (.int (S : Nat)), .val (.int (m : Nat)), .val (.lst (nD (cntL S 0))), .no, .no]) (B := B) ((List.range m).map fun k : Nat => .int (k : Nat))
    (fun i σ B' => ∃ x5, σ = [.val (.tup (nD ws)), .val (.int (x : Nat)), .val (.int (S : Nat)), .val (.int (m : Nat)), .val (.lst (nD (cntL S i))), x5, .no] ∧ B' = B)
    ⟨_, rfl, rfl⟩ (by
      rintro i hi σ B ⟨x5, rfl, rfl⟩
      rw [List.getElem_map, List.getElem_range]
      have l1 : lcLoop (Pz.turn (Pz.run tb (n + 4)) [.val (.tup (nD ws)), .val (.int (x : Nat)), .val (.int (S : Nat)), .val (.int (m : Nat)), .val (.lst (nD (cntL S i))), .val (.int (i : Nat)), .no] (.nm 6) (.cst (.bl true)) (.bi .sum (.cons (.cut (.var 4) (.bi .mx2 (.cons (.cst (.int 0)) (.cons (.bin .sub (.var 6) (.cst (.int 20))) (.nil)))) (.var 6)) (.nil)))) ((List.range (S + 1)).map fun k : Nat => .int (k : Nat)) B
          = .ok (nD (cntL S (i + 1)), B) := by
        have : nD (cntL S (i + 1)) = (List.range (S + 1)).map fun k => D.int (cnt (i + 1) k : Nat) := by
          unfold nD cntL; rw [List.map_map]; rfl
        rw [this]
        refine lcLoop_all (c := fun k : Nat => D.int (k : Nat)) (g := fun k => D.int (cnt (i + 1) k : Nat)) fun k hk => ?_
        have hk := List.mem_range.1 hk
        have c0 : cutL (nD (cntL S i)) (some (if (k : Int) - 20 > 0 then (k : Int) - 20 else 0)) (some (k : Int)) = nD ((List.range (min 20 k)).map fun j => cnt i (k - min 20 k + j)) := by
          have : (if (k : Int) - 20 > 0 then (k : Int) - 20 else 0) = ((k - min 20 k : Nat) : Int) := by split <;> omega
          rw [this, cutL_nat, nD_drop, nD_take, show k - (k - min 20 k) = min 20 k by omega, cntL_slice S i k (by omega)]
        have c0' : cutL (nD (cntL S i)) (some (if (20 : Int) < k then (k : Int) - 20 else 0)) (some (k : Int)) = nD ((List.range (min 20 k)).map fun j => cnt i (k - min 20 k + j)) := by
          have : (if (20 : Int) < k then (k : Int) - 20 else 0) = ((k - min 20 k : Nat) : Int) := by split <;> omega
          rw [this, cutL_nat, nD_drop, nD_take, show k - (k - min 20 k) = min 20 k by omega, cntL_slice S i k (by omega)]
        have s1 : bi_sum [.lst (nD ((List.range (min 20 k)).map fun j => cnt i (k - min 20 k + j)))] = some (.int (cnt (i + 1) k : Nat)) := by
          show (intL _).map (fun ns => D.int ns.sum) = _
          rw [intL_nD, Option.map_some, sum_cast, cnt_succ]
        simp -implicitDefEqProofs [turn_eq, wipeS, Tg.names, c0, c0', s1, -bi_sum_lst]
      refine ⟨_, _, ⟨.val (.int (i : Nat)), rfl, rfl⟩, ?_⟩
      simp -implicitDefEqProofs [hr, hbd, hS1, l1])
  rw [List.length_map, List.length_range] at e
  have l1 : 1 ≤ ln := by show 1 ≤ 16777216; omega
  have hS1' : 1 + S ≤ ln := by omega
  have hmul : opB .mul (.lst [.int 0]) (.int (S : Nat)) = some (.lst (List.replicate S (.int 0))) := by
    have hrep : ∀ m : Nat, (List.replicate m [D.int 0]).flatten = List.replicate m (D.int 0) := by
      intro m
      induction m with
      | zero => rfl
      | succ m ih => rw [List.replicate_succ, List.flatten_cons, ih]; rfl
    have hc : (decide (-1000000 < ((S : Nat) : Int)) && decide (((S : Nat) : Int) < 1000000) && decide (([D.int 0] : List D).length * ((S : Nat) : Int).toNat ≤ ln)) = true := by
      rw [show ((S : Nat) : Int).toNat = S by omega]
      simp only [List.length_cons, List.length_nil, Bool.and_eq_true, decide_eq_true_eq]
      omega
    rw [opB_mulL, if_pos hc, show ((S : Nat) : Int).toNat = S by omega]
    unfold rep
    rw [hrep]
  have h0 : nD (cntL S 0) = .int 1 :: List.replicate S (.int 0) := by
    unfold cntL
    rw [List.range_succ_eq_map, List.map_cons, List.map_map]
    have : (List.range S).map (cnt 0 ∘ Nat.succ) = List.replicate S 0 := by
      apply List.ext_getElem
      · simp
      · intro i h1 h2
        simp [cnt_zero]
    rw [this]
    unfold nD
    rw [List.map_cons, List.map_replicate, cnt_zero]
    rfl
  rw [h0] at e
  have hres : atI (nD (cntL S m)) (S : Int) = some (.int (cnt m S : Nat)) := atI_nDk _ _ _ (by unfold cntL; rw [List.getElem?_map, List.getElem?_range (by omega)]; rfl)
  have g : ¬ (60 : Int) < (S : Nat) := by omega
  have g' : ¬ 60 < S := by omega
  simp -implicitDefEqProofs [b_lines_many, Pz.start, e1, e4, hx, hl, g, g', hmul, l1, hS1, hS1', hbm, rngL_nat, e, hres, frzAll, frzS, -bi_sum_tup, -opB_mulL]
end Sp
end
section
set_option linter.all false
set_option maxRecDepth 100000
open Pz
namespace Sp
/-! ### evenly shared -/
theorem sq_one (b q : Nat) : (2 * q + 1) * b ≤ b * b + q * (q + 1) := by
  by_cases h : b ≤ q
  · obtain ⟨d, rfl⟩ : ∃ d, q = b + d := ⟨q - b, by omega⟩
    simp only [Nat.mul_add, Nat.add_mul, Nat.mul_one, Nat.one_mul]
    have e : d * b = b * d := Nat.mul_comm _ _
    have e2 : 2 * b * b = b * b + b * b := by rw [Nat.mul_assoc]; omega
    have e3 : 2 * d * b = b * d + b * d := by rw [Nat.mul_assoc, e]; omega
    omega
  · obtain ⟨d, rfl⟩ : ∃ d, b = q + 1 + d := ⟨b - (q + 1), by omega⟩
    simp only [Nat.mul_add, Nat.add_mul, Nat.mul_one, Nat.one_mul]
    have e : d * q = q * d := Nat.mul_comm _ _
    have e2 : 2 * q * q = q * q + q * q := by rw [Nat.mul_assoc]; omega
    have e3 : 2 * q * d = q * d + q * d := by rw [Nat.mul_assoc]; omega
    omega
theorem sq_two (b q : Nat) (h : b = q ∨ b = q + 1) : (2 * q + 1) * b = b * b + q * (q + 1) := by
  rcases h with rfl | rfl
  · simp only [Nat.mul_add, Nat.add_mul, Nat.mul_one, Nat.one_mul, Nat.mul_assoc]
    omega
  · simp only [Nat.mul_add, Nat.add_mul, Nat.mul_one, Nat.one_mul, Nat.mul_assoc]
    omega
theorem sq_le (q : Nat) : ∀ bs : List Nat, (2 * q + 1) * bs.sum ≤ sq bs + bs.length * (q * (q + 1))
  | [] => by simp [sq]
  | b :: bs => by
    have h1 := sq_one b q
    have h2 := sq_le q bs
    show (2 * q + 1) * (b + bs.sum) ≤ (b * b + sq bs) + (bs.length + 1) * (q * (q + 1))
    rw [Nat.mul_add, Nat.add_mul (bs.length), Nat.one_mul]
    omega
theorem sq_eq (q : Nat) : ∀ bs : List Nat, (∀ b ∈ bs, b = q ∨ b = q + 1) → (2 * q + 1) * bs.sum = sq bs + bs.length * (q * (q + 1))
  | [], _ => by simp [sq]
  | b :: bs, h => by
    have h1 := sq_two b q (h b (by simp))
    have h2 := sq_eq q bs fun c hc => h c (by simp [hc])
    show (2 * q + 1) * (b + bs.sum) = (b * b + sq bs) + (bs.length + 1) * (q * (q + 1))
    rw [Nat.mul_add, Nat.add_mul (bs.length), Nat.one_mul]
    omega
/-- so many ones more first -/
def desc (m q r : Nat) : List Nat := List.replicate r (q + 1) ++ List.replicate (m - r) q
theorem shBs_desc (ws : List Nat) (bl : Nat) (h : 2 ≤ ws.length) : shBs ws bl 0 = desc (ws.length - 1) (bl / (ws.length - 1)) (bl % (ws.length - 1)) := by
  obtain ⟨m, hm⟩ : ∃ m, ws.length - 1 = m := ⟨_, rfl⟩
  have hr : bl % m < m := Nat.mod_lt _ (by omega)
  unfold shBs desc
  rw [hm]
  apply List.ext_getElem
  · simp; omega
  · intro i h1 h2
    rw [List.getElem_map, List.getElem_range, List.getElem_append]
    unfold shB
    rw [if_pos rfl]
    by_cases g : i < bl % m
    · rw [if_pos g, dif_pos (by simpa using g)]; simp
    · rw [if_neg g, dif_neg (by simpa using g)]; simp
theorem shBs_asc (ws : List Nat) (bl : Nat) (h : 2 ≤ ws.length) : shBs ws bl 1 = (shBs ws bl 0).reverse := by
  obtain ⟨m, hm⟩ : ∃ m, ws.length - 1 = m := ⟨_, rfl⟩
  have hr : bl % m < m := Nat.mod_lt _ (by omega)
  unfold shBs
  rw [hm]
  apply List.ext_getElem
  · simp
  · intro i h1 h2
    have hi : i < m := by simpa using h1
    rw [List.getElem_reverse]
    simp only [List.getElem_map, List.getElem_range, List.length_map, List.length_range]
    unfold shB
    rw [if_neg (by omega : ¬ (1 : Nat) = 0), if_pos rfl]
    by_cases g : m - bl % m ≤ i
    · rw [if_pos g, if_pos (by omega)]
    · rw [if_neg g, if_neg (by omega)]
theorem desc_sum (m q r : Nat) (h : r ≤ m) : (desc m q r).sum = m * q + r := by
  unfold desc
  rw [List.sum_append, List.sum_replicate_nat, List.sum_replicate_nat]
  obtain ⟨d, rfl⟩ : ∃ d, m = r + d := ⟨m - r, by omega⟩
  rw [show r + d - r = d by omega, Nat.mul_add, Nat.mul_one, Nat.add_mul]
  omega
theorem desc_len (m q r : Nat) (h : r ≤ m) : (desc m q r).length = m := by
  unfold desc; simp; omega
theorem desc_mem (m q r : Nat) : ∀ b ∈ desc m q r, b = q ∨ b = q + 1 := fun b hb => by
  unfold desc at hb
  rcases List.mem_append.1 hb with h | h
  · exact .inr (List.eq_of_mem_replicate h)
  · exact .inl (List.eq_of_mem_replicate h)
/-- even blanks, the greater ones first, are the shared ones -/
theorem desc_of : ∀ {bs : List Nat} {c : Nat}, (∀ b ∈ bs, b = c ∨ b = c + 1) → bs.Pairwise (fun a b => b ≤ a) → bs = desc bs.length c (bs.filter fun b => decide (b = c + 1)).length
  | [], _, _, _ => rfl
  | b :: bs, c, h, hp => by
    have hp := List.pairwise_cons.1 hp
    have ih := desc_of (bs := bs) (c := c) (fun d hd => h d (by simp [hd])) hp.2
    rcases h b (by simp) with rfl | rfl
    · -- all that follow are least
      have hall : ∀ d ∈ bs, d = b := fun d hd => by
        have h1 := hp.1 d hd
        rcases h d (by simp [hd]) with e | e
        · exact e
        · omega
      have hf : (b :: bs).filter (fun d => decide (d = b + 1)) = [] := by
        rw [List.filter_eq_nil_iff]
        intro d hd
        rcases List.mem_cons.1 hd with rfl | hd
        · simp
        · rw [hall d hd]; simp
      rw [hf]
      unfold desc
      simp only [List.length_nil, List.replicate_zero, List.nil_append, Nat.sub_zero, List.length_cons, List.replicate_succ]
      congr 1
      exact List.eq_replicate_iff.2 ⟨rfl, hall⟩
    · have hf : ((c + 1) :: bs).filter (fun d => decide (d = c + 1)) = (c + 1) :: bs.filter (fun d => decide (d = c + 1)) := by
        rw [List.filter_cons_of_pos (by simp)]
      rw [hf]
      obtain ⟨r, hr⟩ : ∃ r, (bs.filter fun d => decide (d = c + 1)).length = r := ⟨_, rfl⟩
      rw [hr] at ih
      have hr2 : r ≤ bs.length := by rw [← hr]; exact List.length_filter_le _ _
      rw [List.length_cons, List.length_cons, hr]
      unfold desc at ih ⊢
      rw [List.replicate_succ, List.cons_append, show bs.length + 1 - (r + 1) = bs.length - r by omega, ← ih]
theorem even_uniq {bs : List Nat} {m S : Nat} (hm : 0 < m) (hl : bs.length = m) (hs : bs.sum = S) {c : Nat} (hc : c ∈ bs) (h : ∀ b ∈ bs, b = c ∨ b = c + 1) (hp : bs.Pairwise (fun a b => b ≤ a)) : bs = desc m (S / m) (S % m) := by
  have e := desc_of h hp
  obtain ⟨r, hr⟩ : ∃ r, (bs.filter fun d => decide (d = c + 1)).length = r := ⟨_, rfl⟩
  rw [hr, hl] at e
  have hr2 : r < m := by
    rw [← hr, ← hl]
    exact List.length_filter_lt_length_iff_exists.2 ⟨c, hc, by simp⟩
  have h1 := desc_sum m c r (by omega)
  rw [← e, hs] at h1
  have h2 : S / m = c := by
    rw [h1, Nat.mul_add_div hm, Nat.div_eq_of_lt hr2]; omega
  have h3 : S % m = r := by
    rw [h1, Nat.mul_add_mod, Nat.mod_eq_of_lt hr2]
  rw [h2, h3]
  exact e
/-- the shared blanks have least squares -/
theorem sq_least {ws bs : List Nat} (h : 2 ≤ ws.length) (hl : bs.length = ws.length - 1) {S : Nat} (hs : bs.sum = S) : sq (shBs ws S 0) ≤ sq bs := by
  have hr : S % (ws.length - 1) < ws.length - 1 := Nat.mod_lt _ (by omega)
  have h1 := sq_le (S / (ws.length - 1)) bs
  have h2 := sq_eq (S / (ws.length - 1)) (shBs ws S 0) (by rw [shBs_desc ws S h]; exact desc_mem _ _ _)
  have h3 : (shBs ws S 0).sum = S := by
    rw [shBs_desc ws S h, desc_sum _ _ _ (by omega), Nat.div_add_mod]
  rw [h3, shBs_len] at h2
  rw [hs, hl] at h1
  omega
end Sp
end
section
set_option linter.all false
set_option maxRecDepth 100000
open Pz
namespace Sp
variable {tb : Nat → Option Fd} [hb : Has tb]
/-! ### where blanks stand -/
def pre (row : List Nat) (i : Nat) : Nat := (row.take i).sum
theorem pre_succ (row : List Nat) (i : Nat) (h : i < row.length) : pre row (i + 1) = pre row i + row[i] := by
  unfold pre
  rw [List.take_succ_eq_append_getElem h, List.sum_append]
  simp
def prs (row : List Nat) (k : Nat) : List (Nat × Nat) := (List.range k).map fun k => (pre row (2 * k + 1), pre row (2 * k + 1) + row.getD (2 * k + 1) 0)
def pD (l : List (Nat × Nat)) : List D := l.map fun p => .tup [.int (p.1 : Nat), .int (p.2 : Nat)]
theorem prs_succ (row : List Nat) (k : Nat) : prs row (k + 1) = prs row k ++ [(pre row (2 * k + 1), pre row (2 * k + 1) + row.getD (2 * k + 1) 0)] := by
  unfold prs
  rw [List.range_succ, List.map_append]; rfl
theorem prs_len (row : List Nat) (k : Nat) : (prs row k).length = k := by simp [prs]
theorem m_blanks_in (n : Nat) (row : List Nat) (h : row.length ≤ 1000) (B : List D) : Pz.run tb (n + 1) 17 [.tup (nD row)] B = .ok (.lst (pD (prs row (row.length / 2))), B) := by
  rw [run_succ (h := hb.h_blanks_in) (hl := rfl)]
  have hel : (enmL (nD row)).length = row.length := by simp [enmL, nD]
  obtain ⟨σ', B', ⟨x3, x4, rfl, rfl⟩, e⟩ := for_inv (f := forB (Pz.run tb n) (.tp (.cons (.nm 3) (.cons (.nm 4) (.nil)))) (.cons (.ifs (.cmp .eq (.bin .mod (.var 3) (.cst (.int 2))) (.cst (.int 1))) (.cons (.app 1 (.tup (.cons (.var 2) (.cons (.bin .add (.var 2) (.var 4)) (.nil))))) (.nil)) (.nil)) (.cons (.asg (.nm 2) (.bin .add (.var 2) (.var 4))) (.nil)))) (σ := [.val (.tup (nD row)), .own (.lst (pD (prs row (0 / 2)))), .val (.int (pre row 0 : Nat)), .no, .no]) (B := B) (enmL (nD row))
    (fun i σ B' => ∃ x3 x4, σ = [.val (.tup (nD row)), .own (.lst (pD (prs row (i / 2)))), .val (.int (pre row i : Nat)), x3, x4] ∧ B' = B)
    ⟨_, _, rfl, rfl⟩ (by
      rintro i hi σ B ⟨x3, x4, rfl, rfl⟩
      have hi' : i < row.length := by rw [hel] at hi; exact hi
      have hitem : (enmL (nD row))[i] = .tup [.int (i : Nat), .int (row[i] : Nat)] := by simp [enmL, nD]
      rw [hitem, pre_succ row i hi']
      obtain ⟨w, hw⟩ : ∃ w, row[i] = w := ⟨_, rfl⟩
      obtain ⟨p, hp⟩ : ∃ p, pre row i = p := ⟨_, rfl⟩
      rw [hw, hp]
      have l2 : 2 ≤ ln := by show 2 ≤ 16777216; omega
      refine ⟨_, _, ⟨.val (.int (i : Nat)), .val (.int (w : Nat)), rfl, rfl⟩, ?_⟩
      by_cases g : i % 2 = 1
      · have g' : (i : Int) % 2 = 1 := by omega
        have h1 : (i + 1) / 2 = i / 2 + 1 := by omega
        have h2 : 2 * (i / 2) + 1 = i := by omega
        have h3 : row.getD i 0 = w := by simp [List.getD, hi', hw]
        have hd : pD (prs row (i / 2 + 1)) = pD (prs row (i / 2)) ++ [.tup [.int (p : Nat), .int ((p : Int) + w)]] := by
          rw [prs_succ, h2, h3, hp]
          simp [pD]
        have hln : (pD (prs row (i / 2))).length < ln := by show _ < 16777216; unfold pD; rw [List.length_map, prs_len]; omega
        rw [h1, hd]
        simp -implicitDefEqProofs [g, g', l2, hln]
      · have g' : ¬ (i : Int) % 2 = 1 := by omega
        have h1 : (i + 1) / 2 = i / 2 := by omega
        rw [h1]
        simp -implicitDefEqProofs [g, g'])
  rw [hel] at e
  have l0 : 0 ≤ ln := by show 0 ≤ 16777216; omega
  have e : forLoop _ _ [.val (.tup (nD row)), .own (.lst []), .val (.int 0), .no, .no] B' = _ := e
  simp -implicitDefEqProofs [b_blanks_in, Pz.start, e, frzAll, frzS, l0]
def meet (p q : Nat × Nat) (r : Nat) : Bool := decide (p.1 + 1 ≤ q.2 + r) && decide (q.1 + 1 ≤ p.2 + r)
theorem m_do_meet (n : Nat) (p q : Nat × Nat) (r : Nat) (B : List D) : Pz.run tb (n + 1) 18 [.tup [.int (p.1 : Nat), .int (p.2 : Nat)], .tup [.int (q.1 : Nat), .int (q.2 : Nat)], .int (r : Nat)] B = .ok (.bl (meet p q r), B) := by
  rw [run_succ (h := hb.h_do_meet) (hl := rfl)]
  have a0 : ∀ x y : D, atI [x, y] 0 = some x := fun _ _ => rfl
  have a1 : ∀ x y : D, atI [x, y] 1 = some y := fun _ _ => rfl
  unfold meet
  by_cases g : p.1 + 1 ≤ q.2 + r
  · have g1 : (p.1 : Int) ≤ (q.2 : Int) + r - 1 := by omega
    by_cases g2 : q.1 + 1 ≤ p.2 + r
    · have g3 : (q.1 : Int) ≤ (p.2 : Int) + r - 1 := by omega
      simp -implicitDefEqProofs [b_do_meet, Pz.start, a0, a1, g, g1, g2, g3, frzAll, frzS]
    · have g3 : ¬ (q.1 : Int) ≤ (p.2 : Int) + r - 1 := by omega
      simp -implicitDefEqProofs [b_do_meet, Pz.start, a0, a1, g, g1, g2, g3, frzAll, frzS]
  · have g1 : ¬ (p.1 : Int) ≤ (q.2 : Int) + r - 1 := by omega
    simp -implicitDefEqProofs [b_do_meet, Pz.start, a0, a1, g, g1, frzAll, frzS]
/-- the places of a blank -/
def cov (p : Nat × Nat) : List Nat := (List.range (p.2 - p.1)).map fun i => p.1 + i
def cD (l : List (Nat × Nat)) : List D := l.map fun p => .lst (nD (cov p))
theorem m_law_covered (n : Nat) (row : List Nat) (h : row.length ≤ 1000) (h2 : ∀ w ∈ row, w ≤ 1000) (B : List D) : Pz.run tb (n + 1) 30 [.tup (nD row)] B = .ok (.lst (cD (prs row (row.length / 2))), B) := by
  rw [run_succ (h := hb.h__law_covered) (hl := rfl)]
  have hps : ∀ i, i ≤ row.length → pre row i ≤ i * 1000 := by
    intro i hi
    induction i with
    | zero => exact Nat.zero_le _
    | succ i ih =>
      rw [pre_succ row i (by omega)]
      have := ih (by omega)
      have := h2 row[i] (List.getElem_mem (by omega))
      omega
  have hr : rngUp 1 (row.length : Nat) 2 = (List.range (row.length / 2)).map fun k : Nat => .int (1 + (k : Nat) * 2) := by
    unfold rngUp
    have : (if (1 : Int) < (row.length : Nat) then ((row.length : Nat) - 1 - 1) / ((2 : Nat) : Int) + 1 else 0 : Int).toNat = row.length / 2 := by split <;> omega
    rw [this]
    rfl
  obtain ⟨σ', B', ⟨x2, x3, rfl, rfl⟩, e⟩ := for_inv (f := forB (Pz.run tb n) (.nm 2) (.cons (.asg (.nm 3) (.bi .sum (.cons (.cut (.var 0) (.nop) (.var 2)) (.nil)))) (.cons (.app 1 (.bin .add (.bi .rng (.cons (.var 3) (.cons (.bin .add (.var 3) (.sub (.var 0) (.var 2))) .nil))) (.lst .nil))) (.nil)))) (σ := [.val (.tup (nD row)), .own (.lst (cD (prs row 0))), .no, .no]) (B := B) ((List.range (row.length / 2)).map fun k : Nat => .int (1 + (k : Nat) * 2))
    (fun i σ B' => ∃ x2 x3, σ = [.val (.tup (nD row)), .own (.lst (cD (prs row i))), x2, x3] ∧ B' = B)
    ⟨_, _, rfl, rfl⟩ (by
      rintro i hi σ B ⟨x2, x3, rfl, rfl⟩
      have hi' : i < row.length / 2 := by simpa using hi
      rw [List.getElem_map, List.getElem_range]
      have hk : (1 : Int) + (i : Nat) * 2 = ((2 * i + 1 : Nat) : Int) := by omega
      rw [hk]
      obtain ⟨k, hke⟩ : ∃ k, 2 * i + 1 = k := ⟨_, rfl⟩
      have hkl : k < row.length := by omega
      obtain ⟨w, hw⟩ : ∃ w, row.getD k 0 = w := ⟨_, rfl⟩
      obtain ⟨p, hp⟩ : ∃ p, pre row k = p := ⟨_, rfl⟩
      have hw1 : w ≤ 1000 := by
        rw [← hw]
        have : row.getD k 0 = row[k] := by simp [List.getD, hkl]
        rw [this]; exact h2 _ (List.getElem_mem hkl)
      have hp1 : p ≤ 1000000 := by have := hps k (by omega); rw [← hp]; have : k * 1000 ≤ 1000 * 1000 := Nat.mul_le_mul_right _ (by omega); omega
      have c1 : cutL (nD row) none (some (k : Int)) = nD (row.take k) := by rw [cutL_to, nD_take]
      have s1 : bi_sum [.tup (nD (row.take k))] = some (.int (p : Nat)) := by rw [sum_nD, ← hp]; rfl
      have a1 : atI (nD row) (k : Int) = some (.int (w : Nat)) := atI_nDk _ _ _ (by rw [← hw]; simp [List.getD, hkl])
      have hb1 : bnd (p : Int) = true := bnd_of (by omega) (by omega)
      have hb2 : bnd ((p : Int) + w) = true := bnd_of (by omega) (by omega)
      have hr2 : rngL (p : Int) ((p : Int) + w) = nD (cov (p, p + w)) := by
        unfold rngL nD cov
        rw [List.map_map, show ((p : Int) + w - p).toNat = p + w - p by omega]
        rfl
      have hl2 : (nD (cov (p, p + w))).length ≤ ln := by show _ ≤ 16777216; rw [nD_len]; simp [cov]; omega
      have hd : cD (prs row (i + 1)) = cD (prs row i) ++ [.lst (nD (cov (p, p + w)))] := by
        rw [prs_succ, hke, hw, hp]
        simp [cD]
      have hln : (cD (prs row i)).length < ln := by show _ < 16777216; unfold cD; rw [List.length_map, prs_len]; omega
      have l0 : 0 ≤ ln := by show 0 ≤ 16777216; omega
      rw [hke]
      refine ⟨_, _, ⟨.val (.int (k : Nat)), .val (.int (p : Nat)), rfl, rfl⟩, ?_⟩
      rw [hd]
      simp -implicitDefEqProofs [c1, s1, a1, hb1, hb2, hr2, hl2, hln, l0, -bi_sum_tup])
  rw [List.length_map, List.length_range] at e
  have l0 : 0 ≤ ln := by show 0 ≤ 16777216; omega
  have e : forLoop _ _ [.val (.tup (nD row)), .own (.lst []), .no, .no] B' = _ := e
  have hb1 : bnd 1 = true := bnd_of (by omega) (by omega)
  have hb2 : bnd (row.length : Int) = true := bnd_of (by omega) (by omega)
  have hnl : ((nD row).length : Int) = row.length := by rw [nD_len]
  simp -implicitDefEqProofs [b__law_covered, Pz.start, hnl, hb1, hb2, hr, e, frzAll, frzS, l0]
/-- the least distance, ninety-nine at most -/
def dist (a : Nat) (l : List Nat) (b : Nat) : Nat := l.foldl (fun m o => min m (if a ≤ o then o - a else a - o)) b
theorem dist_le (a : Nat) : ∀ (l : List Nat) (b r : Nat), dist a l b ≤ r ↔ b ≤ r ∨ ∃ o ∈ l, a ≤ o + r ∧ o ≤ a + r
  | [], b, r => by simp [dist]
  | o :: l, b, r => by
    show dist a l (min b (if a ≤ o then o - a else a - o)) ≤ r ↔ _
    rw [dist_le a l]
    constructor
    · rintro (h | ⟨x, hx, h⟩)
      · by_cases g : b ≤ r
        · exact .inl g
        · refine .inr ⟨o, by simp, ?_⟩
          split at h <;> omega
      · exact .inr ⟨x, by simp [hx], h⟩
    · rintro (h | ⟨x, hx, h⟩)
      · exact .inl (by omega)
      · rcases List.mem_cons.1 hx with rfl | hx
        · refine .inl ?_
          split <;> omega
        · exact .inr ⟨x, hx, h⟩
def dists (l m : List Nat) : Nat := l.foldl (fun b a => dist a m b) 99
theorem dists_le (m : List Nat) (r : Nat) : ∀ (l : List Nat) (b : Nat), l.foldl (fun b a => dist a m b) b ≤ r ↔ b ≤ r ∨ ∃ a ∈ l, ∃ o ∈ m, a ≤ o + r ∧ o ≤ a + r
  | [], b => by simp
  | a :: l, b => by
    rw [List.foldl_cons, dists_le m r l, dist_le]
    constructor
    · rintro ((h | ⟨o, ho, h⟩) | ⟨x, hx, o, ho, h⟩)
      · exact .inl h
      · exact .inr ⟨a, by simp, o, ho, h⟩
      · exact .inr ⟨x, by simp [hx], o, ho, h⟩
    · rintro (h | ⟨x, hx, o, ho, h⟩)
      · exact .inl (.inl h)
      · rcases List.mem_cons.1 hx with rfl | hx
        · exact .inl (.inr ⟨o, ho, h⟩)
        · exact .inr ⟨x, hx, o, ho, h⟩
theorem mem_cov {p : Nat × Nat} {a : Nat} : a ∈ cov p ↔ p.1 ≤ a ∧ a < p.2 := by
  unfold cov
  rw [List.mem_map]
  constructor
  · rintro ⟨i, hi, rfl⟩
    have := List.mem_range.1 hi
    omega
  · rintro ⟨h1, h2⟩
    exact ⟨a - p.1, List.mem_range.2 (by omega), by omega⟩
theorem meet_cov {p q : Nat × Nat} (hp : p.1 < p.2) (hq : q.1 < q.2) {r : Nat} (hr : r < 99) : meet p q r = decide (dists (cov p) (cov q) ≤ r) := by
  have h := dists_le (cov q) r (cov p) 99
  unfold meet
  rw [Bool.eq_iff_iff, Bool.and_eq_true, decide_eq_true_eq, decide_eq_true_eq, decide_eq_true_eq]
  show _ ↔ dists (cov p) (cov q) ≤ r
  unfold dists
  rw [h]
  constructor
  · rintro ⟨h1, h2⟩
    refine .inr ?_
    by_cases g : p.2 ≤ q.1
    · exact ⟨p.2 - 1, mem_cov.2 (by omega), q.1, mem_cov.2 (by omega), by omega, by omega⟩
    · by_cases g2 : q.2 ≤ p.1
      · exact ⟨p.1, mem_cov.2 (by omega), q.2 - 1, mem_cov.2 (by omega), by omega, by omega⟩
      · by_cases g3 : p.1 ≤ q.1
        · exact ⟨q.1, mem_cov.2 (by omega), q.1, mem_cov.2 (by omega), by omega, by omega⟩
        · exact ⟨p.1, mem_cov.2 (by omega), p.1, mem_cov.2 (by omega), by omega, by omega⟩
  · rintro (h | ⟨a, ha, o, ho, h1, h2⟩)
    · omega
    · have := mem_cov.1 ha
      have := mem_cov.1 ho
      omega
theorem min_dist (b a : Nat) (l : List Nat) : (((b : Int) :: l.map fun (o : Nat) => if (a : Int) - o < 0 then -((a : Int) - o) else (a : Int) - o)).min? = some ((dist a l b : Nat) : Int) := by
  rw [List.min?_eq_some_iff]
  have hmem : ∀ (l : List Nat) (b : Nat), dist a l b = b ∨ ∃ o ∈ l, dist a l b = if a ≤ o then o - a else a - o := by
    intro l
    induction l with
    | nil => intro b; exact .inl rfl
    | cons o l ih =>
      intro b
      show dist a l (min b (if a ≤ o then o - a else a - o)) = b ∨ ∃ x ∈ o :: l, dist a l (min b (if a ≤ o then o - a else a - o)) = _
      rcases ih (min b (if a ≤ o then o - a else a - o)) with h | ⟨x, hx, h⟩
      · rw [h]
        by_cases g : b ≤ (if a ≤ o then o - a else a - o)
        · exact .inl (Nat.min_eq_left g)
        · exact .inr ⟨o, by simp, Nat.min_eq_right (by omega)⟩
      · exact .inr ⟨x, by simp [hx], h⟩
  refine ⟨?_, fun x hx => ?_⟩
  · rcases hmem l b with h | ⟨o, ho, h⟩
    · rw [h]; simp
    · refine List.mem_cons_of_mem _ (List.mem_map.2 ⟨o, ho, ?_⟩)
      rw [h]
      split <;> split <;> omega
  · have hle := (dist_le a l b (dist a l b)).1 (Nat.le_refl _)
    rcases List.mem_cons.1 hx with rfl | hx
    · have := (dist_le a l b b).2 (.inl (Nat.le_refl _))
      omega
    · obtain ⟨o, ho, rfl⟩ := List.mem_map.1 hx
      have := (dist_le a l b (if a ≤ o then o - a else a - o)).2 (.inr ⟨o, ho, by split <;> omega⟩)
      split at this <;> split <;> omega
theorem m_law_meet (n : Nat) (l m : List Nat) (hl : l.length ≤ 1000) (hm : m.length ≤ 1000) (r : Nat) (B : List D) : Pz.run tb (n + 1) 31 [.lst (nD l), .lst (nD m), .int (r : Nat)] B = .ok (.bl (decide (dists l m ≤ r)), B) := by
  rw [run_succ (h := hb.h__law_meet) (hl := rfl)]
  obtain ⟨σ', B', ⟨x4, rfl, rfl⟩, e⟩ := for_inv (f := forB (Pz.run tb n) (.nm 4) (.cons (.asg (.nm 3) (.bi .mn (.cons (.bin .add (.lst (.cons (.var 3) (.nil))) (.lc (.nm 5) (.var 1) (.cst (.bl true)) (.bi .abs (.cons (.bin .sub (.var 4) (.var 5)) (.nil))))) (.nil)))) (.nil))) (σ := [.val (.lst (nD l)), .val (.lst (nD m)), .val (.int (r : Nat)), .val (.int ((l.take 0).foldl (fun b a => dist a m b) 99 : Nat)), .no, .no]) (B := B) (nD l)
    (fun i σ B' => ∃ x4, σ = [.val (.lst (nD l)), .val (.lst (nD m)), .val (.int (r : Nat)), .val (.int ((l.take i).foldl (fun b a => dist a m b) 99 : Nat)), x4, .no] ∧ B' = B)
    ⟨_, rfl, rfl⟩ (by
      rintro i hi σ B ⟨x4, rfl, rfl⟩
      have hi' : i < l.length := by rw [nD_len] at hi; exact hi
      have hitem : (nD l)[i] = .int (l[i] : Nat) := by simp [nD]
      rw [hitem, List.take_succ_eq_append_getElem hi', List.foldl_append, List.foldl_cons, List.foldl_nil]
      obtain ⟨a, ha⟩ : ∃ a, l[i] = a := ⟨_, rfl⟩
      obtain ⟨b, hbe⟩ : ∃ b, (l.take i).foldl (fun b a => dist a m b) 99 = b := ⟨_, rfl⟩
      rw [ha, hbe]
      have l1 : lcLoop (Pz.turn (Pz.run tb n) [.val (.lst (nD l)), .val (.lst (nD m)), .val (.int (r : Nat)), .val (.int (b : Nat)), .val (.int (a : Nat)), .no] (.nm 5) (.cst (.bl true)) (.bi .abs (.cons (.bin .sub (.var 4) (.var 5)) (.nil)))) (nD m) B
          = .ok ((m.map fun (o : Nat) => if (a : Int) - o < 0 then -((a : Int) - o) else (a : Int) - o).map .int, B) := by
        rw [List.map_map]
        exact lcLoop_all (c := fun o : Nat => D.int (o : Nat)) (g := fun o : Nat => D.int (if (a : Int) - o < 0 then -((a : Int) - o) else (a : Int) - o)) fun o _ => by
          simp -implicitDefEqProofs only [turn_eq, wipeS, Tg.names, put_nm, List.length_cons, List.length_nil, List.set_cons_succ, List.set_cons_zero, kT1_s, ev_cst, kT2_t, ev_bi, evs_cons, evs_nil, ev_bin, ev_var, List.getElem?_cons_succ, List.getElem?_cons_zero, kVar_v, kBin1_ok, kBin2_ok, drf_int, opB_subI, kOf_s, kCons1_ok, kCons2_ok, kBi_ok, List.map_cons, List.map_nil, opBi_abs, bi_abs_int, kT3_ok]
          rfl
      obtain ⟨L, hL⟩ : ∃ L : List Int, (m.map fun (o : Nat) => if (a : Int) - o < 0 then -((a : Int) - o) else (a : Int) - o) = L := ⟨_, rfl⟩
      have hmd := min_dist b a m
      rw [hL] at l1 hmd
      have hLl : L.length = m.length := by rw [← hL, List.length_map]
      have hmn : bi_mn [.lst (.int (b : Nat) :: L.map .int)] = some (.int (dist a m b : Nat)) := by
        have h1 : ∀ L : List Int, intL (L.map .int) = some L := by
          intro L
          induction L with
          | nil => rfl
          | cons x L ih => show (intL (L.map .int)).map (x :: ·) = _; rw [ih]; rfl
        show (intL (.int (b : Nat) :: L.map .int)).bind (fun ns : List Int => ns.min?.map D.int) = some (.int (dist a m b : Nat))
        have h2 : intL (.int (b : Nat) :: L.map .int) = some ((b : Int) :: L) := h1 ((b : Int) :: L)
        rw [h2]
        show (((b : Int) :: L).min?).map D.int = _
        rw [hmd]; rfl
      have k1 : 1 ≤ ln := by show 1 ≤ 16777216; omega
      have k2 : 1 + L.length ≤ ln := by show _ ≤ 16777216; omega
      have k2' : L.length + 1 ≤ ln := by show _ ≤ 16777216; omega
      have k3 : (nD m).length ≤ ln := by show _ ≤ 16777216; rw [nD_len]; omega
      refine ⟨_, _, ⟨.val (.int (a : Nat)), rfl, rfl⟩, ?_⟩
      simp -implicitDefEqProofs [l1, hmn, k1, k2, k2', k3, -bi_mn_lst])
  rw [nD_len, List.take_length] at e
  have e : forLoop _ _ [.val (.lst (nD l)), .val (.lst (nD m)), .val (.int (r : Nat)), .val (.int 99), .no, .no] B' = _ := e
  have e : forLoop _ _ _ _ = .ok (.next, [.val (.lst (nD l)), .val (.lst (nD m)), .val (.int (r : Nat)), .val (.int (dists l m : Nat)), x4, .no], B') := e
  by_cases g : dists l m ≤ r
  · have g' : ((dists l m : Nat) : Int) ≤ r := by omega
    simp -implicitDefEqProofs [b__law_meet, Pz.start, e, g, g', frzAll, frzS]
  · have g' : ¬ ((dists l m : Nat) : Int) ≤ r := by omega
    simp -implicitDefEqProofs [b__law_meet, Pz.start, e, g, g', frzAll, frzS]
end Sp
end
section
set_option linter.all false
set_option maxRecDepth 100000
open Pz
namespace Sp
variable {tb : Nat → Option Fd} [hb : Has tb]
theorem m_all_whole (n : Nat) (σ : Sg) (l : List Nat) (lo hi : Nat) (h : ∀ w ∈ l, lo ≤ w ∧ w ≤ hi) (hs : σ.length = 4) (B : List D) : lcLoop (Pz.turn (Pz.run tb (n + 2)) σ (.nm 3) (.cst (.bl true)) (.call 11 (.cons (.var 3) (.cons (.cst (.int (lo : Nat))) (.cons (.cst (.int (hi : Nat))) (.nil)))))) (nD l) B = .ok (l.map fun _ => .bl true, B) :=
  lcLoop_all fun m hm => by
    have := h m hm
    have q : decide ((lo : Int) ≤ m ∧ (m : Int) ≤ hi) = true := by simp; omega
    have e := m_fits_whole (tb := tb) n m lo hi B
    rw [q] at e
    have hp : put (.nm 3) (.int (m : Nat)) (wipeS σ (Tg.names (.nm 3))) = some ((σ.set 3 .no).set 3 (.val (.int (m : Nat)))) := by
      show (if 3 < (σ.set 3 .no).length then some ((σ.set 3 .no).set 3 (.val (.int (m : Nat)))) else none) = _
      rw [if_pos (by rw [List.length_set, hs]; omega)]
    have hg : ((σ.set 3 .no).set 3 (.val (.int (m : Nat))))[3]? = some (.val (.int (m : Nat))) := by
      rw [List.getElem?_set_self (by rw [List.length_set, hs]; omega)]
    rw [turn_eq, hp]
    simp -implicitDefEqProofs only [kT1_s, ev_cst, kT2_t, ev_call, evs_cons, evs_nil, ev_var, hg, kVar_v, kCons1_ok, kCons2_ok, kCall_ok, e, kT3_ok]
theorem m_fits_row (n : Nat) (ws bs : List Nat) (h : ws.length = bs.length + 1) (h12 : ws.length ≤ 12) (hw : ∀ w ∈ ws, 1 ≤ w ∧ w ≤ 30) (hbs : ∀ b ∈ bs, 1 ≤ b ∧ b ≤ 20) (B : List D) :
    Pz.run tb (n + 3) 13 [.tup (nD (wvn ws bs))] B = .ok (.bl true, B) := by
  rw [show n + 3 = (n + 2) + 1 from rfl, run_succ (h := hb.h_fits_row) (hl := rfl)]
  have hml := wvn_len h
  have e1 := m_is_tuple_of (tb := tb) (n + 1) (nD (wvn ws bs)) 1 23 B
  have q : decide ((1 : Int) ≤ (nD (wvn ws bs)).length ∧ ((nD (wvn ws bs)).length : Int) ≤ 23) = true := by rw [nD_len, hml]; simp; omega
  rw [q] at e1
  have hl : ((nD (wvn ws bs)).length : Int) = (2 * bs.length + 1 : Nat) := by rw [nD_len, hml]
  have hne : ¬ ((2 * bs.length + 1 : Nat) : Int) % 2 = 0 := by omega
  obtain ⟨y, hy⟩ : ∃ y : Nat, 2 * bs.length + 1 = y := ⟨_, rfl⟩
  rw [hy] at hl hne
  have v0 : evnD 0 (.tup (nD (wvn ws bs))) = some (.tup (nD ws)) := by
    show some (D.tup (evens ((nD (wvn ws bs)).drop 0))) = _
    rw [List.drop_zero, evens_nD, wvn_evens h]
  have v1 : evnD 1 (.tup (nD (wvn ws bs))) = some (.tup (nD bs)) := by
    show some (D.tup (evens ((nD (wvn ws bs)).drop 1))) = _
    rw [nD_drop, evens_nD, wvn_odds h]
  have l1 := m_all_whole (tb := tb) n [.val (.tup (nD (wvn ws bs))), .val (.tup (nD ws)), .val (.tup (nD bs)), .no] ws 1 30 hw rfl B
  have l2 := m_all_whole (tb := tb) n [.val (.tup (nD (wvn ws bs))), .val (.tup (nD ws)), .val (.tup (nD bs)), .no] bs 1 20 hbs rfl B
  have k1 : (nD ws).length ≤ ln := by show _ ≤ 16777216; rw [nD_len]; omega
  have k2 : (nD bs).length ≤ ln := by show _ ≤ 16777216; rw [nD_len]; omega
  have b1 : blL (ws.map fun _ => D.bl true) = some (ws.map fun _ => true) := blL_map (fun _ => true) ws
  have b2 : blL (bs.map fun _ => D.bl true) = some (bs.map fun _ => true) := blL_map (fun _ => true) bs
  change lcLoop (Pz.turn (Pz.run tb (n + 2)) [.val (.tup (nD (wvn ws bs))), .val (.tup (nD ws)), .val (.tup (nD bs)), .no] (.nm 3) (.cst (.bl true)) (.call 11 (.cons (.var 3) (.cons (.cst (.int 1)) (.cons (.cst (.int 30)) (.nil)))))) (nD ws) B = _ at l1
  change lcLoop (Pz.turn (Pz.run tb (n + 2)) [.val (.tup (nD (wvn ws bs))), .val (.tup (nD ws)), .val (.tup (nD bs)), .no] (.nm 3) (.cst (.bl true)) (.call 11 (.cons (.var 3) (.cons (.cst (.int 1)) (.cons (.cst (.int 20)) (.nil)))))) (nD bs) B = _ at l2
  have s12 : small 12 = true := rfl
  have s2 : small 2 = true := rfl
  have hmod : opB .mod (.int (y : Nat)) (.int 2) = some (.int ((y : Int) % 2)) := by rw [opB_modI, if_pos (by omega)]
  simp -implicitDefEqProofs [b_fits_row, Pz.start, e1, hl, hne, v0, v1, l1, l2, k1, k2, b1, b2, all_tt, s12, s2, hmod, frzAll, frzS, -opB_modI]
/-! ### the program's own lines -/
/-- blanks so far, and what is left -/
def stepQ (k : Nat) (rows : List (List Nat × Nat)) : List (List Nat × Nat) := rows.flatMap fun p => (List.range (min 20 (p.2 - k))).map fun i => (p.1 ++ [i + 1], p.2 - (i + 1))
theorem allB_less : ∀ {k S : Nat}, S < k → allB k S = [] := fun {k S} h => by
  cases e : allB k S with
  | nil => rfl
  | cons bs l =>
    obtain ⟨h1, h2, h3⟩ := mem_allB.1 (show bs ∈ allB k S by rw [e]; simp)
    have : ∀ bs : List Nat, (∀ b ∈ bs, 1 ≤ b ∧ b ≤ 20) → bs.length ≤ bs.sum := by
      intro bs
      induction bs with
      | nil => intro _; simp
      | cons b bs ih =>
        intro h
        have := h b (by simp)
        have := ih fun c hc => h c (by simp [hc])
        rw [List.length_cons, List.sum_cons]; omega
    have := this bs h3
    omega
theorem allB_cut (k S : Nat) : allB (k + 1) S = (List.range (min 20 (S - k))).flatMap fun i => (allB k (S - (i + 1))).map ((i + 1) :: ·) := by
  rw [allB]
  obtain ⟨d, hd⟩ : ∃ d, min 20 S = min 20 (S - k) + d := ⟨min 20 S - min 20 (S - k), by omega⟩
  rw [hd, List.range_add, List.flatMap_append]
  have : ((List.range d).map (min 20 (S - k) + ·)).flatMap (fun i => (allB k (S - (i + 1))).map ((i + 1) :: ·)) = [] := by
    rw [List.flatMap_eq_nil_iff]
    intro i hi
    obtain ⟨j, hj, rfl⟩ := List.mem_map.1 hi
    have := List.mem_range.1 hj
    rw [allB_less (by omega)]; rfl
  rw [this, List.append_nil]
def goOn (k : Nat) (rows : List (List Nat × Nat)) : List (List Nat) := rows.flatMap fun p => (allB k p.2).map (p.1 ++ ·)
theorem goOn_step (k : Nat) (rows : List (List Nat × Nat)) : goOn k (stepQ k rows) = goOn (k + 1) rows := by
  unfold goOn stepQ
  rw [List.flatMap_assoc]
  congr 1
  funext p
  rw [List.flatMap_map, allB_cut, List.map_flatMap]
  congr 1
  funext i
  rw [List.map_map]
  refine List.map_congr_left fun bs _ => ?_
  show p.1 ++ [i + 1] ++ bs = p.1 ++ ((i + 1) :: bs)
  rw [List.append_assoc]; rfl
theorem goOn_zero (rows : List (List Nat × Nat)) : goOn 0 rows = (rows.filter fun p => decide (p.2 = 0)).map (·.1) := by
  unfold goOn
  induction rows with
  | nil => rfl
  | cons p rows ih =>
    rw [List.flatMap_cons, ih]
    by_cases g : p.2 = 0
    · rw [List.filter_cons_of_pos (by simpa using g)]
      unfold allB
      rw [if_pos g]
      simp
    · rw [List.filter_cons_of_neg (by simpa using g)]
      unfold allB
      rw [if_neg g]
      simp
/-- rows behind so many words -/
def rowsQ (m S : Nat) : Nat → List (List Nat × Nat)
  | 0 => [([], S)]
  | j + 1 => stepQ (m - 1 - j) (rowsQ m S j)
theorem rowsQ_on (m S : Nat) : ∀ j, j ≤ m → goOn (m - j) (rowsQ m S j) = allB m S
  | 0, _ => by
    unfold rowsQ goOn
    simp
  | j + 1, h => by
    rw [rowsQ, show m - (j + 1) = m - 1 - j by omega, goOn_step, show m - 1 - j + 1 = m - j by omega]
    exact rowsQ_on m S j (by omega)
theorem rowsQ_all (m S : Nat) : ((rowsQ m S m).filter fun p => decide (p.2 = 0)).map (·.1) = allB m S := by
  rw [← goOn_zero, ← rowsQ_on m S m (Nat.le_refl _), Nat.sub_self]
theorem rowsQ_mem (m S : Nat) : ∀ j, ∀ p ∈ rowsQ m S j, p.1.length = j ∧ p.2 ≤ S
  | 0, p, h => by
    have : p = ([], S) := by simpa [rowsQ] using h
    subst this
    exact ⟨rfl, Nat.le_refl _⟩
  | j + 1, p, h => by
    unfold rowsQ stepQ at h
    rw [List.mem_flatMap] at h
    obtain ⟨q, hq, h⟩ := h
    obtain ⟨i, hi, rfl⟩ := List.mem_map.1 h
    obtain ⟨h1, h2⟩ := rowsQ_mem m S j q hq
    refine ⟨by simp [h1], ?_⟩
    show q.2 - (i + 1) ≤ S
    omega
theorem rowsQ_len (m S : Nat) : ∀ j, (rowsQ m S j).length ≤ 20 ^ j
  | 0 => by simp [rowsQ]
  | j + 1 => by
    unfold rowsQ stepQ
    refine Nat.le_trans (flat_len (b := 20) fun p _ => by rw [List.length_map, List.length_range]; omega) ?_
    rw [Nat.pow_succ]
    exact Nat.mul_le_mul_right _ (rowsQ_len m S j)
end Sp
end
section
set_option linter.all false
set_option maxRecDepth 100000
open Pz
namespace Sp
variable {tb : Nat → Option Fd} [hb : Has tb]
def qD (vs : List Nat) (rows : List (List Nat × Nat)) : List D := rows.map fun p => .tup [.tup (nD (wvn vs p.1)), .int (p.2 : Nat)]
theorem qD_len (vs : List Nat) (rows : List (List Nat × Nat)) : (qD vs rows).length = rows.length := by simp [qD]
def bodyS2 : Ss := (.cons (.aug 5 (.lc (.nm 9) (.bi .rng (.cons (.cst (.int 1)) (.cons (.bin .add (.bi .mn2 (.cons (.cst (.int 20)) (.cons (.bin .sub (.var 8) (.var 6)) (.nil)))) (.cst (.int 1))) (.nil)))) (.cst (.bl true)) (.tup (.cons (.bin .add (.var 7) (.tup (.cons (.var 9) (.cons (.var 4) (.nil))))) (.cons (.bin .sub (.var 8) (.var 9)) (.nil)))))) (.nil))
def bodyS : Ss := (.cons (.par [5, 6] (.cons (.fresh (.lst (.nil))) (.cons (.bin .sub (.bin .sub (.bi .len (.cons (.var 0) (.nil))) (.cst (.int 2))) (.var 3)) (.nil)))) (.cons (.for (.tp (.cons (.nm 7) (.cons (.nm 8) (.nil)))) (.var 2) bodyS2) (.cons (.fz [5] (.asg (.nm 2) (.var 5))) (.nil))))
theorem m_shares_in (n : Nat) (ws : List Nat) (m : Nat) (hl : ws.length = m + 1) (hm : m ≤ 3) (S : Nat) (hS : S ≤ 1000) (B : List D) :
    Pz.run tb (n + 1) 45 [.tup (nD ws), .int (S : Nat)] B = .ok (.lst (rD ((allB m S).map (wvn ws))), B) := by
  rw [run_succ (h := hb.h_shares_in) (hl := rfl)]
  have l0 : 0 ≤ ln := by show 0 ≤ 16777216; omega
  have l1 : 1 ≤ ln := by show 1 ≤ 16777216; omega
  have l2 : 2 ≤ ln := by show 2 ≤ 16777216; omega
  have hp3 : ∀ j, j ≤ 3 → (20 : Nat) ^ j ≤ 8000 := fun j hj => Nat.le_trans (Nat.pow_le_pow_right (by omega) hj) (by decide)
  have hnl : ((nD ws).length : Int) = (m : Int) + 1 := by rw [nD_len, hl]; omega
  have hel : (enmL (nD (ws.drop 1))).length = m := by simp [enmL, nD, hl]
  obtain ⟨σ', B', ⟨x3, x4, x5, x6, x7, x8, rfl, rfl⟩, e⟩ := for_inv (f := forB (Pz.run tb n) (.tp (.cons (.nm 3) (.cons (.nm 4) (.nil)))) bodyS) (σ := [.val (.tup (nD ws)), .val (.int (S : Nat)), .val (.lst (qD (ws.take (0 + 1)) (rowsQ m S 0))), .no, .no, .no, .no, .no, .no, .no]) (B := B) (enmL (nD (ws.drop 1)))
    (fun j σ B' => ∃ x3 x4 x5 x6 x7 x8, σ = [.val (.tup (nD ws)), .val (.int (S : Nat)), .val (.lst (qD (ws.take (j + 1)) (rowsQ m S j))), x3, x4, x5, x6, x7, x8, .no] ∧ B' = B)
    ⟨_, _, _, _, _, _, rfl, rfl⟩ (by
      rintro j hj σ B ⟨x3, x4, x5, x6, x7, x8, rfl, rfl⟩
      have hj' : j < m := by rw [hel] at hj; exact hj
      have hjw : j + 1 < ws.length := by omega
      have hitem : (enmL (nD (ws.drop 1)))[j] = .tup [.int (j : Nat), .int (ws[j + 1] : Nat)] := by
        simp [enmL, nD, Nat.add_comm]
      rw [hitem]
      obtain ⟨w, hw⟩ : ∃ w, ws[j + 1] = w := ⟨_, rfl⟩
      have htk : ws.take (j + 1 + 1) = ws.take (j + 1) ++ [w] := by rw [List.take_succ_eq_append_getElem hjw, hw]
      rw [hw, rowsQ]
      obtain ⟨k, hk⟩ : ∃ k, m - 1 - j = k := ⟨_, rfl⟩
      have hkI : (m : Int) + 1 - 2 - (j : Nat) = (k : Nat) := by omega
      rw [hk, htk]
      obtain ⟨vs, hvs⟩ : ∃ vs, ws.take (j + 1) = vs := ⟨_, rfl⟩
      have hvl : vs.length = j + 1 := by rw [← hvs, List.length_take]; omega
      have hrm := rowsQ_mem m S j
      have hrl := rowsQ_len m S j
      obtain ⟨rows, hrows⟩ : ∃ rows, rowsQ m S j = rows := ⟨_, rfl⟩
      rw [hrows] at hrm hrl
      rw [hvs, hrows]
      have hrl2 : rows.length ≤ 8000 := Nat.le_trans hrl (hp3 j (by omega))
      obtain ⟨σ2, B2, ⟨x7', x8', rfl, rfl⟩, e2⟩ := for_inv (f := forB (Pz.run tb n) (.tp (.cons (.nm 7) (.cons (.nm 8) (.nil)))) bodyS2) (σ := [.val (.tup (nD ws)), .val (.int (S : Nat)), .val (.lst (qD vs rows)), .val (.int (j : Nat)), .val (.int (w : Nat)), .own (.lst (qD (vs ++ [w]) (stepQ k (rows.take 0)))), .val (.int (k : Nat)), x7, x8, .no]) (B := B) (qD vs rows)
        (fun i σ B' => ∃ x7 x8, σ = [.val (.tup (nD ws)), .val (.int (S : Nat)), .val (.lst (qD vs rows)), .val (.int (j : Nat)), .val (.int (w : Nat)), .own (.lst (qD (vs ++ [w]) (stepQ k (rows.take i)))), .val (.int (k : Nat)), x7, x8, .no] ∧ B' = B)
        ⟨_, _, rfl, rfl⟩ (by
          rintro i hi σ B ⟨x7, x8, rfl, rfl⟩
          have hi' : i < rows.length := by rw [qD_len] at hi; exact hi
          have hit : (qD vs rows)[i] = .tup [.tup (nD (wvn vs rows[i].1)), .int (rows[i].2 : Nat)] := by simp [qD]
          rw [hit, List.take_succ_eq_append_getElem hi']
          obtain ⟨⟨cs, l⟩, hcl⟩ : ∃ p, rows[i] = p := ⟨_, rfl⟩
          obtain ⟨h1, h2⟩ := hrm rows[i] (List.getElem_mem hi')
          rw [hcl] at h1 h2 ⊢
          have h1 : cs.length = j := h1
          have h2 : l ≤ S := h2
          obtain ⟨new, hnew⟩ : ∃ new, new = (List.range (min 20 (l - k))).map fun i => (cs ++ [i + 1], l - (i + 1)) := ⟨_, rfl⟩
          have hst : stepQ k (rows.take i ++ [(cs, l)]) = stepQ k (rows.take i) ++ new := by
            unfold stepQ
            rw [List.flatMap_append, List.flatMap_cons, List.flatMap_nil, List.append_nil, hnew]
          have hqa : qD (vs ++ [w]) (stepQ k (rows.take i ++ [(cs, l)])) = qD (vs ++ [w]) (stepQ k (rows.take i)) ++ qD (vs ++ [w]) new := by
            rw [hst]; simp [qD]
          have hr : rngL 1 ((if (l : Int) - k < 20 then (l : Int) - k else 20) + 1) = (List.range (min 20 (l - k))).map fun i : Nat => .int (1 + (i : Nat)) := by
            unfold rngL
            rw [show ((if (l : Int) - k < 20 then (l : Int) - k else 20) + 1 - 1).toNat = min 20 (l - k) by split <;> omega]
          have hbd : bnd ((if (l : Int) - k < 20 then (l : Int) - k else 20) + 1) = true := bnd_of (by split <;> omega) (by split <;> omega)
          have hb1 : bnd 1 = true := bnd_of (by omega) (by omega)
          have l5 : lcLoop (Pz.turn (Pz.run tb n) [.val (.tup (nD ws)), .val (.int (S : Nat)), .val (.lst (qD vs rows)), .val (.int (j : Nat)), .val (.int (w : Nat)), .own (.lst (qD (vs ++ [w]) (stepQ k (rows.take i)))), .val (.int (k : Nat)), .val (.tup (nD (wvn vs cs))), .val (.int (l : Nat)), .no] (.nm 9) (.cst (.bl true)) (.tup (.cons (.bin .add (.var 7) (.tup (.cons (.var 9) (.cons (.var 4) (.nil))))) (.cons (.bin .sub (.var 8) (.var 9)) (.nil))))) ((List.range (min 20 (l - k))).map fun i : Nat => .int (1 + (i : Nat))) B
              = .ok (qD (vs ++ [w]) new, B) := by
            have : qD (vs ++ [w]) new = (List.range (min 20 (l - k))).map fun i : Nat => D.tup [.tup (nD (wvn vs cs) ++ [.int (1 + (i : Nat)), .int (w : Nat)]), .int ((l : Int) - (1 + (i : Nat)))] := by
              rw [hnew]
              unfold qD
              rw [List.map_map]
              refine List.map_congr_left fun i hi => ?_
              have hi := List.mem_range.1 hi
              show D.tup [.tup (nD (wvn (vs ++ [w]) (cs ++ [i + 1]))), .int ((l - (i + 1) : Nat) : Int)] = _
              rw [wvn_snoc (by omega), nD_app, show ((l - (i + 1) : Nat) : Int) = (l : Int) - (1 + (i : Nat)) by omega]
              show D.tup [.tup (nD (wvn vs cs) ++ [.int ((i + 1 : Nat) : Int), .int (w : Nat)]), _] = _
              rw [show ((i + 1 : Nat) : Int) = 1 + (i : Nat) by omega]
            rw [this]
            refine lcLoop_all (c := fun i : Nat => D.int (1 + (i : Nat))) (g := fun i : Nat => D.tup [.tup (nD (wvn vs cs) ++ [.int (1 + (i : Nat)), .int (w : Nat)]), .int ((l : Int) - (1 + (i : Nat)))]) fun i _ => ?_
            have hml := wvn_len (ws := vs) (bs := cs) (by omega)
            have k1 : (nD (wvn vs cs)).length + 2 ≤ ln := by show _ ≤ 16777216; rw [nD_len, hml]; omega
            simp -implicitDefEqProofs [turn_eq, wipeS, Tg.names, k1, l2]
          have hln : min 20 (l - k) ≤ ln := by show _ ≤ 16777216; omega
          have hnl2 : new.length ≤ 20 := by rw [hnew]; simp; omega
          have hsl : (stepQ k (rows.take i)).length ≤ 160000 := by
            unfold stepQ
            refine Nat.le_trans (flat_len (b := 20) fun p _ => by rw [List.length_map, List.length_range]; omega) ?_
            rw [List.length_take]; omega
          have hln2 : (qD (vs ++ [w]) (stepQ k (rows.take i))).length + (qD (vs ++ [w]) new).length ≤ ln := by show _ ≤ 16777216; rw [qD_len, qD_len]; omega
          refine ⟨_, _, ⟨.val (.tup (nD (wvn vs cs))), .val (.int (l : Nat)), rfl, rfl⟩, ?_⟩
          rw [hqa]
          simp -implicitDefEqProofs [bodyS2, hr, hbd, hb1, hln, l5, augD, hln2])
      rw [qD_len, List.take_length] at e2
      have e2 : forLoop (forB (Pz.run tb n) (.tp (.cons (.nm 7) (.cons (.nm 8) (.nil)))) bodyS2) (qD vs rows) [.val (.tup (nD ws)), .val (.int (S : Nat)), .val (.lst (qD vs rows)), .val (.int (j : Nat)), .val (.int (w : Nat)), .own (.lst []), .val (.int (k : Nat)), x7, x8, .no] B2 = _ := e2
      refine ⟨_, _, ⟨.val (.int (j : Nat)), .val (.int (w : Nat)), .val (.lst (qD (vs ++ [w]) (stepQ k rows))), .val (.int (k : Nat)), x7', x8', rfl, rfl⟩, ?_⟩
      simp -implicitDefEqProofs [bodyS, hnl, hkI, e2, l0, frzAt, frzS])
  rw [hel] at e
  have c1 : cutL (nD ws) (some 1) none = nD (ws.drop 1) := by
    have := cutL_from (nD ws) 1
    rw [nD_drop] at this
    exact this
  have c2 : cutL (nD ws) none (some 1) = nD (ws.take 1) := by
    have := cutL_to (nD ws) 1
    rw [nD_take] at this
    exact this
  have hmk0 : wvn (ws.take 1) [] = ws.take 1 := by
    cases ws with
    | nil => simp at hl
    | cons w ws => rfl
  have hq0 : qD (ws.take (0 + 1)) (rowsQ m S 0) = [.tup [.tup (nD (ws.take 1)), .int (S : Nat)]] := by
    show [D.tup [.tup (nD (wvn (ws.take 1) [])), .int (S : Nat)]] = _
    rw [hmk0]
  rw [hq0] at e
  have htm : ws.take (m + 1) = ws := by rw [← hl]; exact List.take_length
  rw [htm] at e
  have hfin : ∀ y3 y4 y5 y6 y7 y8 : Sl, lcLoop (Pz.turn (Pz.run tb n) [.val (.tup (nD ws)), .val (.int (S : Nat)), .val (.lst (qD ws (rowsQ m S m))), y3, y4, y5, y6, y7, y8, .no] (.tp (.cons (.nm 7) (.cons (.nm 8) (.nil)))) (.cmp .eq (.var 8) (.cst (.int 0))) (.var 7)) (qD ws (rowsQ m S m)) B'
      = .ok (rD ((allB m S).map (wvn ws)), B') := by
    intro y3 y4 y5 y6 y7 y8
    have : rD ((allB m S).map (wvn ws)) = ((rowsQ m S m).filter fun p => decide (p.2 = 0)).map fun p => D.tup (nD (wvn ws p.1)) := by
      rw [← rowsQ_all]
      unfold rD
      rw [List.map_map, List.map_map]; rfl
    rw [this]
    refine lcLoop_some (c := fun p : List Nat × Nat => D.tup [.tup (nD (wvn ws p.1)), .int (p.2 : Nat)]) (g := fun p => D.tup (nD (wvn ws p.1))) (t := fun p => decide (p.2 = 0)) fun p _ => ?_
    by_cases g : p.2 = 0
    · have g' : (p.2 : Int) = 0 := by omega
      simp -implicitDefEqProofs [turn_eq, wipeS, Tg.names, Tgs.names, g, g']
    · have g' : ¬ (p.2 : Int) = 0 := by omega
      simp -implicitDefEqProofs [turn_eq, wipeS, Tg.names, Tgs.names, g, g']
  have hlnF : (qD ws (rowsQ m S m)).length ≤ ln := by show _ ≤ 16777216; rw [qD_len]; have := rowsQ_len m S m; have := hp3 m hm; omega
  unfold bodyS bodyS2 at e
  simp -implicitDefEqProofs [b_shares_in, Pz.start, c1, c2, e, hfin, hlnF, l1, l2, frzAll, frzS, -List.drop_one]
end Sp
end
section
set_option linter.all false
set_option maxRecDepth 100000
open Pz
namespace Sp
variable {tb : Nat → Option Fd} [hb : Has tb]
/-! ### the calm line -/
def bps (row : List Nat) : List (Nat × Nat) := prs row (row.length / 2)
def hits (row above : List Nat) (r : Nat) : List (Nat × Nat) := (bps row).filter fun p => (bps above).any fun q => meet p q r
def key (ws above : List Nat) (r : Nat) (bs : List Nat) : D := .tup [.int ((hits (wvn ws bs) above r).length : Nat), .int (sq bs : Nat), .tup (nD (wvn ws bs))]
theorem ord_nD : ∀ l : List Nat, D.ordL (nD l) = true
  | [] => rfl
  | a :: l => by show (true && D.ordL (nD l)) = true; rw [ord_nD l]; rfl
theorem cmpL_nD : ∀ x y : List Nat, D.cmpL (nD x) (nD y) = true
  | [], _ => by simp [nD, D.cmpL]
  | _ :: _, [] => by simp [nD, D.cmpL]
  | a :: x, b :: y => by
    show ((D.eqv (.int (a : Nat)) (.int (b : Nat)) || true) && D.cmpL (nD x) (nD y)) = true
    rw [cmpL_nD x y, Bool.or_true]; rfl
theorem key_ordL (ws above : List Nat) (r : Nat) : ∀ L : List (List Nat), D.ordL (L.map (key ws above r)) = true
  | [] => rfl
  | bs :: L => by
    show ((true && (true && (D.ordL (nD (wvn ws bs)) && true))) && D.ordL (L.map (key ws above r))) = true
    rw [ord_nD, key_ordL ws above r L]; rfl
theorem key_cmp (ws above : List Nat) (r : Nat) (a b : List Nat) : D.cmp (key ws above r a) (key ws above r b) = true := by
  show ((D.eqv (.int ((hits (wvn ws a) above r).length : Nat)) (.int ((hits (wvn ws b) above r).length : Nat)) || true) && ((D.eqv (.int (sq a : Nat)) (.int (sq b : Nat)) || true) && ((D.eqvL (nD (wvn ws a)) (nD (wvn ws b)) || D.cmpL (nD (wvn ws a)) (nD (wvn ws b))) && true))) = true
  rw [cmpL_nD]
  simp
theorem key_depL (ws above : List Nat) (r : Nat) : ∀ L : List (List Nat), D.depL (L.map (key ws above r)) ≤ 2
  | [] => Nat.zero_le _
  | bs :: L => by
    show max (max 0 (max 0 (max (D.depL (nD (wvn ws bs)) + 1) 0)) + 1) (D.depL (L.map (key ws above r))) ≤ 2
    have := key_depL ws above r L
    rw [nD_dep]
    omega
theorem key_min {ws above : List Nat} {r : Nat} {L : List (List Nat)} (h : L ≠ []) : ∃ bs ∈ L, bi_mng [.lst (L.map (key ws above r))] = some (key ws above r bs) := by
  cases L with
  | nil => exact absurd rfl h
  | cons b L =>
    have hok : ordOk ((b :: L).map (key ws above r)) = true := by
      unfold ordOk
      rw [key_ordL]
      have h1 : cmpAll ((b :: L).map (key ws above r)) = true := by unfold cmpAll; simp [key_cmp]
      rw [h1]
      have := key_depL ws above r (b :: L)
      simp only [Bool.true_and, decide_eq_true_eq]
      omega
    have hm : ∀ (L : List (List Nat)) (b : List Nat), ∃ c ∈ b :: L, (L.map (key ws above r)).foldl mnF (key ws above r b) = key ws above r c := by
      intro L
      induction L with
      | nil => intro b; exact ⟨b, by simp, rfl⟩
      | cons d L ih =>
        intro b
        rw [List.map_cons, List.foldl_cons]
        have : mnF (key ws above r b) (key ws above r d) = key ws above r (if D.ltb (key ws above r d) (key ws above r b) = true then d else b) := by unfold mnF; split <;> rfl
        rw [this]
        obtain ⟨c, hc, e⟩ := ih (if D.ltb (key ws above r d) (key ws above r b) = true then d else b)
        refine ⟨c, ?_, e⟩
        rcases List.mem_cons.1 hc with hc | hc
        · rw [hc]; split <;> simp
        · simp [hc]
    obtain ⟨c, hc, e⟩ := hm L b
    refine ⟨c, hc, ?_⟩
    show (if ordOk ((b :: L).map (key ws above r)) then some ((L.map (key ws above r)).foldl mnF (key ws above r b)) else none) = _
    rw [if_pos hok, e]
def bodyC : Ss := (.cons (.asg (.nm 6) (.lc (.nm 7) (.call 17 (.cons (.var 5) (.nil))) (.bi .any (.cons (.lc (.nm 8) (.call 17 (.cons (.var 2) (.nil))) (.cst (.bl true)) (.call 18 (.cons (.var 7) (.cons (.var 8) (.cons (.var 3) (.nil)))))) (.nil))) (.cst (.int 1)))) (.cons (.app 4 (.tup (.cons (.bi .len (.cons (.var 6) (.nil))) (.cons (.call 44 (.cons (.var 5) (.nil))) (.cons (.var 5) (.nil)))))) (.nil)))
theorem m_calm_line (n : Nat) (ws : List Nat) (x : Nat) (h : okX ws x) (h4 : ws.length ≤ 4) (hS : x - ws.sum ≤ 60) (wa ba : List Nat) (ha : wa.length = ba.length + 1) (ha12 : wa.length ≤ 12) (hwa : ∀ w ∈ wa, 1 ≤ w ∧ w ≤ 30) (hba : ∀ b ∈ ba, 1 ≤ b ∧ b ≤ 20) (r : Nat) (hr : r ≤ 5) (bs : List Nat)
    (hmin : bi_mng [.lst ((allB (ws.length - 1) (x - ws.sum)).map (key ws (wvn wa ba) r))] = some (key ws (wvn wa ba) r bs)) (B : List D) :
    Pz.run tb (n + 5) 49 [.tup (nD ws), .int (x : Nat), .tup (nD (wvn wa ba)), .int (r : Nat)] B = .ok (.tup (nD (wvn ws bs)), B) := by
  rw [show n + 5 = (n + 4) + 1 from rfl, run_succ (h := hb.h_calm_line) (hl := rfl)]
  have h2 := h.w.two
  have hlo := h.lo
  have e1 := m_need_share (tb := tb) n ws x h B
  have e2 := m_fits_row (tb := tb) (n + 1) wa ba ha ha12 hwa hba B
  have e3 := m_fits_whole (tb := tb) (n + 2) r 0 5 B
  have q : decide ((0 : Int) ≤ r ∧ (r : Int) ≤ 5) = true := by simp; omega
  rw [q] at e3
  have e4 := sum_nD ws
  obtain ⟨S, hSe⟩ : ∃ S, x - ws.sum = S := ⟨_, rfl⟩
  have hx : (x : Int) - (ws.sum : Nat) = (S : Nat) := by omega
  rw [hSe] at hS hmin
  obtain ⟨m, hm⟩ : ∃ m, ws.length - 1 = m := ⟨_, rfl⟩
  rw [hm] at hmin
  have e5 := m_shares_in (tb := tb) (n + 3) ws m (by omega) (by omega) S (by omega) B
  have hnl : ((nD ws).length : Int) = ws.length := by rw [nD_len]
  have g1 : ¬ (4 : Int) < ws.length := by omega
  have g1' : ¬ 4 < ws.length := by omega
  have g2 : ¬ (60 : Int) < (S : Nat) := by omega
  have g2' : ¬ 60 < S := by omega
  obtain ⟨above, hab⟩ : ∃ above, wvn wa ba = above := ⟨_, rfl⟩
  have habl : above.length ≤ 23 := by rw [← hab, wvn_len ha]; omega
  rw [hab] at e2 hmin ⊢
  obtain ⟨A, hA⟩ : ∃ A, allB m S = A := ⟨_, rfl⟩
  have hAl : A.length ≤ 8000 := by
    rw [← hA]
    refine Nat.le_trans (allB_len m S) (Nat.le_trans (Nat.pow_le_pow_right (by omega) (show m ≤ 3 by omega)) (by decide))
  have hAm : ∀ cs ∈ A, cs.length = m ∧ ∀ b ∈ cs, 1 ≤ b ∧ b ≤ 20 := fun cs hcs => by
    rw [← hA] at hcs
    obtain ⟨q1, _, q3⟩ := mem_allB.1 hcs
    exact ⟨q1, q3⟩
  rw [hA] at e5 hmin
  have l0 : 0 ≤ ln := by show 0 ≤ 16777216; omega
  have l3 : 3 ≤ ln := by show 3 ≤ 16777216; omega
  obtain ⟨σ', B', ⟨x5, x6, rfl, rfl⟩, e⟩ := for_inv (f := forB (Pz.run tb (n + 4)) (.nm 5) bodyC) (σ := [.val (.tup (nD ws)), .val (.int (x : Nat)), .val (.tup (nD above)), .val (.int (r : Nat)), .own (.lst ((A.take 0).map (key ws above r))), .no, .no, .no, .no]) (B := B) (rD (A.map (wvn ws)))
    (fun i σ B' => ∃ x5 x6, σ = [.val (.tup (nD ws)), .val (.int (x : Nat)), .val (.tup (nD above)), .val (.int (r : Nat)), .own (.lst ((A.take i).map (key ws above r))), x5, x6, .no, .no] ∧ B' = B)
    ⟨_, _, rfl, rfl⟩ (by
      rintro i hi σ B ⟨x5, x6, rfl, rfl⟩
      have hi' : i < A.length := by rw [rD_len, List.length_map] at hi; exact hi
      have hit : (rD (A.map (wvn ws)))[i] = .tup (nD (wvn ws A[i])) := by simp [rD]
      obtain ⟨hc1, hc2⟩ := hAm A[i] (List.getElem_mem hi')
      rw [hit, List.take_succ_eq_append_getElem hi', List.map_append]
      obtain ⟨cs, hcs⟩ : ∃ cs, A[i] = cs := ⟨_, rfl⟩
      rw [hcs] at hc1 hc2 ⊢
      have hml := wvn_len (ws := ws) (bs := cs) (by omega)
      obtain ⟨L, hL⟩ : ∃ L, (A.take i).map (key ws above r) = L := ⟨_, rfl⟩
      have hlt : L.length < ln := by show _ < 16777216; rw [← hL, List.length_map, List.length_take]; omega
      rw [hL]
      have f1 := m_blanks_in (tb := tb) (n + 3) (wvn ws cs) (by omega) B
      have f2 := m_blanks_in (tb := tb) (n + 3) above (by omega) B
      have f3 := m_faults_in (tb := tb) (n + 3) ws cs (by omega) (fun b hb' => by have := hc2 b hb'; omega) (by omega) B
      have hbl : (bps (wvn ws cs)).length ≤ 1000 := by unfold bps; rw [prs_len]; omega
      have hbl2 : (bps above).length ≤ 1000 := by unfold bps; rw [prs_len]; omega
      have f1 : Pz.run tb (n + 4) 17 [.tup (nD (wvn ws cs))] B = .ok (.lst (pD (bps (wvn ws cs))), B) := f1
      have f2 : Pz.run tb (n + 4) 17 [.tup (nD above)] B = .ok (.lst (pD (bps above)), B) := f2
      have q1 : (pD (bps (wvn ws cs))).length ≤ ln := by show _ ≤ 16777216; unfold pD; rw [List.length_map]; omega
      have q2 : (pD (bps above)).length ≤ ln := by show _ ≤ 16777216; unfold pD; rw [List.length_map]; omega
      have l1 : lcLoop (Pz.turn (Pz.run tb (n + 4)) [.val (.tup (nD ws)), .val (.int (x : Nat)), .val (.tup (nD above)), .val (.int (r : Nat)), .own (.lst L), .val (.tup (nD (wvn ws cs))), x6, .no, .no] (.nm 7) (.bi .any (.cons (.lc (.nm 8) (.call 17 (.cons (.var 2) (.nil))) (.cst (.bl true)) (.call 18 (.cons (.var 7) (.cons (.var 8) (.cons (.var 3) (.nil)))))) (.nil))) (.cst (.int 1))) (pD (bps (wvn ws cs))) B
          = .ok ((hits (wvn ws cs) above r).map fun _ => D.int 1, B) := by
        refine lcLoop_some (c := fun p : Nat × Nat => D.tup [.int (p.1 : Nat), .int (p.2 : Nat)]) (g := fun _ => D.int 1) (t := fun p => (bps above).any fun q => meet p q r) fun p _ => ?_
        have l2 : lcLoop (Pz.turn (Pz.run tb (n + 4)) [.val (.tup (nD ws)), .val (.int (x : Nat)), .val (.tup (nD above)), .val (.int (r : Nat)), .own (.lst L), .val (.tup (nD (wvn ws cs))), x6, .val (.tup [.int (p.1 : Nat), .int (p.2 : Nat)]), .no] (.nm 8) (.cst (.bl true)) (.call 18 (.cons (.var 7) (.cons (.var 8) (.cons (.var 3) (.nil)))))) (pD (bps above)) B
            = .ok ((bps above).map fun q => .bl (meet p q r), B) :=
          lcLoop_all (c := fun q : Nat × Nat => D.tup [.int (q.1 : Nat), .int (q.2 : Nat)]) (g := fun q => D.bl (meet p q r)) fun q _ => by
            have := m_do_meet (tb := tb) (n + 3) p q r B
            simp -implicitDefEqProofs [turn_eq, wipeS, Tg.names, this]
        have hb3 : blL ((bps above).map fun q => D.bl (meet p q r)) = some ((bps above).map fun q => meet p q r) := blL_map (fun q => meet p q r) _
        have ha3 : ((bps above).map fun q => meet p q r).any id = (bps above).any fun q => meet p q r := by rw [List.any_map]; rfl
        cases g : (bps above).any fun q => meet p q r with
        | true =>
          rw [g] at ha3
          simp -implicitDefEqProofs [turn_eq, wipeS, Tg.names, f2, q2, l2, hb3, ha3]
        | false =>
          rw [g] at ha3
          simp -implicitDefEqProofs [turn_eq, wipeS, Tg.names, f2, q2, l2, hb3, ha3]
      obtain ⟨k, hk⟩ : ∃ k, (hits (wvn ws cs) above r).length = k := ⟨_, rfl⟩
      have hkey : key ws above r cs = .tup [.int (k : Nat), .int (sq cs : Nat), .tup (nD (wvn ws cs))] := by unfold key; rw [hk]
      have hlk : (((hits (wvn ws cs) above r).map fun _ => D.int 1).length : Int) = (k : Nat) := by rw [List.length_map, hk]
      have f3 : Pz.run tb (n + 4) 44 [.tup (nD (wvn ws cs))] B = .ok (.int (sq cs : Nat), B) := f3
      refine ⟨_, _, ⟨.val (.tup (nD (wvn ws cs))), .val (.lst ((hits (wvn ws cs) above r).map fun _ => D.int 1)), rfl, rfl⟩, ?_⟩
      rw [List.map_cons, List.map_nil, hkey]
      obtain ⟨H, hH⟩ : ∃ H, (hits (wvn ws cs) above r).map (fun _ => D.int 1) = H := ⟨_, rfl⟩
      rw [hH] at l1 hlk ⊢
      simp -implicitDefEqProofs [bodyC, f1, q1, l1, hlk, f3, l3, hlt])
  rw [rD_len, List.length_map, List.take_length] at e
  have e : forLoop _ _ [.val (.tup (nD ws)), .val (.int (x : Nat)), .val (.tup (nD above)), .val (.int (r : Nat)), .own (.lst []), .no, .no, .no, .no] B' = _ := e
  unfold bodyC at e
  have k2 : subD (key ws above r bs) (.int 2) = some (.tup (nD (wvn ws bs))) := rfl
  have kd : ∀ B, drf B (key ws above r bs) = key ws above r bs := fun _ => rfl
  simp -implicitDefEqProofs [b_calm_line, Pz.start, e1, e2, e3, e4, hx, e5, hnl, g1, g1', g2, g2', l0, e, hmin, k2, kd, frzAll, frzS, -bi_sum_tup]
end Sp
end
section
set_option linter.all false
set_option maxRecDepth 100000
open Pz
namespace Sp
variable {tb : Nat → Option Fd} [hb : Has tb]
theorem m_fits_lines (n : Nat) (ws bs : List Nat) (h : ws.length = bs.length + 1) (h12 : ws.length ≤ 12) (hw : ∀ w ∈ ws, 1 ≤ w ∧ w ≤ 30) (hbs : ∀ b ∈ bs, 1 ≤ b ∧ b ≤ 20) (B : List D) :
    Pz.run tb (n + 4) 14 [.tup [.tup (nD (wvn ws bs))]] B = .ok (.bl true, B) := by
  rw [show n + 4 = (n + 3) + 1 from rfl, run_succ (h := hb.h_fits_lines) (hl := rfl)]
  have e1 := m_is_tuple_of (tb := tb) (n + 2) [.tup (nD (wvn ws bs))] 0 12 B
  have q : decide ((0 : Int) ≤ ([D.tup (nD (wvn ws bs))] : List D).length ∧ (([D.tup (nD (wvn ws bs))] : List D).length : Int) ≤ 12) = true := by simp
  rw [q] at e1
  have e2 := m_fits_row (tb := tb) n ws bs h h12 hw hbs B
  have l1 : 1 ≤ ln := by show 1 ≤ 16777216; omega
  have hl : lcLoop (Pz.turn (Pz.run tb (n + 3)) [.val (.tup [.tup (nD (wvn ws bs))]), .no] (.nm 1) (.cst (.bl true)) (.call 13 (.cons (.var 1) (.nil)))) ([wvn ws bs].map fun r => D.tup (nD r)) B = .ok ([wvn ws bs].map fun _ => .bl true, B) :=
    lcLoop_all fun r hr => by
      have : r = wvn ws bs := by simpa using hr
      subst this
      simp -implicitDefEqProofs [turn_eq, wipeS, Tg.names, e2]
  have hl : lcLoop (Pz.turn (Pz.run tb (n + 3)) [.val (.tup [.tup (nD (wvn ws bs))]), .no] (.nm 1) (.cst (.bl true)) (.call 13 (.cons (.var 1) (.nil)))) [.tup (nD (wvn ws bs))] B = .ok ([.bl true], B) := hl
  have hb1 : blL [.bl true] = some [true] := rfl
  simp -implicitDefEqProofs [b_fits_lines, Pz.start, e1, hl, l1, hb1, frzAll, frzS]
theorem m_are_lines (n : Nat) (ws bs : List Nat) (h : ws.length = bs.length + 1) (h12 : ws.length ≤ 12) (hw : ∀ w ∈ ws, 1 ≤ w ∧ w ≤ 30) (hbs : ∀ b ∈ bs, 1 ≤ b ∧ b ≤ 20) (B : List D) :
    Pz.run tb (n + 5) 23 [.tup [.tup (nD (wvn ws bs))]] B = .ok (.bl true, B) := by
  rw [show n + 5 = (n + 4) + 1 from rfl, run_succ (h := hb.h_are_lines) (hl := rfl)]
  have e := m_fits_lines (tb := tb) n ws bs h h12 hw hbs B
  simp -implicitDefEqProofs [b_are_lines, Pz.start, e, frzAll, frzS]
theorem m_line_width (n : Nat) (ws bs : List Nat) (h : ws.length = bs.length + 1) (h12 : ws.length ≤ 12) (hw : ∀ w ∈ ws, 1 ≤ w ∧ w ≤ 30) (hbs : ∀ b ∈ bs, 1 ≤ b ∧ b ≤ 20) (B : List D) :
    Pz.run tb (n + 6) 24 [.tup (nD (wvn ws bs))] B = .ok (.int (ws.sum + bs.sum : Nat), B) := by
  rw [show n + 6 = (n + 5) + 1 from rfl, run_succ (h := hb.h_line_width) (hl := rfl)]
  have e := m_fits_lines (tb := tb) n ws bs h h12 hw hbs B
  have e2 : Pz.run tb (n + 5) 15 [.tup [.tup (nD (wvn ws bs))]] B = .ok (.non, B) := by
    rw [show n + 5 = (n + 4) + 1 from rfl, run_succ (h := hb.h_need_lines) (hl := rfl)]
    simp -implicitDefEqProofs [b_need_lines, Pz.start, e]
  have e3 := sum_nD (wvn ws bs)
  rw [wvn_sum h] at e3
  obtain ⟨y, hy⟩ : ∃ y, ws.sum + bs.sum = y := ⟨_, rfl⟩
  rw [hy] at e3 ⊢
  have l1 : 1 ≤ ln := by show 1 ≤ 16777216; omega
  simp -implicitDefEqProofs [b_line_width, Pz.start, e2, e3, l1, frzAll, frzS, -bi_sum_tup]
/-- a random set line -/
theorem m_law_set (n : Nat) (words : Nat) (h0 : 0 < words) (h12 : words ≤ 12) (B : List D) (hB : okB B) :
    ∃ ws bs B', ws.length = bs.length + 1 ∧ ws.length ≤ 12 ∧ (∀ w ∈ ws, 1 ≤ w ∧ w ≤ 30) ∧ (∀ b ∈ bs, 1 ≤ b ∧ b ≤ 20) ∧ okB B' ∧ Pz.run tb (n + 3) 29 [.box 0, .int (words : Nat)] B = .ok (.tup (nD (wvn ws bs)), B') := by
  obtain ⟨v, B1, hv, hB1, e1⟩ := hb.roll_ (n + 2) B 6 (by omega) (by omega) (by omega) hB
  obtain ⟨k, B2, hk, hB2, e2⟩ := hb.roll_ (n + 2) B1 (words : Nat) (by omega) (by omega) (by omega) hB1
  have l1 : 1 ≤ ln := by show 1 ≤ 16777216; omega
  have l2 : 2 ≤ ln := by show 2 ≤ 16777216; omega
  have l4 : 4 ≤ ln := by show 4 ≤ 16777216; omega
  obtain ⟨σ', B3, ⟨x3, ws, bs, rfl, q1, q2, q3, q4, hB3⟩, e⟩ := for_inv (f := forB (Pz.run tb (n + 2)) (.nm 3) (.cons (.asg (.nm 2) (.bin .add (.var 2) (.tup (.cons (.bin .add (.cst (.int 1)) (.call 1 (.cons (.var 0) (.cons (.lst (.cons (.cst (.int 0)) (.cons (.cst (.int 0)) (.cons (.cst (.int 1)) (.cons (.call 0 (.cons (.var 0) (.cons (.cst (.int 5)) (.nil)))) (.nil)))))) (.nil))))) (.cons (.bin .add (.cst (.int 1)) (.call 0 (.cons (.var 0) (.cons (.cst (.int 6)) (.nil))))) (.nil)))))) (.nil))) (σ := [.val (.box 0), .val (.int (words : Nat)), .val (.tup (nD (wvn [v + 1] []))), .no]) (B := B2) ((List.range k).map fun k : Nat => .int (k : Nat))
    (fun i σ B' => ∃ x3 ws bs, σ = [.val (.box 0), .val (.int (words : Nat)), .val (.tup (nD (wvn ws bs))), x3] ∧ bs.length = i ∧ ws.length = bs.length + 1 ∧ (∀ w ∈ ws, 1 ≤ w ∧ w ≤ 30) ∧ (∀ b ∈ bs, 1 ≤ b ∧ b ≤ 20) ∧ okB B')
    ⟨_, [v + 1], [], rfl, rfl, rfl, by simp; omega, by simp, hB2⟩ (by
      rintro i hi σ B ⟨x3, ws, bs, rfl, q1, q2, q3, q4, hB⟩
      have hi' : i < k := by simpa using hi
      rw [List.getElem_map, List.getElem_range]
      obtain ⟨a, C1, ha, hC1, f1⟩ := hb.roll_ (n + 2) B 5 (by omega) (by omega) (by omega) hB
      obtain ⟨c, C2, hc, hC2, f2⟩ := some_l hb.some_ hb.roll_ (n + 2) (by omega) C1 [.int 0, .int 0, .int 1, .int (a : Nat)] (by simp) (by simp) hC1
      obtain ⟨b, hb5, rfl⟩ : ∃ b : Nat, b ≤ 4 ∧ c = .int (b : Nat) := by
        simp only [List.mem_cons, List.not_mem_nil, or_false] at hc
        rcases hc with rfl | rfl | rfl | rfl
        · exact ⟨0, by omega, rfl⟩
        · exact ⟨0, by omega, rfl⟩
        · exact ⟨1, by omega, rfl⟩
        · exact ⟨a, by omega, rfl⟩
      obtain ⟨w, C3, hw, hC3, f3⟩ := hb.roll_ (n + 2) C2 6 (by omega) (by omega) (by omega) hC2
      have hml := wvn_len q2
      have k1 : (nD (wvn ws bs)).length + 2 ≤ ln := by show _ ≤ 16777216; rw [nD_len, hml]; omega
      have hs : nD (wvn (ws ++ [w + 1]) (bs ++ [b + 1])) = nD (wvn ws bs) ++ [.int (1 + (b : Nat)), .int (1 + (w : Nat))] := by
        rw [wvn_snoc q2, nD_app]
        show _ ++ [D.int ((b + 1 : Nat) : Int), D.int ((w + 1 : Nat) : Int)] = _
        rw [show ((b + 1 : Nat) : Int) = 1 + (b : Nat) by omega, show ((w + 1 : Nat) : Int) = 1 + (w : Nat) by omega]
      refine ⟨_, C3, ⟨.val (.int (i : Nat)), ws ++ [w + 1], bs ++ [b + 1], rfl, by simp [q1], by simp [q2], fun x hx => ?_, fun x hx => ?_, hC3⟩, ?_⟩
      · rcases List.mem_append.1 hx with h | h
        · exact q3 x h
        · have : x = w + 1 := by simpa using h
          omega
      · rcases List.mem_append.1 hx with h | h
        · exact q4 x h
        · have : x = b + 1 := by simpa using h
          omega
      · rw [hs]
        simp -implicitDefEqProofs [f1, f2, f3, k1, l2, l4])
  rw [List.length_map, List.length_range] at q1
  refine ⟨ws, bs, B3, q2, by omega, q3, q4, hB3, ?_⟩
  have hbd : bnd (k : Int) = true := bnd_of (by omega) (by omega)
  have e : forLoop _ _ [.val (.box 0), .val (.int (words : Nat)), .val (.tup [.int ((v + 1 : Nat) : Int)]), .no] B2 = _ := e
  rw [show ((v + 1 : Nat) : Int) = 1 + (v : Nat) by omega] at e
  rw [show n + 3 = (n + 2) + 1 from rfl, run_succ (h := hb.h__law_set) (hl := rfl)]
  simp -implicitDefEqProofs [b__law_set, Pz.start, e1, e2, l1, hbd, rngL_nat, e, frzAll, frzS]
end Sp
end
section
set_option linter.all false
set_option maxRecDepth 100000
open Pz
namespace Sp
variable {tb : Nat → Option Fd} [hb : Has tb]
theorem cmp_nD (l : List Nat) : cmpAll (nD l) = true := by
  unfold cmpAll nD
  simp [D.cmp]
theorem ok_nD (l : List Nat) : ordOk (nD l) = true := by unfold ordOk; rw [ord_nD, cmp_nD]; simp [nD_dep]
theorem mnF_nat (a b : Nat) : mnF (.int (a : Nat)) (.int (b : Nat)) = .int (min a b : Nat) := by
  unfold mnF
  show (if decide ((b : Int) < (a : Nat)) = true then D.int (b : Nat) else .int (a : Nat)) = _
  by_cases g : (b : Int) < (a : Nat)
  · rw [if_pos (by simpa using g), Nat.min_eq_right (by omega)]
  · rw [if_neg (by simpa using g), Nat.min_eq_left (by omega)]
theorem mxF_nat (a b : Nat) : mxF (.int (a : Nat)) (.int (b : Nat)) = .int (max a b : Nat) := by
  unfold mxF
  show (if decide ((a : Int) < (b : Nat)) = true then D.int (b : Nat) else .int (a : Nat)) = _
  by_cases g : (a : Int) < (b : Nat)
  · rw [if_pos (by simpa using g), Nat.max_eq_right (by omega)]
  · rw [if_neg (by simpa using g), Nat.max_eq_left (by omega)]
theorem fold_mn : ∀ (l : List Nat) (a : Nat), (nD l).foldl mnF (.int (a : Nat)) = .int (l.foldl min a : Nat)
  | [], a => rfl
  | b :: l, a => by
    show (nD l).foldl mnF (mnF (.int (a : Nat)) (.int (b : Nat))) = _
    rw [mnF_nat, fold_mn l, List.foldl_cons]
theorem fold_mx : ∀ (l : List Nat) (a : Nat), (nD l).foldl mxF (.int (a : Nat)) = .int (l.foldl max a : Nat)
  | [], a => rfl
  | b :: l, a => by
    show (nD l).foldl mxF (mxF (.int (a : Nat)) (.int (b : Nat))) = _
    rw [mxF_nat, fold_mx l, List.foldl_cons]
theorem min_spec : ∀ (l : List Nat) (a : Nat), l.foldl min a ∈ a :: l ∧ ∀ x ∈ a :: l, l.foldl min a ≤ x
  | [], a => by simp
  | b :: l, a => by
    obtain ⟨h1, h2⟩ := min_spec l (min a b)
    rw [List.foldl_cons]
    have h3 := h2 (min a b) (by simp)
    refine ⟨?_, fun x hx => ?_⟩
    · rcases List.mem_cons.1 h1 with e | e
      · rw [e]
        by_cases g : a ≤ b
        · rw [Nat.min_eq_left g]; simp
        · rw [Nat.min_eq_right (by omega)]; simp
      · simp [e]
    · rcases List.mem_cons.1 hx with rfl | hx
      · omega
      · rcases List.mem_cons.1 hx with rfl | hx
        · omega
        · exact h2 x (by simp [hx])
theorem max_spec : ∀ (l : List Nat) (a : Nat), l.foldl max a ∈ a :: l ∧ ∀ x ∈ a :: l, x ≤ l.foldl max a
  | [], a => by simp
  | b :: l, a => by
    obtain ⟨h1, h2⟩ := max_spec l (max a b)
    rw [List.foldl_cons]
    have h3 := h2 (max a b) (by simp)
    refine ⟨?_, fun x hx => ?_⟩
    · rcases List.mem_cons.1 h1 with e | e
      · rw [e]
        by_cases g : a ≤ b
        · rw [Nat.max_eq_right g]; simp
        · rw [Nat.max_eq_left (by omega)]; simp
      · simp [e]
    · rcases List.mem_cons.1 hx with rfl | hx
      · omega
      · rcases List.mem_cons.1 hx with rfl | hx
        · omega
        · exact h2 x (by simp [hx])
def mnL (l : List Nat) : Nat := match l with | [] => 0 | a :: l => l.foldl min a
def mxL (l : List Nat) : Nat := match l with | [] => 0 | a :: l => l.foldl max a
theorem mnL_spec {l : List Nat} (h : l ≠ []) : mnL l ∈ l ∧ ∀ x ∈ l, mnL l ≤ x := by
  cases l with
  | nil => exact absurd rfl h
  | cons a l => exact min_spec l a
theorem mxL_spec {l : List Nat} (h : l ≠ []) : mxL l ∈ l ∧ ∀ x ∈ l, x ≤ mxL l := by
  cases l with
  | nil => exact absurd rfl h
  | cons a l => exact max_spec l a
theorem mng_tup {l : List Nat} (h : l ≠ []) : bi_mng [.tup (nD l)] = some (.int (mnL l : Nat)) := by
  cases l with
  | nil => exact absurd rfl h
  | cons a l =>
    show (if ordOk (nD (a :: l)) then some ((nD l).foldl mnF (.int (a : Nat))) else none) = _
    rw [if_pos (ok_nD _), fold_mn]; rfl
theorem mxg_tup {l : List Nat} (h : l ≠ []) : bi_mxg [.tup (nD l)] = some (.int (mxL l : Nat)) := by
  cases l with
  | nil => exact absurd rfl h
  | cons a l =>
    show (if ordOk (nD (a :: l)) then some ((nD l).foldl mxF (.int (a : Nat))) else none) = _
    rw [if_pos (ok_nD _), fold_mx]; rfl
theorem mng_lst {l : List Nat} (h : l ≠ []) : bi_mng [.lst (nD l)] = some (.int (mnL l : Nat)) := by
  cases l with
  | nil => exact absurd rfl h
  | cons a l =>
    show (if ordOk (nD (a :: l)) then some ((nD l).foldl mnF (.int (a : Nat))) else none) = _
    rw [if_pos (ok_nD _), fold_mn]; rfl
theorem mnL_of {l : List Nat} {m : Nat} (h : m ∈ l) (h2 : ∀ x ∈ l, m ≤ x) : mnL l = m := by
  obtain ⟨h3, h4⟩ := mnL_spec (l := l) (fun e => by rw [e] at h; cases h)
  have := h4 m h
  have := h2 _ h3
  omega
/-- blanks that differ by one at most -/
theorem even_iff {bs : List Nat} (h : bs ≠ []) : mxL bs - mnL bs < 2 ↔ ∃ c ∈ bs, ∀ b ∈ bs, b = c ∨ b = c + 1 := by
  obtain ⟨h1, h2⟩ := mnL_spec h
  obtain ⟨h3, h4⟩ := mxL_spec h
  constructor
  · intro g
    refine ⟨mnL bs, h1, fun b hb => ?_⟩
    have := h2 b hb
    have := h4 b hb
    omega
  · rintro ⟨c, hc, h5⟩
    have := h2 c hc
    have e1 := h5 _ h1
    have e2 := h5 _ h3
    omega
theorem lcLoop_thr {α γ : Type} {f : D → List D → Rs (Option D × List D)} {c : α → D} {P : List D → Prop} {Q : γ → Prop} {g : γ → D} : ∀ {l : List α} {B : List D}, (∀ a ∈ l, ∀ B, P B → ∃ d B', Q d ∧ P B' ∧ f (c a) B = .ok (some (g d), B')) → P B → ∃ (ds : List γ) (B' : List D), (∀ d ∈ ds, Q d) ∧ ds.length = l.length ∧ P B' ∧ lcLoop f (l.map c) B = .ok (ds.map g, B')
  | [], B, _, h => ⟨[], B, by simp, rfl, h, rfl⟩
  | a :: l, B, hf, h => by
    obtain ⟨d, B1, q, p, e⟩ := hf a List.mem_cons_self B h
    obtain ⟨ds, B2, q2, e2, p2, e3⟩ := lcLoop_thr (l := l) (fun e he => hf e (List.mem_cons_of_mem _ he)) p
    refine ⟨d :: ds, B2, ?_, by simp [e2], p2, ?_⟩
    · intro x hx
      rcases List.mem_cons.1 hx with rfl | hx
      · exact q
      · exact q2 x hx
    · rw [List.map_cons, lcLoop, e]
      show ((lcLoop f (l.map c) B1).bind _) = _
      rw [e3]; rfl
end Sp
end
section
set_option linter.all false
set_option maxRecDepth 100000
open Pz
namespace Sp
theorem all_nD (l : List Nat) : OrdAll (nD l) := OrdAll.of (ord_nD l) (cmp_nD l)
theorem pair_nD {l : List Nat} : (nD l).Pairwise (fun a b => D.ltb b a = false) ↔ l.Pairwise (fun a b => a ≤ b) := by
  unfold nD
  rw [List.pairwise_map]
  refine ⟨fun h => h.imp fun {a b} q => ?_, fun h => h.imp fun {a b} q => ?_⟩
  · have q : decide ((b : Int) < (a : Nat)) = false := q
    have := of_decide_eq_false q
    omega
  · show decide ((b : Int) < (a : Nat)) = false
    exact decide_eq_false (by omega)
theorem nD_perm {l m : List Nat} (h : l.Perm m) : (nD l).Perm (nD m) := h.map _
/-- sorted up -/
theorem isort_up {l m : List Nat} (p : m.Perm l) (s : m.Pairwise (fun a b => a ≤ b)) : isort (nD l) = nD m :=
  (isort_uniq (all_nD l) (nD_perm p) (pair_nD.2 s)).symm
theorem sortD_nD (l : List Nat) : sortD (nD l) = some (.lst (isort (nD l))) := by
  unfold sortD
  rw [if_pos]
  have h1 : (nD l).all neT = true := by
    rw [List.all_eq_true]
    intro d hd
    obtain ⟨a, _, rfl⟩ := List.mem_map.1 hd
    rfl
  rw [ord_nD, cmp_nD, h1, nD_dep]
  rfl
theorem nD_inj {l m : List Nat} (h : nD l = nD m) : l = m := by
  unfold nD at h
  refine (List.map_inj_right (f := fun a : Nat => D.int (a : Nat)) fun a b e => ?_).1 h
  injection e with e
  omega
theorem eqD_lst {x y : List D} (hx : D.ordL x = true) (hy : D.ordL y = true) (dx : D.depL x ≤ 60) (dy : D.depL y ≤ 60) : eqD (.lst x) (.lst y) = some (D.eqvL x y) := by
  have h1 : ok64 (.lst x) = true := by
    have : D.dep (.lst x) = D.depL x + 1 := rfl
    unfold ok64; rw [this]; simp; omega
  have h2 : ok64 (.lst y) = true := by
    have : D.dep (.lst y) = D.depL y + 1 := rfl
    unfold ok64; rw [this]; simp; omega
  unfold eqD
  rw [h1, h2]; rfl
/-- a list of nats that stands sorted: its own picture -/
theorem isort_is (l : List Nat) : ∃ m : List Nat, m.Perm l ∧ m.Pairwise (fun a b => a ≤ b) ∧ isort (nD l) = nD m := by
  have key : ∀ x : List D, (∀ d ∈ x, ∃ a : Nat, d = .int (a : Nat)) → ∃ m : List Nat, x = nD m := by
    intro x
    induction x with
    | nil => intro _; exact ⟨[], rfl⟩
    | cons d x ih =>
      intro h
      obtain ⟨a, rfl⟩ := h d (by simp)
      obtain ⟨m, rfl⟩ := ih fun e he => h e (by simp [he])
      exact ⟨a :: m, rfl⟩
  have hp := isort_perm (nD l)
  obtain ⟨m, hm⟩ := key (isort (nD l)) fun d hd => by
    obtain ⟨a, _, rfl⟩ := List.mem_map.1 (hp.mem_iff.1 hd)
    exact ⟨a, rfl⟩
  rw [hm] at hp
  refine ⟨m, ?_, ?_, hm⟩
  · have h1 := hp.map fun d : D => match d with
      | .int i => i.toNat
      | _ => 0
    have hc : ∀ l : List Nat, (nD l).map (fun d : D => match d with
      | .int i => i.toNat
      | _ => 0) = l := by
      intro l
      induction l with
      | nil => rfl
      | cons b l ih =>
        show ((b : Int).toNat) :: (nD l).map _ = _
        rw [ih]
        congr 1
    rw [hc, hc] at h1
    exact h1
  · have := isort_sorted (all_nD l)
    rw [hm] at this
    exact pair_nD.1 this
theorem eqvL_nD (x y : List Nat) : D.eqvL (nD x) (nD y) = decide (x = y) := by
  rw [Bool.eq_iff_iff, eqv_ordL (ord_nD x) (ord_nD y), decide_eq_true_eq]
  exact ⟨nD_inj, fun e => by rw [e]⟩
theorem up_iff (bs : List Nat) : eqD (.lst (nD bs)) (.lst (isort (nD bs))) = some (decide (bs.Pairwise fun a b => a ≤ b)) := by
  obtain ⟨m, hm1, hm2, hm3⟩ := isort_is bs
  rw [hm3, eqD_lst (ord_nD _) (ord_nD _) (by rw [nD_dep]; omega) (by rw [nD_dep]; omega), eqvL_nD]
  congr 1
  rw [decide_eq_decide]
  constructor
  · intro e; rw [e]; exact hm2
  · intro h
    have := isort_up (List.Perm.refl bs) h
    rw [hm3] at this
    exact (nD_inj this).symm
theorem down_iff (bs : List Nat) : eqD (.lst (nD bs)) (.lst (isort (nD bs)).reverse) = some (decide (bs.Pairwise fun a b => b ≤ a)) := by
  obtain ⟨m, hm1, hm2, hm3⟩ := isort_is bs
  have hr : (nD m).reverse = nD m.reverse := by unfold nD; rw [List.map_reverse]
  rw [hm3, hr, eqD_lst (ord_nD _) (ord_nD _) (by rw [nD_dep]; omega) (by rw [nD_dep]; omega), eqvL_nD]
  congr 1
  rw [decide_eq_decide]
  constructor
  · intro e; rw [e]; exact List.pairwise_reverse.2 hm2
  · intro h
    have := isort_up (l := bs) (List.reverse_perm bs) (List.pairwise_reverse.2 h)
    rw [hm3] at this
    have := nD_inj this
    rw [this, List.reverse_reverse]
/-- the first one of the even rows whose blanks fall -/
theorem first_row {m S : Nat} (hm : 0 < m) {p : List Nat → Bool} {t : List Nat} (ht : t ∈ allB m S) (hp : p t = true) (hu : ∀ bs ∈ allB m S, p bs = true → bs = t) : ∃ l, (allB m S).filter p = t :: l := by
  have h1 : t ∈ (allB m S).filter p := List.mem_filter.2 ⟨ht, hp⟩
  cases e : (allB m S).filter p with
  | nil => rw [e] at h1; cases h1
  | cons b l =>
    have hb : b ∈ (allB m S).filter p := by rw [e]; simp
    obtain ⟨h2, h3⟩ := List.mem_filter.1 hb
    rw [hu b h2 h3]
    exact ⟨l, rfl⟩
theorem desc_in {m S : Nat} (hm : 0 < m) (h1 : m ≤ S) (h2 : S ≤ m * 20) : desc m (S / m) (S % m) ∈ allB m S := by
  have hr : S % m < m := Nat.mod_lt _ hm
  have hdm := Nat.div_add_mod S m
  obtain ⟨q, hq⟩ : ∃ q, S / m = q := ⟨_, rfl⟩
  obtain ⟨r, hr2⟩ : ∃ r, S % m = r := ⟨_, rfl⟩
  rw [hq, hr2] at hdm
  rw [hr2] at hr
  rw [hq, hr2]
  have hq1 : 1 ≤ q := by
    cases q with
    | zero => omega
    | succ q => omega
  have hq2 : q ≤ 20 := by
    refine Nat.le_of_not_lt fun g => ?_
    have := Nat.mul_le_mul_left m (show 21 ≤ q by omega)
    omega
  have hq3 : 0 < r → q < 20 := fun h0 => by
    refine Nat.lt_of_not_le fun g => ?_
    have := Nat.mul_le_mul_left m g
    omega
  refine mem_allB.2 ⟨desc_len m q r (by omega), by rw [desc_sum m q r (by omega)]; exact hdm, fun b hb => ?_⟩
  unfold desc at hb
  rcases List.mem_append.1 hb with h | h
  · have h0 : 0 < r := by
      cases r with
      | zero => simp at h
      | succ r => omega
    have := List.eq_of_mem_replicate h
    have := hq3 h0
    omega
  · have := List.eq_of_mem_replicate h
    omega
theorem desc_down (m q r : Nat) : (desc m q r).Pairwise fun a b => b ≤ a := by
  unfold desc
  rw [List.pairwise_append]
  refine ⟨List.pairwise_replicate.2 (.inr (Nat.le_refl _)), List.pairwise_replicate.2 (.inr (Nat.le_refl _)), fun a ha b hb => ?_⟩
  rw [List.eq_of_mem_replicate ha, List.eq_of_mem_replicate hb]
  omega
end Sp
end
section
set_option linter.all false
set_option maxRecDepth 100000
namespace K81
open Pz Sp
/-- 3 -/
def b__law_cup : Ss := .cons (.asg (.nm 1) (.bi .abs (.cons (.sub (.bin .add (.bi .list (.cons (.var 0) (.nil))) (.lst (.cons (.cst (.int 0)) (.nil)))) (.cst (.int 0))) (.nil)))) (.cons (.ret (.mkbox (.lst (.cons (.ite (.cmp .ge (.var 1) (.bin .pow (.cst (.int 10)) (.cst (.int 18)))) (.bin .fdiv (.var 1) (.cst (.int 137))) (.cst (.int 0))) (.cons (.bin .add (.bin .mod (.bi .int (.cons (.bin .add (.bin .mul (.var 1) (.cst (.int 383))) (.cst (.int 4003))) (.nil))) (.cst (.int 2077502087))) (.cst (.int 257))) (.nil)))))) (.nil))
/-- 0 -/
def b__law_roll : Ss := .cons (.ifs (.cmp .gt (.sub (.var 0) (.cst (.int 0))) (.cst (.int 0))) (.cons (.asg (.nm 2) (.bin .mod (.bi .int (.cons (.sub (.var 0) (.cst (.int 0))) (.nil))) (.var 1))) (.cons (.asg (.bx (.var 0) (.cst (.int 0))) (.bin .fdiv (.sub (.var 0) (.cst (.int 0))) (.var 1))) (.cons (.ret (.var 2)) (.nil)))) (.nil)) (.cons (.asg (.bx (.var 0) (.cst (.int 1))) (.bin .mod (.bi .int (.cons (.bin .add (.bin .mul (.sub (.var 0) (.cst (.int 1))) (.cst (.int 30829))) (.cst (.int 7873))) (.nil))) (.cst (.int 2147482951)))) (.cons (.asg (.nm 3) (.bin .mod (.bi .int (.cons (.bin .mul (.sub (.var 0) (.cst (.int 1))) (.bin .add (.sub (.var 0) (.cst (.int 1))) (.cst (.int 277)))) (.nil))) (.cst (.int 2147483059)))) (.cons (.ret (.bin .mod (.bi .int (.cons (.bin .fdiv (.var 3) (.cst (.int 883))) (.nil))) (.var 1))) (.nil))))
/-- 502 -/
def b__law_faults : Ss := .cons (.ret (.bi .sum (.cons (.lc (.nm 1) (.bi .rng (.cons (.cst (.int 1)) (.cons (.bi .len (.cons (.var 0) (.nil))) (.cons (.cst (.int 2)) (.nil))))) (.cst (.bl true)) (.bin .mul (.sub (.var 0) (.var 1)) (.sub (.var 0) (.var 1)))) (.nil)))) (.nil)
/-- 500 -/
def b__law_right : Ss := .cons (.asg (.nm 1) (.bi .tuple (.cons (.lc (.nm 15) (.bi .rng (.cons (.bin .add (.cst (.int 2)) (.call 0 (.cons (.var 0) (.cons (.cst (.int 3)) (.nil))))) (.nil))) (.cst (.bl true)) (.bin .add (.cst (.int 1)) (.call 0 (.cons (.var 0) (.cons (.cst (.int 6)) (.nil)))))) (.nil)))) (.cons (.asg (.nm 2) (.bin .sub (.bi .len (.cons (.var 1) (.nil))) (.cst (.int 1)))) (.cons (.asg (.nm 3) (.bin .add (.bin .add (.bi .sum (.cons (.var 1) (.nil))) (.var 2)) (.call 0 (.cons (.var 0) (.cons (.bin .add (.bi .mng2 (.cons (.cst (.int 12)) (.cons (.bin .mul (.cst (.int 19)) (.var 2)) (.nil)))) (.cst (.int 1))) (.nil)))))) (.cons (.asg (.nm 4) (.call 50 (.cons (.var 1) (.cons (.var 3) (.nil))))) (.cons (.asg (.nm 5) (.bi .mng (.cons (.lc (.nm 13) (.var 4) (.cst (.bl true)) (.call 502 (.cons (.var 13) (.nil)))) (.nil)))) (.cons (.asg (.nm 6) (.lc (.nm 13) (.var 4) (.cmp .lt (.bin .sub (.bi .mxg (.cons (.evn (.var 13) 1) (.nil))) (.bi .mng (.cons (.evn (.var 13) 1) (.nil)))) (.cst (.int 2))) (.var 13))) (.cons (.asg (.nm 7) (.lc (.nm 13) (.var 6) (.cmp .eq (.bi .list (.cons (.evn (.var 13) 1) (.nil))) (.rev (.bi .sorted (.cons (.evn (.var 13) 1) (.nil))))) (.var 13))) (.cons (.asg (.nm 8) (.lc (.nm 13) (.var 6) (.cmp .eq (.bi .list (.cons (.evn (.var 13) 1) (.nil))) (.bi .sorted (.cons (.evn (.var 13) 1) (.nil)))) (.var 13))) (.cons (.asg (.nm 9) (.tup (.cons (.call 46 (.cons (.var 1) (.cons (.var 3) (.cons (.cst (.int 0)) (.nil))))) (.cons (.call 46 (.cons (.var 1) (.cons (.var 3) (.cons (.cst (.int 1)) (.nil))))) (.cons (.call 47 (.cons (.var 1) (.cons (.var 3) (.nil)))) (.cons (.call 48 (.cons (.var 1) (.cons (.var 3) (.nil)))) (.nil))))))) (.cons (.ifs (.or (.not (.call 2 (.cons (.var 9) (.cons (.tup (.cons (.sub (.var 7) (.cst (.int 0))) (.cons (.sub (.var 8) (.cst (.int 0))) (.cons (.var 5) (.cons (.bi .len (.cons (.var 4) (.nil))) (.nil)))))) (.nil))))) (.cmp .ne (.call 502 (.cons (.sub (.var 7) (.cst (.int 0))) (.nil))) (.var 5))) (.cons (.ret (.cst (.bl false))) (.nil)) (.nil)) (.cons (.asg (.tp (.cons (.nm 10) (.cons (.nm 11) (.nil)))) (.tup (.cons (.call 29 (.cons (.var 0) (.cons (.cst (.int 6)) (.nil)))) (.cons (.call 0 (.cons (.var 0) (.cons (.cst (.int 6)) (.nil)))) (.nil))))) (.cons (.asg (.nm 12) (.fresh (.lst (.nil)))) (.cons (.for (.nm 13) (.var 4) (.cons (.asg (.nm 14) (.lc (.nm 16) (.call 30 (.cons (.var 13) (.nil))) (.cmp .ne (.lc (.nm 17) (.call 30 (.cons (.var 10) (.nil))) (.call 31 (.cons (.var 16) (.cons (.var 17) (.cons (.var 11) (.nil))))) (.var 17)) (.lst (.nil))) (.var 16))) (.cons (.app 12 (.tup (.cons (.bi .len (.cons (.var 14) (.nil))) (.cons (.call 502 (.cons (.var 13) (.nil))) (.cons (.var 13) (.nil)))))) (.nil)))) (.cons (.asg (.nm 9) (.call 49 (.cons (.var 1) (.cons (.var 3) (.cons (.var 10) (.cons (.var 11) (.nil))))))) (.cons (.ret (.and (.call 2 (.cons (.var 9) (.cons (.sub (.bi .mng (.cons (.var 12) (.nil))) (.cst (.int 2))) (.nil)))) (.and (.cmp .is (.call 23 (.cons (.tup (.cons (.var 9) (.nil))) (.nil))) (.cst (.bl true))) (.call 2 (.cons (.call 24 (.cons (.var 9) (.nil))) (.cons (.var 3) (.nil))))))) (.nil)))))))))))))))
/-- 501 -/
def b_law : Ss := .cons (.asg (.nm 1) (.call 3 (.cons (.var 0) (.nil)))) (.cons (.for (.nm 2) (.bi .rng (.cons (.cst (.int 4)) (.nil))) (.cons (.ifs (.not (.call 500 (.cons (.var 1) (.nil)))) (.cons (.ret (.cst (.bl false))) (.nil)) (.nil)) (.nil))) (.cons (.par [3, 4] (.cons (.bin .add (.cst (.int 2)) (.call 0 (.cons (.var 1) (.cons (.cst (.int 11)) (.nil))))) (.cons (.bin .add (.cst (.int 1)) (.call 0 (.cons (.var 1) (.cons (.cst (.int 19)) (.nil))))) (.nil)))) (.cons (.asg (.nm 5) (.call 0 (.cons (.var 1) (.cons (.bin .sub (.var 3) (.cst (.int 1))) (.nil))))) (.cons (.asg (.nm 6) (.bin .mul (.tup (.cons (.cst (.int 7)) (.nil))) (.var 3))) (.cons (.asg (.nm 7) (.bin .add (.bin .add (.bin .mul (.cst (.int 7)) (.var 3)) (.bin .mul (.var 4) (.bin .sub (.var 3) (.cst (.int 1))))) (.var 5))) (.cons (.asg (.nm 8) (.tup (.cons (.cst (.int 7)) (.nil)))) (.cons (.for (.nm 9) (.bi .rng (.cons (.bin .sub (.var 3) (.cst (.int 1))) (.nil))) (.cons (.asg (.nm 8) (.bin .add (.var 8) (.tup (.cons (.bin .add (.var 4) (.ite (.cmp .lt (.var 9) (.var 5)) (.cst (.int 1)) (.cst (.int 0)))) (.cons (.cst (.int 7)) (.nil)))))) (.nil))) (.cons (.asg (.nm 10) (.tup (.cons (.call 46 (.cons (.var 6) (.cons (.var 7) (.cons (.cst (.int 0)) (.nil))))) (.cons (.call 46 (.cons (.var 6) (.cons (.var 7) (.cons (.cst (.int 1)) (.nil))))) (.cons (.call 47 (.cons (.var 6) (.cons (.var 7) (.nil)))) (.nil)))))) (.cons (.ret (.call 2 (.cons (.var 10) (.cons (.tup (.cons (.var 8) (.cons (.rev (.var 8)) (.cons (.call 502 (.cons (.var 8) (.nil))) (.nil))))) (.nil))))) (.nil))))))))))
def tb : Nat → Option Fd
  | 0 => some ⟨2, 4, b__law_roll⟩
  | 1 => some ⟨2, 2, b__law_some⟩
  | 2 => some ⟨2, 3, b__law_same⟩
  | 3 => some ⟨1, 2, b__law_cup⟩
  | 10 => some ⟨1, 1, b_is_whole⟩
  | 11 => some ⟨3, 3, b_fits_whole⟩
  | 12 => some ⟨3, 3, b_is_tuple_of⟩
  | 13 => some ⟨1, 4, b_fits_row⟩
  | 14 => some ⟨1, 2, b_fits_lines⟩
  | 15 => some ⟨1, 1, b_need_lines⟩
  | 16 => some ⟨2, 2, b_need_reach⟩
  | 17 => some ⟨1, 5, b_blanks_in⟩
  | 18 => some ⟨3, 3, b_do_meet⟩
  | 19 => some ⟨2, 11, b_nexts_in⟩
  | 20 => some ⟨2, 9, b_depths_in⟩
  | 21 => some ⟨3, 8, b_river_from⟩
  | 22 => some ⟨3, 9, b_fits_river⟩
  | 23 => some ⟨1, 1, b_are_lines⟩
  | 24 => some ⟨1, 1, b_line_width⟩
  | 25 => some ⟨1, 2, b_blank_places⟩
  | 26 => some ⟨3, 3, b_is_river⟩
  | 27 => some ⟨2, 5, b_longest_river⟩
  | 28 => some ⟨2, 5, b_longest_many⟩
  | 29 => some ⟨2, 4, b__law_set⟩
  | 30 => some ⟨1, 4, b__law_covered⟩
  | 31 => some ⟨3, 6, b__law_meet⟩
  | 32 => some ⟨3, 8, b__law_below⟩
  | 33 => some ⟨2, 10, b__law_rivers⟩
  | 34 => some ⟨2, 8, b__law_near⟩
  | 35 => some ⟨1, 3, b__law_is_row⟩
  | 36 => some ⟨1, 4, b__law_bent⟩
  | 37 => some ⟨1, 3, b__law_plain⟩
  | 38 => some ⟨3, 8, b_rivers_through⟩
  | 39 => some ⟨2, 7, b_river_lengths⟩
  | 40 => some ⟨3, 11, b__law_counts⟩
  | 41 => some ⟨3, 9, b_shared_in⟩
  | 42 => some ⟨1, 2, b_fits_words⟩
  | 43 => some ⟨2, 3, b_need_share⟩
  | 44 => some ⟨1, 2, b_faults_in⟩
  | 45 => some ⟨2, 10, b_shares_in⟩
  | 46 => some ⟨3, 3, b_shared_line⟩
  | 47 => some ⟨2, 2, b_least_faults⟩
  | 48 => some ⟨2, 7, b_lines_many⟩
  | 49 => some ⟨4, 9, b_calm_line⟩
  | 50 => some ⟨2, 5, b__law_all⟩
  | 500 => some ⟨1, 18, b__law_right⟩
  | 501 => some ⟨1, 11, b_law⟩
  | 502 => some ⟨1, 2, b__law_faults⟩
  | _ => none
theorem roll : Roll tb := roll_of (b := b__law_roll) rfl rfl (by decide)
instance has : Has tb := ⟨rfl, rfl, roll, rfl, rfl, rfl, rfl, rfl, rfl, rfl, rfl, rfl, rfl, rfl, rfl, rfl, rfl, rfl, rfl, rfl, rfl, rfl, rfl, rfl, rfl, rfl, rfl, rfl, rfl, rfl, rfl, rfl, rfl, rfl, rfl, rfl, rfl, rfl, rfl, rfl, rfl, rfl, rfl, rfl⟩
end K81
end
section
set_option Elab.async false
set_option linter.all false
set_option maxRecDepth 100000
set_option maxHeartbeats 0
namespace K81
open PySem PySem.Spec PyProof.Rows L2 Pz Sp
abbrev prog_ : Program := PySem.Challenge.pw_printshop_k81_whole_shares_of_blanks
def top (i : Nat) : Stmt := prog_.main.body.getD i (.Pass ⟨0, 0, 0, 0⟩)
/-! is_whole -/
abbrev s_is_whole : Stmt := top 7
abbrev N_is_whole : List Str := ["value"]
abbrev S_is_whole : Scope := defScope s_is_whole
theorem sc_is_whole : FnScope N_is_whole ["value"] S_is_whole := ⟨rfl, rfl, rfl, by decide +kernel, rfl, by decide +kernel, by decide +kernel⟩
/-! fits_whole -/
abbrev s_fits_whole : Stmt := top 8
abbrev N_fits_whole : List Str := ["value", "low", "high"]
abbrev S_fits_whole : Scope := defScope s_fits_whole
theorem sc_fits_whole : FnScope N_fits_whole ["value", "low", "high"] S_fits_whole := ⟨rfl, rfl, rfl, by decide +kernel, rfl, by decide +kernel, by decide +kernel⟩
/-! is_tuple_of -/
abbrev s_is_tuple_of : Stmt := top 9
abbrev N_is_tuple_of : List Str := ["value", "least", "most"]
abbrev S_is_tuple_of : Scope := defScope s_is_tuple_of
theorem sc_is_tuple_of : FnScope N_is_tuple_of ["value", "least", "most"] S_is_tuple_of := ⟨rfl, rfl, rfl, by decide +kernel, rfl, by decide +kernel, by decide +kernel⟩
/-! fits_row -/
abbrev s_fits_row : Stmt := top 17
abbrev N_fits_row : List Str := ["value", "words", "blanks", "one"]
abbrev S_fits_row : Scope := defScope s_fits_row
theorem sc_fits_row : FnScope N_fits_row ["value"] S_fits_row := ⟨rfl, rfl, rfl, by decide +kernel, rfl, by decide +kernel, by decide +kernel⟩
/-! fits_lines -/
abbrev s_fits_lines : Stmt := top 18
abbrev N_fits_lines : List Str := ["value", "one"]
abbrev S_fits_lines : Scope := defScope s_fits_lines
theorem sc_fits_lines : FnScope N_fits_lines ["value"] S_fits_lines := ⟨rfl, rfl, rfl, by decide +kernel, rfl, by decide +kernel, by decide +kernel⟩
/-! need_lines -/
abbrev s_need_lines : Stmt := top 19
abbrev N_need_lines : List Str := ["value"]
abbrev S_need_lines : Scope := defScope s_need_lines
theorem sc_need_lines : FnScope N_need_lines ["value"] S_need_lines := ⟨rfl, rfl, rfl, by decide +kernel, rfl, by decide +kernel, by decide +kernel⟩
/-! blanks_in -/
abbrev s_blanks_in : Stmt := top 20
abbrev N_blanks_in : List Str := ["row", "found", "here", "at", "wide"]
abbrev S_blanks_in : Scope := defScope s_blanks_in
theorem sc_blanks_in : FnScope N_blanks_in ["row"] S_blanks_in := ⟨rfl, rfl, rfl, by decide +kernel, rfl, by decide +kernel, by decide +kernel⟩
/-! do_meet -/
abbrev s_do_meet : Stmt := top 21
abbrev N_do_meet : List Str := ["one", "other", "reach"]
abbrev S_do_meet : Scope := defScope s_do_meet
theorem sc_do_meet : FnScope N_do_meet ["one", "other", "reach"] S_do_meet := ⟨rfl, rfl, rfl, by decide +kernel, rfl, by decide +kernel, by decide +kernel⟩
/-! shared_in -/
abbrev s_shared_in : Stmt := top 22
abbrev N_shared_in : List Str := ["words", "blanks", "even", "many", "each", "more", "found", "at", "is_more"]
abbrev S_shared_in : Scope := defScope s_shared_in
theorem sc_shared_in : FnScope N_shared_in ["words", "blanks", "even"] S_shared_in := ⟨rfl, rfl, rfl, by decide +kernel, rfl, by decide +kernel, by decide +kernel⟩
/-! fits_words -/
abbrev s_fits_words : Stmt := top 23
abbrev N_fits_words : List Str := ["value", "one"]
abbrev S_fits_words : Scope := defScope s_fits_words
theorem sc_fits_words : FnScope N_fits_words ["value"] S_fits_words := ⟨rfl, rfl, rfl, by decide +kernel, rfl, by decide +kernel, by decide +kernel⟩
/-! need_share -/
abbrev s_need_share : Stmt := top 24
abbrev N_need_share : List Str := ["words", "wide", "blanks"]
abbrev S_need_share : Scope := defScope s_need_share
theorem sc_need_share : FnScope N_need_share ["words", "wide"] S_need_share := ⟨rfl, rfl, rfl, by decide +kernel, rfl, by decide +kernel, by decide +kernel⟩
/-! faults_in -/
abbrev s_faults_in : Stmt := top 25
abbrev N_faults_in : List Str := ["row", "blank"]
abbrev S_faults_in : Scope := defScope s_faults_in
theorem sc_faults_in : FnScope N_faults_in ["row"] S_faults_in := ⟨rfl, rfl, rfl, by decide +kernel, rfl, by decide +kernel, by decide +kernel⟩
/-! shares_in -/
abbrev s_shares_in : Stmt := top 26
abbrev N_shares_in : List Str := ["words", "blanks", "rows", "at", "wide", "later", "behind", "row", "left", "own"]
abbrev S_shares_in : Scope := defScope s_shares_in
theorem sc_shares_in : FnScope N_shares_in ["words", "blanks"] S_shares_in := ⟨rfl, rfl, rfl, by decide +kernel, rfl, by decide +kernel, by decide +kernel⟩
/-! are_lines -/
abbrev s_are_lines : Stmt := top 27
abbrev N_are_lines : List Str := ["value"]
abbrev S_are_lines : Scope := defScope s_are_lines
theorem sc_are_lines : FnScope N_are_lines ["value"] S_are_lines := ⟨rfl, rfl, rfl, by decide +kernel, rfl, by decide +kernel, by decide +kernel⟩
/-! line_width -/
abbrev s_line_width : Stmt := top 28
abbrev N_line_width : List Str := ["row"]
abbrev S_line_width : Scope := defScope s_line_width
theorem sc_line_width : FnScope N_line_width ["row"] S_line_width := ⟨rfl, rfl, rfl, by decide +kernel, rfl, by decide +kernel, by decide +kernel⟩
/-! shared_line -/
abbrev s_shared_line : Stmt := top 29
abbrev N_shared_line : List Str := ["words", "wide", "even"]
abbrev S_shared_line : Scope := defScope s_shared_line
theorem sc_shared_line : FnScope N_shared_line ["words", "wide", "even"] S_shared_line := ⟨rfl, rfl, rfl, by decide +kernel, rfl, by decide +kernel, by decide +kernel⟩
/-! least_faults -/
abbrev s_least_faults : Stmt := top 30
abbrev N_least_faults : List Str := ["words", "wide"]
abbrev S_least_faults : Scope := defScope s_least_faults
theorem sc_least_faults : FnScope N_least_faults ["words", "wide"] S_least_faults := ⟨rfl, rfl, rfl, by decide +kernel, rfl, by decide +kernel, by decide +kernel⟩
/-! lines_many -/
abbrev s_lines_many : Stmt := top 31
abbrev N_lines_many : List Str := ["words", "wide", "blanks", "many", "found", "turn", "size"]
abbrev S_lines_many : Scope := defScope s_lines_many
theorem sc_lines_many : FnScope N_lines_many ["words", "wide"] S_lines_many := ⟨rfl, rfl, rfl, by decide +kernel, rfl, by decide +kernel, by decide +kernel⟩
/-! calm_line -/
abbrev s_calm_line : Stmt := top 32
abbrev N_calm_line : List Str := ["words", "wide", "above", "reach", "rows", "row", "meets", "one", "other"]
abbrev S_calm_line : Scope := defScope s_calm_line
theorem sc_calm_line : FnScope N_calm_line ["words", "wide", "above", "reach"] S_calm_line := ⟨rfl, rfl, rfl, by decide +kernel, rfl, by decide +kernel, by decide +kernel⟩
/-! _law_cup -/
abbrev s__law_cup : Stmt := top 34
abbrev N__law_cup : List Str := ["script", "cell"]
abbrev S__law_cup : Scope := defScope s__law_cup
theorem sc__law_cup : FnScope N__law_cup ["script"] S__law_cup := ⟨rfl, rfl, rfl, by decide +kernel, rfl, by decide +kernel, by decide +kernel⟩
/-! _law_roll -/
abbrev s__law_roll : Stmt := top 35
abbrev N__law_roll : List Str := ["cup", "many", "found", "deep"]
abbrev S__law_roll : Scope := defScope s__law_roll
theorem sc__law_roll : FnScope N__law_roll ["cup", "many"] S__law_roll := ⟨rfl, rfl, rfl, by decide +kernel, rfl, by decide +kernel, by decide +kernel⟩
/-! _law_some -/
abbrev s__law_some : Stmt := top 36
abbrev N__law_some : List Str := ["cup", "things"]
abbrev S__law_some : Scope := defScope s__law_some
theorem sc__law_some : FnScope N__law_some ["cup", "things"] S__law_some := ⟨rfl, rfl, rfl, by decide +kernel, rfl, by decide +kernel, by decide +kernel⟩
/-! _law_same -/
abbrev s__law_same : Stmt := top 37
abbrev N__law_same : List Str := ["told", "due", "at"]
abbrev S__law_same : Scope := defScope s__law_same
theorem sc__law_same : FnScope N__law_same ["told", "due"] S__law_same := ⟨rfl, rfl, rfl, by decide +kernel, rfl, by decide +kernel, by decide +kernel⟩
/-! _law_set -/
abbrev s__law_set : Stmt := top 38
abbrev N__law_set : List Str := ["cup", "words", "found", "turn"]
abbrev S__law_set : Scope := defScope s__law_set
theorem sc__law_set : FnScope N__law_set ["cup", "words"] S__law_set := ⟨rfl, rfl, rfl, by decide +kernel, rfl, by decide +kernel, by decide +kernel⟩
/-! _law_covered -/
abbrev s__law_covered : Stmt := top 39
abbrev N__law_covered : List Str := ["row", "found", "at", "start"]
abbrev S__law_covered : Scope := defScope s__law_covered
theorem sc__law_covered : FnScope N__law_covered ["row"] S__law_covered := ⟨rfl, rfl, rfl, by decide +kernel, rfl, by decide +kernel, by decide +kernel⟩
/-! _law_meet -/
abbrev s__law_meet : Stmt := top 40
abbrev N__law_meet : List Str := ["one", "other", "reach", "best", "place", "own"]
abbrev S__law_meet : Scope := defScope s__law_meet
theorem sc__law_meet : FnScope N__law_meet ["one", "other", "reach"] S__law_meet := ⟨rfl, rfl, rfl, by decide +kernel, rfl, by decide +kernel, by decide +kernel⟩
/-! _law_all -/
abbrev s__law_all : Stmt := top 41
abbrev N__law_all : List Str := ["words", "wide", "found", "blank", "rest"]
abbrev S__law_all : Scope := defScope s__law_all
theorem sc__law_all : FnScope N__law_all ["words", "wide"] S__law_all := ⟨rfl, rfl, rfl, by decide +kernel, rfl, by decide +kernel, by decide +kernel⟩
/-! _law_faults -/
abbrev s__law_faults : Stmt := top 42
abbrev N__law_faults : List Str := ["row", "at"]
abbrev S__law_faults : Scope := defScope s__law_faults
theorem sc__law_faults : FnScope N__law_faults ["row"] S__law_faults := ⟨rfl, rfl, rfl, by decide +kernel, rfl, by decide +kernel, by decide +kernel⟩
/-! _law_right -/
abbrev s__law_right : Stmt := top 43
abbrev N__law_right : List Str := ["cup", "words", "blanks", "wide", "every", "least", "even", "first", "last", "told", "above", "reach", "rows", "row", "meets", "turn", "one", "other"]
abbrev S__law_right : Scope := defScope s__law_right
theorem sc__law_right : FnScope N__law_right ["cup"] S__law_right := ⟨rfl, rfl, rfl, by decide +kernel, rfl, by decide +kernel, by decide +kernel⟩
/-! law -/
abbrev s_law : Stmt := top 44
abbrev N_law : List Str := ["script", "cup", "turn", "many", "each", "more", "words", "wide", "due", "at", "told"]
abbrev S_law : Scope := defScope s_law
theorem sc_law : FnScope N_law ["script"] S_law := ⟨rfl, rfl, rfl, by decide +kernel, rfl, by decide +kernel, by decide +kernel⟩
/-- what the module has -/
structure Gs (mg : Str → Option Value) : Prop where
  g_isinstance : mg "isinstance" = none
  g_int : mg "int" = none
  g_bool : mg "bool" = none
  g_tuple : mg "tuple" = none
  g_len : mg "len" = none
  g_WORDS : ∃ t, mg "WORDS" = some (.int 12 t)
  g_WORD : ∃ t, mg "WORD" = some (.int 30 t)
  g_all : mg "all" = none
  g_BLANK : ∃ t, mg "BLANK" = some (.int 20 t)
  g_LINES : ∃ t, mg "LINES" = some (.int 12 t)
  g_enumerate : mg "enumerate" = none
  g_range : mg "range" = none
  g_sum : mg "sum" = none
  g_min : mg "min" = none
  g_FEW : ∃ t, mg "FEW" = some (.int 60 t)
  g_max : mg "max" = none
  g_REACH : ∃ t, mg "REACH" = some (.int 5 t)
  g_any : mg "any" = none
  g_list : mg "list" = none
  g_abs : mg "abs" = none
  g_str : mg "str" = none
  g_sorted : mg "sorted" = none
/-- each def by its promise, at one depth -/
structure Al (P : Program) (w : World) (K : PySem.W.Frag) (mg : Str → Option Value) (base : Heap) (n : Nat) : Prop where
  f_is_whole : Cl P w K mg base n (run tb n) "is_whole" 10
  f_fits_whole : Cl P w K mg base n (run tb n) "fits_whole" 11
  f_is_tuple_of : Cl P w K mg base n (run tb n) "is_tuple_of" 12
  f_fits_row : Cl P w K mg base n (run tb n) "fits_row" 13
  f_fits_lines : Cl P w K mg base n (run tb n) "fits_lines" 14
  f_need_lines : Cl P w K mg base n (run tb n) "need_lines" 15
  f_blanks_in : Cl P w K mg base n (run tb n) "blanks_in" 17
  f_do_meet : Cl P w K mg base n (run tb n) "do_meet" 18
  f_shared_in : Cl P w K mg base n (run tb n) "shared_in" 41
  f_fits_words : Cl P w K mg base n (run tb n) "fits_words" 42
  f_need_share : Cl P w K mg base n (run tb n) "need_share" 43
  f_faults_in : Cl P w K mg base n (run tb n) "faults_in" 44
  f_shares_in : Cl P w K mg base n (run tb n) "shares_in" 45
  f_are_lines : Cl P w K mg base n (run tb n) "are_lines" 23
  f_line_width : Cl P w K mg base n (run tb n) "line_width" 24
  f_shared_line : Cl P w K mg base n (run tb n) "shared_line" 46
  f_least_faults : Cl P w K mg base n (run tb n) "least_faults" 47
  f_lines_many : Cl P w K mg base n (run tb n) "lines_many" 48
  f_calm_line : Cl P w K mg base n (run tb n) "calm_line" 49
  f__law_cup : Cl P w K mg base n (run tb n) "_law_cup" 3
  f__law_roll : Cl P w K mg base n (run tb n) "_law_roll" 0
  f__law_some : Cl P w K mg base n (run tb n) "_law_some" 1
  f__law_same : Cl P w K mg base n (run tb n) "_law_same" 2
  f__law_set : Cl P w K mg base n (run tb n) "_law_set" 29
  f__law_covered : Cl P w K mg base n (run tb n) "_law_covered" 30
  f__law_meet : Cl P w K mg base n (run tb n) "_law_meet" 31
  f__law_all : Cl P w K mg base n (run tb n) "_law_all" 50
  f__law_faults : Cl P w K mg base n (run tb n) "_law_faults" 502
  f__law_right : Cl P w K mg base n (run tb n) "_law_right" 500
  f_law : Cl P w K mg base n (run tb n) "law" 501
section
variable {P : Program} {w : World} {K : PySem.W.Frag} {mg : Str → Option Value} {base : Heap} {n : Nat}
theorem ok_is_whole (G : Gs mg) (A : Al P w K mg base n) (f : Addr) (cdv : Value) (Ar : Around) (outer : List Env) (s : Shared) (H : Hp) (E : XK) (hr : Room n (Ar.deeper (envOfC "is_whole" S_is_whole s.heap.objs.size f cdv))) :
    SsOk (cxOf CX0 P w K mg base N_is_whole "is_whole" S_is_whole f cdv Ar outer s H E).nox (run tb n) (defBody s_is_whole) b_is_whole :=
  have hu : (Ar.deeper (envOfC "is_whole" S_is_whole s.heap.objs.size f cdv)).units + 70 < cLine := by have := hr.un; omega
  have nd : N_is_whole.Nodup := sc_is_whole.nd
  (ss_cons (s_ret (e_and (e_isi (e_var rfl (by first | exact .inl rfl | exact .inr (.inl rfl) | exact .inr (.inr rfl))) rfl G.g_isinstance rfl G.g_int boot_int) (e_one (e_not (e_isi (e_var rfl (by first | exact .inl rfl | exact .inr (.inl rfl) | exact .inr (.inr rfl))) rfl G.g_isinstance rfl G.g_bool boot_bool)))))
  ss_nil)
theorem ok_fits_whole (G : Gs mg) (A : Al P w K mg base n) (f : Addr) (cdv : Value) (Ar : Around) (outer : List Env) (s : Shared) (H : Hp) (E : XK) (hr : Room n (Ar.deeper (envOfC "fits_whole" S_fits_whole s.heap.objs.size f cdv))) :
    SsOk (cxOf CX0 P w K mg base N_fits_whole "fits_whole" S_fits_whole f cdv Ar outer s H E).nox (run tb n) (defBody s_fits_whole) b_fits_whole :=
  have hu : (Ar.deeper (envOfC "fits_whole" S_fits_whole s.heap.objs.size f cdv)).units + 70 < cLine := by have := hr.un; omega
  have nd : N_fits_whole.Nodup := sc_fits_whole.nd
  (ss_cons (s_ret (e_and (e_call A.f_is_whole hr rfl (a_cons (e_var rfl (by first | exact .inl rfl | exact .inr (.inl rfl) | exact .inr (.inr rfl))) a_nil)) (e_one (e_chain hu rfl rfl (e_var rfl (by first | exact .inl rfl | exact .inr (.inl rfl) | exact .inr (.inr rfl))) (e_var rfl (by first | exact .inl rfl | exact .inr (.inl rfl) | exact .inr (.inr rfl))) (e_var rfl (by first | exact .inl rfl | exact .inr (.inl rfl) | exact .inr (.inr rfl))) (by with_unfolding_all rfl)))))
  ss_nil)
theorem ok_is_tuple_of (G : Gs mg) (A : Al P w K mg base n) (f : Addr) (cdv : Value) (Ar : Around) (outer : List Env) (s : Shared) (H : Hp) (E : XK) (hr : Room n (Ar.deeper (envOfC "is_tuple_of" S_is_tuple_of s.heap.objs.size f cdv))) :
    SsOk (cxOf CX0 P w K mg base N_is_tuple_of "is_tuple_of" S_is_tuple_of f cdv Ar outer s H E).nox (run tb n) (defBody s_is_tuple_of) b_is_tuple_of :=
  have hu : (Ar.deeper (envOfC "is_tuple_of" S_is_tuple_of s.heap.objs.size f cdv)).units + 70 < cLine := by have := hr.un; omega
  have nd : N_is_tuple_of.Nodup := sc_is_tuple_of.nd
  (ss_cons (s_ret (e_and (e_isi (e_var rfl (by first | exact .inl rfl | exact .inr (.inl rfl) | exact .inr (.inr rfl))) rfl G.g_isinstance rfl G.g_tuple boot_tuple) (e_one (e_chain hu rfl rfl (e_var rfl (by first | exact .inl rfl | exact .inr (.inl rfl) | exact .inr (.inr rfl))) (e_biB bi_len_ok rfl G.g_len boot_len (a_cons (e_var rfl (by first | exact .inl rfl | exact .inr (.inl rfl) | exact .inr (.inr rfl))) a_nil)) (e_var rfl (by first | exact .inl rfl | exact .inr (.inl rfl) | exact .inr (.inr rfl))) (by with_unfolding_all rfl)))))
  ss_nil)
theorem ok_fits_row (G : Gs mg) (A : Al P w K mg base n) (f : Addr) (cdv : Value) (Ar : Around) (outer : List Env) (s : Shared) (H : Hp) (E : XK) (hr : Room n (Ar.deeper (envOfC "fits_row" S_fits_row s.heap.objs.size f cdv))) :
    SsOk (cxOf CX0 P w K mg base N_fits_row "fits_row" S_fits_row f cdv Ar outer s H E).nox (run tb n) (defBody s_fits_row) b_fits_row :=
  have hu : (Ar.deeper (envOfC "fits_row" S_fits_row s.heap.objs.size f cdv)).units + 70 < cLine := by have := hr.un; omega
  have nd : N_fits_row.Nodup := sc_fits_row.nd
  (ss_cons (s_if (WOk.t (w_or (t_not (t_val (e_call A.f_is_tuple_of hr rfl (a_cons (e_var rfl (by first | exact .inl rfl | exact .inr (.inl rfl) | exact .inr (.inr rfl))) (a_cons e_int (a_cons (e_op rfl (e_op rfl e_int (e_globI' rfl G.g_WORDS)) e_int) a_nil)))) (fun _ => rfl))) (w_one_or (t_cmp hu rfl (e_op rfl (e_biB bi_len_ok rfl G.g_len boot_len (a_cons (e_var rfl (by first | exact .inl rfl | exact .inr (.inl rfl) | exact .inr (.inr rfl))) a_nil)) e_int) e_int (nomark _))))) (ss_cons (s_ret e_bl)
  ss_nil) ss_nil)
  (ss_cons (s_par2 rfl nd rfl rfl (by decide) rfl rfl (x_val (e_evn0 (e_var rfl (by first | exact .inl rfl | exact .inr (.inl rfl) | exact .inr (.inr rfl)))) nofun) (x_val (e_evn1 (e_var rfl (by first | exact .inl rfl | exact .inr (.inl rfl) | exact .inr (.inr rfl)))) nofun) rfl)
  (ss_cons (s_ret (e_and (e_biB (bi_all_ok rfl) rfl G.g_all (by decide +kernel) (a_cons (e_lc (own := [("one", 3)]) rfl nd (i_val (e_var rfl (by first | exact .inl rfl | exact .inr (.inl rfl) | exact .inr (.inr rfl)))) (blkOk_by (N := N_fits_row) (sc := S_fits_row) (by decide +kernel)) rfl (fun s H C cl fp => (g_name nd rfl (by first | exact .inl rfl | exact .inr rfl) (by first | exact .inl rfl | exact .inr rfl))) (fun s H C cl fp => ts_nil) (fun s H C cl fp => (e_call A.f_fits_whole hr rfl (a_cons (e_var rfl (by first | exact .inl rfl | exact .inr (.inl rfl) | exact .inr (.inr rfl))) (a_cons e_int (a_cons (e_globI' rfl G.g_WORD) a_nil)))))) a_nil)) (e_one (e_biB (bi_all_ok rfl) rfl G.g_all (by decide +kernel) (a_cons (e_lc (own := [("one", 3)]) rfl nd (i_val (e_var rfl (by first | exact .inl rfl | exact .inr (.inl rfl) | exact .inr (.inr rfl)))) (blkOk_by (N := N_fits_row) (sc := S_fits_row) (by decide +kernel)) rfl (fun s H C cl fp => (g_name nd rfl (by first | exact .inl rfl | exact .inr rfl) (by first | exact .inl rfl | exact .inr rfl))) (fun s H C cl fp => ts_nil) (fun s H C cl fp => (e_call A.f_fits_whole hr rfl (a_cons (e_var rfl (by first | exact .inl rfl | exact .inr (.inl rfl) | exact .inr (.inr rfl))) (a_cons e_int (a_cons (e_globI' rfl G.g_BLANK) a_nil)))))) a_nil)))))
  ss_nil)))
theorem ok_fits_lines (G : Gs mg) (A : Al P w K mg base n) (f : Addr) (cdv : Value) (Ar : Around) (outer : List Env) (s : Shared) (H : Hp) (E : XK) (hr : Room n (Ar.deeper (envOfC "fits_lines" S_fits_lines s.heap.objs.size f cdv))) :
    SsOk (cxOf CX0 P w K mg base N_fits_lines "fits_lines" S_fits_lines f cdv Ar outer s H E).nox (run tb n) (defBody s_fits_lines) b_fits_lines :=
  have hu : (Ar.deeper (envOfC "fits_lines" S_fits_lines s.heap.objs.size f cdv)).units + 70 < cLine := by have := hr.un; omega
  have nd : N_fits_lines.Nodup := sc_fits_lines.nd
  (ss_cons (s_ret (e_and (e_call A.f_is_tuple_of hr rfl (a_cons (e_var rfl (by first | exact .inl rfl | exact .inr (.inl rfl) | exact .inr (.inr rfl))) (a_cons e_int (a_cons (e_globI' rfl G.g_LINES) a_nil)))) (e_one (e_biB (bi_all_ok rfl) rfl G.g_all (by decide +kernel) (a_cons (e_lc (own := [("one", 1)]) rfl nd (i_val (e_var rfl (by first | exact .inl rfl | exact .inr (.inl rfl) | exact .inr (.inr rfl)))) (blkOk_by (N := N_fits_lines) (sc := S_fits_lines) (by decide +kernel)) rfl (fun s H C cl fp => (g_name nd rfl (by first | exact .inl rfl | exact .inr rfl) (by first | exact .inl rfl | exact .inr rfl))) (fun s H C cl fp => ts_nil) (fun s H C cl fp => (e_call A.f_fits_row hr rfl (a_cons (e_var rfl (by first | exact .inl rfl | exact .inr (.inl rfl) | exact .inr (.inr rfl))) a_nil)))) a_nil)))))
  ss_nil)
theorem ok_need_lines (G : Gs mg) (A : Al P w K mg base n) (f : Addr) (cdv : Value) (Ar : Around) (outer : List Env) (s : Shared) (H : Hp) (E : XK) (hr : Room n (Ar.deeper (envOfC "need_lines" S_need_lines s.heap.objs.size f cdv))) :
    SsOk (cxOf CX0 P w K mg base N_need_lines "need_lines" S_need_lines f cdv Ar outer s H E).nox (run tb n) (defBody s_need_lines) b_need_lines :=
  have hu : (Ar.deeper (envOfC "need_lines" S_need_lines s.heap.objs.size f cdv)).units + 70 < cLine := by have := hr.un; omega
  have nd : N_need_lines.Nodup := sc_need_lines.nd
  (ss_cons (s_if (t_not (t_val (e_call A.f_fits_lines hr rfl (a_cons (e_var rfl (by first | exact .inl rfl | exact .inr (.inl rfl) | exact .inr (.inr rfl))) a_nil)) (fun _ => rfl))) (ss_cons s_never
  ss_nil) ss_nil)
  ss_nil)
theorem ok_blanks_in (G : Gs mg) (A : Al P w K mg base n) (f : Addr) (cdv : Value) (Ar : Around) (outer : List Env) (s : Shared) (H : Hp) (E : XK) (hr : Room n (Ar.deeper (envOfC "blanks_in" S_blanks_in s.heap.objs.size f cdv))) :
    SsOk (cxOf CX0 P w K mg base N_blanks_in "blanks_in" S_blanks_in f cdv Ar outer s H E).nox (run tb n) (defBody s_blanks_in) b_blanks_in :=
  have hu : (Ar.deeper (envOfC "blanks_in" S_blanks_in s.heap.objs.size f cdv)).units + 70 < cLine := by have := hr.un; omega
  have nd : N_blanks_in.Nodup := sc_blanks_in.nd
  (ss_cons (s_par2 rfl nd rfl rfl (by decide) rfl rfl (x_fr (f_lst a_nil)) (x_val e_int nofun) rfl)
  (ss_cons (s_for PassesOwn.never rfl (i_enum rfl G.g_enumerate (e_var rfl (by first | exact .inl rfl | exact .inr (.inl rfl) | exact .inr (.inr rfl)))) (g_tup rfl (gs_cons (g_name nd rfl (by first | exact .inl rfl | exact .inr rfl) (by first | exact .inl rfl | exact .inr rfl)) (gs_cons (g_name nd rfl (by first | exact .inl rfl | exact .inr rfl) (by first | exact .inl rfl | exact .inr rfl)) gs_nil))) (ss_cons (s_if (t_cmp hu rfl (e_op rfl (e_var rfl (by first | exact .inl rfl | exact .inr (.inl rfl) | exact .inr (.inr rfl))) e_int) e_int (nomark _)) (ss_cons (s_app rfl (by first | exact .inl rfl | exact .inr (.inl rfl) | exact .inr (.inr rfl)) (e_tup (a_cons (e_var rfl (by first | exact .inl rfl | exact .inr (.inl rfl) | exact .inr (.inr rfl))) (a_cons (e_op rfl (e_var rfl (by first | exact .inl rfl | exact .inr (.inl rfl) | exact .inr (.inr rfl))) (e_var rfl (by first | exact .inl rfl | exact .inr (.inl rfl) | exact .inr (.inr rfl)))) a_nil))))
  ss_nil) ss_nil)
  (ss_cons (s_set nd rfl (by first | exact .inl rfl | exact .inr rfl) (e_op rfl (e_var rfl (by first | exact .inl rfl | exact .inr (.inl rfl) | exact .inr (.inr rfl))) (e_var rfl (by first | exact .inl rfl | exact .inr (.inl rfl) | exact .inr (.inr rfl)))) nofun)
  ss_nil)))
  (ss_cons (s_ret (e_var rfl (by first | exact .inl rfl | exact .inr (.inl rfl) | exact .inr (.inr rfl))))
  ss_nil)))
theorem ok_do_meet (G : Gs mg) (A : Al P w K mg base n) (f : Addr) (cdv : Value) (Ar : Around) (outer : List Env) (s : Shared) (H : Hp) (E : XK) (hr : Room n (Ar.deeper (envOfC "do_meet" S_do_meet s.heap.objs.size f cdv))) :
    SsOk (cxOf CX0 P w K mg base N_do_meet "do_meet" S_do_meet f cdv Ar outer s H E).nox (run tb n) (defBody s_do_meet) b_do_meet :=
  have hu : (Ar.deeper (envOfC "do_meet" S_do_meet s.heap.objs.size f cdv)).units + 70 < cLine := by have := hr.un; omega
  have nd : N_do_meet.Nodup := sc_do_meet.nd
  (ss_cons (s_ret (e_and (e_cmp hu rfl (e_sub hu (e_var rfl (by first | exact .inl rfl | exact .inr (.inl rfl) | exact .inr (.inr rfl))) e_int (fun _ _ => rfl)) (e_op rfl (e_op rfl (e_sub hu (e_var rfl (by first | exact .inl rfl | exact .inr (.inl rfl) | exact .inr (.inr rfl))) e_int (fun _ _ => rfl)) (e_var rfl (by first | exact .inl rfl | exact .inr (.inl rfl) | exact .inr (.inr rfl)))) e_int) (nomark _)) (e_one (e_cmp hu rfl (e_sub hu (e_var rfl (by first | exact .inl rfl | exact .inr (.inl rfl) | exact .inr (.inr rfl))) e_int (fun _ _ => rfl)) (e_op rfl (e_op rfl (e_sub hu (e_var rfl (by first | exact .inl rfl | exact .inr (.inl rfl) | exact .inr (.inr rfl))) e_int (fun _ _ => rfl)) (e_var rfl (by first | exact .inl rfl | exact .inr (.inl rfl) | exact .inr (.inr rfl)))) e_int) (nomark _)))))
  ss_nil)
theorem ok_shared_in (G : Gs mg) (A : Al P w K mg base n) (f : Addr) (cdv : Value) (Ar : Around) (outer : List Env) (s : Shared) (H : Hp) (E : XK) (hr : Room n (Ar.deeper (envOfC "shared_in" S_shared_in s.heap.objs.size f cdv))) :
    SsOk (cxOf CX0 P w K mg base N_shared_in "shared_in" S_shared_in f cdv Ar outer s H E).nox (run tb n) (defBody s_shared_in) b_shared_in :=
  have hu : (Ar.deeper (envOfC "shared_in" S_shared_in s.heap.objs.size f cdv)).units + 70 < cLine := by have := hr.un; omega
  have nd : N_shared_in.Nodup := sc_shared_in.nd
  (ss_cons (s_set nd rfl (by first | exact .inl rfl | exact .inr rfl) (e_op rfl (e_biB bi_len_ok rfl G.g_len boot_len (a_cons (e_var rfl (by first | exact .inl rfl | exact .inr (.inl rfl) | exact .inr (.inr rfl))) a_nil)) e_int) nofun)
  (ss_cons (s_par2 rfl nd rfl rfl (by decide) rfl rfl (x_val (e_op rfl (e_var rfl (by first | exact .inl rfl | exact .inr (.inl rfl) | exact .inr (.inr rfl))) (e_var rfl (by first | exact .inl rfl | exact .inr (.inl rfl) | exact .inr (.inr rfl)))) nofun) (x_val (e_op rfl (e_var rfl (by first | exact .inl rfl | exact .inr (.inl rfl) | exact .inr (.inr rfl))) (e_var rfl (by first | exact .inl rfl | exact .inr (.inl rfl) | exact .inr (.inr rfl)))) nofun) rfl)
  (ss_cons (s_set nd rfl (by first | exact .inl rfl | exact .inr rfl) (e_cut (e_var rfl (by first | exact .inl rfl | exact .inr (.inl rfl) | exact .inr (.inr rfl))) o_none (o_some e_int nofun)) nofun)
  (ss_cons (s_for PassesOwn.never rfl (i_rng1 rfl G.g_range (e_var rfl (by first | exact .inl rfl | exact .inr (.inl rfl) | exact .inr (.inr rfl)))) (g_name nd rfl (by first | exact .inl rfl | exact .inr rfl) (by first | exact .inl rfl | exact .inr rfl)) (ss_cons (s_set nd rfl (by first | exact .inl rfl | exact .inr rfl) (e_ite (t_cmp hu rfl (e_var rfl (by first | exact .inl rfl | exact .inr (.inl rfl) | exact .inr (.inr rfl))) e_int (nomark _)) (e_cmp hu rfl (e_var rfl (by first | exact .inl rfl | exact .inr (.inl rfl) | exact .inr (.inr rfl))) (e_var rfl (by first | exact .inl rfl | exact .inr (.inl rfl) | exact .inr (.inr rfl))) (nomark _)) (e_cmp hu rfl (e_var rfl (by first | exact .inl rfl | exact .inr (.inl rfl) | exact .inr (.inr rfl))) (e_op rfl (e_var rfl (by first | exact .inl rfl | exact .inr (.inl rfl) | exact .inr (.inr rfl))) (e_var rfl (by first | exact .inl rfl | exact .inr (.inl rfl) | exact .inr (.inr rfl)))) (nomark _))) nofun)
  (ss_cons (s_set nd rfl (by first | exact .inl rfl | exact .inr rfl) (e_op rfl (e_var rfl (by first | exact .inl rfl | exact .inr (.inl rfl) | exact .inr (.inr rfl))) (e_tup (a_cons (e_ite (t_val (e_var rfl (by first | exact .inl rfl | exact .inr (.inl rfl) | exact .inr (.inr rfl))) (fun _ => rfl)) (e_op rfl (e_var rfl (by first | exact .inl rfl | exact .inr (.inl rfl) | exact .inr (.inr rfl))) e_int) (e_var rfl (by first | exact .inl rfl | exact .inr (.inl rfl) | exact .inr (.inr rfl)))) (a_cons (e_sub hu (e_var rfl (by first | exact .inl rfl | exact .inr (.inl rfl) | exact .inr (.inr rfl))) (e_op rfl (e_var rfl (by first | exact .inl rfl | exact .inr (.inl rfl) | exact .inr (.inr rfl))) e_int) (fun _ _ => rfl)) a_nil)))) nofun)
  ss_nil)))
  (ss_cons (s_ret (e_var rfl (by first | exact .inl rfl | exact .inr (.inl rfl) | exact .inr (.inr rfl))))
  ss_nil)))))
theorem ok_fits_words (G : Gs mg) (A : Al P w K mg base n) (f : Addr) (cdv : Value) (Ar : Around) (outer : List Env) (s : Shared) (H : Hp) (E : XK) (hr : Room n (Ar.deeper (envOfC "fits_words" S_fits_words s.heap.objs.size f cdv))) :
    SsOk (cxOf CX0 P w K mg base N_fits_words "fits_words" S_fits_words f cdv Ar outer s H E).nox (run tb n) (defBody s_fits_words) b_fits_words :=
  have hu : (Ar.deeper (envOfC "fits_words" S_fits_words s.heap.objs.size f cdv)).units + 70 < cLine := by have := hr.un; omega
  have nd : N_fits_words.Nodup := sc_fits_words.nd
  (ss_cons (s_ret (e_and (e_call A.f_is_tuple_of hr rfl (a_cons (e_var rfl (by first | exact .inl rfl | exact .inr (.inl rfl) | exact .inr (.inr rfl))) (a_cons e_int (a_cons (e_globI' rfl G.g_WORDS) a_nil)))) (e_one (e_biB (bi_all_ok rfl) rfl G.g_all (by decide +kernel) (a_cons (e_lc (own := [("one", 1)]) rfl nd (i_val (e_var rfl (by first | exact .inl rfl | exact .inr (.inl rfl) | exact .inr (.inr rfl)))) (blkOk_by (N := N_fits_words) (sc := S_fits_words) (by decide +kernel)) rfl (fun s H C cl fp => (g_name nd rfl (by first | exact .inl rfl | exact .inr rfl) (by first | exact .inl rfl | exact .inr rfl))) (fun s H C cl fp => ts_nil) (fun s H C cl fp => (e_call A.f_fits_whole hr rfl (a_cons (e_var rfl (by first | exact .inl rfl | exact .inr (.inl rfl) | exact .inr (.inr rfl))) (a_cons e_int (a_cons (e_globI' rfl G.g_WORD) a_nil)))))) a_nil)))))
  ss_nil)
theorem ok_need_share (G : Gs mg) (A : Al P w K mg base n) (f : Addr) (cdv : Value) (Ar : Around) (outer : List Env) (s : Shared) (H : Hp) (E : XK) (hr : Room n (Ar.deeper (envOfC "need_share" S_need_share s.heap.objs.size f cdv))) :
    SsOk (cxOf CX0 P w K mg base N_need_share "need_share" S_need_share f cdv Ar outer s H E).nox (run tb n) (defBody s_need_share) b_need_share :=
  have hu : (Ar.deeper (envOfC "need_share" S_need_share s.heap.objs.size f cdv)).units + 70 < cLine := by have := hr.un; omega
  have nd : N_need_share.Nodup := sc_need_share.nd
  (ss_cons (s_if (t_not (t_val (e_call A.f_fits_words hr rfl (a_cons (e_var rfl (by first | exact .inl rfl | exact .inr (.inl rfl) | exact .inr (.inr rfl))) a_nil)) (fun _ => rfl))) (ss_cons s_never
  ss_nil) ss_nil)
  (ss_cons (s_set nd rfl (by first | exact .inl rfl | exact .inr rfl) (e_op rfl (e_biB bi_len_ok rfl G.g_len boot_len (a_cons (e_var rfl (by first | exact .inl rfl | exact .inr (.inl rfl) | exact .inr (.inr rfl))) a_nil)) e_int) nofun)
  (ss_cons (s_if (t_not (t_val (e_call A.f_fits_whole hr rfl (a_cons (e_var rfl (by first | exact .inl rfl | exact .inr (.inl rfl) | exact .inr (.inr rfl))) (a_cons (e_op rfl (e_biB (bi_sum_ok rfl) rfl G.g_sum (by decide +kernel) (a_cons (e_var rfl (by first | exact .inl rfl | exact .inr (.inl rfl) | exact .inr (.inr rfl))) a_nil)) (e_var rfl (by first | exact .inl rfl | exact .inr (.inl rfl) | exact .inr (.inr rfl)))) (a_cons (e_op rfl (e_biB (bi_sum_ok rfl) rfl G.g_sum (by decide +kernel) (a_cons (e_var rfl (by first | exact .inl rfl | exact .inr (.inl rfl) | exact .inr (.inr rfl))) a_nil)) (e_op rfl (e_var rfl (by first | exact .inl rfl | exact .inr (.inl rfl) | exact .inr (.inr rfl))) (e_globI' rfl G.g_BLANK))) a_nil)))) (fun _ => rfl))) (ss_cons s_never
  ss_nil) ss_nil)
  ss_nil)))
theorem ok_faults_in (G : Gs mg) (A : Al P w K mg base n) (f : Addr) (cdv : Value) (Ar : Around) (outer : List Env) (s : Shared) (H : Hp) (E : XK) (hr : Room n (Ar.deeper (envOfC "faults_in" S_faults_in s.heap.objs.size f cdv))) :
    SsOk (cxOf CX0 P w K mg base N_faults_in "faults_in" S_faults_in f cdv Ar outer s H E).nox (run tb n) (defBody s_faults_in) b_faults_in :=
  have hu : (Ar.deeper (envOfC "faults_in" S_faults_in s.heap.objs.size f cdv)).units + 70 < cLine := by have := hr.un; omega
  have nd : N_faults_in.Nodup := sc_faults_in.nd
  (ss_cons (s_ret (e_biB (bi_sum_ok rfl) rfl G.g_sum (by decide +kernel) (a_cons (e_lc (own := [("blank", 1)]) rfl nd (i_val (e_evn1 (e_var rfl (by first | exact .inl rfl | exact .inr (.inl rfl) | exact .inr (.inr rfl))))) (blkOk_by (N := N_faults_in) (sc := S_faults_in) (by decide +kernel)) rfl (fun s H C cl fp => (g_name nd rfl (by first | exact .inl rfl | exact .inr rfl) (by first | exact .inl rfl | exact .inr rfl))) (fun s H C cl fp => ts_nil) (fun s H C cl fp => (e_op rfl (e_var rfl (by first | exact .inl rfl | exact .inr (.inl rfl) | exact .inr (.inr rfl))) (e_var rfl (by first | exact .inl rfl | exact .inr (.inl rfl) | exact .inr (.inr rfl)))))) a_nil)))
  ss_nil)
theorem ok_shares_in (G : Gs mg) (A : Al P w K mg base n) (f : Addr) (cdv : Value) (Ar : Around) (outer : List Env) (s : Shared) (H : Hp) (E : XK) (hr : Room n (Ar.deeper (envOfC "shares_in" S_shares_in s.heap.objs.size f cdv))) :
    SsOk (cxOf CX0 P w K mg base N_shares_in "shares_in" S_shares_in f cdv Ar outer s H E).nox (run tb n) (defBody s_shares_in) b_shares_in :=
  have hu : (Ar.deeper (envOfC "shares_in" S_shares_in s.heap.objs.size f cdv)).units + 70 < cLine := by have := hr.un; omega
  have nd : N_shares_in.Nodup := sc_shares_in.nd
  (ss_cons (s_set nd rfl (by first | exact .inl rfl | exact .inr rfl) (e_lst (a_cons (e_tup (a_cons (e_cut (e_var rfl (by first | exact .inl rfl | exact .inr (.inl rfl) | exact .inr (.inr rfl))) o_none (o_some e_int nofun)) (a_cons (e_var rfl (by first | exact .inl rfl | exact .inr (.inl rfl) | exact .inr (.inr rfl))) a_nil))) a_nil)) nofun)
  (ss_cons (s_for PassesOwn.never rfl (i_enum rfl G.g_enumerate (e_cut (e_var rfl (by first | exact .inl rfl | exact .inr (.inl rfl) | exact .inr (.inr rfl))) (o_some e_int nofun) o_none)) (g_tup rfl (gs_cons (g_name nd rfl (by first | exact .inl rfl | exact .inr rfl) (by first | exact .inl rfl | exact .inr rfl)) (gs_cons (g_name nd rfl (by first | exact .inl rfl | exact .inr rfl) (by first | exact .inl rfl | exact .inr rfl)) gs_nil))) (ss_cons (s_par2 rfl nd rfl rfl (by decide) rfl rfl (x_fr (f_lst a_nil)) (x_val (e_op rfl (e_op rfl (e_biB bi_len_ok rfl G.g_len boot_len (a_cons (e_var rfl (by first | exact .inl rfl | exact .inr (.inl rfl) | exact .inr (.inr rfl))) a_nil)) e_int) (e_var rfl (by first | exact .inl rfl | exact .inr (.inl rfl) | exact .inr (.inr rfl)))) nofun) rfl)
  (ss_cons (s_for PassesOwn.never rfl (i_val (e_var rfl (by first | exact .inl rfl | exact .inr (.inl rfl) | exact .inr (.inr rfl)))) (g_tup rfl (gs_cons (g_name nd rfl (by first | exact .inl rfl | exact .inr rfl) (by first | exact .inl rfl | exact .inr rfl)) (gs_cons (g_name nd rfl (by first | exact .inl rfl | exact .inr rfl) (by first | exact .inl rfl | exact .inr rfl)) gs_nil))) (ss_cons (s_aug nd rfl (by first | exact .inl rfl | exact .inr rfl) (e_lc (own := [("own", 9)]) rfl nd (i_rng2 rfl G.g_range e_int (e_op rfl (e_biB (bi_mn2_ok rfl) rfl G.g_min (by decide +kernel) (a_cons (e_globI' rfl G.g_BLANK) (a_cons (e_op rfl (e_var rfl (by first | exact .inl rfl | exact .inr (.inl rfl) | exact .inr (.inr rfl))) (e_var rfl (by first | exact .inl rfl | exact .inr (.inl rfl) | exact .inr (.inr rfl)))) a_nil))) e_int)) (blkOk_by (N := N_shares_in) (sc := S_shares_in) (by decide +kernel)) rfl (fun s H C cl fp => (g_name nd rfl (by first | exact .inl rfl | exact .inr rfl) (by first | exact .inl rfl | exact .inr rfl))) (fun s H C cl fp => ts_nil) (fun s H C cl fp => (e_tup (a_cons (e_op rfl (e_var rfl (by first | exact .inl rfl | exact .inr (.inl rfl) | exact .inr (.inr rfl))) (e_tup (a_cons (e_var rfl (by first | exact .inl rfl | exact .inr (.inl rfl) | exact .inr (.inr rfl))) (a_cons (e_var rfl (by first | exact .inl rfl | exact .inr (.inl rfl) | exact .inr (.inr rfl))) a_nil)))) (a_cons (e_op rfl (e_var rfl (by first | exact .inl rfl | exact .inr (.inl rfl) | exact .inr (.inr rfl))) (e_var rfl (by first | exact .inl rfl | exact .inr (.inl rfl) | exact .inr (.inr rfl)))) a_nil))))) (by first | exact .inl rfl | exact .inr rfl))
  ss_nil))
  (ss_cons (s_fz (s_set nd rfl (by first | exact .inl rfl | exact .inr rfl) (e_var rfl (by first | exact .inl rfl | exact .inr (.inl rfl) | exact .inr (.inr rfl))) nofun))
  ss_nil))))
  (ss_cons (s_ret (e_lc (own := [("row", 7), ("left", 8)]) rfl nd (i_val (e_var rfl (by first | exact .inl rfl | exact .inr (.inl rfl) | exact .inr (.inr rfl)))) (blkOk_by (N := N_shares_in) (sc := S_shares_in) (by decide +kernel)) rfl (fun s H C cl fp => (g_tup rfl (gs_cons (g_name nd rfl (by first | exact .inl rfl | exact .inr rfl) (by first | exact .inl rfl | exact .inr rfl)) (gs_cons (g_name nd rfl (by first | exact .inl rfl | exact .inr rfl) (by first | exact .inl rfl | exact .inr rfl)) gs_nil)))) (fun s H C cl fp => (ts_one (t_cmp hu rfl (e_var rfl (by first | exact .inl rfl | exact .inr (.inl rfl) | exact .inr (.inr rfl))) e_int (nomark _)))) (fun s H C cl fp => (e_var rfl (by first | exact .inl rfl | exact .inr (.inl rfl) | exact .inr (.inr rfl))))))
  ss_nil)))
theorem ok_are_lines (G : Gs mg) (A : Al P w K mg base n) (f : Addr) (cdv : Value) (Ar : Around) (outer : List Env) (s : Shared) (H : Hp) (E : XK) (hr : Room n (Ar.deeper (envOfC "are_lines" S_are_lines s.heap.objs.size f cdv))) :
    SsOk (cxOf CX0 P w K mg base N_are_lines "are_lines" S_are_lines f cdv Ar outer s H E).nox (run tb n) (defBody s_are_lines) b_are_lines :=
  have hu : (Ar.deeper (envOfC "are_lines" S_are_lines s.heap.objs.size f cdv)).units + 70 < cLine := by have := hr.un; omega
  have nd : N_are_lines.Nodup := sc_are_lines.nd
  (ss_cons (s_ret (e_call A.f_fits_lines hr rfl (a_cons (e_var rfl (by first | exact .inl rfl | exact .inr (.inl rfl) | exact .inr (.inr rfl))) a_nil)))
  ss_nil)
theorem ok_line_width (G : Gs mg) (A : Al P w K mg base n) (f : Addr) (cdv : Value) (Ar : Around) (outer : List Env) (s : Shared) (H : Hp) (E : XK) (hr : Room n (Ar.deeper (envOfC "line_width" S_line_width s.heap.objs.size f cdv))) :
    SsOk (cxOf CX0 P w K mg base N_line_width "line_width" S_line_width f cdv Ar outer s H E).nox (run tb n) (defBody s_line_width) b_line_width :=
  have hu : (Ar.deeper (envOfC "line_width" S_line_width s.heap.objs.size f cdv)).units + 70 < cLine := by have := hr.un; omega
  have nd : N_line_width.Nodup := sc_line_width.nd
  (ss_cons (s_expr (e_call A.f_need_lines hr rfl (a_cons (e_tup (a_cons (e_var rfl (by first | exact .inl rfl | exact .inr (.inl rfl) | exact .inr (.inr rfl))) a_nil)) a_nil)))
  (ss_cons (s_ret (e_biB (bi_sum_ok rfl) rfl G.g_sum (by decide +kernel) (a_cons (e_var rfl (by first | exact .inl rfl | exact .inr (.inl rfl) | exact .inr (.inr rfl))) a_nil)))
  ss_nil))
theorem ok_shared_line (G : Gs mg) (A : Al P w K mg base n) (f : Addr) (cdv : Value) (Ar : Around) (outer : List Env) (s : Shared) (H : Hp) (E : XK) (hr : Room n (Ar.deeper (envOfC "shared_line" S_shared_line s.heap.objs.size f cdv))) :
    SsOk (cxOf CX0 P w K mg base N_shared_line "shared_line" S_shared_line f cdv Ar outer s H E).nox (run tb n) (defBody s_shared_line) b_shared_line :=
  have hu : (Ar.deeper (envOfC "shared_line" S_shared_line s.heap.objs.size f cdv)).units + 70 < cLine := by have := hr.un; omega
  have nd : N_shared_line.Nodup := sc_shared_line.nd
  (ss_cons (s_expr (e_call A.f_need_share hr rfl (a_cons (e_var rfl (by first | exact .inl rfl | exact .inr (.inl rfl) | exact .inr (.inr rfl))) (a_cons (e_var rfl (by first | exact .inl rfl | exact .inr (.inl rfl) | exact .inr (.inr rfl))) a_nil))))
  (ss_cons (s_if (t_not (t_val (e_call A.f_fits_whole hr rfl (a_cons (e_var rfl (by first | exact .inl rfl | exact .inr (.inl rfl) | exact .inr (.inr rfl))) (a_cons e_int (a_cons e_int a_nil)))) (fun _ => rfl))) (ss_cons s_never
  ss_nil) ss_nil)
  (ss_cons (s_ret (e_call A.f_shared_in hr rfl (a_cons (e_var rfl (by first | exact .inl rfl | exact .inr (.inl rfl) | exact .inr (.inr rfl))) (a_cons (e_op rfl (e_var rfl (by first | exact .inl rfl | exact .inr (.inl rfl) | exact .inr (.inr rfl))) (e_biB (bi_sum_ok rfl) rfl G.g_sum (by decide +kernel) (a_cons (e_var rfl (by first | exact .inl rfl | exact .inr (.inl rfl) | exact .inr (.inr rfl))) a_nil))) (a_cons (e_var rfl (by first | exact .inl rfl | exact .inr (.inl rfl) | exact .inr (.inr rfl))) a_nil)))))
  ss_nil)))
theorem ok_least_faults (G : Gs mg) (A : Al P w K mg base n) (f : Addr) (cdv : Value) (Ar : Around) (outer : List Env) (s : Shared) (H : Hp) (E : XK) (hr : Room n (Ar.deeper (envOfC "least_faults" S_least_faults s.heap.objs.size f cdv))) :
    SsOk (cxOf CX0 P w K mg base N_least_faults "least_faults" S_least_faults f cdv Ar outer s H E).nox (run tb n) (defBody s_least_faults) b_least_faults :=
  have hu : (Ar.deeper (envOfC "least_faults" S_least_faults s.heap.objs.size f cdv)).units + 70 < cLine := by have := hr.un; omega
  have nd : N_least_faults.Nodup := sc_least_faults.nd
  (ss_cons (s_expr (e_call A.f_need_share hr rfl (a_cons (e_var rfl (by first | exact .inl rfl | exact .inr (.inl rfl) | exact .inr (.inr rfl))) (a_cons (e_var rfl (by first | exact .inl rfl | exact .inr (.inl rfl) | exact .inr (.inr rfl))) a_nil))))
  (ss_cons (s_ret (e_call A.f_faults_in hr rfl (a_cons (e_call A.f_shared_in hr rfl (a_cons (e_var rfl (by first | exact .inl rfl | exact .inr (.inl rfl) | exact .inr (.inr rfl))) (a_cons (e_op rfl (e_var rfl (by first | exact .inl rfl | exact .inr (.inl rfl) | exact .inr (.inr rfl))) (e_biB (bi_sum_ok rfl) rfl G.g_sum (by decide +kernel) (a_cons (e_var rfl (by first | exact .inl rfl | exact .inr (.inl rfl) | exact .inr (.inr rfl))) a_nil))) (a_cons e_int a_nil)))) a_nil)))
  ss_nil))
theorem ok_lines_many (G : Gs mg) (A : Al P w K mg base n) (f : Addr) (cdv : Value) (Ar : Around) (outer : List Env) (s : Shared) (H : Hp) (E : XK) (hr : Room n (Ar.deeper (envOfC "lines_many" S_lines_many s.heap.objs.size f cdv))) :
    SsOk (cxOf CX0 P w K mg base N_lines_many "lines_many" S_lines_many f cdv Ar outer s H E).nox (run tb n) (defBody s_lines_many) b_lines_many :=
  have hu : (Ar.deeper (envOfC "lines_many" S_lines_many s.heap.objs.size f cdv)).units + 70 < cLine := by have := hr.un; omega
  have nd : N_lines_many.Nodup := sc_lines_many.nd
  (ss_cons (s_expr (e_call A.f_need_share hr rfl (a_cons (e_var rfl (by first | exact .inl rfl | exact .inr (.inl rfl) | exact .inr (.inr rfl))) (a_cons (e_var rfl (by first | exact .inl rfl | exact .inr (.inl rfl) | exact .inr (.inr rfl))) a_nil))))
  (ss_cons (s_if (t_cmp hu rfl (e_op rfl (e_var rfl (by first | exact .inl rfl | exact .inr (.inl rfl) | exact .inr (.inr rfl))) (e_biB (bi_sum_ok rfl) rfl G.g_sum (by decide +kernel) (a_cons (e_var rfl (by first | exact .inl rfl | exact .inr (.inl rfl) | exact .inr (.inr rfl))) a_nil))) (e_globI' rfl G.g_FEW) (nomark _)) (ss_cons s_never
  ss_nil) ss_nil)
  (ss_cons (s_par2 rfl nd rfl rfl (by decide) rfl rfl (x_val (e_op rfl (e_var rfl (by first | exact .inl rfl | exact .inr (.inl rfl) | exact .inr (.inr rfl))) (e_biB (bi_sum_ok rfl) rfl G.g_sum (by decide +kernel) (a_cons (e_var rfl (by first | exact .inl rfl | exact .inr (.inl rfl) | exact .inr (.inr rfl))) a_nil))) nofun) (x_val (e_op rfl (e_biB bi_len_ok rfl G.g_len boot_len (a_cons (e_var rfl (by first | exact .inl rfl | exact .inr (.inl rfl) | exact .inr (.inr rfl))) a_nil)) e_int) nofun) rfl)
  (ss_cons (s_set nd rfl (by first | exact .inl rfl | exact .inr rfl) (e_op rfl (e_lst (a_cons e_int a_nil)) (e_op rfl (e_lst (a_cons e_int a_nil)) (e_var rfl (by first | exact .inl rfl | exact .inr (.inl rfl) | exact .inr (.inr rfl))))) nofun)
  (ss_cons (s_for PassesOwn.never rfl (i_rng1 rfl G.g_range (e_var rfl (by first | exact .inl rfl | exact .inr (.inl rfl) | exact .inr (.inr rfl)))) (g_name nd rfl (by first | exact .inl rfl | exact .inr rfl) (by first | exact .inl rfl | exact .inr rfl)) (ss_cons (s_set nd rfl (by first | exact .inl rfl | exact .inr rfl) (e_lc (own := [("size", 6)]) rfl nd (i_rng1 rfl G.g_range (e_op rfl (e_var rfl (by first | exact .inl rfl | exact .inr (.inl rfl) | exact .inr (.inr rfl))) e_int)) (blkOk_by (N := N_lines_many) (sc := S_lines_many) (by decide +kernel)) rfl (fun s H C cl fp => (g_name nd rfl (by first | exact .inl rfl | exact .inr rfl) (by first | exact .inl rfl | exact .inr rfl))) (fun s H C cl fp => ts_nil) (fun s H C cl fp => (e_biB (bi_sum_ok rfl) rfl G.g_sum (by decide +kernel) (a_cons (e_cut (e_var rfl (by first | exact .inl rfl | exact .inr (.inl rfl) | exact .inr (.inr rfl))) (o_some (e_biB (bi_mx2_ok rfl) rfl G.g_max (by decide +kernel) (a_cons e_int (a_cons (e_op rfl (e_var rfl (by first | exact .inl rfl | exact .inr (.inl rfl) | exact .inr (.inr rfl))) (e_globI' rfl G.g_BLANK)) a_nil))) nofun) (o_some (e_var rfl (by first | exact .inl rfl | exact .inr (.inl rfl) | exact .inr (.inr rfl))) nofun)) a_nil)))) nofun)
  ss_nil))
  (ss_cons (s_ret (e_sub hu (e_var rfl (by first | exact .inl rfl | exact .inr (.inl rfl) | exact .inr (.inr rfl))) (e_var rfl (by first | exact .inl rfl | exact .inr (.inl rfl) | exact .inr (.inr rfl))) (fun _ _ => rfl)))
  ss_nil))))))
theorem ok_calm_line (G : Gs mg) (A : Al P w K mg base n) (f : Addr) (cdv : Value) (Ar : Around) (outer : List Env) (s : Shared) (H : Hp) (E : XK) (hr : Room n (Ar.deeper (envOfC "calm_line" S_calm_line s.heap.objs.size f cdv))) :
    SsOk (cxOf CX0 P w K mg base N_calm_line "calm_line" S_calm_line f cdv Ar outer s H E).nox (run tb n) (defBody s_calm_line) b_calm_line :=
  have hu : (Ar.deeper (envOfC "calm_line" S_calm_line s.heap.objs.size f cdv)).units + 70 < cLine := by have := hr.un; omega
  have nd : N_calm_line.Nodup := sc_calm_line.nd
  (ss_cons (s_expr (e_call A.f_need_share hr rfl (a_cons (e_var rfl (by first | exact .inl rfl | exact .inr (.inl rfl) | exact .inr (.inr rfl))) (a_cons (e_var rfl (by first | exact .inl rfl | exact .inr (.inl rfl) | exact .inr (.inr rfl))) a_nil))))
  (ss_cons (s_if (t_not (t_val (e_call A.f_fits_row hr rfl (a_cons (e_var rfl (by first | exact .inl rfl | exact .inr (.inl rfl) | exact .inr (.inr rfl))) a_nil)) (fun _ => rfl))) (ss_cons s_never
  ss_nil) ss_nil)
  (ss_cons (s_if (t_not (t_val (e_call A.f_fits_whole hr rfl (a_cons (e_var rfl (by first | exact .inl rfl | exact .inr (.inl rfl) | exact .inr (.inr rfl))) (a_cons e_int (a_cons (e_globI' rfl G.g_REACH) a_nil)))) (fun _ => rfl))) (ss_cons s_never
  ss_nil) ss_nil)
  (ss_cons (s_if (WOk.t (w_or (t_cmp hu rfl (e_biB bi_len_ok rfl G.g_len boot_len (a_cons (e_var rfl (by first | exact .inl rfl | exact .inr (.inl rfl) | exact .inr (.inr rfl))) a_nil)) e_int (nomark _)) (w_one_or (t_cmp hu rfl (e_op rfl (e_var rfl (by first | exact .inl rfl | exact .inr (.inl rfl) | exact .inr (.inr rfl))) (e_biB (bi_sum_ok rfl) rfl G.g_sum (by decide +kernel) (a_cons (e_var rfl (by first | exact .inl rfl | exact .inr (.inl rfl) | exact .inr (.inr rfl))) a_nil))) (e_globI' rfl G.g_FEW) (nomark _))))) (ss_cons s_never
  ss_nil) ss_nil)
  (ss_cons (s_setF nd rfl (by first | exact .inl rfl | exact .inr rfl) (f_lst a_nil))
  (ss_cons (s_for PassesOwn.never rfl (i_val (e_call A.f_shares_in hr rfl (a_cons (e_var rfl (by first | exact .inl rfl | exact .inr (.inl rfl) | exact .inr (.inr rfl))) (a_cons (e_op rfl (e_var rfl (by first | exact .inl rfl | exact .inr (.inl rfl) | exact .inr (.inr rfl))) (e_biB (bi_sum_ok rfl) rfl G.g_sum (by decide +kernel) (a_cons (e_var rfl (by first | exact .inl rfl | exact .inr (.inl rfl) | exact .inr (.inr rfl))) a_nil))) a_nil)))) (g_name nd rfl (by first | exact .inl rfl | exact .inr rfl) (by first | exact .inl rfl | exact .inr rfl)) (ss_cons (s_setLc (own := [("one", 7)]) rfl nd rfl rfl rfl (i_val (e_call A.f_blanks_in hr rfl (a_cons (e_var rfl (by first | exact .inl rfl | exact .inr (.inl rfl) | exact .inr (.inr rfl))) a_nil))) (blkOk_by (N := N_calm_line) (sc := S_calm_line) (by decide +kernel)) rfl (fun s H C cl fp => (g_name nd rfl (by first | exact .inl rfl | exact .inr rfl) (by first | exact .inl rfl | exact .inr rfl))) (fun s H C cl fp => (ts_one (t_val (e_biB (bi_any_ok rfl) rfl G.g_any (by decide +kernel) (a_cons (e_lc (own := [("other", 8)]) rfl nd (i_val (e_call A.f_blanks_in hr rfl (a_cons (e_var rfl (by first | exact .inl rfl | exact .inr (.inl rfl) | exact .inr (.inr rfl))) a_nil))) (blkOk_by (N := N_calm_line) (by with_unfolding_all rfl)) rfl (fun s H C cl fp => (g_name nd rfl (by first | exact .inl rfl | exact .inr rfl) (by first | exact .inl rfl | exact .inr rfl))) (fun s H C cl fp => ts_nil) (fun s H C cl fp => (e_call A.f_do_meet hr rfl (a_cons (e_var rfl (by first | exact .inl rfl | exact .inr (.inl rfl) | exact .inr (.inr rfl))) (a_cons (e_var rfl (by first | exact .inl rfl | exact .inr (.inl rfl) | exact .inr (.inr rfl))) (a_cons (e_var rfl (by first | exact .inl rfl | exact .inr (.inl rfl) | exact .inr (.inr rfl))) a_nil)))))) a_nil)) (fun _ => rfl)))) (fun s H C cl fp => e_int))
  (ss_cons (s_app rfl (by first | exact .inl rfl | exact .inr (.inl rfl) | exact .inr (.inr rfl)) (e_tup (a_cons (e_biB bi_len_ok rfl G.g_len boot_len (a_cons (e_var rfl (by first | exact .inl rfl | exact .inr (.inl rfl) | exact .inr (.inr rfl))) a_nil)) (a_cons (e_call A.f_faults_in hr rfl (a_cons (e_var rfl (by first | exact .inl rfl | exact .inr (.inl rfl) | exact .inr (.inr rfl))) a_nil)) (a_cons (e_var rfl (by first | exact .inl rfl | exact .inr (.inl rfl) | exact .inr (.inr rfl))) a_nil)))))
  ss_nil)))
  (ss_cons (s_ret (e_sub hu (e_biB (bi_mng_ok hu rfl) rfl G.g_min (by decide +kernel) (a_cons (e_var rfl (by first | exact .inl rfl | exact .inr (.inl rfl) | exact .inr (.inr rfl))) a_nil)) e_int (fun _ _ => rfl)))
  ss_nil)))))))
theorem ok__law_cup (G : Gs mg) (A : Al P w K mg base n) (f : Addr) (cdv : Value) (Ar : Around) (outer : List Env) (s : Shared) (H : Hp) (E : XK) (hr : Room n (Ar.deeper (envOfC "_law_cup" S__law_cup s.heap.objs.size f cdv))) :
    SsOk (cxOf CX0 P w K mg base N__law_cup "_law_cup" S__law_cup f cdv Ar outer s H E).nox (run tb n) (defBody s__law_cup) b__law_cup :=
  have hu : (Ar.deeper (envOfC "_law_cup" S__law_cup s.heap.objs.size f cdv)).units + 70 < cLine := by have := hr.un; omega
  have nd : N__law_cup.Nodup := sc__law_cup.nd
  (ss_cons (s_set nd rfl (by first | exact .inl rfl | exact .inr rfl) (e_biB bi_abs_ok rfl G.g_abs boot_abs (a_cons (e_sub hu (e_op rfl (e_biNT bi_list_ok rfl G.g_list boot_list (a_cons (e_var rfl (by first | exact .inl rfl | exact .inr (.inl rfl) | exact .inr (.inr rfl))) a_nil)) (e_lst (a_cons e_int a_nil))) e_int (fun _ _ => rfl)) a_nil)) nofun)
  (ss_cons (s_ret (e_mkbox (f_lst (a_cons (e_ite (t_cmp hu rfl (e_var rfl (by first | exact .inl rfl | exact .inr (.inl rfl) | exact .inr (.inr rfl))) (e_op rfl e_int e_int) (nomark _)) (e_op rfl (e_var rfl (by first | exact .inl rfl | exact .inr (.inl rfl) | exact .inr (.inr rfl))) e_int) e_int) (a_cons (e_op rfl (e_op rfl (e_biT bi_int_ok rfl G.g_int boot_int (a_cons (e_op rfl (e_op rfl (e_var rfl (by first | exact .inl rfl | exact .inr (.inl rfl) | exact .inr (.inr rfl))) e_int) e_int) a_nil)) e_int) e_int) a_nil)))))
  ss_nil))
theorem ok__law_roll (G : Gs mg) (A : Al P w K mg base n) (f : Addr) (cdv : Value) (Ar : Around) (outer : List Env) (s : Shared) (H : Hp) (E : XK) (hr : Room n (Ar.deeper (envOfC "_law_roll" S__law_roll s.heap.objs.size f cdv))) :
    SsOk (cxOf CX0 P w K mg base N__law_roll "_law_roll" S__law_roll f cdv Ar outer s H E).nox (run tb n) (defBody s__law_roll) b__law_roll :=
  have hu : (Ar.deeper (envOfC "_law_roll" S__law_roll s.heap.objs.size f cdv)).units + 70 < cLine := by have := hr.un; omega
  have nd : N__law_roll.Nodup := sc__law_roll.nd
  (ss_cons (s_if (t_cmp hu rfl (e_sub hu (e_var rfl (by first | exact .inl rfl | exact .inr (.inl rfl) | exact .inr (.inr rfl))) e_int (fun _ _ => rfl)) e_int (nomark _)) (ss_cons (s_set nd rfl (by first | exact .inl rfl | exact .inr rfl) (e_op rfl (e_biT bi_int_ok rfl G.g_int boot_int (a_cons (e_sub hu (e_var rfl (by first | exact .inl rfl | exact .inr (.inl rfl) | exact .inr (.inr rfl))) e_int (fun _ _ => rfl)) a_nil)) (e_var rfl (by first | exact .inl rfl | exact .inr (.inl rfl) | exact .inr (.inr rfl)))) nofun)
  (ss_cons (s_bx hu (e_op rfl (e_sub hu (e_var rfl (by first | exact .inl rfl | exact .inr (.inl rfl) | exact .inr (.inr rfl))) e_int (fun _ _ => rfl)) (e_var rfl (by first | exact .inl rfl | exact .inr (.inl rfl) | exact .inr (.inr rfl)))) nofun (e_var rfl (by first | exact .inl rfl | exact .inr (.inl rfl) | exact .inr (.inr rfl))) e_int)
  (ss_cons (s_ret (e_var rfl (by first | exact .inl rfl | exact .inr (.inl rfl) | exact .inr (.inr rfl))))
  ss_nil))) ss_nil)
  (ss_cons (s_bx hu (e_op rfl (e_biT bi_int_ok rfl G.g_int boot_int (a_cons (e_op rfl (e_op rfl (e_sub hu (e_var rfl (by first | exact .inl rfl | exact .inr (.inl rfl) | exact .inr (.inr rfl))) e_int (fun _ _ => rfl)) e_int) e_int) a_nil)) e_int) nofun (e_var rfl (by first | exact .inl rfl | exact .inr (.inl rfl) | exact .inr (.inr rfl))) e_int)
  (ss_cons (s_set nd rfl (by first | exact .inl rfl | exact .inr rfl) (e_op rfl (e_biT bi_int_ok rfl G.g_int boot_int (a_cons (e_op rfl (e_sub hu (e_var rfl (by first | exact .inl rfl | exact .inr (.inl rfl) | exact .inr (.inr rfl))) e_int (fun _ _ => rfl)) (e_op rfl (e_sub hu (e_var rfl (by first | exact .inl rfl | exact .inr (.inl rfl) | exact .inr (.inr rfl))) e_int (fun _ _ => rfl)) e_int)) a_nil)) e_int) nofun)
  (ss_cons (s_ret (e_op rfl (e_biT bi_int_ok rfl G.g_int boot_int (a_cons (e_op rfl (e_var rfl (by first | exact .inl rfl | exact .inr (.inl rfl) | exact .inr (.inr rfl))) e_int) a_nil)) (e_var rfl (by first | exact .inl rfl | exact .inr (.inl rfl) | exact .inr (.inr rfl)))))
  ss_nil))))
theorem ok__law_some (G : Gs mg) (A : Al P w K mg base n) (f : Addr) (cdv : Value) (Ar : Around) (outer : List Env) (s : Shared) (H : Hp) (E : XK) (hr : Room n (Ar.deeper (envOfC "_law_some" S__law_some s.heap.objs.size f cdv))) :
    SsOk (cxOf CX0 P w K mg base N__law_some "_law_some" S__law_some f cdv Ar outer s H E).nox (run tb n) (defBody s__law_some) b__law_some :=
  have hu : (Ar.deeper (envOfC "_law_some" S__law_some s.heap.objs.size f cdv)).units + 70 < cLine := by have := hr.un; omega
  have nd : N__law_some.Nodup := sc__law_some.nd
  (ss_cons (s_ret (e_sub hu (e_var rfl (by first | exact .inl rfl | exact .inr (.inl rfl) | exact .inr (.inr rfl))) (e_call A.f__law_roll hr rfl (a_cons (e_var rfl (by first | exact .inl rfl | exact .inr (.inl rfl) | exact .inr (.inr rfl))) (a_cons (e_biB bi_len_ok rfl G.g_len boot_len (a_cons (e_var rfl (by first | exact .inl rfl | exact .inr (.inl rfl) | exact .inr (.inr rfl))) a_nil)) a_nil))) (fun _ _ => rfl)))
  ss_nil)
theorem ok__law_same (G : Gs mg) (A : Al P w K mg base n) (f : Addr) (cdv : Value) (Ar : Around) (outer : List Env) (s : Shared) (H : Hp) (E : XK) (hr : Room n (Ar.deeper (envOfC "_law_same" S__law_same s.heap.objs.size f cdv))) :
    SsOk (cxOf CX0 P w K mg base N__law_same "_law_same" S__law_same f cdv Ar outer s H E).nox (run tb n) (defBody s__law_same) b__law_same :=
  have hu : (Ar.deeper (envOfC "_law_same" S__law_same s.heap.objs.size f cdv)).units + 70 < cLine := by have := hr.un; omega
  have nd : N__law_same.Nodup := sc__law_same.nd
  (ss_cons (s_if (t_val (e_isi (e_var rfl (by first | exact .inl rfl | exact .inr (.inl rfl) | exact .inr (.inr rfl))) rfl G.g_isinstance rfl G.g_tuple boot_tuple) (fun _ => rfl)) (ss_cons (s_if (WOk.t (w_or (t_not (t_val (e_isi (e_var rfl (by first | exact .inl rfl | exact .inr (.inl rfl) | exact .inr (.inr rfl))) rfl G.g_isinstance rfl G.g_tuple boot_tuple) (fun _ => rfl))) (w_one_or (t_cmp hu rfl (e_biB bi_len_ok rfl G.g_len boot_len (a_cons (e_var rfl (by first | exact .inl rfl | exact .inr (.inl rfl) | exact .inr (.inr rfl))) a_nil)) (e_biB bi_len_ok rfl G.g_len boot_len (a_cons (e_var rfl (by first | exact .inl rfl | exact .inr (.inl rfl) | exact .inr (.inr rfl))) a_nil)) (nomark _))))) (ss_cons (s_ret e_bl)
  ss_nil) ss_nil)
  (ss_cons (s_ret (e_biB (bi_all_ok rfl) rfl G.g_all (by decide +kernel) (a_cons (e_lc (own := [("at", 2)]) rfl nd (i_rng1 rfl G.g_range (e_biB bi_len_ok rfl G.g_len boot_len (a_cons (e_var rfl (by first | exact .inl rfl | exact .inr (.inl rfl) | exact .inr (.inr rfl))) a_nil))) (blkOk_by (N := N__law_same) (sc := S__law_same) (by decide +kernel)) rfl (fun s H C cl fp => (g_name nd rfl (by first | exact .inl rfl | exact .inr rfl) (by first | exact .inl rfl | exact .inr rfl))) (fun s H C cl fp => ts_nil) (fun s H C cl fp => (e_call A.f__law_same hr rfl (a_cons (e_sub hu (e_var rfl (by first | exact .inl rfl | exact .inr (.inl rfl) | exact .inr (.inr rfl))) (e_var rfl (by first | exact .inl rfl | exact .inr (.inl rfl) | exact .inr (.inr rfl))) (fun _ _ => rfl)) (a_cons (e_sub hu (e_var rfl (by first | exact .inl rfl | exact .inr (.inl rfl) | exact .inr (.inr rfl))) (e_var rfl (by first | exact .inl rfl | exact .inr (.inl rfl) | exact .inr (.inr rfl))) (fun _ _ => rfl)) a_nil))))) a_nil)))
  ss_nil)) ss_nil)
  (ss_cons (s_if (t_cmp hu rfl (e_var rfl (by first | exact .inl rfl | exact .inr (.inl rfl) | exact .inr (.inr rfl))) e_non (nomark _)) (ss_cons (s_ret (e_cmp hu rfl (e_var rfl (by first | exact .inl rfl | exact .inr (.inl rfl) | exact .inr (.inr rfl))) e_non (nomark _)))
  ss_nil) ss_nil)
  (ss_cons (s_if (t_val (e_isi (e_var rfl (by first | exact .inl rfl | exact .inr (.inl rfl) | exact .inr (.inr rfl))) rfl G.g_isinstance rfl G.g_bool boot_bool) (fun _ => rfl)) (ss_cons (s_ret (e_ite (t_val (e_var rfl (by first | exact .inl rfl | exact .inr (.inl rfl) | exact .inr (.inr rfl))) (fun _ => rfl)) (e_cmp hu rfl (e_var rfl (by first | exact .inl rfl | exact .inr (.inl rfl) | exact .inr (.inr rfl))) e_bl (nomark _)) (e_cmp hu rfl (e_var rfl (by first | exact .inl rfl | exact .inr (.inl rfl) | exact .inr (.inr rfl))) e_bl (nomark _))))
  ss_nil) ss_nil)
  (ss_cons (s_if (t_val (e_isi (e_var rfl (by first | exact .inl rfl | exact .inr (.inl rfl) | exact .inr (.inr rfl))) rfl G.g_isinstance rfl G.g_int boot_int) (fun _ => rfl)) (ss_cons (s_ret (e_and (e_isi (e_var rfl (by first | exact .inl rfl | exact .inr (.inl rfl) | exact .inr (.inr rfl))) rfl G.g_isinstance rfl G.g_int boot_int) (e_and (e_not (e_isi (e_var rfl (by first | exact .inl rfl | exact .inr (.inl rfl) | exact .inr (.inr rfl))) rfl G.g_isinstance rfl G.g_bool boot_bool)) (e_one (e_cmp hu rfl (e_biT bi_int_ok rfl G.g_int boot_int (a_cons (e_var rfl (by first | exact .inl rfl | exact .inr (.inl rfl) | exact .inr (.inr rfl))) a_nil)) (e_var rfl (by first | exact .inl rfl | exact .inr (.inl rfl) | exact .inr (.inr rfl))) (nomark _))))))
  ss_nil) ss_nil)
  (ss_cons (s_ret (e_and (e_isi (e_var rfl (by first | exact .inl rfl | exact .inr (.inl rfl) | exact .inr (.inr rfl))) rfl G.g_isinstance rfl G.g_str boot_str) (e_one (e_cmp hu rfl (e_biT bi_str_ok rfl G.g_str boot_str (a_cons (e_var rfl (by first | exact .inl rfl | exact .inr (.inl rfl) | exact .inr (.inr rfl))) a_nil)) (e_var rfl (by first | exact .inl rfl | exact .inr (.inl rfl) | exact .inr (.inr rfl))) (nomark _)))))
  ss_nil)))))
theorem ok__law_set (G : Gs mg) (A : Al P w K mg base n) (f : Addr) (cdv : Value) (Ar : Around) (outer : List Env) (s : Shared) (H : Hp) (E : XK) (hr : Room n (Ar.deeper (envOfC "_law_set" S__law_set s.heap.objs.size f cdv))) :
    SsOk (cxOf CX0 P w K mg base N__law_set "_law_set" S__law_set f cdv Ar outer s H E).nox (run tb n) (defBody s__law_set) b__law_set :=
  have hu : (Ar.deeper (envOfC "_law_set" S__law_set s.heap.objs.size f cdv)).units + 70 < cLine := by have := hr.un; omega
  have nd : N__law_set.Nodup := sc__law_set.nd
  (ss_cons (s_set nd rfl (by first | exact .inl rfl | exact .inr rfl) (e_tup (a_cons (e_op rfl e_int (e_call A.f__law_roll hr rfl (a_cons (e_var rfl (by first | exact .inl rfl | exact .inr (.inl rfl) | exact .inr (.inr rfl))) (a_cons e_int a_nil)))) a_nil)) nofun)
  (ss_cons (s_for PassesOwn.never rfl (i_rng1 rfl G.g_range (e_call A.f__law_roll hr rfl (a_cons (e_var rfl (by first | exact .inl rfl | exact .inr (.inl rfl) | exact .inr (.inr rfl))) (a_cons (e_var rfl (by first | exact .inl rfl | exact .inr (.inl rfl) | exact .inr (.inr rfl))) a_nil)))) (g_name nd rfl (by first | exact .inl rfl | exact .inr rfl) (by first | exact .inl rfl | exact .inr rfl)) (ss_cons (s_set nd rfl (by first | exact .inl rfl | exact .inr rfl) (e_op rfl (e_var rfl (by first | exact .inl rfl | exact .inr (.inl rfl) | exact .inr (.inr rfl))) (e_tup (a_cons (e_op rfl e_int (e_call A.f__law_some hr rfl (a_cons (e_var rfl (by first | exact .inl rfl | exact .inr (.inl rfl) | exact .inr (.inr rfl))) (a_cons (e_lst (a_cons e_int (a_cons e_int (a_cons e_int (a_cons (e_call A.f__law_roll hr rfl (a_cons (e_var rfl (by first | exact .inl rfl | exact .inr (.inl rfl) | exact .inr (.inr rfl))) (a_cons e_int a_nil))) a_nil))))) a_nil)))) (a_cons (e_op rfl e_int (e_call A.f__law_roll hr rfl (a_cons (e_var rfl (by first | exact .inl rfl | exact .inr (.inl rfl) | exact .inr (.inr rfl))) (a_cons e_int a_nil)))) a_nil)))) nofun)
  ss_nil))
  (ss_cons (s_ret (e_var rfl (by first | exact .inl rfl | exact .inr (.inl rfl) | exact .inr (.inr rfl))))
  ss_nil)))
theorem ok__law_covered (G : Gs mg) (A : Al P w K mg base n) (f : Addr) (cdv : Value) (Ar : Around) (outer : List Env) (s : Shared) (H : Hp) (E : XK) (hr : Room n (Ar.deeper (envOfC "_law_covered" S__law_covered s.heap.objs.size f cdv))) :
    SsOk (cxOf CX0 P w K mg base N__law_covered "_law_covered" S__law_covered f cdv Ar outer s H E).nox (run tb n) (defBody s__law_covered) b__law_covered :=
  have hu : (Ar.deeper (envOfC "_law_covered" S__law_covered s.heap.objs.size f cdv)).units + 70 < cLine := by have := hr.un; omega
  have nd : N__law_covered.Nodup := sc__law_covered.nd
  (ss_cons (s_setF nd rfl (by first | exact .inl rfl | exact .inr rfl) (f_lst a_nil))
  (ss_cons (s_for PassesOwn.never rfl (i_rng3 rfl G.g_range e_int (e_biB bi_len_ok rfl G.g_len boot_len (a_cons (e_var rfl (by first | exact .inl rfl | exact .inr (.inl rfl) | exact .inr (.inr rfl))) a_nil)) e_int) (g_name nd rfl (by first | exact .inl rfl | exact .inr rfl) (by first | exact .inl rfl | exact .inr rfl)) (ss_cons (s_set nd rfl (by first | exact .inl rfl | exact .inr rfl) (e_biB (bi_sum_ok rfl) rfl G.g_sum (by decide +kernel) (a_cons (e_cut (e_var rfl (by first | exact .inl rfl | exact .inr (.inl rfl) | exact .inr (.inr rfl))) o_none (o_some (e_var rfl (by first | exact .inl rfl | exact .inr (.inl rfl) | exact .inr (.inr rfl))) nofun)) a_nil)) nofun)
  (ss_cons (s_app rfl (by first | exact .inl rfl | exact .inr (.inl rfl) | exact .inr (.inr rfl)) (e_listRg2 rfl rfl G.g_list rfl G.g_range (e_var rfl (by first | exact .inl rfl | exact .inr (.inl rfl) | exact .inr (.inr rfl))) (e_op rfl (e_var rfl (by first | exact .inl rfl | exact .inr (.inl rfl) | exact .inr (.inr rfl))) (e_sub hu (e_var rfl (by first | exact .inl rfl | exact .inr (.inl rfl) | exact .inr (.inr rfl))) (e_var rfl (by first | exact .inl rfl | exact .inr (.inl rfl) | exact .inr (.inr rfl))) (fun _ _ => rfl)))))
  ss_nil)))
  (ss_cons (s_ret (e_var rfl (by first | exact .inl rfl | exact .inr (.inl rfl) | exact .inr (.inr rfl))))
  ss_nil)))
theorem ok__law_meet (G : Gs mg) (A : Al P w K mg base n) (f : Addr) (cdv : Value) (Ar : Around) (outer : List Env) (s : Shared) (H : Hp) (E : XK) (hr : Room n (Ar.deeper (envOfC "_law_meet" S__law_meet s.heap.objs.size f cdv))) :
    SsOk (cxOf CX0 P w K mg base N__law_meet "_law_meet" S__law_meet f cdv Ar outer s H E).nox (run tb n) (defBody s__law_meet) b__law_meet :=
  have hu : (Ar.deeper (envOfC "_law_meet" S__law_meet s.heap.objs.size f cdv)).units + 70 < cLine := by have := hr.un; omega
  have nd : N__law_meet.Nodup := sc__law_meet.nd
  (ss_cons (s_set nd rfl (by first | exact .inl rfl | exact .inr rfl) e_int nofun)
  (ss_cons (s_for PassesOwn.never rfl (i_val (e_var rfl (by first | exact .inl rfl | exact .inr (.inl rfl) | exact .inr (.inr rfl)))) (g_name nd rfl (by first | exact .inl rfl | exact .inr rfl) (by first | exact .inl rfl | exact .inr rfl)) (ss_cons (s_set nd rfl (by first | exact .inl rfl | exact .inr rfl) (e_biB (bi_mn_ok rfl) rfl G.g_min (by decide +kernel) (a_cons (e_op rfl (e_lst (a_cons (e_var rfl (by first | exact .inl rfl | exact .inr (.inl rfl) | exact .inr (.inr rfl))) a_nil)) (e_lc (own := [("own", 5)]) rfl nd (i_val (e_var rfl (by first | exact .inl rfl | exact .inr (.inl rfl) | exact .inr (.inr rfl)))) (blkOk_by (N := N__law_meet) (sc := S__law_meet) (by decide +kernel)) rfl (fun s H C cl fp => (g_name nd rfl (by first | exact .inl rfl | exact .inr rfl) (by first | exact .inl rfl | exact .inr rfl))) (fun s H C cl fp => ts_nil) (fun s H C cl fp => (e_biB bi_abs_ok rfl G.g_abs boot_abs (a_cons (e_op rfl (e_var rfl (by first | exact .inl rfl | exact .inr (.inl rfl) | exact .inr (.inr rfl))) (e_var rfl (by first | exact .inl rfl | exact .inr (.inl rfl) | exact .inr (.inr rfl)))) a_nil))))) a_nil)) nofun)
  ss_nil))
  (ss_cons (s_ret (e_cmp hu rfl (e_var rfl (by first | exact .inl rfl | exact .inr (.inl rfl) | exact .inr (.inr rfl))) (e_var rfl (by first | exact .inl rfl | exact .inr (.inl rfl) | exact .inr (.inr rfl))) (nomark _)))
  ss_nil)))
theorem ok__law_all (G : Gs mg) (A : Al P w K mg base n) (f : Addr) (cdv : Value) (Ar : Around) (outer : List Env) (s : Shared) (H : Hp) (E : XK) (hr : Room n (Ar.deeper (envOfC "_law_all" S__law_all s.heap.objs.size f cdv))) :
    SsOk (cxOf CX0 P w K mg base N__law_all "_law_all" S__law_all f cdv Ar outer s H E).nox (run tb n) (defBody s__law_all) b__law_all :=
  have hu : (Ar.deeper (envOfC "_law_all" S__law_all s.heap.objs.size f cdv)).units + 70 < cLine := by have := hr.un; omega
  have nd : N__law_all.Nodup := sc__law_all.nd
  (ss_cons (s_if (t_cmp hu rfl (e_biB bi_len_ok rfl G.g_len boot_len (a_cons (e_var rfl (by first | exact .inl rfl | exact .inr (.inl rfl) | exact .inr (.inr rfl))) a_nil)) e_int (nomark _)) (ss_cons (s_ret (e_ite (t_cmp hu rfl (e_var rfl (by first | exact .inl rfl | exact .inr (.inl rfl) | exact .inr (.inr rfl))) (e_sub hu (e_var rfl (by first | exact .inl rfl | exact .inr (.inl rfl) | exact .inr (.inr rfl))) e_int (fun _ _ => rfl)) (nomark _)) (e_lst (a_cons (e_var rfl (by first | exact .inl rfl | exact .inr (.inl rfl) | exact .inr (.inr rfl))) a_nil)) (e_lst a_nil)))
  ss_nil) ss_nil)
  (ss_cons (s_set nd rfl (by first | exact .inl rfl | exact .inr rfl) (e_lst a_nil) nofun)
  (ss_cons (s_for PassesOwn.never rfl (i_rng2 rfl G.g_range e_int (e_op rfl (e_biB (bi_mn2_ok rfl) rfl G.g_min (by decide +kernel) (a_cons e_int (a_cons (e_op rfl (e_var rfl (by first | exact .inl rfl | exact .inr (.inl rfl) | exact .inr (.inr rfl))) (e_biB (bi_sum_ok rfl) rfl G.g_sum (by decide +kernel) (a_cons (e_var rfl (by first | exact .inl rfl | exact .inr (.inl rfl) | exact .inr (.inr rfl))) a_nil))) a_nil))) e_int)) (g_name nd rfl (by first | exact .inl rfl | exact .inr rfl) (by first | exact .inl rfl | exact .inr rfl)) (ss_cons (s_set nd rfl (by first | exact .inl rfl | exact .inr rfl) (e_op rfl (e_var rfl (by first | exact .inl rfl | exact .inr (.inl rfl) | exact .inr (.inr rfl))) (e_lc (own := [("rest", 4)]) rfl nd (i_val (e_call A.f__law_all hr rfl (a_cons (e_cut (e_var rfl (by first | exact .inl rfl | exact .inr (.inl rfl) | exact .inr (.inr rfl))) (o_some e_int nofun) o_none) (a_cons (e_op rfl (e_op rfl (e_var rfl (by first | exact .inl rfl | exact .inr (.inl rfl) | exact .inr (.inr rfl))) (e_sub hu (e_var rfl (by first | exact .inl rfl | exact .inr (.inl rfl) | exact .inr (.inr rfl))) e_int (fun _ _ => rfl))) (e_var rfl (by first | exact .inl rfl | exact .inr (.inl rfl) | exact .inr (.inr rfl)))) a_nil)))) (blkOk_by (N := N__law_all) (sc := S__law_all) (by decide +kernel)) rfl (fun s H C cl fp => (g_name nd rfl (by first | exact .inl rfl | exact .inr rfl) (by first | exact .inl rfl | exact .inr rfl))) (fun s H C cl fp => ts_nil) (fun s H C cl fp => (e_op rfl (e_op rfl (e_cut (e_var rfl (by first | exact .inl rfl | exact .inr (.inl rfl) | exact .inr (.inr rfl))) o_none (o_some e_int nofun)) (e_tup (a_cons (e_var rfl (by first | exact .inl rfl | exact .inr (.inl rfl) | exact .inr (.inr rfl))) a_nil))) (e_var rfl (by first | exact .inl rfl | exact .inr (.inl rfl) | exact .inr (.inr rfl))))))) nofun)
  ss_nil))
  (ss_cons (s_ret (e_var rfl (by first | exact .inl rfl | exact .inr (.inl rfl) | exact .inr (.inr rfl))))
  ss_nil))))
theorem ok__law_faults (G : Gs mg) (A : Al P w K mg base n) (f : Addr) (cdv : Value) (Ar : Around) (outer : List Env) (s : Shared) (H : Hp) (E : XK) (hr : Room n (Ar.deeper (envOfC "_law_faults" S__law_faults s.heap.objs.size f cdv))) :
    SsOk (cxOf CX0 P w K mg base N__law_faults "_law_faults" S__law_faults f cdv Ar outer s H E).nox (run tb n) (defBody s__law_faults) b__law_faults :=
  have hu : (Ar.deeper (envOfC "_law_faults" S__law_faults s.heap.objs.size f cdv)).units + 70 < cLine := by have := hr.un; omega
  have nd : N__law_faults.Nodup := sc__law_faults.nd
  (ss_cons (s_ret (e_biB (bi_sum_ok rfl) rfl G.g_sum (by decide +kernel) (a_cons (e_lc (own := [("at", 1)]) rfl nd (i_rng3 rfl G.g_range e_int (e_biB bi_len_ok rfl G.g_len boot_len (a_cons (e_var rfl (by first | exact .inl rfl | exact .inr (.inl rfl) | exact .inr (.inr rfl))) a_nil)) e_int) (blkOk_by (N := N__law_faults) (sc := S__law_faults) (by decide +kernel)) rfl (fun s H C cl fp => (g_name nd rfl (by first | exact .inl rfl | exact .inr rfl) (by first | exact .inl rfl | exact .inr rfl))) (fun s H C cl fp => ts_nil) (fun s H C cl fp => (e_op rfl (e_sub hu (e_var rfl (by first | exact .inl rfl | exact .inr (.inl rfl) | exact .inr (.inr rfl))) (e_var rfl (by first | exact .inl rfl | exact .inr (.inl rfl) | exact .inr (.inr rfl))) (fun _ _ => rfl)) (e_sub hu (e_var rfl (by first | exact .inl rfl | exact .inr (.inl rfl) | exact .inr (.inr rfl))) (e_var rfl (by first | exact .inl rfl | exact .inr (.inl rfl) | exact .inr (.inr rfl))) (fun _ _ => rfl))))) a_nil)))
  ss_nil)
theorem ok__law_right (G : Gs mg) (A : Al P w K mg base n) (f : Addr) (cdv : Value) (Ar : Around) (outer : List Env) (s : Shared) (H : Hp) (E : XK) (hr : Room n (Ar.deeper (envOfC "_law_right" S__law_right s.heap.objs.size f cdv))) :
    SsOk (cxOf CX0 P w K mg base N__law_right "_law_right" S__law_right f cdv Ar outer s H E).nox (run tb n) (defBody s__law_right) b__law_right :=
  have hu : (Ar.deeper (envOfC "_law_right" S__law_right s.heap.objs.size f cdv)).units + 70 < cLine := by have := hr.un; omega
  have nd : N__law_right.Nodup := sc__law_right.nd
  (ss_cons (s_set nd rfl (by first | exact .inl rfl | exact .inr rfl) (e_biT bi_tuple_ok rfl G.g_tuple boot_tuple (a_cons (e_lc (own := [("turn", 15)]) rfl nd (i_rng1 rfl G.g_range (e_op rfl e_int (e_call A.f__law_roll hr rfl (a_cons (e_var rfl (by first | exact .inl rfl | exact .inr (.inl rfl) | exact .inr (.inr rfl))) (a_cons e_int a_nil))))) (blkOk_by (N := N__law_right) (sc := S__law_right) (by decide +kernel)) rfl (fun s H C cl fp => (g_name nd rfl (by first | exact .inl rfl | exact .inr rfl) (by first | exact .inl rfl | exact .inr rfl))) (fun s H C cl fp => ts_nil) (fun s H C cl fp => (e_op rfl e_int (e_call A.f__law_roll hr rfl (a_cons (e_var rfl (by first | exact .inl rfl | exact .inr (.inl rfl) | exact .inr (.inr rfl))) (a_cons e_int a_nil)))))) a_nil)) nofun)
  (ss_cons (s_set nd rfl (by first | exact .inl rfl | exact .inr rfl) (e_op rfl (e_biB bi_len_ok rfl G.g_len boot_len (a_cons (e_var rfl (by first | exact .inl rfl | exact .inr (.inl rfl) | exact .inr (.inr rfl))) a_nil)) e_int) nofun)
  (ss_cons (s_set nd rfl (by first | exact .inl rfl | exact .inr rfl) (e_op rfl (e_op rfl (e_biB (bi_sum_ok rfl) rfl G.g_sum (by decide +kernel) (a_cons (e_var rfl (by first | exact .inl rfl | exact .inr (.inl rfl) | exact .inr (.inr rfl))) a_nil)) (e_var rfl (by first | exact .inl rfl | exact .inr (.inl rfl) | exact .inr (.inr rfl)))) (e_call A.f__law_roll hr rfl (a_cons (e_var rfl (by first | exact .inl rfl | exact .inr (.inl rfl) | exact .inr (.inr rfl))) (a_cons (e_op rfl (e_biB (bi_mng2_ok hu rfl) rfl G.g_min (by decide +kernel) (a_cons e_int (a_cons (e_op rfl e_int (e_var rfl (by first | exact .inl rfl | exact .inr (.inl rfl) | exact .inr (.inr rfl)))) a_nil))) e_int) a_nil)))) nofun)
  (ss_cons (s_set nd rfl (by first | exact .inl rfl | exact .inr rfl) (e_call A.f__law_all hr rfl (a_cons (e_var rfl (by first | exact .inl rfl | exact .inr (.inl rfl) | exact .inr (.inr rfl))) (a_cons (e_var rfl (by first | exact .inl rfl | exact .inr (.inl rfl) | exact .inr (.inr rfl))) a_nil))) nofun)
  (ss_cons (s_set nd rfl (by first | exact .inl rfl | exact .inr rfl) (e_biB (bi_mng_ok hu rfl) rfl G.g_min (by decide +kernel) (a_cons (e_lc (own := [("row", 13)]) rfl nd (i_val (e_var rfl (by first | exact .inl rfl | exact .inr (.inl rfl) | exact .inr (.inr rfl)))) (blkOk_by (N := N__law_right) (sc := S__law_right) (by decide +kernel)) rfl (fun s H C cl fp => (g_name nd rfl (by first | exact .inl rfl | exact .inr rfl) (by first | exact .inl rfl | exact .inr rfl))) (fun s H C cl fp => ts_nil) (fun s H C cl fp => (e_call A.f__law_faults hr rfl (a_cons (e_var rfl (by first | exact .inl rfl | exact .inr (.inl rfl) | exact .inr (.inr rfl))) a_nil)))) a_nil)) nofun)
  (ss_cons (s_setLc (own := [("row", 13)]) rfl nd rfl rfl rfl (i_val (e_var rfl (by first | exact .inl rfl | exact .inr (.inl rfl) | exact .inr (.inr rfl)))) (blkOk_by (N := N__law_right) (sc := S__law_right) (by decide +kernel)) rfl (fun s H C cl fp => (g_name nd rfl (by first | exact .inl rfl | exact .inr rfl) (by first | exact .inl rfl | exact .inr rfl))) (fun s H C cl fp => (ts_one (t_cmp hu rfl (e_op rfl (e_biB (bi_mxg_ok hu rfl) rfl G.g_max (by decide +kernel) (a_cons (e_evn1 (e_var rfl (by first | exact .inl rfl | exact .inr (.inl rfl) | exact .inr (.inr rfl)))) a_nil)) (e_biB (bi_mng_ok hu rfl) rfl G.g_min (by decide +kernel) (a_cons (e_evn1 (e_var rfl (by first | exact .inl rfl | exact .inr (.inl rfl) | exact .inr (.inr rfl)))) a_nil))) e_int (nomark _)))) (fun s H C cl fp => (e_var rfl (by first | exact .inl rfl | exact .inr (.inl rfl) | exact .inr (.inr rfl)))))
  (ss_cons (s_setLc (own := [("row", 13)]) rfl nd rfl rfl rfl (i_val (e_var rfl (by first | exact .inl rfl | exact .inr (.inl rfl) | exact .inr (.inr rfl)))) (blkOk_by (N := N__law_right) (sc := S__law_right) (by decide +kernel)) rfl (fun s H C cl fp => (g_name nd rfl (by first | exact .inl rfl | exact .inr rfl) (by first | exact .inl rfl | exact .inr rfl))) (fun s H C cl fp => (ts_one (t_cmp hu rfl (e_biNT bi_list_ok rfl G.g_list boot_list (a_cons (e_evn1 (e_var rfl (by first | exact .inl rfl | exact .inr (.inl rfl) | exact .inr (.inr rfl)))) a_nil)) (e_rev (e_biNB (bi_sorted_ok hu) rfl G.g_sorted boot_sorted (a_cons (e_evn1 (e_var rfl (by first | exact .inl rfl | exact .inr (.inl rfl) | exact .inr (.inr rfl)))) a_nil))) (nomark _)))) (fun s H C cl fp => (e_var rfl (by first | exact .inl rfl | exact .inr (.inl rfl) | exact .inr (.inr rfl)))))
  (ss_cons (s_setLc (own := [("row", 13)]) rfl nd rfl rfl rfl (i_val (e_var rfl (by first | exact .inl rfl | exact .inr (.inl rfl) | exact .inr (.inr rfl)))) (blkOk_by (N := N__law_right) (sc := S__law_right) (by decide +kernel)) rfl (fun s H C cl fp => (g_name nd rfl (by first | exact .inl rfl | exact .inr rfl) (by first | exact .inl rfl | exact .inr rfl))) (fun s H C cl fp => (ts_one (t_cmp hu rfl (e_biNT bi_list_ok rfl G.g_list boot_list (a_cons (e_evn1 (e_var rfl (by first | exact .inl rfl | exact .inr (.inl rfl) | exact .inr (.inr rfl)))) a_nil)) (e_biNB (bi_sorted_ok hu) rfl G.g_sorted boot_sorted (a_cons (e_evn1 (e_var rfl (by first | exact .inl rfl | exact .inr (.inl rfl) | exact .inr (.inr rfl)))) a_nil)) (nomark _)))) (fun s H C cl fp => (e_var rfl (by first | exact .inl rfl | exact .inr (.inl rfl) | exact .inr (.inr rfl)))))
  (ss_cons (s_set nd rfl (by first | exact .inl rfl | exact .inr rfl) (e_tup (a_cons (e_call A.f_shared_line hr rfl (a_cons (e_var rfl (by first | exact .inl rfl | exact .inr (.inl rfl) | exact .inr (.inr rfl))) (a_cons (e_var rfl (by first | exact .inl rfl | exact .inr (.inl rfl) | exact .inr (.inr rfl))) (a_cons e_int a_nil)))) (a_cons (e_call A.f_shared_line hr rfl (a_cons (e_var rfl (by first | exact .inl rfl | exact .inr (.inl rfl) | exact .inr (.inr rfl))) (a_cons (e_var rfl (by first | exact .inl rfl | exact .inr (.inl rfl) | exact .inr (.inr rfl))) (a_cons e_int a_nil)))) (a_cons (e_call A.f_least_faults hr rfl (a_cons (e_var rfl (by first | exact .inl rfl | exact .inr (.inl rfl) | exact .inr (.inr rfl))) (a_cons (e_var rfl (by first | exact .inl rfl | exact .inr (.inl rfl) | exact .inr (.inr rfl))) a_nil))) (a_cons (e_call A.f_lines_many hr rfl (a_cons (e_var rfl (by first | exact .inl rfl | exact .inr (.inl rfl) | exact .inr (.inr rfl))) (a_cons (e_var rfl (by first | exact .inl rfl | exact .inr (.inl rfl) | exact .inr (.inr rfl))) a_nil))) a_nil))))) nofun)
  (ss_cons (s_if (WOk.t (w_or (t_not (t_val (e_call A.f__law_same hr rfl (a_cons (e_var rfl (by first | exact .inl rfl | exact .inr (.inl rfl) | exact .inr (.inr rfl))) (a_cons (e_tup (a_cons (e_sub hu (e_var rfl (by first | exact .inl rfl | exact .inr (.inl rfl) | exact .inr (.inr rfl))) e_int (fun _ _ => rfl)) (a_cons (e_sub hu (e_var rfl (by first | exact .inl rfl | exact .inr (.inl rfl) | exact .inr (.inr rfl))) e_int (fun _ _ => rfl)) (a_cons (e_var rfl (by first | exact .inl rfl | exact .inr (.inl rfl) | exact .inr (.inr rfl))) (a_cons (e_biB bi_len_ok rfl G.g_len boot_len (a_cons (e_var rfl (by first | exact .inl rfl | exact .inr (.inl rfl) | exact .inr (.inr rfl))) a_nil)) a_nil))))) a_nil))) (fun _ => rfl))) (w_one_or (t_cmp hu rfl (e_call A.f__law_faults hr rfl (a_cons (e_sub hu (e_var rfl (by first | exact .inl rfl | exact .inr (.inl rfl) | exact .inr (.inr rfl))) e_int (fun _ _ => rfl)) a_nil)) (e_var rfl (by first | exact .inl rfl | exact .inr (.inl rfl) | exact .inr (.inr rfl))) (nomark _))))) (ss_cons (s_ret e_bl)
  ss_nil) ss_nil)
  (ss_cons (s_asgT (e_tup (a_cons (e_call A.f__law_set hr rfl (a_cons (e_var rfl (by first | exact .inl rfl | exact .inr (.inl rfl) | exact .inr (.inr rfl))) (a_cons e_int a_nil))) (a_cons (e_call A.f__law_roll hr rfl (a_cons (e_var rfl (by first | exact .inl rfl | exact .inr (.inl rfl) | exact .inr (.inr rfl))) (a_cons e_int a_nil))) a_nil))) nofun (g_tup rfl (gs_cons (g_name nd rfl (by first | exact .inl rfl | exact .inr rfl) (by first | exact .inl rfl | exact .inr rfl)) (gs_cons (g_name nd rfl (by first | exact .inl rfl | exact .inr rfl) (by first | exact .inl rfl | exact .inr rfl)) gs_nil))))
  (ss_cons (s_setF nd rfl (by first | exact .inl rfl | exact .inr rfl) (f_lst a_nil))
  (ss_cons (s_for PassesOwn.never rfl (i_val (e_var rfl (by first | exact .inl rfl | exact .inr (.inl rfl) | exact .inr (.inr rfl)))) (g_name nd rfl (by first | exact .inl rfl | exact .inr rfl) (by first | exact .inl rfl | exact .inr rfl)) (ss_cons (s_setLc (own := [("one", 16)]) rfl nd rfl rfl rfl (i_val (e_call A.f__law_covered hr rfl (a_cons (e_var rfl (by first | exact .inl rfl | exact .inr (.inl rfl) | exact .inr (.inr rfl))) a_nil))) (blkOk_by (N := N__law_right) (sc := S__law_right) (by decide +kernel)) rfl (fun s H C cl fp => (g_name nd rfl (by first | exact .inl rfl | exact .inr rfl) (by first | exact .inl rfl | exact .inr rfl))) (fun s H C cl fp => (ts_one (t_cmp hu rfl (e_lc (own := [("other", 17)]) rfl nd (i_val (e_call A.f__law_covered hr rfl (a_cons (e_var rfl (by first | exact .inl rfl | exact .inr (.inl rfl) | exact .inr (.inr rfl))) a_nil))) (blkOk_by (N := N__law_right) (by with_unfolding_all rfl)) rfl (fun s H C cl fp => (g_name nd rfl (by first | exact .inl rfl | exact .inr rfl) (by first | exact .inl rfl | exact .inr rfl))) (fun s H C cl fp => (ts_one (t_val (e_call A.f__law_meet hr rfl (a_cons (e_var rfl (by first | exact .inl rfl | exact .inr (.inl rfl) | exact .inr (.inr rfl))) (a_cons (e_var rfl (by first | exact .inl rfl | exact .inr (.inl rfl) | exact .inr (.inr rfl))) (a_cons (e_var rfl (by first | exact .inl rfl | exact .inr (.inl rfl) | exact .inr (.inr rfl))) a_nil)))) (fun _ => rfl)))) (fun s H C cl fp => (e_var rfl (by first | exact .inl rfl | exact .inr (.inl rfl) | exact .inr (.inr rfl))))) (e_lst a_nil) (nomark _)))) (fun s H C cl fp => (e_var rfl (by first | exact .inl rfl | exact .inr (.inl rfl) | exact .inr (.inr rfl)))))
  (ss_cons (s_app rfl (by first | exact .inl rfl | exact .inr (.inl rfl) | exact .inr (.inr rfl)) (e_tup (a_cons (e_biB bi_len_ok rfl G.g_len boot_len (a_cons (e_var rfl (by first | exact .inl rfl | exact .inr (.inl rfl) | exact .inr (.inr rfl))) a_nil)) (a_cons (e_call A.f__law_faults hr rfl (a_cons (e_var rfl (by first | exact .inl rfl | exact .inr (.inl rfl) | exact .inr (.inr rfl))) a_nil)) (a_cons (e_var rfl (by first | exact .inl rfl | exact .inr (.inl rfl) | exact .inr (.inr rfl))) a_nil)))))
  ss_nil)))
  (ss_cons (s_set nd rfl (by first | exact .inl rfl | exact .inr rfl) (e_call A.f_calm_line hr rfl (a_cons (e_var rfl (by first | exact .inl rfl | exact .inr (.inl rfl) | exact .inr (.inr rfl))) (a_cons (e_var rfl (by first | exact .inl rfl | exact .inr (.inl rfl) | exact .inr (.inr rfl))) (a_cons (e_var rfl (by first | exact .inl rfl | exact .inr (.inl rfl) | exact .inr (.inr rfl))) (a_cons (e_var rfl (by first | exact .inl rfl | exact .inr (.inl rfl) | exact .inr (.inr rfl))) a_nil))))) nofun)
  (ss_cons (s_ret (e_and (e_call A.f__law_same hr rfl (a_cons (e_var rfl (by first | exact .inl rfl | exact .inr (.inl rfl) | exact .inr (.inr rfl))) (a_cons (e_sub hu (e_biB (bi_mng_ok hu rfl) rfl G.g_min (by decide +kernel) (a_cons (e_var rfl (by first | exact .inl rfl | exact .inr (.inl rfl) | exact .inr (.inr rfl))) a_nil)) e_int (fun _ _ => rfl)) a_nil))) (e_and (e_cmp hu rfl (e_call A.f_are_lines hr rfl (a_cons (e_tup (a_cons (e_var rfl (by first | exact .inl rfl | exact .inr (.inl rfl) | exact .inr (.inr rfl))) a_nil)) a_nil)) e_bl (nomark _)) (e_one (e_call A.f__law_same hr rfl (a_cons (e_call A.f_line_width hr rfl (a_cons (e_var rfl (by first | exact .inl rfl | exact .inr (.inl rfl) | exact .inr (.inr rfl))) a_nil)) (a_cons (e_var rfl (by first | exact .inl rfl | exact .inr (.inl rfl) | exact .inr (.inr rfl))) a_nil)))))))
  ss_nil)))))))))))))))
theorem ok_law (G : Gs mg) (A : Al P w K mg base n) (f : Addr) (cdv : Value) (Ar : Around) (outer : List Env) (s : Shared) (H : Hp) (E : XK) (hr : Room n (Ar.deeper (envOfC "law" S_law s.heap.objs.size f cdv))) :
    SsOk (cxOf CX0 P w K mg base N_law "law" S_law f cdv Ar outer s H E).nox (run tb n) (defBody s_law) b_law :=
  have hu : (Ar.deeper (envOfC "law" S_law s.heap.objs.size f cdv)).units + 70 < cLine := by have := hr.un; omega
  have nd : N_law.Nodup := sc_law.nd
  (ss_cons (s_set nd rfl (by first | exact .inl rfl | exact .inr rfl) (e_call A.f__law_cup hr rfl (a_cons (e_var rfl (by first | exact .inl rfl | exact .inr (.inl rfl) | exact .inr (.inr rfl))) a_nil)) nofun)
  (ss_cons (s_for PassesOwn.never rfl (i_rng1 rfl G.g_range e_int) (g_name nd rfl (by first | exact .inl rfl | exact .inr rfl) (by first | exact .inl rfl | exact .inr rfl)) (ss_cons (s_if (t_not (t_val (e_call A.f__law_right hr rfl (a_cons (e_var rfl (by first | exact .inl rfl | exact .inr (.inl rfl) | exact .inr (.inr rfl))) a_nil)) (fun _ => rfl))) (ss_cons (s_ret e_bl)
  ss_nil) ss_nil)
  ss_nil))
  (ss_cons (s_par2 rfl nd rfl rfl (by decide) rfl rfl (x_val (e_op rfl e_int (e_call A.f__law_roll hr rfl (a_cons (e_var rfl (by first | exact .inl rfl | exact .inr (.inl rfl) | exact .inr (.inr rfl))) (a_cons e_int a_nil)))) nofun) (x_val (e_op rfl e_int (e_call A.f__law_roll hr rfl (a_cons (e_var rfl (by first | exact .inl rfl | exact .inr (.inl rfl) | exact .inr (.inr rfl))) (a_cons e_int a_nil)))) nofun) rfl)
  (ss_cons (s_set nd rfl (by first | exact .inl rfl | exact .inr rfl) (e_call A.f__law_roll hr rfl (a_cons (e_var rfl (by first | exact .inl rfl | exact .inr (.inl rfl) | exact .inr (.inr rfl))) (a_cons (e_op rfl (e_var rfl (by first | exact .inl rfl | exact .inr (.inl rfl) | exact .inr (.inr rfl))) e_int) a_nil))) nofun)
  (ss_cons (s_set nd rfl (by first | exact .inl rfl | exact .inr rfl) (e_op rfl (e_tup (a_cons e_int a_nil)) (e_var rfl (by first | exact .inl rfl | exact .inr (.inl rfl) | exact .inr (.inr rfl)))) nofun)
  (ss_cons (s_set nd rfl (by first | exact .inl rfl | exact .inr rfl) (e_op rfl (e_op rfl (e_op rfl e_int (e_var rfl (by first | exact .inl rfl | exact .inr (.inl rfl) | exact .inr (.inr rfl)))) (e_op rfl (e_var rfl (by first | exact .inl rfl | exact .inr (.inl rfl) | exact .inr (.inr rfl))) (e_op rfl (e_var rfl (by first | exact .inl rfl | exact .inr (.inl rfl) | exact .inr (.inr rfl))) e_int))) (e_var rfl (by first | exact .inl rfl | exact .inr (.inl rfl) | exact .inr (.inr rfl)))) nofun)
  (ss_cons (s_set nd rfl (by first | exact .inl rfl | exact .inr rfl) (e_tup (a_cons e_int a_nil)) nofun)
  (ss_cons (s_for PassesOwn.never rfl (i_rng1 rfl G.g_range (e_op rfl (e_var rfl (by first | exact .inl rfl | exact .inr (.inl rfl) | exact .inr (.inr rfl))) e_int)) (g_name nd rfl (by first | exact .inl rfl | exact .inr rfl) (by first | exact .inl rfl | exact .inr rfl)) (ss_cons (s_set nd rfl (by first | exact .inl rfl | exact .inr rfl) (e_op rfl (e_var rfl (by first | exact .inl rfl | exact .inr (.inl rfl) | exact .inr (.inr rfl))) (e_tup (a_cons (e_op rfl (e_var rfl (by first | exact .inl rfl | exact .inr (.inl rfl) | exact .inr (.inr rfl))) (e_ite (t_cmp hu rfl (e_var rfl (by first | exact .inl rfl | exact .inr (.inl rfl) | exact .inr (.inr rfl))) (e_var rfl (by first | exact .inl rfl | exact .inr (.inl rfl) | exact .inr (.inr rfl))) (nomark _)) e_int e_int)) (a_cons e_int a_nil)))) nofun)
  ss_nil))
  (ss_cons (s_set nd rfl (by first | exact .inl rfl | exact .inr rfl) (e_tup (a_cons (e_call A.f_shared_line hr rfl (a_cons (e_var rfl (by first | exact .inl rfl | exact .inr (.inl rfl) | exact .inr (.inr rfl))) (a_cons (e_var rfl (by first | exact .inl rfl | exact .inr (.inl rfl) | exact .inr (.inr rfl))) (a_cons e_int a_nil)))) (a_cons (e_call A.f_shared_line hr rfl (a_cons (e_var rfl (by first | exact .inl rfl | exact .inr (.inl rfl) | exact .inr (.inr rfl))) (a_cons (e_var rfl (by first | exact .inl rfl | exact .inr (.inl rfl) | exact .inr (.inr rfl))) (a_cons e_int a_nil)))) (a_cons (e_call A.f_least_faults hr rfl (a_cons (e_var rfl (by first | exact .inl rfl | exact .inr (.inl rfl) | exact .inr (.inr rfl))) (a_cons (e_var rfl (by first | exact .inl rfl | exact .inr (.inl rfl) | exact .inr (.inr rfl))) a_nil))) a_nil)))) nofun)
  (ss_cons (s_ret (e_call A.f__law_same hr rfl (a_cons (e_var rfl (by first | exact .inl rfl | exact .inr (.inl rfl) | exact .inr (.inr rfl))) (a_cons (e_tup (a_cons (e_var rfl (by first | exact .inl rfl | exact .inr (.inl rfl) | exact .inr (.inr rfl))) (a_cons (e_rev (e_var rfl (by first | exact .inl rfl | exact .inr (.inl rfl) | exact .inr (.inr rfl)))) (a_cons (e_call A.f__law_faults hr rfl (a_cons (e_var rfl (by first | exact .inl rfl | exact .inr (.inl rfl) | exact .inr (.inr rfl))) a_nil)) a_nil)))) a_nil))))
  ss_nil))))))))))
end
/-- where the defs stand -/
structure Fs (K : PySem.W.Frag) (mg : Str → Option Value) : Prop where
  d_is_whole : ∃ (f : Addr) (fd : FuncData), FunD K "is_whole" "is_whole" (defArgs s_is_whole) (defBody s_is_whole) S_is_whole [] [] f fd ∧ mg "is_whole" = some (.ref f)
  d_fits_whole : ∃ (f : Addr) (fd : FuncData), FunD K "fits_whole" "fits_whole" (defArgs s_fits_whole) (defBody s_fits_whole) S_fits_whole [] [] f fd ∧ mg "fits_whole" = some (.ref f)
  d_is_tuple_of : ∃ (f : Addr) (fd : FuncData), FunD K "is_tuple_of" "is_tuple_of" (defArgs s_is_tuple_of) (defBody s_is_tuple_of) S_is_tuple_of [] [] f fd ∧ mg "is_tuple_of" = some (.ref f)
  d_fits_row : ∃ (f : Addr) (fd : FuncData), FunD K "fits_row" "fits_row" (defArgs s_fits_row) (defBody s_fits_row) S_fits_row [] [] f fd ∧ mg "fits_row" = some (.ref f)
  d_fits_lines : ∃ (f : Addr) (fd : FuncData), FunD K "fits_lines" "fits_lines" (defArgs s_fits_lines) (defBody s_fits_lines) S_fits_lines [] [] f fd ∧ mg "fits_lines" = some (.ref f)
  d_need_lines : ∃ (f : Addr) (fd : FuncData), FunD K "need_lines" "need_lines" (defArgs s_need_lines) (defBody s_need_lines) S_need_lines [] [] f fd ∧ mg "need_lines" = some (.ref f)
  d_blanks_in : ∃ (f : Addr) (fd : FuncData), FunD K "blanks_in" "blanks_in" (defArgs s_blanks_in) (defBody s_blanks_in) S_blanks_in [] [] f fd ∧ mg "blanks_in" = some (.ref f)
  d_do_meet : ∃ (f : Addr) (fd : FuncData), FunD K "do_meet" "do_meet" (defArgs s_do_meet) (defBody s_do_meet) S_do_meet [] [] f fd ∧ mg "do_meet" = some (.ref f)
  d_shared_in : ∃ (f : Addr) (fd : FuncData), FunD K "shared_in" "shared_in" (defArgs s_shared_in) (defBody s_shared_in) S_shared_in [] [] f fd ∧ mg "shared_in" = some (.ref f)
  d_fits_words : ∃ (f : Addr) (fd : FuncData), FunD K "fits_words" "fits_words" (defArgs s_fits_words) (defBody s_fits_words) S_fits_words [] [] f fd ∧ mg "fits_words" = some (.ref f)
  d_need_share : ∃ (f : Addr) (fd : FuncData), FunD K "need_share" "need_share" (defArgs s_need_share) (defBody s_need_share) S_need_share [] [] f fd ∧ mg "need_share" = some (.ref f)
  d_faults_in : ∃ (f : Addr) (fd : FuncData), FunD K "faults_in" "faults_in" (defArgs s_faults_in) (defBody s_faults_in) S_faults_in [] [] f fd ∧ mg "faults_in" = some (.ref f)
  d_shares_in : ∃ (f : Addr) (fd : FuncData), FunD K "shares_in" "shares_in" (defArgs s_shares_in) (defBody s_shares_in) S_shares_in [] [] f fd ∧ mg "shares_in" = some (.ref f)
  d_are_lines : ∃ (f : Addr) (fd : FuncData), FunD K "are_lines" "are_lines" (defArgs s_are_lines) (defBody s_are_lines) S_are_lines [] [] f fd ∧ mg "are_lines" = some (.ref f)
  d_line_width : ∃ (f : Addr) (fd : FuncData), FunD K "line_width" "line_width" (defArgs s_line_width) (defBody s_line_width) S_line_width [] [] f fd ∧ mg "line_width" = some (.ref f)
  d_shared_line : ∃ (f : Addr) (fd : FuncData), FunD K "shared_line" "shared_line" (defArgs s_shared_line) (defBody s_shared_line) S_shared_line [] [] f fd ∧ mg "shared_line" = some (.ref f)
  d_least_faults : ∃ (f : Addr) (fd : FuncData), FunD K "least_faults" "least_faults" (defArgs s_least_faults) (defBody s_least_faults) S_least_faults [] [] f fd ∧ mg "least_faults" = some (.ref f)
  d_lines_many : ∃ (f : Addr) (fd : FuncData), FunD K "lines_many" "lines_many" (defArgs s_lines_many) (defBody s_lines_many) S_lines_many [] [] f fd ∧ mg "lines_many" = some (.ref f)
  d_calm_line : ∃ (f : Addr) (fd : FuncData), FunD K "calm_line" "calm_line" (defArgs s_calm_line) (defBody s_calm_line) S_calm_line [] [] f fd ∧ mg "calm_line" = some (.ref f)
  d__law_cup : ∃ (f : Addr) (fd : FuncData), FunD K "_law_cup" "_law_cup" (defArgs s__law_cup) (defBody s__law_cup) S__law_cup [] [] f fd ∧ mg "_law_cup" = some (.ref f)
  d__law_roll : ∃ (f : Addr) (fd : FuncData), FunD K "_law_roll" "_law_roll" (defArgs s__law_roll) (defBody s__law_roll) S__law_roll [] [] f fd ∧ mg "_law_roll" = some (.ref f)
  d__law_some : ∃ (f : Addr) (fd : FuncData), FunD K "_law_some" "_law_some" (defArgs s__law_some) (defBody s__law_some) S__law_some [] [] f fd ∧ mg "_law_some" = some (.ref f)
  d__law_same : ∃ (f : Addr) (fd : FuncData), FunD K "_law_same" "_law_same" (defArgs s__law_same) (defBody s__law_same) S__law_same [] [] f fd ∧ mg "_law_same" = some (.ref f)
  d__law_set : ∃ (f : Addr) (fd : FuncData), FunD K "_law_set" "_law_set" (defArgs s__law_set) (defBody s__law_set) S__law_set [] [] f fd ∧ mg "_law_set" = some (.ref f)
  d__law_covered : ∃ (f : Addr) (fd : FuncData), FunD K "_law_covered" "_law_covered" (defArgs s__law_covered) (defBody s__law_covered) S__law_covered [] [] f fd ∧ mg "_law_covered" = some (.ref f)
  d__law_meet : ∃ (f : Addr) (fd : FuncData), FunD K "_law_meet" "_law_meet" (defArgs s__law_meet) (defBody s__law_meet) S__law_meet [] [] f fd ∧ mg "_law_meet" = some (.ref f)
  d__law_all : ∃ (f : Addr) (fd : FuncData), FunD K "_law_all" "_law_all" (defArgs s__law_all) (defBody s__law_all) S__law_all [] [] f fd ∧ mg "_law_all" = some (.ref f)
  d__law_faults : ∃ (f : Addr) (fd : FuncData), FunD K "_law_faults" "_law_faults" (defArgs s__law_faults) (defBody s__law_faults) S__law_faults [] [] f fd ∧ mg "_law_faults" = some (.ref f)
  d__law_right : ∃ (f : Addr) (fd : FuncData), FunD K "_law_right" "_law_right" (defArgs s__law_right) (defBody s__law_right) S__law_right [] [] f fd ∧ mg "_law_right" = some (.ref f)
  d_law : ∃ (f : Addr) (fd : FuncData), FunD K "law" "law" (defArgs s_law) (defBody s_law) S_law [] [] f fd ∧ mg "law" = some (.ref f)
theorem all_ok {P : Program} {w : World} {K : PySem.W.Frag} {mg : Str → Option Value} {base : Heap} (G : Gs mg) (F : Fs K mg) : ∀ n : Nat, Al P w K mg base n
  | 0 => {
    f_is_whole := by obtain ⟨f, fd, h, hm⟩ := F.d_is_whole; exact ⟨⟨f, fd, ["value"], fn_zero rfl, hm, h.kp, h.bindsN fun _ _ _ _ _ _ us hl => match us, hl with | [_], _ => rfl⟩⟩
    f_fits_whole := by obtain ⟨f, fd, h, hm⟩ := F.d_fits_whole; exact ⟨⟨f, fd, ["value", "low", "high"], fn_zero rfl, hm, h.kp, h.bindsN fun _ _ _ _ _ _ us hl => match us, hl with | [_, _, _], _ => rfl⟩⟩
    f_is_tuple_of := by obtain ⟨f, fd, h, hm⟩ := F.d_is_tuple_of; exact ⟨⟨f, fd, ["value", "least", "most"], fn_zero rfl, hm, h.kp, h.bindsN fun _ _ _ _ _ _ us hl => match us, hl with | [_, _, _], _ => rfl⟩⟩
    f_fits_row := by obtain ⟨f, fd, h, hm⟩ := F.d_fits_row; exact ⟨⟨f, fd, ["value"], fn_zero rfl, hm, h.kp, h.bindsN fun _ _ _ _ _ _ us hl => match us, hl with | [_], _ => rfl⟩⟩
    f_fits_lines := by obtain ⟨f, fd, h, hm⟩ := F.d_fits_lines; exact ⟨⟨f, fd, ["value"], fn_zero rfl, hm, h.kp, h.bindsN fun _ _ _ _ _ _ us hl => match us, hl with | [_], _ => rfl⟩⟩
    f_need_lines := by obtain ⟨f, fd, h, hm⟩ := F.d_need_lines; exact ⟨⟨f, fd, ["value"], fn_zero rfl, hm, h.kp, h.bindsN fun _ _ _ _ _ _ us hl => match us, hl with | [_], _ => rfl⟩⟩
    f_blanks_in := by obtain ⟨f, fd, h, hm⟩ := F.d_blanks_in; exact ⟨⟨f, fd, ["row"], fn_zero rfl, hm, h.kp, h.bindsN fun _ _ _ _ _ _ us hl => match us, hl with | [_], _ => rfl⟩⟩
    f_do_meet := by obtain ⟨f, fd, h, hm⟩ := F.d_do_meet; exact ⟨⟨f, fd, ["one", "other", "reach"], fn_zero rfl, hm, h.kp, h.bindsN fun _ _ _ _ _ _ us hl => match us, hl with | [_, _, _], _ => rfl⟩⟩
    f_shared_in := by obtain ⟨f, fd, h, hm⟩ := F.d_shared_in; exact ⟨⟨f, fd, ["words", "blanks", "even"], fn_zero rfl, hm, h.kp, h.bindsN fun _ _ _ _ _ _ us hl => match us, hl with | [_, _, _], _ => rfl⟩⟩
    f_fits_words := by obtain ⟨f, fd, h, hm⟩ := F.d_fits_words; exact ⟨⟨f, fd, ["value"], fn_zero rfl, hm, h.kp, h.bindsN fun _ _ _ _ _ _ us hl => match us, hl with | [_], _ => rfl⟩⟩
    f_need_share := by obtain ⟨f, fd, h, hm⟩ := F.d_need_share; exact ⟨⟨f, fd, ["words", "wide"], fn_zero rfl, hm, h.kp, h.bindsN fun _ _ _ _ _ _ us hl => match us, hl with | [_, _], _ => rfl⟩⟩
    f_faults_in := by obtain ⟨f, fd, h, hm⟩ := F.d_faults_in; exact ⟨⟨f, fd, ["row"], fn_zero rfl, hm, h.kp, h.bindsN fun _ _ _ _ _ _ us hl => match us, hl with | [_], _ => rfl⟩⟩
    f_shares_in := by obtain ⟨f, fd, h, hm⟩ := F.d_shares_in; exact ⟨⟨f, fd, ["words", "blanks"], fn_zero rfl, hm, h.kp, h.bindsN fun _ _ _ _ _ _ us hl => match us, hl with | [_, _], _ => rfl⟩⟩
    f_are_lines := by obtain ⟨f, fd, h, hm⟩ := F.d_are_lines; exact ⟨⟨f, fd, ["value"], fn_zero rfl, hm, h.kp, h.bindsN fun _ _ _ _ _ _ us hl => match us, hl with | [_], _ => rfl⟩⟩
    f_line_width := by obtain ⟨f, fd, h, hm⟩ := F.d_line_width; exact ⟨⟨f, fd, ["row"], fn_zero rfl, hm, h.kp, h.bindsN fun _ _ _ _ _ _ us hl => match us, hl with | [_], _ => rfl⟩⟩
    f_shared_line := by obtain ⟨f, fd, h, hm⟩ := F.d_shared_line; exact ⟨⟨f, fd, ["words", "wide", "even"], fn_zero rfl, hm, h.kp, h.bindsN fun _ _ _ _ _ _ us hl => match us, hl with | [_, _, _], _ => rfl⟩⟩
    f_least_faults := by obtain ⟨f, fd, h, hm⟩ := F.d_least_faults; exact ⟨⟨f, fd, ["words", "wide"], fn_zero rfl, hm, h.kp, h.bindsN fun _ _ _ _ _ _ us hl => match us, hl with | [_, _], _ => rfl⟩⟩
    f_lines_many := by obtain ⟨f, fd, h, hm⟩ := F.d_lines_many; exact ⟨⟨f, fd, ["words", "wide"], fn_zero rfl, hm, h.kp, h.bindsN fun _ _ _ _ _ _ us hl => match us, hl with | [_, _], _ => rfl⟩⟩
    f_calm_line := by obtain ⟨f, fd, h, hm⟩ := F.d_calm_line; exact ⟨⟨f, fd, ["words", "wide", "above", "reach"], fn_zero rfl, hm, h.kp, h.bindsN fun _ _ _ _ _ _ us hl => match us, hl with | [_, _, _, _], _ => rfl⟩⟩
    f__law_cup := by obtain ⟨f, fd, h, hm⟩ := F.d__law_cup; exact ⟨⟨f, fd, ["script"], fn_zero rfl, hm, h.kp, h.bindsN fun _ _ _ _ _ _ us hl => match us, hl with | [_], _ => rfl⟩⟩
    f__law_roll := by obtain ⟨f, fd, h, hm⟩ := F.d__law_roll; exact ⟨⟨f, fd, ["cup", "many"], fn_zero rfl, hm, h.kp, h.bindsN fun _ _ _ _ _ _ us hl => match us, hl with | [_, _], _ => rfl⟩⟩
    f__law_some := by obtain ⟨f, fd, h, hm⟩ := F.d__law_some; exact ⟨⟨f, fd, ["cup", "things"], fn_zero rfl, hm, h.kp, h.bindsN fun _ _ _ _ _ _ us hl => match us, hl with | [_, _], _ => rfl⟩⟩
    f__law_same := by obtain ⟨f, fd, h, hm⟩ := F.d__law_same; exact ⟨⟨f, fd, ["told", "due"], fn_zero rfl, hm, h.kp, h.bindsN fun _ _ _ _ _ _ us hl => match us, hl with | [_, _], _ => rfl⟩⟩
    f__law_set := by obtain ⟨f, fd, h, hm⟩ := F.d__law_set; exact ⟨⟨f, fd, ["cup", "words"], fn_zero rfl, hm, h.kp, h.bindsN fun _ _ _ _ _ _ us hl => match us, hl with | [_, _], _ => rfl⟩⟩
    f__law_covered := by obtain ⟨f, fd, h, hm⟩ := F.d__law_covered; exact ⟨⟨f, fd, ["row"], fn_zero rfl, hm, h.kp, h.bindsN fun _ _ _ _ _ _ us hl => match us, hl with | [_], _ => rfl⟩⟩
    f__law_meet := by obtain ⟨f, fd, h, hm⟩ := F.d__law_meet; exact ⟨⟨f, fd, ["one", "other", "reach"], fn_zero rfl, hm, h.kp, h.bindsN fun _ _ _ _ _ _ us hl => match us, hl with | [_, _, _], _ => rfl⟩⟩
    f__law_all := by obtain ⟨f, fd, h, hm⟩ := F.d__law_all; exact ⟨⟨f, fd, ["words", "wide"], fn_zero rfl, hm, h.kp, h.bindsN fun _ _ _ _ _ _ us hl => match us, hl with | [_, _], _ => rfl⟩⟩
    f__law_faults := by obtain ⟨f, fd, h, hm⟩ := F.d__law_faults; exact ⟨⟨f, fd, ["row"], fn_zero rfl, hm, h.kp, h.bindsN fun _ _ _ _ _ _ us hl => match us, hl with | [_], _ => rfl⟩⟩
    f__law_right := by obtain ⟨f, fd, h, hm⟩ := F.d__law_right; exact ⟨⟨f, fd, ["cup"], fn_zero rfl, hm, h.kp, h.bindsN fun _ _ _ _ _ _ us hl => match us, hl with | [_], _ => rfl⟩⟩
    f_law := by obtain ⟨f, fd, h, hm⟩ := F.d_law; exact ⟨⟨f, fd, ["script"], fn_zero rfl, hm, h.kp, h.bindsN fun _ _ _ _ _ _ us hl => match us, hl with | [_], _ => rfl⟩⟩
    }
  | n + 1 => have A : Al P w K mg base n := all_ok G F n
    {
    f_is_whole := by obtain ⟨f, fd, h, hm⟩ := F.d_is_whole; exact ⟨⟨f, fd, ["value"], fn_ok h sc_is_whole rfl rfl rfl (fun cdv Ar outer s H E hr => ok_is_whole G A f cdv Ar outer s H E hr), hm, h.kp, h.bindsN fun _ _ _ _ _ _ us hl => match us, hl with | [_], _ => rfl⟩⟩
    f_fits_whole := by obtain ⟨f, fd, h, hm⟩ := F.d_fits_whole; exact ⟨⟨f, fd, ["value", "low", "high"], fn_ok h sc_fits_whole rfl rfl rfl (fun cdv Ar outer s H E hr => ok_fits_whole G A f cdv Ar outer s H E hr), hm, h.kp, h.bindsN fun _ _ _ _ _ _ us hl => match us, hl with | [_, _, _], _ => rfl⟩⟩
    f_is_tuple_of := by obtain ⟨f, fd, h, hm⟩ := F.d_is_tuple_of; exact ⟨⟨f, fd, ["value", "least", "most"], fn_ok h sc_is_tuple_of rfl rfl rfl (fun cdv Ar outer s H E hr => ok_is_tuple_of G A f cdv Ar outer s H E hr), hm, h.kp, h.bindsN fun _ _ _ _ _ _ us hl => match us, hl with | [_, _, _], _ => rfl⟩⟩
    f_fits_row := by obtain ⟨f, fd, h, hm⟩ := F.d_fits_row; exact ⟨⟨f, fd, ["value"], fn_ok h sc_fits_row rfl rfl rfl (fun cdv Ar outer s H E hr => ok_fits_row G A f cdv Ar outer s H E hr), hm, h.kp, h.bindsN fun _ _ _ _ _ _ us hl => match us, hl with | [_], _ => rfl⟩⟩
    f_fits_lines := by obtain ⟨f, fd, h, hm⟩ := F.d_fits_lines; exact ⟨⟨f, fd, ["value"], fn_ok h sc_fits_lines rfl rfl rfl (fun cdv Ar outer s H E hr => ok_fits_lines G A f cdv Ar outer s H E hr), hm, h.kp, h.bindsN fun _ _ _ _ _ _ us hl => match us, hl with | [_], _ => rfl⟩⟩
    f_need_lines := by obtain ⟨f, fd, h, hm⟩ := F.d_need_lines; exact ⟨⟨f, fd, ["value"], fn_ok h sc_need_lines rfl rfl rfl (fun cdv Ar outer s H E hr => ok_need_lines G A f cdv Ar outer s H E hr), hm, h.kp, h.bindsN fun _ _ _ _ _ _ us hl => match us, hl with | [_], _ => rfl⟩⟩
    f_blanks_in := by obtain ⟨f, fd, h, hm⟩ := F.d_blanks_in; exact ⟨⟨f, fd, ["row"], fn_ok h sc_blanks_in rfl rfl rfl (fun cdv Ar outer s H E hr => ok_blanks_in G A f cdv Ar outer s H E hr), hm, h.kp, h.bindsN fun _ _ _ _ _ _ us hl => match us, hl with | [_], _ => rfl⟩⟩
    f_do_meet := by obtain ⟨f, fd, h, hm⟩ := F.d_do_meet; exact ⟨⟨f, fd, ["one", "other", "reach"], fn_ok h sc_do_meet rfl rfl rfl (fun cdv Ar outer s H E hr => ok_do_meet G A f cdv Ar outer s H E hr), hm, h.kp, h.bindsN fun _ _ _ _ _ _ us hl => match us, hl with | [_, _, _], _ => rfl⟩⟩
    f_shared_in := by obtain ⟨f, fd, h, hm⟩ := F.d_shared_in; exact ⟨⟨f, fd, ["words", "blanks", "even"], fn_ok h sc_shared_in rfl rfl rfl (fun cdv Ar outer s H E hr => ok_shared_in G A f cdv Ar outer s H E hr), hm, h.kp, h.bindsN fun _ _ _ _ _ _ us hl => match us, hl with | [_, _, _], _ => rfl⟩⟩
    f_fits_words := by obtain ⟨f, fd, h, hm⟩ := F.d_fits_words; exact ⟨⟨f, fd, ["value"], fn_ok h sc_fits_words rfl rfl rfl (fun cdv Ar outer s H E hr => ok_fits_words G A f cdv Ar outer s H E hr), hm, h.kp, h.bindsN fun _ _ _ _ _ _ us hl => match us, hl with | [_], _ => rfl⟩⟩
    f_need_share := by obtain ⟨f, fd, h, hm⟩ := F.d_need_share; exact ⟨⟨f, fd, ["words", "wide"], fn_ok h sc_need_share rfl rfl rfl (fun cdv Ar outer s H E hr => ok_need_share G A f cdv Ar outer s H E hr), hm, h.kp, h.bindsN fun _ _ _ _ _ _ us hl => match us, hl with | [_, _], _ => rfl⟩⟩
    f_faults_in := by obtain ⟨f, fd, h, hm⟩ := F.d_faults_in; exact ⟨⟨f, fd, ["row"], fn_ok h sc_faults_in rfl rfl rfl (fun cdv Ar outer s H E hr => ok_faults_in G A f cdv Ar outer s H E hr), hm, h.kp, h.bindsN fun _ _ _ _ _ _ us hl => match us, hl with | [_], _ => rfl⟩⟩
    f_shares_in := by obtain ⟨f, fd, h, hm⟩ := F.d_shares_in; exact ⟨⟨f, fd, ["words", "blanks"], fn_ok h sc_shares_in rfl rfl rfl (fun cdv Ar outer s H E hr => ok_shares_in G A f cdv Ar outer s H E hr), hm, h.kp, h.bindsN fun _ _ _ _ _ _ us hl => match us, hl with | [_, _], _ => rfl⟩⟩
    f_are_lines := by obtain ⟨f, fd, h, hm⟩ := F.d_are_lines; exact ⟨⟨f, fd, ["value"], fn_ok h sc_are_lines rfl rfl rfl (fun cdv Ar outer s H E hr => ok_are_lines G A f cdv Ar outer s H E hr), hm, h.kp, h.bindsN fun _ _ _ _ _ _ us hl => match us, hl with | [_], _ => rfl⟩⟩
    f_line_width := by obtain ⟨f, fd, h, hm⟩ := F.d_line_width; exact ⟨⟨f, fd, ["row"], fn_ok h sc_line_width rfl rfl rfl (fun cdv Ar outer s H E hr => ok_line_width G A f cdv Ar outer s H E hr), hm, h.kp, h.bindsN fun _ _ _ _ _ _ us hl => match us, hl with | [_], _ => rfl⟩⟩
    f_shared_line := by obtain ⟨f, fd, h, hm⟩ := F.d_shared_line; exact ⟨⟨f, fd, ["words", "wide", "even"], fn_ok h sc_shared_line rfl rfl rfl (fun cdv Ar outer s H E hr => ok_shared_line G A f cdv Ar outer s H E hr), hm, h.kp, h.bindsN fun _ _ _ _ _ _ us hl => match us, hl with | [_, _, _], _ => rfl⟩⟩
    f_least_faults := by obtain ⟨f, fd, h, hm⟩ := F.d_least_faults; exact ⟨⟨f, fd, ["words", "wide"], fn_ok h sc_least_faults rfl rfl rfl (fun cdv Ar outer s H E hr => ok_least_faults G A f cdv Ar outer s H E hr), hm, h.kp, h.bindsN fun _ _ _ _ _ _ us hl => match us, hl with | [_, _], _ => rfl⟩⟩
    f_lines_many := by obtain ⟨f, fd, h, hm⟩ := F.d_lines_many; exact ⟨⟨f, fd, ["words", "wide"], fn_ok h sc_lines_many rfl rfl rfl (fun cdv Ar outer s H E hr => ok_lines_many G A f cdv Ar outer s H E hr), hm, h.kp, h.bindsN fun _ _ _ _ _ _ us hl => match us, hl with | [_, _], _ => rfl⟩⟩
    f_calm_line := by obtain ⟨f, fd, h, hm⟩ := F.d_calm_line; exact ⟨⟨f, fd, ["words", "wide", "above", "reach"], fn_ok h sc_calm_line rfl rfl rfl (fun cdv Ar outer s H E hr => ok_calm_line G A f cdv Ar outer s H E hr), hm, h.kp, h.bindsN fun _ _ _ _ _ _ us hl => match us, hl with | [_, _, _, _], _ => rfl⟩⟩
    f__law_cup := by obtain ⟨f, fd, h, hm⟩ := F.d__law_cup; exact ⟨⟨f, fd, ["script"], fn_ok h sc__law_cup rfl rfl rfl (fun cdv Ar outer s H E hr => ok__law_cup G A f cdv Ar outer s H E hr), hm, h.kp, h.bindsN fun _ _ _ _ _ _ us hl => match us, hl with | [_], _ => rfl⟩⟩
    f__law_roll := by obtain ⟨f, fd, h, hm⟩ := F.d__law_roll; exact ⟨⟨f, fd, ["cup", "many"], fn_ok h sc__law_roll rfl rfl rfl (fun cdv Ar outer s H E hr => ok__law_roll G A f cdv Ar outer s H E hr), hm, h.kp, h.bindsN fun _ _ _ _ _ _ us hl => match us, hl with | [_, _], _ => rfl⟩⟩
    f__law_some := by obtain ⟨f, fd, h, hm⟩ := F.d__law_some; exact ⟨⟨f, fd, ["cup", "things"], fn_ok h sc__law_some rfl rfl rfl (fun cdv Ar outer s H E hr => ok__law_some G A f cdv Ar outer s H E hr), hm, h.kp, h.bindsN fun _ _ _ _ _ _ us hl => match us, hl with | [_, _], _ => rfl⟩⟩
    f__law_same := by obtain ⟨f, fd, h, hm⟩ := F.d__law_same; exact ⟨⟨f, fd, ["told", "due"], fn_ok h sc__law_same rfl rfl rfl (fun cdv Ar outer s H E hr => ok__law_same G A f cdv Ar outer s H E hr), hm, h.kp, h.bindsN fun _ _ _ _ _ _ us hl => match us, hl with | [_, _], _ => rfl⟩⟩
    f__law_set := by obtain ⟨f, fd, h, hm⟩ := F.d__law_set; exact ⟨⟨f, fd, ["cup", "words"], fn_ok h sc__law_set rfl rfl rfl (fun cdv Ar outer s H E hr => ok__law_set G A f cdv Ar outer s H E hr), hm, h.kp, h.bindsN fun _ _ _ _ _ _ us hl => match us, hl with | [_, _], _ => rfl⟩⟩
    f__law_covered := by obtain ⟨f, fd, h, hm⟩ := F.d__law_covered; exact ⟨⟨f, fd, ["row"], fn_ok h sc__law_covered rfl rfl rfl (fun cdv Ar outer s H E hr => ok__law_covered G A f cdv Ar outer s H E hr), hm, h.kp, h.bindsN fun _ _ _ _ _ _ us hl => match us, hl with | [_], _ => rfl⟩⟩
    f__law_meet := by obtain ⟨f, fd, h, hm⟩ := F.d__law_meet; exact ⟨⟨f, fd, ["one", "other", "reach"], fn_ok h sc__law_meet rfl rfl rfl (fun cdv Ar outer s H E hr => ok__law_meet G A f cdv Ar outer s H E hr), hm, h.kp, h.bindsN fun _ _ _ _ _ _ us hl => match us, hl with | [_, _, _], _ => rfl⟩⟩
    f__law_all := by obtain ⟨f, fd, h, hm⟩ := F.d__law_all; exact ⟨⟨f, fd, ["words", "wide"], fn_ok h sc__law_all rfl rfl rfl (fun cdv Ar outer s H E hr => ok__law_all G A f cdv Ar outer s H E hr), hm, h.kp, h.bindsN fun _ _ _ _ _ _ us hl => match us, hl with | [_, _], _ => rfl⟩⟩
    f__law_faults := by obtain ⟨f, fd, h, hm⟩ := F.d__law_faults; exact ⟨⟨f, fd, ["row"], fn_ok h sc__law_faults rfl rfl rfl (fun cdv Ar outer s H E hr => ok__law_faults G A f cdv Ar outer s H E hr), hm, h.kp, h.bindsN fun _ _ _ _ _ _ us hl => match us, hl with | [_], _ => rfl⟩⟩
    f__law_right := by obtain ⟨f, fd, h, hm⟩ := F.d__law_right; exact ⟨⟨f, fd, ["cup"], fn_ok h sc__law_right rfl rfl rfl (fun cdv Ar outer s H E hr => ok__law_right G A f cdv Ar outer s H E hr), hm, h.kp, h.bindsN fun _ _ _ _ _ _ us hl => match us, hl with | [_], _ => rfl⟩⟩
    f_law := by obtain ⟨f, fd, h, hm⟩ := F.d_law; exact ⟨⟨f, fd, ["script"], fn_ok h sc_law rfl rfl rfl (fun cdv Ar outer s H E hr => ok_law G A f cdv Ar outer s H E hr), hm, h.kp, h.bindsN fun _ _ _ _ _ _ us hl => match us, hl with | [_], _ => rfl⟩⟩
    }
def dd_is_whole : He.DefD := ⟨("is_whole", none), "is_whole", "is_whole", defArgs s_is_whole, defBody s_is_whole, defScope s_is_whole, [], []⟩
def dd_fits_whole : He.DefD := ⟨("fits_whole", none), "fits_whole", "fits_whole", defArgs s_fits_whole, defBody s_fits_whole, defScope s_fits_whole, [], []⟩
def dd_is_tuple_of : He.DefD := ⟨("is_tuple_of", none), "is_tuple_of", "is_tuple_of", defArgs s_is_tuple_of, defBody s_is_tuple_of, defScope s_is_tuple_of, [], []⟩
def dd_fits_row : He.DefD := ⟨("fits_row", none), "fits_row", "fits_row", defArgs s_fits_row, defBody s_fits_row, defScope s_fits_row, [], []⟩
def dd_fits_lines : He.DefD := ⟨("fits_lines", none), "fits_lines", "fits_lines", defArgs s_fits_lines, defBody s_fits_lines, defScope s_fits_lines, [], []⟩
def dd_need_lines : He.DefD := ⟨("need_lines", none), "need_lines", "need_lines", defArgs s_need_lines, defBody s_need_lines, defScope s_need_lines, [], []⟩
def dd_blanks_in : He.DefD := ⟨("blanks_in", none), "blanks_in", "blanks_in", defArgs s_blanks_in, defBody s_blanks_in, defScope s_blanks_in, [], []⟩
def dd_do_meet : He.DefD := ⟨("do_meet", none), "do_meet", "do_meet", defArgs s_do_meet, defBody s_do_meet, defScope s_do_meet, [], []⟩
def dd_shared_in : He.DefD := ⟨("shared_in", none), "shared_in", "shared_in", defArgs s_shared_in, defBody s_shared_in, defScope s_shared_in, [], []⟩
def dd_fits_words : He.DefD := ⟨("fits_words", none), "fits_words", "fits_words", defArgs s_fits_words, defBody s_fits_words, defScope s_fits_words, [], []⟩
def dd_need_share : He.DefD := ⟨("need_share", none), "need_share", "need_share", defArgs s_need_share, defBody s_need_share, defScope s_need_share, [], []⟩
def dd_faults_in : He.DefD := ⟨("faults_in", none), "faults_in", "faults_in", defArgs s_faults_in, defBody s_faults_in, defScope s_faults_in, [], []⟩
def dd_shares_in : He.DefD := ⟨("shares_in", none), "shares_in", "shares_in", defArgs s_shares_in, defBody s_shares_in, defScope s_shares_in, [], []⟩
def dd_are_lines : He.DefD := ⟨("are_lines", none), "are_lines", "are_lines", defArgs s_are_lines, defBody s_are_lines, defScope s_are_lines, [], []⟩
def dd_line_width : He.DefD := ⟨("line_width", none), "line_width", "line_width", defArgs s_line_width, defBody s_line_width, defScope s_line_width, [], []⟩
def dd_shared_line : He.DefD := ⟨("shared_line", none), "shared_line", "shared_line", defArgs s_shared_line, defBody s_shared_line, defScope s_shared_line, [], []⟩
def dd_least_faults : He.DefD := ⟨("least_faults", none), "least_faults", "least_faults", defArgs s_least_faults, defBody s_least_faults, defScope s_least_faults, [], []⟩
def dd_lines_many : He.DefD := ⟨("lines_many", none), "lines_many", "lines_many", defArgs s_lines_many, defBody s_lines_many, defScope s_lines_many, [], []⟩
def dd_calm_line : He.DefD := ⟨("calm_line", none), "calm_line", "calm_line", defArgs s_calm_line, defBody s_calm_line, defScope s_calm_line, [], []⟩
def dd__law_cup : He.DefD := ⟨("_law_cup", none), "_law_cup", "_law_cup", defArgs s__law_cup, defBody s__law_cup, defScope s__law_cup, [], []⟩
def dd__law_roll : He.DefD := ⟨("_law_roll", none), "_law_roll", "_law_roll", defArgs s__law_roll, defBody s__law_roll, defScope s__law_roll, [], []⟩
def dd__law_some : He.DefD := ⟨("_law_some", none), "_law_some", "_law_some", defArgs s__law_some, defBody s__law_some, defScope s__law_some, [], []⟩
def dd__law_same : He.DefD := ⟨("_law_same", none), "_law_same", "_law_same", defArgs s__law_same, defBody s__law_same, defScope s__law_same, [], []⟩
def dd__law_set : He.DefD := ⟨("_law_set", none), "_law_set", "_law_set", defArgs s__law_set, defBody s__law_set, defScope s__law_set, [], []⟩
def dd__law_covered : He.DefD := ⟨("_law_covered", none), "_law_covered", "_law_covered", defArgs s__law_covered, defBody s__law_covered, defScope s__law_covered, [], []⟩
def dd__law_meet : He.DefD := ⟨("_law_meet", none), "_law_meet", "_law_meet", defArgs s__law_meet, defBody s__law_meet, defScope s__law_meet, [], []⟩
def dd__law_all : He.DefD := ⟨("_law_all", none), "_law_all", "_law_all", defArgs s__law_all, defBody s__law_all, defScope s__law_all, [], []⟩
def dd__law_faults : He.DefD := ⟨("_law_faults", none), "_law_faults", "_law_faults", defArgs s__law_faults, defBody s__law_faults, defScope s__law_faults, [], []⟩
def dd__law_right : He.DefD := ⟨("_law_right", none), "_law_right", "_law_right", defArgs s__law_right, defBody s__law_right, defScope s__law_right, [], []⟩
def dd_law : He.DefD := ⟨("law", none), "law", "law", defArgs s_law, defBody s_law, defScope s_law, [], []⟩
def fns : List He.DefD := [dd_is_whole, dd_fits_whole, dd_is_tuple_of, dd_fits_row, dd_fits_lines, dd_need_lines, dd_blanks_in, dd_do_meet, dd_shared_in, dd_fits_words, dd_need_share, dd_faults_in, dd_shares_in, dd_are_lines, dd_line_width, dd_shared_line, dd_least_faults, dd_lines_many, dd_calm_line, dd__law_cup, dd__law_roll, dd__law_some, dd__law_same, dd__law_set, dd__law_covered, dd__law_meet, dd__law_all, dd__law_faults, dd__law_right, dd_law]
def fas_0 : List He.Fa := [.glo "is_whole", .glo "fits_whole", .glo "is_tuple_of", .glo "fits_row", .glo "fits_lines", .glo "need_lines", .glo "blanks_in", .glo "do_meet", .glo "shared_in", .glo "fits_words", .glo "need_share", .glo "faults_in", .glo "shares_in", .glo "are_lines", .glo "line_width", .glo "shared_line", .glo "least_faults", .glo "lines_many", .glo "calm_line", .glo "_law_cup", .glo "_law_roll", .glo "_law_some", .glo "_law_same", .glo "_law_set", .glo "_law_covered", .glo "_law_meet", .glo "_law_all", .glo "_law_faults", .glo "_law_right", .glo "law"]
def fas_1 : List He.Fa := [.free "isinstance", .free "int", .free "bool", .free "tuple", .free "len", .int "WORDS" 12, .int "WORD" 30, .free "all", .int "BLANK" 20, .int "LINES" 12, .free "enumerate", .free "range", .free "sum", .free "min", .int "FEW" 60, .free "max", .int "REACH" 5, .free "any", .free "list", .free "abs", .free "str", .free "sorted"]
def fas : List He.Fa := fas_0 ++ fas_1
def loose__0 : List Str := ["TypeFault", "InvalidLines", "InvalidPlan", "InvalidNumber", "TooMany", "is_whole", "fits_whole", "is_tuple_of", "WORDS", "LINES", "WORD", "BLANK", "REACH", "FEW", "fits_row", "fits_lines", "need_lines", "blanks_in", "do_meet", "shared_in", "fits_words", "need_share", "faults_in", "shares_in", "are_lines", "line_width", "shared_line", "least_faults", "lines_many", "calm_line"]
def loose__1 : List Str := ["_law_cup", "_law_roll", "_law_some", "_law_same", "_law_set", "_law_covered", "_law_meet", "_law_all", "_law_faults", "_law_right"]
def loose_ : List Str := loose__0 ++ loose__1
abbrev R : PySem.W.OpenRow := PySem.W.OpenLaw.row PySem.Challenge.rw_printshop_k81_whole_shares_of_blanks
abbrev hk : PySem.W.Hook := He.hookD 4 fas fns
def ob (s : PySem.W.SharedT) : He.AlD := He.obsDG 4 fas fns (HandSHeadRun.getT s)
theorem ob_eq (s : PySem.W.SharedT) : ob s = hk.obs s.abs := He.obsDG_eq (HandSHeadRun.getT_eq s)
theorem run_ (w : World) : HandSHeadRun.RunEq R (PySem.W.view R.prog [44]) hk ob 4000 loose_ w := by
  intro os
  kernel_rfl
theorem fs_of {K : PySem.W.Frag} {h : Heap} {mg : Str → Option Value} (X : K.In h) (G : h.Ns mainGlobals mg) (c : He.SaysD fas fns K) : Fs K mg where
  d_is_whole := by obtain ⟨fd, F⟩ := c.def_ 0 (d := dd_is_whole) rfl; exact ⟨_, fd, F, He.glo_ok X G (c.fact 0 (f := .glo "is_whole") rfl)⟩
  d_fits_whole := by obtain ⟨fd, F⟩ := c.def_ 1 (d := dd_fits_whole) rfl; exact ⟨_, fd, F, He.glo_ok X G (c.fact 1 (f := .glo "fits_whole") rfl)⟩
  d_is_tuple_of := by obtain ⟨fd, F⟩ := c.def_ 2 (d := dd_is_tuple_of) rfl; exact ⟨_, fd, F, He.glo_ok X G (c.fact 2 (f := .glo "is_tuple_of") rfl)⟩
  d_fits_row := by obtain ⟨fd, F⟩ := c.def_ 3 (d := dd_fits_row) rfl; exact ⟨_, fd, F, He.glo_ok X G (c.fact 3 (f := .glo "fits_row") rfl)⟩
  d_fits_lines := by obtain ⟨fd, F⟩ := c.def_ 4 (d := dd_fits_lines) rfl; exact ⟨_, fd, F, He.glo_ok X G (c.fact 4 (f := .glo "fits_lines") rfl)⟩
  d_need_lines := by obtain ⟨fd, F⟩ := c.def_ 5 (d := dd_need_lines) rfl; exact ⟨_, fd, F, He.glo_ok X G (c.fact 5 (f := .glo "need_lines") rfl)⟩
  d_blanks_in := by obtain ⟨fd, F⟩ := c.def_ 6 (d := dd_blanks_in) rfl; exact ⟨_, fd, F, He.glo_ok X G (c.fact 6 (f := .glo "blanks_in") rfl)⟩
  d_do_meet := by obtain ⟨fd, F⟩ := c.def_ 7 (d := dd_do_meet) rfl; exact ⟨_, fd, F, He.glo_ok X G (c.fact 7 (f := .glo "do_meet") rfl)⟩
  d_shared_in := by obtain ⟨fd, F⟩ := c.def_ 8 (d := dd_shared_in) rfl; exact ⟨_, fd, F, He.glo_ok X G (c.fact 8 (f := .glo "shared_in") rfl)⟩
  d_fits_words := by obtain ⟨fd, F⟩ := c.def_ 9 (d := dd_fits_words) rfl; exact ⟨_, fd, F, He.glo_ok X G (c.fact 9 (f := .glo "fits_words") rfl)⟩
  d_need_share := by obtain ⟨fd, F⟩ := c.def_ 10 (d := dd_need_share) rfl; exact ⟨_, fd, F, He.glo_ok X G (c.fact 10 (f := .glo "need_share") rfl)⟩
  d_faults_in := by obtain ⟨fd, F⟩ := c.def_ 11 (d := dd_faults_in) rfl; exact ⟨_, fd, F, He.glo_ok X G (c.fact 11 (f := .glo "faults_in") rfl)⟩
  d_shares_in := by obtain ⟨fd, F⟩ := c.def_ 12 (d := dd_shares_in) rfl; exact ⟨_, fd, F, He.glo_ok X G (c.fact 12 (f := .glo "shares_in") rfl)⟩
  d_are_lines := by obtain ⟨fd, F⟩ := c.def_ 13 (d := dd_are_lines) rfl; exact ⟨_, fd, F, He.glo_ok X G (c.fact 13 (f := .glo "are_lines") rfl)⟩
  d_line_width := by obtain ⟨fd, F⟩ := c.def_ 14 (d := dd_line_width) rfl; exact ⟨_, fd, F, He.glo_ok X G (c.fact 14 (f := .glo "line_width") rfl)⟩
  d_shared_line := by obtain ⟨fd, F⟩ := c.def_ 15 (d := dd_shared_line) rfl; exact ⟨_, fd, F, He.glo_ok X G (c.fact 15 (f := .glo "shared_line") rfl)⟩
  d_least_faults := by obtain ⟨fd, F⟩ := c.def_ 16 (d := dd_least_faults) rfl; exact ⟨_, fd, F, He.glo_ok X G (c.fact 16 (f := .glo "least_faults") rfl)⟩
  d_lines_many := by obtain ⟨fd, F⟩ := c.def_ 17 (d := dd_lines_many) rfl; exact ⟨_, fd, F, He.glo_ok X G (c.fact 17 (f := .glo "lines_many") rfl)⟩
  d_calm_line := by obtain ⟨fd, F⟩ := c.def_ 18 (d := dd_calm_line) rfl; exact ⟨_, fd, F, He.glo_ok X G (c.fact 18 (f := .glo "calm_line") rfl)⟩
  d__law_cup := by obtain ⟨fd, F⟩ := c.def_ 19 (d := dd__law_cup) rfl; exact ⟨_, fd, F, He.glo_ok X G (c.fact 19 (f := .glo "_law_cup") rfl)⟩
  d__law_roll := by obtain ⟨fd, F⟩ := c.def_ 20 (d := dd__law_roll) rfl; exact ⟨_, fd, F, He.glo_ok X G (c.fact 20 (f := .glo "_law_roll") rfl)⟩
  d__law_some := by obtain ⟨fd, F⟩ := c.def_ 21 (d := dd__law_some) rfl; exact ⟨_, fd, F, He.glo_ok X G (c.fact 21 (f := .glo "_law_some") rfl)⟩
  d__law_same := by obtain ⟨fd, F⟩ := c.def_ 22 (d := dd__law_same) rfl; exact ⟨_, fd, F, He.glo_ok X G (c.fact 22 (f := .glo "_law_same") rfl)⟩
  d__law_set := by obtain ⟨fd, F⟩ := c.def_ 23 (d := dd__law_set) rfl; exact ⟨_, fd, F, He.glo_ok X G (c.fact 23 (f := .glo "_law_set") rfl)⟩
  d__law_covered := by obtain ⟨fd, F⟩ := c.def_ 24 (d := dd__law_covered) rfl; exact ⟨_, fd, F, He.glo_ok X G (c.fact 24 (f := .glo "_law_covered") rfl)⟩
  d__law_meet := by obtain ⟨fd, F⟩ := c.def_ 25 (d := dd__law_meet) rfl; exact ⟨_, fd, F, He.glo_ok X G (c.fact 25 (f := .glo "_law_meet") rfl)⟩
  d__law_all := by obtain ⟨fd, F⟩ := c.def_ 26 (d := dd__law_all) rfl; exact ⟨_, fd, F, He.glo_ok X G (c.fact 26 (f := .glo "_law_all") rfl)⟩
  d__law_faults := by obtain ⟨fd, F⟩ := c.def_ 27 (d := dd__law_faults) rfl; exact ⟨_, fd, F, He.glo_ok X G (c.fact 27 (f := .glo "_law_faults") rfl)⟩
  d__law_right := by obtain ⟨fd, F⟩ := c.def_ 28 (d := dd__law_right) rfl; exact ⟨_, fd, F, He.glo_ok X G (c.fact 28 (f := .glo "_law_right") rfl)⟩
  d_law := by obtain ⟨fd, F⟩ := c.def_ 29 (d := dd_law) rfl; exact ⟨_, fd, F, He.glo_ok X G (c.fact 29 (f := .glo "law") rfl)⟩
theorem gs_of {K : PySem.W.Frag} {h : Heap} {mg : Str → Option Value} (X : K.In h) (G : h.Ns mainGlobals mg) (c : He.SaysD fas fns K) : Gs mg where
  g_isinstance := He.free_ok X G (c.fact 30 (f := .free "isinstance") rfl)
  g_int := He.free_ok X G (c.fact 31 (f := .free "int") rfl)
  g_bool := He.free_ok X G (c.fact 32 (f := .free "bool") rfl)
  g_tuple := He.free_ok X G (c.fact 33 (f := .free "tuple") rfl)
  g_len := He.free_ok X G (c.fact 34 (f := .free "len") rfl)
  g_WORDS := He.int_ok X G (c.fact 35 (f := .int "WORDS" 12) rfl)
  g_WORD := He.int_ok X G (c.fact 36 (f := .int "WORD" 30) rfl)
  g_all := He.free_ok X G (c.fact 37 (f := .free "all") rfl)
  g_BLANK := He.int_ok X G (c.fact 38 (f := .int "BLANK" 20) rfl)
  g_LINES := He.int_ok X G (c.fact 39 (f := .int "LINES" 12) rfl)
  g_enumerate := He.free_ok X G (c.fact 40 (f := .free "enumerate") rfl)
  g_range := He.free_ok X G (c.fact 41 (f := .free "range") rfl)
  g_sum := He.free_ok X G (c.fact 42 (f := .free "sum") rfl)
  g_min := He.free_ok X G (c.fact 43 (f := .free "min") rfl)
  g_FEW := He.int_ok X G (c.fact 44 (f := .int "FEW" 60) rfl)
  g_max := He.free_ok X G (c.fact 45 (f := .free "max") rfl)
  g_REACH := He.int_ok X G (c.fact 46 (f := .int "REACH" 5) rfl)
  g_any := He.free_ok X G (c.fact 47 (f := .free "any") rfl)
  g_list := He.free_ok X G (c.fact 48 (f := .free "list") rfl)
  g_abs := He.free_ok X G (c.fact 49 (f := .free "abs") rfl)
  g_str := He.free_ok X G (c.fact 50 (f := .free "str") rfl)
  g_sorted := He.free_ok X G (c.fact 51 (f := .free "sorted") rfl)
theorem facts {P : Program} {w : World} {K : PySem.W.Frag} {h : Heap} {mg : Str → Option Value} {f : Addr} (X : K.In h) (G : h.Ns mainGlobals mg) (hfa : mg ("law" : Str) = some (.ref f)) (c : He.SaysD fas fns K) :
    ∃ fd : FuncData, (∀ (s : Shared) (v : Value), BindsTo s fd ⟨[v], []⟩ [("script", v)]) ∧ ∀ base : Heap, K.In base → base.Ns mainGlobals mg → FnOk P w K mg base CX0 60 f fd ["script"] (spD K (run tb 60 501)) := by
  have GG := gs_of X G c
  have FF := fs_of X G c
  obtain ⟨f2, fd, F, hm⟩ := FF.d_law
  have e := hfa.symm.trans hm
  cases e
  have b := FunD.bindsA (ps := ["script"]) F fun _ _ _ _ _ _ us hl => match us, hl with | [_], _ => rfl
  refine ⟨fd, fun s v => b s [v] rfl, fun base _ _ => ?_⟩
  have A : Al P w K mg base 59 := all_ok GG FF 59
  exact fn_ok F sc_law rfl rfl rfl (fun cdv Ar outer s H E hr => ok_law GG A f cdv Ar outer s H E hr)
/-- THE LAW, from its plain form -/
theorem holds_of (plain : ∀ ns : List Int, ns.length ≤ 63 → ∃ B, Pz.run tb 60 501 [.scr (ns.map .int)] [] = .ok (.bl true, B)) : PySem.Challenge.rw_printshop_k81_whole_shares_of_blanks.Holds := by
  w_on; o_law
  refine HandSHeadRun.head_any (r := R) (q := PySem.W.view R.prog [44]) (H := hk) (ob := ob) (M := 4000) (loose := loose_) (d := HandSHeadRun.topDef R.prog 44) (kwd := []) ob_eq
    (by kernel_rfl) (fun s => by kernel_rfl) run_ (by kernel_rfl) (by kernel_rfl) (by kernel_rfl) (by rfl) (by first | assumption | decide +kernel) (by decide +kernel) ⟨rfl, rfl, rfl, rfl, rfl, by decide +kernel⟩ ?hw ?hc
  case hw => w_witness2
  case hc =>
    refine L2.walk_ofE (l := PySem.Challenge.rw_printshop_k81_whole_shares_of_blanks) (n := 63) (k := 60) (x := "script") (CX := L2.CX0) rfl (by decide) (by kernel_rfl) ⟨rfl, by decide, by decide⟩ ?F (fun _ _ _ _ z => z)
    intro w mg fa h Y G hmg0
    obtain ⟨K, KX, c⟩ := Y
    have hmg : mg ("law" : PySem.Str) = some (.ref fa) := by
      have e : (HandSHeadRun.topDef R.prog 44).name = ("law" : PySem.Str) := by kernel_rfl
      rw [← e]
      exact hmg0
    obtain ⟨fd, hb, hF⟩ := facts (P := (PySem.Challenge.rw_printshop_k81_whole_shares_of_blanks).prog) (w := w) KX G hmg c
    exact ⟨K, fd, spD K (Pz.run tb 60 501), KX, hb, fun H a ns hl _ hS => law_sp (plain ns hl) hS, hF⟩
end K81
end
section
set_option linter.all false
set_option maxRecDepth 100000
open Pz Sp
namespace K81
theorem wvn_at : ∀ {ws bs : List Nat} {k : Nat}, ws.length = bs.length + 1 → (wvn ws bs)[2 * k + 1]? = bs[k]?
  | [w], [], k, _ => by simp [wvn]
  | w :: v :: ws, b :: bs, 0, _ => rfl
  | w :: v :: ws, b :: bs, k + 1, h => by
    show (w :: b :: wvn (v :: ws) bs)[2 * (k + 1) + 1]? = _
    rw [show 2 * (k + 1) + 1 = (2 * k + 1) + 1 + 1 by omega, List.getElem?_cons_succ, List.getElem?_cons_succ, wvn_at (by simpa using h), List.getElem?_cons_succ]
  | [], _, _, h => by simp at h
  | w :: v :: ws, [], _, h => by simp at h
  | [w], b :: bs, _, h => by simp at h
theorem m_law_faults (n : Nat) (ws bs : List Nat) (h : ws.length = bs.length + 1) (hb2 : ∀ b ∈ bs, b ≤ 1000) (hl : bs.length ≤ 1000) (B : List D) :
    Pz.run tb (n + 1) 502 [.tup (nD (wvn ws bs))] B = .ok (.int (sq bs : Nat), B) := by
  rw [run_succ (h := rfl) (hl := rfl)]
  have hml := wvn_len h
  have hr : rngUp 1 ((wvn ws bs).length : Nat) 2 = (List.range bs.length).map fun k : Nat => .int (1 + (k : Nat) * 2) := by
    unfold rngUp
    have : (if (1 : Int) < ((wvn ws bs).length : Nat) then (((wvn ws bs).length : Nat) - 1 - 1) / ((2 : Nat) : Int) + 1 else 0 : Int).toNat = bs.length := by rw [hml]; split <;> omega
    rw [this]
    rfl
  have l1 : lcLoop (Pz.turn (Pz.run tb n) [.val (.tup (nD (wvn ws bs))), .no] (.nm 1) (.cst (.bl true)) (.bin .mul (.sub (.var 0) (.var 1)) (.sub (.var 0) (.var 1)))) ((List.range bs.length).map fun k : Nat => .int (1 + (k : Nat) * 2)) B = .ok (nD (bs.map fun b => b * b), B) := by
    have : nD (bs.map fun b => b * b) = (List.range bs.length).map fun k => D.int ((bs.getD k 0 : Nat) * (bs.getD k 0 : Nat) : Int) := by
      apply List.ext_getElem
      · simp [nD]
      · intro i h1 h2
        have hi : i < bs.length := by simpa [nD] using h1
        simp [nD, List.getD, hi]
    rw [this]
    refine lcLoop_all (c := fun k : Nat => D.int (1 + (k : Nat) * 2)) (g := fun k => D.int ((bs.getD k 0 : Nat) * (bs.getD k 0 : Nat) : Int)) fun k hk => ?_
    have hk := List.mem_range.1 hk
    have a1 : atI (nD (wvn ws bs)) (1 + (k : Nat) * 2) = some (.int (bs.getD k 0 : Nat)) := by
      rw [show (1 : Int) + (k : Nat) * 2 = ((2 * k + 1 : Nat) : Int) by omega]
      exact atI_nDk _ _ _ (by rw [wvn_at h]; simp [List.getD, hk])
    have hb3 : bs.getD k 0 ≤ 1000 := by
      have : bs.getD k 0 = bs[k] := by simp [List.getD, hk]
      rw [this]; exact hb2 _ (List.getElem_mem hk)
    obtain ⟨y, hy⟩ : ∃ y, bs.getD k 0 = y := ⟨_, rfl⟩
    rw [hy] at a1 hb3 ⊢
    have s : small (y : Int) = true := small_of (by omega) (by omega)
    simp -implicitDefEqProofs [turn_eq, wipeS, Tg.names, a1, s]
  have hb1 : bnd 1 = true := bnd_of (by omega) (by omega)
  have hbd : bnd ((wvn ws bs).length : Int) = true := bnd_of (by omega) (by omega)
  have hnl : ((nD (wvn ws bs)).length : Int) = ((wvn ws bs).length : Nat) := by rw [nD_len]
  have hln : bs.length ≤ ln := by show _ ≤ 16777216; omega
  have hs3 : bi_sum [.lst (nD (bs.map fun b => b * b))] = some (.int (sq bs : Nat)) := by
    show (intL _).map (fun ns => D.int ns.sum) = _
    rw [intL_nD, Option.map_some, sum_cast]; rfl
  simp -implicitDefEqProofs [b__law_faults, Pz.start, hnl, hb1, hbd, hr, hln, l1, hs3, frzAll, frzS, -bi_sum_lst]
end K81
end
section
set_option linter.all false
set_option maxRecDepth 100000
open Pz Sp
namespace K81
theorem cD_dep (l : List (Nat × Nat)) : D.depL (cD l) ≤ 1 := by
  induction l with
  | nil => simp [cD, D.depL]
  | cons p l ih =>
    show max (D.depL (nD (cov p)) + 1) (D.depL (cD l)) ≤ 1
    rw [nD_dep]; omega
theorem cD_ne (l : List (Nat × Nat)) : opC .ne (.lst (cD l)) (.lst []) = some (!l.isEmpty) := by
  have h1 : ok64 (.lst (cD l)) = true := by
    have h2 := cD_dep l
    have : D.dep (.lst (cD l)) = D.depL (cD l) + 1 := rfl
    unfold ok64; rw [this]; simp; omega
  have h : eqD (.lst (cD l)) (.lst []) = some l.isEmpty := by
    unfold eqD
    rw [h1]
    cases l <;> rfl
  show (eqD (.lst (cD l)) (.lst [])).map _ = _
  rw [h]; rfl
/-- blanks of a set line: none of them empty -/
theorem bps_pos {ws bs : List Nat} (h : ws.length = bs.length + 1) (hb : ∀ b ∈ bs, 1 ≤ b ∧ b ≤ 20) : ∀ p ∈ bps (wvn ws bs), p.1 < p.2 ∧ (cov p).length ≤ 1000 := by
  intro p hp
  unfold bps prs at hp
  obtain ⟨k, hk, rfl⟩ := List.mem_map.1 hp
  have hk := List.mem_range.1 hk
  rw [wvn_len h] at hk
  have hk : k < bs.length := by omega
  have h2 := wvn_at (k := k) h
  have : (wvn ws bs).getD (2 * k + 1) 0 = bs[k] := by
    rw [List.getD_eq_getElem?_getD, h2]; simp [hk]
  have h3 := hb _ (List.getElem_mem hk)
  refine ⟨?_, ?_⟩
  · show pre _ _ < pre _ _ + _
    omega
  · unfold cov
    rw [List.length_map, List.length_range]
    show pre _ _ + _ - pre _ _ ≤ _
    omega
/-- the row's blanks that meet the line above, as the law tells them -/
theorem lc_hits (n : Nat) (σ : Sg) {ws bs wa ba : List Nat} (h : ws.length = bs.length + 1) (hb : ∀ b ∈ bs, 1 ≤ b ∧ b ≤ 20) (hl : bs.length ≤ 12) (hw : ∀ w ∈ ws, 1 ≤ w ∧ w ≤ 30)
    (ha : wa.length = ba.length + 1) (hba : ∀ b ∈ ba, 1 ≤ b ∧ b ≤ 20) (hal : wa.length ≤ 12) (hwa : ∀ w ∈ wa, 1 ≤ w ∧ w ≤ 30) (r : Nat) (hr : r ≤ 5) (B : List D)
    (p : Nat × Nat) (hp : p ∈ bps (wvn ws bs)) (s0 s1 s2 s3 s4 s5 s6 s7 s8 s9 s12 s13 s14 s15 s17 : Sl) :
    lcLoop (Pz.turn (Pz.run tb (n + 1)) [s0, s1, s2, s3, s4, s5, s6, s7, s8, s9, .val (.tup (nD (wvn wa ba))), .val (.int (r : Nat)), s12, s13, s14, s15, .val (.lst (nD (cov p))), s17] (.nm 17) (.call 31 (.cons (.var 16) (.cons (.var 17) (.cons (.var 11) (.nil))))) (.var 17)) (cD (bps (wvn wa ba))) B
      = .ok (cD ((bps (wvn wa ba)).filter fun q => meet p q r), B) := by
  unfold cD
  refine lcLoop_some (c := fun p => D.lst (nD (cov p))) (g := fun p => D.lst (nD (cov p))) (t := fun q => meet p q r) fun q hq => ?_
  have hp1 := bps_pos h hb p hp
  have hq1 := bps_pos ha hba q hq
  have f := m_law_meet (tb := tb) n (cov p) (cov q) hp1.2 hq1.2 r B
  rw [← meet_cov hp1.1 hq1.1 (by omega)] at f
  obtain ⟨y, hy⟩ : ∃ y, meet p q r = y := ⟨_, rfl⟩
  rw [hy] at f ⊢
  simp -implicitDefEqProofs [turn_eq, wipeS, Tg.names, f]
  cases y <;> simp
theorem any_ne {α : Type} (t : α → Bool) (l : List α) : (!(l.filter t).isEmpty) = l.any t := by
  induction l with
  | nil => rfl
  | cons a l ih =>
    rw [List.filter_cons, List.any_cons]
    cases t a
    · simpa using ih
    · rfl
theorem lc_row (n : Nat) {ws bs wa ba : List Nat} (h : ws.length = bs.length + 1) (hb : ∀ b ∈ bs, 1 ≤ b ∧ b ≤ 20) (hl : bs.length ≤ 12) (hw : ∀ w ∈ ws, 1 ≤ w ∧ w ≤ 30)
    (ha : wa.length = ba.length + 1) (hba : ∀ b ∈ ba, 1 ≤ b ∧ b ≤ 20) (hal : wa.length ≤ 12) (hwa : ∀ w ∈ wa, 1 ≤ w ∧ w ≤ 30) (r : Nat) (hr : r ≤ 5) (B : List D)
    (s0 s1 s2 s3 s4 s5 s6 s7 s8 s9 s12 s13 s14 s15 s16 s17 : Sl)
    (ec : Pz.run tb (n + 1) 30 [.tup (nD (wvn wa ba))] B = .ok (.lst (cD (bps (wvn wa ba))), B)) :
    lcLoop (Pz.turn (Pz.run tb (n + 1)) [s0, s1, s2, s3, s4, s5, s6, s7, s8, s9, .val (.tup (nD (wvn wa ba))), .val (.int (r : Nat)), s12, s13, s14, s15, s16, s17] (.nm 16) (.cmp .ne (.lc (.nm 17) (.call 30 (.cons (.var 10) (.nil))) (.call 31 (.cons (.var 16) (.cons (.var 17) (.cons (.var 11) (.nil))))) (.var 17)) (.lst (.nil))) (.var 16)) (cD (bps (wvn ws bs))) B
      = .ok (cD (hits (wvn ws bs) (wvn wa ba) r), B) := by
  have hbl : (cD (bps (wvn wa ba))).length ≤ ln := by
    have : (cD (bps (wvn wa ba))).length = (wvn wa ba).length / 2 := by simp [cD, bps, prs_len]
    rw [this, wvn_len ha]; show _ ≤ 16777216; omega
  unfold hits
  conv => lhs; rw [show cD (bps (wvn ws bs)) = (bps (wvn ws bs)).map fun p => .lst (nD (cov p)) from rfl]
  conv => rhs; unfold cD
  refine lcLoop_some (c := fun p => D.lst (nD (cov p))) (g := fun p => D.lst (nD (cov p))) (t := fun p => (bps (wvn wa ba)).any fun q => meet p q r) fun p hp => ?_
  have f := lc_hits n [] h hb hl hw ha hba hal hwa r hr B p hp s0 s1 s2 s3 s4 s5 s6 s7 s8 s9 s12 s13 s14 s15 s17
  have g := cD_ne ((bps (wvn wa ba)).filter fun q => meet p q r)
  rw [any_ne] at g
  obtain ⟨y, hy⟩ : ∃ y, ((bps (wvn wa ba)).any fun q => meet p q r) = y := ⟨_, rfl⟩
  rw [hy] at g ⊢
  simp -implicitDefEqProofs [turn_eq, wipeS, Tg.names, ec, hbl, f, g]
  cases y <;> simp
theorem wvn_le : ∀ {ws bs : List Nat}, (∀ w ∈ ws, w ≤ 1000) → (∀ b ∈ bs, b ≤ 1000) → ∀ x ∈ wvn ws bs, x ≤ 1000
  | [], [], _, _ => by simp [wvn]
  | w :: ws, [], h, _ => by
    intro x hx
    simp only [wvn, List.mem_cons, List.not_mem_nil, or_false] at hx
    rcases hx with rfl
    exact h _ (by simp)
  | [], b :: bs, _, _ => by simp [wvn]
  | w :: ws, b :: bs, h, h2 => by
    intro x hx
    simp only [wvn, List.mem_cons] at hx
    rcases hx with rfl | rfl | hx
    · exact h _ (by simp)
    · exact h2 _ (by simp)
    · exact wvn_le (fun w hw => h w (by simp [hw])) (fun b hb => h2 b (by simp [hb])) x hx
end K81
end
section
set_option linter.all false
set_option maxRecDepth 100000
open Pz Sp
namespace K81
theorem plain_nD (l : List Nat) (h : l.length ≤ 1000000) : D.plain (.tup (nD l)) = true := by
  have h1 : ∀ l : List Nat, D.plainL (nD l) = true := by
    intro l
    induction l with
    | nil => rfl
    | cons a l ih => show (true && D.plainL (nD l)) = true; rw [ih]; rfl
  show (decide ((nD l).length ≤ 1000000) && D.plainL (nD l)) = true
  rw [h1, nD_len, decide_eq_true h]; rfl
theorem atI_cons {γ : Type} (a : γ) (l : List γ) : atI (a :: l) 0 = some a := by
  have := atI_nat (a :: l) 0 (by simp)
  simpa using this
/-- blanks that differ by one at most -/
def lvl (bs : List Nat) : Bool := decide (Sp.mxL bs - Sp.mnL bs < 2)
def dn (bs : List Nat) : Bool := decide (bs.Pairwise fun a b => b ≤ a)
def up (bs : List Nat) : Bool := decide (bs.Pairwise fun a b => a ≤ b)
theorem lvl_iff {bs : List Nat} (h : bs ≠ []) : lvl bs = true ↔ ∃ c ∈ bs, ∀ b ∈ bs, b = c ∨ b = c + 1 := by
  unfold lvl; rw [decide_eq_true_iff]; exact even_iff h
theorem lvl_desc {m S : Nat} (hm : 0 < m) : lvl (desc m (S / m) (S % m)) = true := by
  have hr : S % m < m := Nat.mod_lt _ hm
  have hq : S / m ∈ desc m (S / m) (S % m) := by
    unfold desc
    exact List.mem_append_right _ (List.mem_replicate.2 ⟨by omega, rfl⟩)
  exact (lvl_iff (List.ne_nil_of_mem hq)).2 ⟨_, hq, desc_mem _ _ _⟩
theorem firsts {m S : Nat} (hm : 0 < m) (h1 : m ≤ S) (h2 : S ≤ m * 20) : ∃ l, ((allB m S).filter lvl).filter dn = desc m (S / m) (S % m) :: l := by
  rw [List.filter_filter]
  refine first_row hm (desc_in hm h1 h2) ?_ fun bs hb hp => ?_
  · rw [Bool.and_eq_true]; exact ⟨decide_eq_true (desc_down _ _ _), lvl_desc hm⟩
  · rw [Bool.and_eq_true] at hp
    obtain ⟨i2, i3, i4⟩ := mem_allB.1 hb
    have hne : bs ≠ [] := fun h => by rw [h] at i2; simp at i2; omega
    obtain ⟨c, hc, h⟩ := (lvl_iff hne).1 hp.2
    exact even_uniq hm i2 i3 hc h (of_decide_eq_true hp.1)
theorem lasts {m S : Nat} (hm : 0 < m) (h1 : m ≤ S) (h2 : S ≤ m * 20) : ∃ l, ((allB m S).filter lvl).filter up = (desc m (S / m) (S % m)).reverse :: l := by
  rw [List.filter_filter]
  have hd := desc_in hm h1 h2
  obtain ⟨j2, j3, j4⟩ := mem_allB.1 hd
  have hrne : ∀ bs : List Nat, bs.length = m → bs ≠ [] := fun bs i2 h => by rw [h] at i2; simp at i2; omega
  refine first_row hm (mem_allB.2 ⟨by rw [List.length_reverse, j2], by rw [List.sum_reverse, j3], fun b hb => j4 b (List.mem_reverse.1 hb)⟩) ?_ fun bs hb hp => ?_
  · rw [Bool.and_eq_true]
    refine ⟨decide_eq_true (List.pairwise_reverse.2 (desc_down _ _ _)), ?_⟩
    obtain ⟨c, hc, h⟩ := (lvl_iff (hrne _ j2)).1 (lvl_desc (S := S) hm)
    exact (lvl_iff (hrne _ (by rw [List.length_reverse, j2]))).2 ⟨c, List.mem_reverse.2 hc, fun b hb => h b (List.mem_reverse.1 hb)⟩
  · rw [Bool.and_eq_true] at hp
    obtain ⟨i2, i3, i4⟩ := mem_allB.1 hb
    obtain ⟨c, hc, h⟩ := (lvl_iff (hrne _ i2)).1 hp.2
    have := even_uniq (bs := bs.reverse) (m := m) (S := S) hm (by rw [List.length_reverse, i2]) (by rw [List.sum_reverse, i3]) (List.mem_reverse.2 hc) (fun b hb => h b (List.mem_reverse.1 hb)) (List.pairwise_reverse.2 (of_decide_eq_true hp.1))
    rw [← this, List.reverse_reverse]
theorem m_right (B : List D) (hB : okB B) : Wp (Pz.run tb 59 500 [.box 0] B) fun r => r.1 = .bl true ∧ okB r.2 := by
  refine wp_run (h := rfl) (by omega) rfl ?_
  obtain ⟨v, B1, hv, hB1, e1⟩ := has.roll_ 58 B 3 (by omega) (by omega) (by omega) hB
  obtain ⟨ws, B2, q, l, p, e2⟩ := Sp.lcLoop_thr (f := Pz.turn (Pz.run tb 58) [.val (.box 0), .no, .no, .no, .no, .no, .no, .no, .no, .no, .no, .no, .no, .no, .no, .no, .no, .no] (.nm 15) (.cst (.bl true)) (.bin .add (.cst (.int 1)) (.call 0 (.cons (.var 0) (.cons (.cst (.int 6)) (.nil))))))
    (c := fun a : Nat => D.int (a : Nat)) (l := List.range (v + 2)) (P := okB) (Q := fun w : Nat => 1 ≤ w ∧ w ≤ 6) (g := fun w : Nat => .int (w : Nat)) (B := B1)
    (by
      intro a ha B hB
      obtain ⟨u, B1, hu, hB1, f1⟩ := has.roll_ 58 B 6 (by omega) (by omega) (by omega) hB
      refine ⟨u + 1, B1, by omega, hB1, ?_⟩
      rw [show ((u + 1 : Nat) : Int) = 1 + (u : Nat) by omega]
      simp -implicitDefEqProofs [turn_eq, wipeS, Tg.names, f1]) hB1
  rw [List.length_range] at l
  have e2 : lcLoop _ _ _ = Rs.ok (nD ws, B2) := e2
  have hr1 : rngL 0 ((2 : Int) + v) = (List.range (v + 2)).map fun a : Nat => .int (a : Nat) := by
    rw [show (2 : Int) + v = ((v + 2 : Nat) : Int) by omega]; exact rngL_nat _
  have hb1 : bnd ((2 : Int) + v) = true := bnd_of (by omega) (by omega)
  have hln : v + 2 ≤ ln := by show _ ≤ 16777216; omega
  refine wp_next (σ' := [.val (.box 0), .val (.tup (nD ws)), .no, .no, .no, .no, .no, .no, .no, .no, .no, .no, .no, .no, .no, .no, .no, .no]) (B' := B2) (by
    simp -implicitDefEqProofs [Pz.start, e1, hb1, hr1, hln, e2]) ?_
  obtain ⟨m, hm⟩ : ∃ m, ws.length - 1 = m := ⟨_, rfl⟩
  have hm1 : 1 ≤ m := by omega
  have hm3 : m ≤ 3 := by omega
  have hnl : ((nD ws).length : Int) - 1 = (m : Nat) := by rw [nD_len]; omega
  refine wp_next (σ' := [.val (.box 0), .val (.tup (nD ws)), .val (.int (m : Nat)), .no, .no, .no, .no, .no, .no, .no, .no, .no, .no, .no, .no, .no, .no, .no]) (B' := B2) (by
    simp -implicitDefEqProofs [hnl]) ?_
  have hwsum : ws.sum ≤ 24 := by
    have h6 : ∀ l : List Nat, (∀ w ∈ l, w ≤ 6) → l.sum ≤ l.length * 6 := by
      intro l
      induction l with
      | nil => simp
      | cons a l ih =>
        intro h
        have := ih fun w hw => h w (by simp [hw])
        have := h a (by simp)
        simp; omega
    have := h6 ws fun w hw => (q w hw).2
    omega
  have e3 := sum_nD ws
  have hmn : bi_mng2 [.int 12, .int (19 * (m : Nat) : Int)] = some (.int 12) := by
    have h12 : min 12 (19 * m) = 12 := by omega
    have hm := mnF_nat 12 (19 * m)
    rw [h12] at hm
    show (if ordOk (nD [12, 19 * m]) then some (mnF (.int (12 : Nat)) (.int (19 * (m : Nat) : Int))) else none) = _
    rw [ok_nD, show (19 * (m : Nat) : Int) = ((19 * m : Nat) : Int) by omega, hm]; rfl
  have s19 : small 19 = true := rfl
  obtain ⟨t, B3, ht, hB3, e4⟩ := has.roll_ 58 B2 13 (by omega) (by omega) (by omega) p
  obtain ⟨S, hS⟩ : ∃ S, m + t = S := ⟨_, rfl⟩
  have hx : (ws.sum : Int) + (m : Nat) + (t : Nat) = ((ws.sum + S : Nat) : Int) := by omega
  obtain ⟨X, hX⟩ : ∃ X, ws.sum + S = X := ⟨_, rfl⟩
  rw [hX] at hx
  refine wp_next (σ' := [.val (.box 0), .val (.tup (nD ws)), .val (.int (m : Nat)), .val (.int (X : Nat)), .no, .no, .no, .no, .no, .no, .no, .no, .no, .no, .no, .no, .no, .no]) (B' := B3) (by
    simp -implicitDefEqProofs [e3, hmn, e4, hx, s19, -bi_sum_tup]) ?_
  have hok : okX ws (ws.sum + S) := ⟨⟨by omega, by omega, fun w hw => ⟨(q w hw).1, by have := (q w hw).2; omega⟩⟩, by omega, by omega⟩
  have e5 := m_law_all (tb := tb) m (57 - m) ws S B3 (by omega) hm3 (by omega) (by omega)
  rw [show 57 - m + m + 1 = 58 by omega, hX] at e5
  refine wp_next (σ' := [.val (.box 0), .val (.tup (nD ws)), .val (.int (m : Nat)), .val (.int (X : Nat)), .val (.lst (rD ((allB m S).map (wvn ws)))), .no, .no, .no, .no, .no, .no, .no, .no, .no, .no, .no, .no, .no]) (B' := B3) (by
    simp -implicitDefEqProofs [e5]) ?_
  have hm0 : 0 < m := hm1
  have hin : ∀ bs ∈ allB m S, ws.length = bs.length + 1 ∧ bs.length = m ∧ bs.sum = S ∧ ∀ b ∈ bs, 1 ≤ b ∧ b ≤ 20 := fun bs hb => by
    have := mem_allB.1 hb
    exact ⟨by omega, this⟩
  have hr : rD ((allB m S).map (wvn ws)) = (allB m S).map fun bs => .tup (nD (wvn ws bs)) := by simp [rD]
  have hlen : ((allB m S).map fun bs => D.tup (nD (wvn ws bs))).length ≤ ln := by
    have h1 := allB_len m S
    have h2 : 20 ^ m ≤ 20 ^ 3 := Nat.pow_le_pow_right (by omega) hm3
    rw [List.length_map]; show _ ≤ 16777216; omega
  rw [hr]
  have e6 : lcLoop (Pz.turn (Pz.run tb 58) [.val (.box 0), .val (.tup (nD ws)), .val (.int (m : Nat)), .val (.int (X : Nat)), .val (.lst ((allB m S).map fun bs => .tup (nD (wvn ws bs)))), .no, .no, .no, .no, .no, .no, .no, .no, .no, .no, .no, .no, .no] (.nm 13) (.cst (.bl true)) (.call 502 (.cons (.var 13) (.nil)))) ((allB m S).map fun bs => .tup (nD (wvn ws bs))) B3 = .ok (nD ((allB m S).map sq), B3) := by
    have : nD ((allB m S).map sq) = (allB m S).map fun bs => .int (sq bs : Nat) := by simp [nD]
    rw [this]
    refine lcLoop_all (c := fun bs => D.tup (nD (wvn ws bs))) (g := fun bs => D.int (sq bs : Nat)) fun bs hb => ?_
    obtain ⟨i1, i2, i3, i4⟩ := hin bs hb
    have f := m_law_faults 57 ws bs i1 (fun b hb => by have := i4 b hb; omega) (by omega) B3
    simp -implicitDefEqProofs [turn_eq, wipeS, Tg.names, f]
  have hdi : desc m (S / m) (S % m) ∈ allB m S := desc_in hm0 (by omega) (by omega)
  have hne : (allB m S).map sq ≠ [] := fun h => by
    have := List.map_eq_nil_iff.1 h
    rw [this] at hdi; simp at hdi
  obtain ⟨ds, hds⟩ : ∃ ds, desc m (S / m) (S % m) = ds := ⟨_, rfl⟩
  have hsb : shBs ws S 0 = ds := by rw [shBs_desc ws S (by omega), hm, hds]
  rw [hds] at hdi
  have hmin : mnL ((allB m S).map sq) = sq ds := mnL_of (List.mem_map_of_mem hdi) fun x hx => by
    obtain ⟨bs, hb, rfl⟩ := List.mem_map.1 hx
    obtain ⟨i1, i2, i3, i4⟩ := hin bs hb
    have := sq_least (ws := ws) (bs := bs) (by omega) (by omega) i3
    rw [hsb] at this; exact this
  have e7 := mng_lst hne
  rw [hmin] at e7
  refine wp_next (σ' := [.val (.box 0), .val (.tup (nD ws)), .val (.int (m : Nat)), .val (.int (X : Nat)), .val (.lst ((allB m S).map fun bs => .tup (nD (wvn ws bs)))), .val (.int (sq ds : Nat)), .no, .no, .no, .no, .no, .no, .no, .no, .no, .no, .no, .no]) (B' := B3) (by
    rw [List.length_map] at hlen
    simp -implicitDefEqProofs [e6, e7, hlen]) ?_
  have ho : ∀ bs ∈ allB m S, evnD 1 (.tup (nD (wvn ws bs))) = some (.tup (nD bs)) := fun bs hb => by
    obtain ⟨i1, i2, i3, i4⟩ := hin bs hb
    have : (nD (wvn ws bs)).drop 1 = nD ((wvn ws bs).drop 1) := by simp [nD]
    show some (D.tup (evens ((nD (wvn ws bs)).drop 1))) = _
    rw [this, evens_nD, wvn_odds i1]
  have hbne : ∀ bs ∈ allB m S, bs ≠ [] := fun bs hb h => by
    obtain ⟨i1, i2, i3, i4⟩ := hin bs hb
    rw [h] at i2; simp at i2; omega
  have e8 : lcLoop (Pz.turn (Pz.run tb 58) [.val (.box 0), .val (.tup (nD ws)), .val (.int (m : Nat)), .val (.int (X : Nat)), .val (.lst ((allB m S).map fun bs => .tup (nD (wvn ws bs)))), .val (.int (sq ds : Nat)), .no, .no, .no, .no, .no, .no, .no, .no, .no, .no, .no, .no] (.nm 13) (.cmp .lt (.bin .sub (.bi .mxg (.cons (.evn (.var 13) 1) (.nil))) (.bi .mng (.cons (.evn (.var 13) 1) (.nil)))) (.cst (.int 2))) (.var 13)) ((allB m S).map fun bs => .tup (nD (wvn ws bs))) B3 = .ok (((allB m S).filter lvl).map fun bs => .tup (nD (wvn ws bs)), B3) := by
    refine lcLoop_some (c := fun bs => D.tup (nD (wvn ws bs))) (g := fun bs => D.tup (nD (wvn ws bs))) (t := lvl) fun bs hb => ?_
    have o1 := ho bs hb
    have f1 := mxg_tup (hbne bs hb)
    have f2 := mng_tup (hbne bs hb)
    have hle : Sp.mnL bs ≤ Sp.mxL bs := (mnL_spec (hbne bs hb)).2 _ (mxL_spec (hbne bs hb)).1
    have t1 : (((Sp.mxL bs : Nat) : Int) - (Sp.mnL bs : Nat) < 2) ↔ (Sp.mxL bs - Sp.mnL bs < 2) := by omega
    obtain ⟨y, hy⟩ : ∃ y, lvl bs = y := ⟨_, rfl⟩
    have t2 : decide (((Sp.mxL bs : Nat) : Int) - (Sp.mnL bs : Nat) < 2) = y := by rw [← hy]; unfold lvl; exact decide_eq_decide.2 t1
    rw [hy]
    simp -implicitDefEqProofs [turn_eq, wipeS, Tg.names, o1, f1, f2, t2]
    cases y <;> simp
  refine wp_next (σ' := [.val (.box 0), .val (.tup (nD ws)), .val (.int (m : Nat)), .val (.int (X : Nat)), .val (.lst ((allB m S).map fun bs => .tup (nD (wvn ws bs)))), .val (.int (sq ds : Nat)), .val (.lst (((allB m S).filter lvl).map fun bs => .tup (nD (wvn ws bs)))), .no, .no, .no, .no, .no, .no, .no, .no, .no, .no, .no]) (B' := B3) (by
    rw [List.length_map] at hlen
    simp -implicitDefEqProofs [e8, hlen]) ?_
  have hlen2 : ((allB m S).filter lvl).length ≤ ln := by
    rw [List.length_map] at hlen
    exact Nat.le_trans (List.length_filter_le _ _) hlen
  obtain ⟨fd, hfd⟩ : ∃ fd, ((allB m S).filter lvl).filter dn = fd := ⟨_, rfl⟩
  obtain ⟨fu, hfu⟩ : ∃ fu, ((allB m S).filter lvl).filter up = fu := ⟨_, rfl⟩
  have e9 : lcLoop (Pz.turn (Pz.run tb 58) [.val (.box 0), .val (.tup (nD ws)), .val (.int (m : Nat)), .val (.int (X : Nat)), .val (.lst ((allB m S).map fun bs => .tup (nD (wvn ws bs)))), .val (.int (sq ds : Nat)), .val (.lst (((allB m S).filter lvl).map fun bs => .tup (nD (wvn ws bs)))), .no, .no, .no, .no, .no, .no, .no, .no, .no, .no, .no] (.nm 13) (.cmp .eq (.bi .list (.cons (.evn (.var 13) 1) (.nil))) (.rev (.bi .sorted (.cons (.evn (.var 13) 1) (.nil))))) (.var 13)) (((allB m S).filter lvl).map fun bs => .tup (nD (wvn ws bs))) B3 = .ok ((fd.map fun bs => .tup (nD (wvn ws bs))), B3) := by
    rw [← hfd]
    refine lcLoop_some (c := fun bs => D.tup (nD (wvn ws bs))) (g := fun bs => D.tup (nD (wvn ws bs))) (t := dn) fun bs hb => ?_
    have o1 := ho bs (List.mem_filter.1 hb).1
    have f1 := sortD_nD bs
    have f2 : opC .eq (.lst (nD bs)) (.lst (isort (nD bs)).reverse) = _ := down_iff bs
    obtain ⟨y, hy⟩ : ∃ y, dn bs = y := ⟨_, rfl⟩
    obtain ⟨z, hz⟩ : ∃ z, isort (nD bs) = z := ⟨_, rfl⟩
    rw [show decide (List.Pairwise _ bs) = y from hy, hz] at f2
    rw [hz] at f1
    rw [hy]
    have rv : revD (.lst z) = some (.lst z.reverse) := rfl
    simp -implicitDefEqProofs [turn_eq, wipeS, Tg.names, o1, f1, f2, rv, -List.filter_filter]
    cases y <;> simp
  refine wp_next (σ' := [.val (.box 0), .val (.tup (nD ws)), .val (.int (m : Nat)), .val (.int (X : Nat)), .val (.lst ((allB m S).map fun bs => .tup (nD (wvn ws bs)))), .val (.int (sq ds : Nat)), .val (.lst (((allB m S).filter lvl).map fun bs => .tup (nD (wvn ws bs)))), .val (.lst (fd.map fun bs => .tup (nD (wvn ws bs)))), .no, .no, .no, .no, .no, .no, .no, .no, .no, .no]) (B' := B3) (by
    simp -implicitDefEqProofs [e9, hlen2]) ?_
  have e10 : lcLoop (Pz.turn (Pz.run tb 58) [.val (.box 0), .val (.tup (nD ws)), .val (.int (m : Nat)), .val (.int (X : Nat)), .val (.lst ((allB m S).map fun bs => .tup (nD (wvn ws bs)))), .val (.int (sq ds : Nat)), .val (.lst (((allB m S).filter lvl).map fun bs => .tup (nD (wvn ws bs)))), .val (.lst (fd.map fun bs => .tup (nD (wvn ws bs)))), .no, .no, .no, .no, .no, .no, .no, .no, .no, .no] (.nm 13) (.cmp .eq (.bi .list (.cons (.evn (.var 13) 1) (.nil))) (.bi .sorted (.cons (.evn (.var 13) 1) (.nil)))) (.var 13)) (((allB m S).filter lvl).map fun bs => .tup (nD (wvn ws bs))) B3 = .ok ((fu.map fun bs => .tup (nD (wvn ws bs))), B3) := by
    rw [← hfu]
    refine lcLoop_some (c := fun bs => D.tup (nD (wvn ws bs))) (g := fun bs => D.tup (nD (wvn ws bs))) (t := up) fun bs hb => ?_
    have o1 := ho bs (List.mem_filter.1 hb).1
    have f1 := sortD_nD bs
    have f2 : opC .eq (.lst (nD bs)) (.lst (isort (nD bs))) = _ := up_iff bs
    obtain ⟨y, hy⟩ : ∃ y, up bs = y := ⟨_, rfl⟩
    obtain ⟨z, hz⟩ : ∃ z, isort (nD bs) = z := ⟨_, rfl⟩
    rw [show decide (List.Pairwise _ bs) = y from hy, hz] at f2
    rw [hz] at f1
    rw [hy]
    have rv : revD (.lst z) = some (.lst z.reverse) := rfl
    simp -implicitDefEqProofs [turn_eq, wipeS, Tg.names, o1, f1, f2, rv, -List.filter_filter]
    cases y <;> simp
  refine wp_next (σ' := [.val (.box 0), .val (.tup (nD ws)), .val (.int (m : Nat)), .val (.int (X : Nat)), .val (.lst ((allB m S).map fun bs => .tup (nD (wvn ws bs)))), .val (.int (sq ds : Nat)), .val (.lst (((allB m S).filter lvl).map fun bs => .tup (nD (wvn ws bs)))), .val (.lst (fd.map fun bs => .tup (nD (wvn ws bs)))), .val (.lst (fu.map fun bs => .tup (nD (wvn ws bs)))), .no, .no, .no, .no, .no, .no, .no, .no, .no]) (B' := B3) (by
    simp -implicitDefEqProofs [e10, hlen2]) ?_
  have hok2 := hok
  rw [hX] at hok2
  have l4 : 4 ≤ ln := by show 4 ≤ 16777216; omega
  have hXS : X - ws.sum = S := by omega
  have g1 := m_shared_line (tb := tb) 53 ws X 0 hok2 (by omega) B3
  have g2 := m_shared_line (tb := tb) 53 ws X 1 hok2 (by omega) B3
  have g3 := m_least_faults (tb := tb) 53 ws X hok2 B3
  have g4 := m_lines_many (tb := tb) 53 ws X hok2 (by omega) B3
  rw [hXS] at g1 g2 g3
  rw [hXS, hm] at g4
  rw [shBs_asc ws S (by omega)] at g2
  rw [hsb] at g1 g2 g3
  have g4 : Pz.run tb 58 48 [.tup (nD ws), .int (X : Nat)] B3 = .ok (.int ((allB m S).length : Nat), B3) := g4
  refine wp_next (σ' := [.val (.box 0), .val (.tup (nD ws)), .val (.int (m : Nat)), .val (.int (X : Nat)), .val (.lst ((allB m S).map fun bs => .tup (nD (wvn ws bs)))), .val (.int (sq ds : Nat)), .val (.lst (((allB m S).filter lvl).map fun bs => .tup (nD (wvn ws bs)))), .val (.lst (fd.map fun bs => .tup (nD (wvn ws bs)))), .val (.lst (fu.map fun bs => .tup (nD (wvn ws bs)))), .val (.tup [.tup (nD (wvn ws ds)), .tup (nD (wvn ws ds.reverse)), .int (sq ds : Nat), .int ((allB m S).length : Nat)]), .no, .no, .no, .no, .no, .no, .no, .no]) (B' := B3) (by
    simp -implicitDefEqProofs [show Pz.run tb 58 46 [.tup (nD ws), .int (X : Nat), .int 0] B3 = _ from g1, show Pz.run tb 58 46 [.tup (nD ws), .int (X : Nat), .int 1] B3 = _ from g2, g3, g4, l4]) ?_
  obtain ⟨fd', hfd'⟩ := firsts (m := m) (S := S) hm0 (by omega) (by omega)
  obtain ⟨fu', hfu'⟩ := lasts (m := m) (S := S) hm0 (by omega) (by omega)
  rw [hfd, hds] at hfd'
  rw [hfu, hds] at hfu'
  subst hfd' hfu'
  obtain ⟨d1, d2, d3, d4⟩ := hin ds hdi
  have p1 := plain_nD (wvn ws ds) (by rw [wvn_len d1]; omega)
  have p2 := plain_nD (wvn ws ds.reverse) (by rw [wvn_len (by rw [List.length_reverse]; exact d1), List.length_reverse]; omega)
  have s1 := same_refl (tb := tb) has.same_ 58 (.tup [.tup (nD (wvn ws ds)), .tup (nD (wvn ws ds.reverse)), .int (sq ds : Nat), .int ((allB m S).length : Nat)]) B3 (by
    show (true && (D.plain _ && (D.plain _ && (true && (true && true))))) = true
    rw [p1, p2]; rfl) (by simp [D.dep, D.depL, nD_dep])
  have s2 := m_law_faults 57 ws ds d1 (fun b hb => by have := d4 b hb; omega) (by omega) B3
  have a1 := fun (l : List D) => atI_cons (D.tup (nD (wvn ws ds))) l
  have a2 := fun (l : List D) => atI_cons (D.tup (nD (wvn ws ds.reverse))) l
  refine wp_next (σ' := [.val (.box 0), .val (.tup (nD ws)), .val (.int (m : Nat)), .val (.int (X : Nat)), .val (.lst ((allB m S).map fun bs => .tup (nD (wvn ws bs)))), .val (.int (sq ds : Nat)), .val (.lst (((allB m S).filter lvl).map fun bs => .tup (nD (wvn ws bs)))), .val (.lst ((ds :: fd').map fun bs => .tup (nD (wvn ws bs)))), .val (.lst ((ds.reverse :: fu').map fun bs => .tup (nD (wvn ws bs)))), .val (.tup [.tup (nD (wvn ws ds)), .tup (nD (wvn ws ds.reverse)), .int (sq ds : Nat), .int ((allB m S).length : Nat)]), .no, .no, .no, .no, .no, .no, .no, .no]) (B' := B3) (by
    simp -implicitDefEqProofs [a1, a2, s1, s2, l4]) ?_
  obtain ⟨wa, ba, B4, ha, ha12, hwa, hba, hB4, e11⟩ := m_law_set (tb := tb) 55 6 (by omega) (by omega) B3 hB3
  have e11 : Pz.run tb 58 29 [.box 0, .int 6] B3 = .ok (.tup (nD (wvn wa ba)), B4) := e11
  obtain ⟨r, B5, hr5, hB5, e12⟩ := has.roll_ 58 B4 6 (by omega) (by omega) (by omega) hB4
  have l2 : 2 ≤ ln := by show 2 ≤ 16777216; omega
  refine wp_next (σ' := [.val (.box 0), .val (.tup (nD ws)), .val (.int (m : Nat)), .val (.int (X : Nat)), .val (.lst ((allB m S).map fun bs => .tup (nD (wvn ws bs)))), .val (.int (sq ds : Nat)), .val (.lst (((allB m S).filter lvl).map fun bs => .tup (nD (wvn ws bs)))), .val (.lst ((ds :: fd').map fun bs => .tup (nD (wvn ws bs)))), .val (.lst ((ds.reverse :: fu').map fun bs => .tup (nD (wvn ws bs)))), .val (.tup [.tup (nD (wvn ws ds)), .tup (nD (wvn ws ds.reverse)), .int (sq ds : Nat), .int ((allB m S).length : Nat)]), .val (.tup (nD (wvn wa ba))), .val (.int (r : Nat)), .no, .no, .no, .no, .no, .no]) (B' := B5) (by
    simp -implicitDefEqProofs [e11, e12, l2]) ?_
  refine wp_next (σ' := [.val (.box 0), .val (.tup (nD ws)), .val (.int (m : Nat)), .val (.int (X : Nat)), .val (.lst ((allB m S).map fun bs => .tup (nD (wvn ws bs)))), .val (.int (sq ds : Nat)), .val (.lst (((allB m S).filter lvl).map fun bs => .tup (nD (wvn ws bs)))), .val (.lst ((ds :: fd').map fun bs => .tup (nD (wvn ws bs)))), .val (.lst ((ds.reverse :: fu').map fun bs => .tup (nD (wvn ws bs)))), .val (.tup [.tup (nD (wvn ws ds)), .tup (nD (wvn ws ds.reverse)), .int (sq ds : Nat), .int ((allB m S).length : Nat)]), .val (.tup (nD (wvn wa ba))), .val (.int (r : Nat)), .own (.lst []), .no, .no, .no, .no, .no]) (B' := B5) (by
    simp -implicitDefEqProofs) ?_
  have l3 : 3 ≤ ln := by show 3 ≤ 16777216; omega
  obtain ⟨σ', B6, ⟨x13, x14, rfl, rfl⟩, e13⟩ := for_inv (f := forB (Pz.run tb 58) (.nm 13) (.cons (.asg (.nm 14) (.lc (.nm 16) (.call 30 (.cons (.var 13) (.nil))) (.cmp .ne (.lc (.nm 17) (.call 30 (.cons (.var 10) (.nil))) (.call 31 (.cons (.var 16) (.cons (.var 17) (.cons (.var 11) (.nil))))) (.var 17)) (.lst (.nil))) (.var 16))) (.cons (.app 12 (.tup (.cons (.bi .len (.cons (.var 14) (.nil))) (.cons (.call 502 (.cons (.var 13) (.nil))) (.cons (.var 13) (.nil)))))) (.nil)))) (σ := [.val (.box 0), .val (.tup (nD ws)), .val (.int (m : Nat)), .val (.int (X : Nat)), .val (.lst ((allB m S).map fun bs => .tup (nD (wvn ws bs)))), .val (.int (sq ds : Nat)), .val (.lst (((allB m S).filter lvl).map fun bs => .tup (nD (wvn ws bs)))), .val (.lst ((ds :: fd').map fun bs => .tup (nD (wvn ws bs)))), .val (.lst ((ds.reverse :: fu').map fun bs => .tup (nD (wvn ws bs)))), .val (.tup [.tup (nD (wvn ws ds)), .tup (nD (wvn ws ds.reverse)), .int (sq ds : Nat), .int ((allB m S).length : Nat)]), .val (.tup (nD (wvn wa ba))), .val (.int (r : Nat)), .own (.lst []), .no, .no, .no, .no, .no]) (B := B5) ((allB m S).map fun bs => .tup (nD (wvn ws bs)))
    (fun i σ B => ∃ x13 x14, σ = [.val (.box 0), .val (.tup (nD ws)), .val (.int (m : Nat)), .val (.int (X : Nat)), .val (.lst ((allB m S).map fun bs => .tup (nD (wvn ws bs)))), .val (.int (sq ds : Nat)), .val (.lst (((allB m S).filter lvl).map fun bs => .tup (nD (wvn ws bs)))), .val (.lst ((ds :: fd').map fun bs => .tup (nD (wvn ws bs)))), .val (.lst ((ds.reverse :: fu').map fun bs => .tup (nD (wvn ws bs)))), .val (.tup [.tup (nD (wvn ws ds)), .tup (nD (wvn ws ds.reverse)), .int (sq ds : Nat), .int ((allB m S).length : Nat)]), .val (.tup (nD (wvn wa ba))), .val (.int (r : Nat)), .own (.lst (((allB m S).take i).map (key ws (wvn wa ba) r))), x13, x14, .no, .no, .no] ∧ B = B5)
    ⟨_, _, rfl, rfl⟩ (by
      rintro i hi σ B ⟨x13, x14, rfl, rfl⟩
      have hi' : i < (allB m S).length := by simpa using hi
      obtain ⟨bs, hbs⟩ : ∃ bs, (allB m S)[i] = bs := ⟨_, rfl⟩
      have hbm : bs ∈ allB m S := by rw [← hbs]; exact List.getElem_mem hi'
      obtain ⟨i1, i2, i3, i4⟩ := hin bs hbm
      rw [List.getElem_map, hbs]
      have b1 : (wvn ws bs).length = 2 * bs.length + 1 := wvn_len i1
      have b2 : (wvn wa ba).length = 2 * ba.length + 1 := wvn_len ha
      have k1 : Pz.run tb 58 30 [.tup (nD (wvn ws bs))] B = .ok (.lst (cD (bps (wvn ws bs))), B) := m_law_covered (tb := tb) 57 (wvn ws bs) (by omega) (wvn_le (fun w hw => by have := (q w hw).2; omega) (fun b hb => by have := i4 b hb; omega)) B
      have k2 : Pz.run tb 58 30 [.tup (nD (wvn wa ba))] B = .ok (.lst (cD (bps (wvn wa ba))), B) := m_law_covered (tb := tb) 57 (wvn wa ba) (by omega) (wvn_le (fun w hw => by have := hwa w hw; omega) (fun b hb => by have := hba b hb; omega)) B
      have k3 := fun s0 s1 s2 s3 s4 s5 s6 s7 s8 s9 s12 s13 s14 s15 s16 s17 => lc_row 57 i1 i4 (by omega) (fun w hw => ⟨(q w hw).1, by have := (q w hw).2; omega⟩) ha hba ha12 hwa r (by omega) B s0 s1 s2 s3 s4 s5 s6 s7 s8 s9 s12 s13 s14 s15 s16 s17 k2
      have k4 := m_law_faults 57 ws bs i1 (fun b hb => by have := i4 b hb; omega) (by omega) B
      have hl1 : (cD (bps (wvn ws bs))).length ≤ ln := by
        have : (cD (bps (wvn ws bs))).length = (wvn ws bs).length / 2 := by simp [cD, bps, prs_len]
        rw [this]; show _ ≤ 16777216; omega
      have hl2 : (cD (hits (wvn ws bs) (wvn wa ba) r)).length = (hits (wvn ws bs) (wvn wa ba) r).length := by simp [cD]
      have hk : ((allB m S).take (i + 1)).map (key ws (wvn wa ba) r) = ((allB m S).take i).map (key ws (wvn wa ba) r) ++ [key ws (wvn wa ba) r bs] := by
        rw [List.take_succ_eq_append_getElem hi', List.map_append, hbs]; rfl
      have hap : min i (allB m S).length < ln := by rw [List.length_map] at hlen; omega
      rw [hk]
      refine ⟨_, _, ⟨.val (.tup (nD (wvn ws bs))), .val (.lst (cD (hits (wvn ws bs) (wvn wa ba) r))), rfl, rfl⟩, ?_⟩
      simp -implicitDefEqProofs [forB, k1, k3, k4, hl1, hl2, l3, key, hap])
  rw [List.length_map, List.take_length] at e13
  simp only [List.map_cons] at e13
  refine wp_next (h := by
    simp -implicitDefEqProofs
    exact e13) ?_
  obtain ⟨cs, hcs, hkm⟩ := key_min (ws := ws) (above := wvn wa ba) (r := r) (List.ne_nil_of_mem hdi)
  obtain ⟨c1, c2, c3, c4⟩ := hin cs hcs
  have e14 := m_calm_line (tb := tb) 53 ws X hok2 (by omega) (by omega) wa ba ha ha12 hwa hba r (by omega) cs (by rw [hm, hXS]; exact hkm) B6
  have e15 := m_are_lines (tb := tb) 53 ws cs c1 (by omega) (fun w hw => ⟨(q w hw).1, by have := (q w hw).2; omega⟩) c4 B6
  have e16 := m_line_width (tb := tb) 52 ws cs c1 (by omega) (fun w hw => ⟨(q w hw).1, by have := (q w hw).2; omega⟩) c4 B6
  rw [c3, hX] at e16
  have p3 := plain_nD (wvn ws cs) (by rw [wvn_len c1]; omega)
  have s3 := same_refl (tb := tb) has.same_ 58 (.tup (nD (wvn ws cs))) B6 p3 (by simp [D.dep, nD_dep])
  have s4 := same_refl (tb := tb) has.same_ 58 (.int (X : Nat)) B6 rfl (by simp [D.dep])
  have l1 : 1 ≤ ln := by show 1 ≤ 16777216; omega
  have u2 : subD (key ws (wvn wa ba) r cs) (.int 2) = some (.tup (nD (wvn ws cs))) := rfl
  have u3 : drf B6 (key ws (wvn wa ba) r cs) = key ws (wvn wa ba) r cs := rfl
  have u4 : isD (.bl true) (.bl true) = some true := rfl
  have e16 : Pz.run tb 58 24 [.tup (nD (wvn ws cs))] B6 = .ok (.int (X : Nat), B6) := e16
  simp -implicitDefEqProofs [e14, e15, e16, hkm, u2, u3, u4, s3, s4, l1, hB5, frzAll, frzS]
end K81
end
section
set_option linter.all false
set_option maxRecDepth 100000
open Pz Sp
namespace K81
theorem wvn_rev : ∀ {ws bs : List Nat}, ws.length = bs.length + 1 → (wvn ws bs).reverse = wvn ws.reverse bs.reverse
  | [w], [], _ => rfl
  | w :: v :: ws, b :: bs, h => by
    have h' : (v :: ws).length = bs.length + 1 := by simpa using h
    show (w :: b :: wvn (v :: ws) bs).reverse = wvn (w :: v :: ws).reverse (b :: bs).reverse
    rw [List.reverse_cons, List.reverse_cons, wvn_rev h', List.reverse_cons (a := w), List.reverse_cons (a := b), wvn_snoc (by rw [List.length_reverse, List.length_reverse, h']), List.append_assoc]
    rfl
  | [], _, h => by simp at h
  | w :: v :: ws, [], h => by simp at h
  | [w], b :: bs, h => by simp at h
theorem nD_rev (l : List Nat) : (nD l).reverse = nD l.reverse := by simp [nD]
theorem nD_rep (N k : Nat) : nD (List.replicate N k) = List.replicate N (.int (k : Nat)) := by simp [nD]
theorem flat_one {α : Type} (d : α) : ∀ k : Nat, (List.replicate k [d]).flatten = List.replicate k d
  | 0 => rfl
  | k + 1 => by rw [List.replicate_succ, List.flatten_cons, flat_one d k, List.replicate_succ]; rfl
theorem mulT (d : D) (N : Nat) (h : N ≤ 1000) : opB .mul (.tup [d]) (.int (N : Nat)) = some (.tup (List.replicate N d)) := by
  rw [opB_mulT]
  have q : (decide (-1000000 < (N : Int)) && decide ((N : Int) < 1000000) && decide (([d] : List D).length * ((N : Nat) : Int).toNat ≤ ln)) = true := by
    have : ([d] : List D).length * ((N : Nat) : Int).toNat ≤ 16777216 := by simp; omega
    simp only [Bool.and_eq_true, decide_eq_true_eq]
    exact ⟨⟨by omega, by omega⟩, this⟩
  rw [if_pos q]
  show some (D.tup ((List.replicate ((N : Nat) : Int).toNat [d]).flatten)) = _
  rw [flat_one]; rfl
theorem sum_rep7 : ∀ N : Nat, (List.replicate N 7).sum = 7 * N
  | 0 => rfl
  | N + 1 => by rw [List.replicate_succ, List.sum_cons, sum_rep7 N]; omega
theorem plain (ns : List Int) (hn : ns.length ≤ 63) : ∃ B, Pz.run tb 60 501 [.scr (ns.map .int)] [] = .ok (.bl true, B) := by
  have h : Wp (Pz.run tb 60 501 [.scr (ns.map .int)] []) fun r => r.1 = .bl true := by
    refine wp_run (h := rfl) (by omega) rfl ?_
    obtain ⟨B0, hB0, e0⟩ := cup_of (tb := tb) (b := b__law_cup) rfl rfl (by decide) 59 (by omega) ns hn
    refine wp_next (σ' := [.val (.scr (ns.map .int)), .val (.box 0), .no, .no, .no, .no, .no, .no, .no, .no, .no]) (B' := B0) (by
      simp -implicitDefEqProofs [Pz.start, e0]) ?_
    have l1 : 1 ≤ ln := by show 1 ≤ 16777216; omega
    have l2 : 2 ≤ ln := by show 2 ≤ 16777216; omega
    have l3 : 3 ≤ ln := by show 3 ≤ 16777216; omega
    obtain ⟨σ', B1, ⟨x2, rfl, hB1⟩, e1⟩ := for_inv (f := forB (Pz.run tb 59) (.nm 2) (.cons (.ifs (.not (.call 500 (.cons (.var 1) (.nil)))) (.cons (.ret (.cst (.bl false))) (.nil)) (.nil)) (.nil))) (σ := [.val (.scr (ns.map .int)), .val (.box 0), .no, .no, .no, .no, .no, .no, .no, .no, .no]) (B := B0) ((List.range 4).map fun k : Nat => .int (k : Nat))
      (fun j σ B' => ∃ x, σ = [.val (.scr (ns.map .int)), .val (.box 0), x, .no, .no, .no, .no, .no, .no, .no, .no] ∧ okB B')
      ⟨_, rfl, hB0⟩ (by
        rintro j hj σ B ⟨x, rfl, hB⟩
        rw [List.getElem_map]
        obtain ⟨⟨d, B2⟩, e2, hd, hB2⟩ := m_right B hB
        have hd : d = .bl true := hd
        subst hd
        refine ⟨_, _, ⟨.val (.int ((List.range 4)[j]'(by simpa using hj) : Nat)), rfl, hB2⟩, ?_⟩
        simp -implicitDefEqProofs [e2])
    have hr : rngL 0 4 = (List.range 4).map fun k : Nat => .int (k : Nat) := rngL_nat 4
    have hb4 : bnd 4 = true := bnd_of (by omega) (by omega)
    refine wp_next (σ' := _) (B' := _) (by
      simp -implicitDefEqProofs only [ex_for, ev_bi, evs_cons, evs_nil, ev_cst, kCons1_ok, kCons2_ok, kBi_ok, List.map_cons, List.map_nil, drf_int, opBi_rng, rngOf_1, hb4, if_true, Option.map_some, kOf_s, kFor1_ok, itemsOf_lst, kFor2_s, hr]
      exact e1) ?_
    obtain ⟨v1, B2, hv1, hB2, e2⟩ := has.roll_ 59 B1 11 (by omega) (by omega) (by omega) hB1
    obtain ⟨v2, B3, hv2, hB3, e3⟩ := has.roll_ 59 B2 19 (by omega) (by omega) (by omega) hB2
    obtain ⟨m, hm⟩ : ∃ m : Nat, v1 + 1 = m := ⟨_, rfl⟩
    obtain ⟨q, hq⟩ : ∃ q : Nat, v2 + 1 = q := ⟨_, rfl⟩
    have hv1' : (2 : Int) + (v1 : Nat) = ((m + 1 : Nat) : Int) := by omega
    have hv2' : (1 : Int) + (v2 : Nat) = (q : Nat) := by omega
    refine wp_next (σ' := [.val (.scr (ns.map .int)), .val (.box 0), x2, .val (.int ((m + 1 : Nat) : Int)), .val (.int (q : Nat)), .no, .no, .no, .no, .no, .no]) (B' := B3) (by
      simp -implicitDefEqProofs [e2, e3, hv1', hv2']) ?_
    obtain ⟨r, B4, hr1, hB4, e4⟩ := has.roll_ 59 B3 m (by omega) (by omega) (by omega) hB3
    have hm1 : ((m + 1 : Nat) : Int) - 1 = (m : Nat) := by omega
    refine wp_next (σ' := [.val (.scr (ns.map .int)), .val (.box 0), x2, .val (.int ((m + 1 : Nat) : Int)), .val (.int (q : Nat)), .val (.int (r : Nat)), .no, .no, .no, .no, .no]) (B' := B4) (by
      simp -implicitDefEqProofs only [ex_asg, evX_call, ev_call, evs_cons, evs_nil, ev_bin, ev_var, ev_cst, List.getElem?_cons_zero, List.getElem?_cons_succ, kVar_v, kBin1_ok, kBin2_ok, drf_int, opB_subI, hm1, kOf_s, kCons1_ok, kCons2_ok, kCall_ok, e4]
      rfl) ?_
    obtain ⟨ws, hws⟩ : ∃ ws, List.replicate (m + 1) 7 = ws := ⟨_, rfl⟩
    have hwl : ws.length = m + 1 := by rw [← hws]; simp
    have hwm : ∀ w ∈ ws, w = 7 := fun w h => by rw [← hws] at h; exact List.eq_of_mem_replicate h
    have hwsum : ws.sum = 7 * (m + 1) := by rw [← hws, sum_rep7]
    have hwD : List.replicate (m + 1) (D.int 7) = nD ws := by rw [← hws, nD_rep]; rfl
    have p1 := mulT (.int 7) (m + 1) (by omega)
    rw [hwD] at p1
    refine wp_next (σ' := [.val (.scr (ns.map .int)), .val (.box 0), x2, .val (.int ((m + 1 : Nat) : Int)), .val (.int (q : Nat)), .val (.int (r : Nat)), .val (.tup (nD ws)), .no, .no, .no, .no]) (B' := B4) (by
      simp -implicitDefEqProofs only [ex_asg, evX_bin, ev_tup, kTup_ok, List.length_cons, List.length_nil, Nat.zero_add, l1, if_true, evs_cons, evs_nil, ev_bin, ev_var, ev_cst, List.getElem?_cons_zero, List.getElem?_cons_succ, kVar_v, kBin1_ok, kBin2_ok, drf_int, drf_tup, p1, kOf_s, kCons1_ok, kCons2_ok]
      rfl) ?_
    obtain ⟨S, hS⟩ : ∃ S : Nat, q * m + r = S := ⟨_, rfl⟩
    obtain ⟨x, hx⟩ : ∃ x : Nat, 7 * (m + 1) + S = x := ⟨_, rfl⟩
    have hqm : (q : Int) * (m : Nat) = ((q * m : Nat) : Int) := by push_cast; rfl
    have hxI : (7 : Int) * ((m + 1 : Nat) : Int) + (q : Int) * (m : Nat) + (r : Nat) = (x : Nat) := by rw [hqm]; omega
    have sm1 : small 7 = true := rfl
    have sm2 : small (q : Int) = true := small_of (by omega) (by omega)
    refine wp_next (σ' := [.val (.scr (ns.map .int)), .val (.box 0), x2, .val (.int ((m + 1 : Nat) : Int)), .val (.int (q : Nat)), .val (.int (r : Nat)), .val (.tup (nD ws)), .val (.int (x : Nat)), .no, .no, .no]) (B' := B4) (by
      simp -implicitDefEqProofs only [ex_asg, evX_bin, ev_bin, ev_var, ev_cst, List.getElem?_cons_zero, List.getElem?_cons_succ, kVar_v, kBin1_ok, kBin2_ok, drf_int, opB_mulI, opB_subI, opB_addI, hm1, sm1, sm2, Bool.true_or, if_true, kOf_s, hxI]
      rfl) ?_
    obtain ⟨f, hf⟩ : ∃ f : Nat → Nat, f = shB q r m 0 := ⟨_, rfl⟩
    have hf0 : ∀ i, f i = q + (if i < r then 1 else 0) := fun i => by rw [hf]; unfold shB; rw [if_pos rfl]; split <;> omega
    have hlo : ∀ i, i ≤ m → lineOf ws f i = wvn (ws.take (i + 1)) ((List.range i).map f) := fun i hi => lineOf_mk ws f i (by omega)
    have hw0 : lineOf ws f 0 = [7] := by
      rw [hlo 0 (by omega)]
      cases ws with
      | nil => simp at hwl
      | cons w ws => rw [hwm w (by simp)]; rfl
    have hwi : ∀ i, i + 1 < m + 1 → ws.getD (i + 1) 0 = 7 := fun i hi => by
      have : ws.getD (i + 1) 0 = ws[i + 1] := by simp [List.getD, hwl, hi]
      rw [this]; exact hwm _ (List.getElem_mem _)
    refine wp_next (σ' := [.val (.scr (ns.map .int)), .val (.box 0), x2, .val (.int ((m + 1 : Nat) : Int)), .val (.int (q : Nat)), .val (.int (r : Nat)), .val (.tup (nD ws)), .val (.int (x : Nat)), .val (.tup (nD (lineOf ws f 0))), .no, .no]) (B' := B4) (by
      rw [hw0]
      simp -implicitDefEqProofs [l1]
      rfl) ?_
    obtain ⟨σ', B5, ⟨x9, rfl, rfl⟩, e5⟩ := for_inv (f := forB (Pz.run tb 59) (.nm 9) (.cons (.asg (.nm 8) (.bin .add (.var 8) (.tup (.cons (.bin .add (.var 4) (.ite (.cmp .lt (.var 9) (.var 5)) (.cst (.int 1)) (.cst (.int 0)))) (.cons (.cst (.int 7)) (.nil)))))) (.nil))) (σ := [.val (.scr (ns.map .int)), .val (.box 0), x2, .val (.int ((m + 1 : Nat) : Int)), .val (.int (q : Nat)), .val (.int (r : Nat)), .val (.tup (nD ws)), .val (.int (x : Nat)), .val (.tup (nD (lineOf ws f 0))), .no, .no]) (B := B4) ((List.range m).map fun k : Nat => .int (k : Nat))
      (fun j σ B' => ∃ x9, σ = [.val (.scr (ns.map .int)), .val (.box 0), x2, .val (.int ((m + 1 : Nat) : Int)), .val (.int (q : Nat)), .val (.int (r : Nat)), .val (.tup (nD ws)), .val (.int (x : Nat)), .val (.tup (nD (lineOf ws f j))), x9, .no] ∧ B' = B4)
      ⟨_, rfl, rfl⟩ (by
        rintro j hj σ B ⟨x9, rfl, rfl⟩
        have hj' : j < m := by simpa using hj
        rw [List.getElem_map, List.getElem_range]
        have hll := lineOf_len ws f j
        have hln : (nD (lineOf ws f j)).length + 2 ≤ ln := by
          rw [nD_len, hll, List.length_take]; show _ ≤ 16777216; omega
        refine ⟨_, _, ⟨.val (.int (j : Nat)), rfl, rfl⟩, ?_⟩
        rw [lineOf_succ, nD_app, hf0 j, hwi j (by omega)]
        by_cases g : j < r
        · have g' : ((j : Nat) : Int) < (r : Nat) := by omega
          have k1 : nD [q + (if j < r then 1 else 0), 7] = [.int ((q : Int) + 1), .int 7] := by rw [if_pos g]; rfl
          rw [k1]
          simp -implicitDefEqProofs [g, g', l2, hln]
        · have g' : ¬ ((j : Nat) : Int) < (r : Nat) := by omega
          have k1 : nD [q + (if j < r then 1 else 0), 7] = [.int ((q : Int)), .int 7] := by rw [if_neg g]; rfl
          rw [k1]
          simp -implicitDefEqProofs [g, g', l2, hln])
    rw [List.length_map, List.length_range] at e5
    have hr5 : rngL 0 (m : Int) = (List.range m).map fun k : Nat => .int (k : Nat) := rngL_nat m
    have hbm : bnd (m : Int) = true := bnd_of (by omega) (by omega)
    refine wp_next (σ' := _) (B' := _) (by
      simp -implicitDefEqProofs only [ex_for, ev_bi, evs_cons, evs_nil, ev_cst, ev_bin, ev_var, List.getElem?_cons_zero, List.getElem?_cons_succ, kVar_v, kBin1_ok, kBin2_ok, opB_subI, hm1, kCons1_ok, kCons2_ok, kBi_ok, List.map_cons, List.map_nil, drf_int, opBi_rng, rngOf_1, hbm, if_true, Option.map_some, kOf_s, kFor1_ok, itemsOf_lst, kFor2_s, hr5]
      exact e5) ?_
    have hxS : x - ws.sum = S := by omega
    have hmp : 0 < m := by omega
    have hd1 : S / m = q := by rw [← hS, Nat.mul_comm, Nat.mul_add_div hmp, Nat.div_eq_of_lt (by omega), Nat.add_zero]
    have hd2 : S % m = r := by rw [← hS, Nat.mul_comm, Nat.mul_add_mod, Nat.mod_eq_of_lt (by omega)]
    have hsh : shBs ws S 0 = (List.range m).map f := by
      unfold shBs
      rw [hwl, Nat.add_sub_cancel, hd1, hd2, hf]
    have hlm : lineOf ws f m = wvn ws (shBs ws S 0) := by
      rw [hlo m (Nat.le_refl _), hsh, ← hwl, List.take_length]
    have hqq : q * m ≤ 19 * m := Nat.mul_le_mul_right _ (by omega)
    have hq1 : 1 * m ≤ q * m := Nat.mul_le_mul_right _ (by omega)
    have hok : okX ws x := ⟨⟨by omega, by omega, fun w h => by rw [hwm w h]; omega⟩, by rw [hwsum, hwl]; omega, by rw [hwsum, hwl]; omega⟩
    have f1 := m_shared_line (tb := tb) 54 ws x 0 hok (by omega) B5
    have f2 := m_shared_line (tb := tb) 54 ws x 1 hok (by omega) B5
    have f3 := m_least_faults (tb := tb) 54 ws x hok B5
    rw [hxS] at f1 f2 f3
    rw [hlm]
    have hbl : (shBs ws S 0).length = m := by rw [shBs_len]; omega
    have hbm : ∀ b ∈ shBs ws S 0, b ≤ 1000 := fun b hb => by
      rw [hsh] at hb
      obtain ⟨a, _, rfl⟩ := List.mem_map.1 hb
      rw [hf0]; split <;> omega
    have f4 := m_law_faults 58 ws (shBs ws S 0) (by omega) hbm (by omega) B5
    have hrev : (wvn ws (shBs ws S 0)).reverse = wvn ws (shBs ws S 1) := by
      have hwr : ws.reverse = ws := by rw [← hws, List.reverse_replicate]
      rw [wvn_rev (by omega), shBs_asc ws S (by omega), hwr]
    have hrevD : revD (.tup (nD (wvn ws (shBs ws S 0)))) = some (.tup (nD (wvn ws (shBs ws S 1)))) := by
      show some (D.tup _) = _
      rw [nD_rev, hrev]
    obtain ⟨L, hL⟩ : ∃ L, wvn ws (shBs ws S 0) = L := ⟨_, rfl⟩
    obtain ⟨M, hM⟩ : ∃ M, wvn ws (shBs ws S 1) = M := ⟨_, rfl⟩
    obtain ⟨F, hF⟩ : ∃ F : Nat, sq (shBs ws S 0) = F := ⟨_, rfl⟩
    have hLl : L.length ≤ 1000 := by rw [← hL, wvn_len (by omega)]; omega
    have hMl : M.length ≤ 1000 := by rw [← hM, wvn_len (by rw [shBs_len]; omega), shBs_len]; omega
    rw [hL] at f1 f4 hrevD ⊢
    rw [hM] at f2 hrevD
    rw [hF] at f3 f4
    have f1 : Pz.run tb 59 46 [.tup (nD ws), .int (x : Nat), .int 0] B5 = _ := f1
    have f2 : Pz.run tb 59 46 [.tup (nD ws), .int (x : Nat), .int 1] B5 = _ := f2
    have f3 : Pz.run tb 59 47 [.tup (nD ws), .int (x : Nat)] B5 = _ := f3
    have f4 : Pz.run tb 59 502 [.tup (nD L)] B5 = _ := f4
    refine wp_next (σ' := [.val (.scr (ns.map .int)), .val (.box 0), x2, .val (.int ((m + 1 : Nat) : Int)), .val (.int (q : Nat)), .val (.int (r : Nat)), .val (.tup (nD ws)), .val (.int (x : Nat)), .val (.tup (nD L)), x9, .val (.tup [.tup (nD L), .tup (nD M), .int (F : Nat)])]) (B' := B5) (by
      simp -implicitDefEqProofs only [ex_asg, evX_tup, ev_tup, kTup_ok, List.length_cons, List.length_nil, Nat.zero_add, Nat.reduceAdd, l3, if_true, evs_cons, evs_nil, ev_call, kCall_ok, ev_var, ev_cst, List.getElem?_cons_zero, List.getElem?_cons_succ, kVar_v, kCons1_ok, kCons2_ok, f1, f2, f3]
      rfl) ?_
    have pL := plain_nD L (by omega)
    have pM := plain_nD M (by omega)
    have p : D.plain (.tup [.tup (nD L), .tup (nD M), .int (F : Nat)]) = true := by
      show (true && (D.plain (.tup (nD L)) && (D.plain (.tup (nD M)) && true))) = true
      rw [pL, pM]; rfl
    have sm := same_refl (tb := tb) has.same_ 59 (.tup [.tup (nD L), .tup (nD M), .int (F : Nat)]) B5 p (by
      simp only [D.dep, D.depL, nD_dep]; omega)
    simp -implicitDefEqProofs [frzAll, frzS, f4, hrevD, sm, l3]
  obtain ⟨⟨d, B⟩, e, hd⟩ := h
  have hd : d = .bl true := hd
  subst hd
  exact ⟨B, e⟩
end K81
end
open PySem PySem.W PyProof.Rows
theorem PySem.Challenge.cw_printshop_k81_whole_shares_of_blanks_holds : PySem.Challenge.rw_printshop_k81_whole_shares_of_blanks.Holds := by
  exact K81.holds_of K81.plain
