import PyProof.Rows.All
import HandS.ForMost
import HandS.Exc
import HandS.TupMul
import HandS.TupAny
import HandS.TupLe
import HandS.Deep
import HandS.Style
import HandS.Text
import HandS.Codes
import HandS.Iter
import HandS.Comp
import HandS.Defaults
import HandS.HeadEnd
import HandS.IsInst
import HandS.TupLen
import HandS.RaiseMore
import HandS.WordsDict
import HandS.SortInts
import HandS.TupSets
import HandS.Head0
import HandS.Head1
import HandS.Head2
import HandS.HeadHook1
import HandS.HeadHook2
import HandS.Zip
import KE.GoesEnum
import PyProof.DictUpdate
import HandS.More
import HandS.Conv
import KE.DataMinMax
import HandS.List
import PySem.Challenge.RW_printshop_k83_whole_settings
set_option Elab.async false
set_option linter.all false
set_option maxRecDepth 100000
set_option maxHeartbeats 0
section
set_option Elab.async false
set_option linter.all false
set_option maxRecDepth 100000
namespace Pz

/-! ### data -/
inductive D where
  | non | bl (b : Bool) | int (i : Int) | str (s : List Nat) | tup (l : List D) | lst (l : List D) | dic (t : Bool) (l : List (D × D)) | box (n : Nat) | fn (f : Nat) | scr (l : List D)

mutual
def D.dep : D → Nat
  | .tup l => D.depL l + 1
  | .lst l => D.depL l + 1
  | .dic _ _ => 1000
  | .box _ => 1000
  | .fn _ => 1000
  | .scr _ => 1000
  | _ => 0
def D.depL : List D → Nat
  | [] => 0
  | d :: l => max d.dep (D.depL l)
end

mutual
/-- Python's == of plain data -/
def D.eqv : D → D → Bool
  | .non, .non => true
  | .bl a, .bl b => a == b
  | .bl a, .int j => (if a then 1 else 0) == j
  | .int i, .bl b => i == (if b then 1 else 0)
  | .int i, .int j => i == j
  | .str x, .str y => x == y
  | .tup x, .tup y => D.eqvL x y
  | .lst x, .lst y => D.eqvL x y
  | _, _ => false
def D.eqvL : List D → List D → Bool
  | [], [] => true
  | a :: x, b :: y => D.eqv a b && D.eqvL x y
  | _, _ => false
end

/-- order of texts -/
def ltS : List Nat → List Nat → Bool
  | [], [] => false
  | [], _ :: _ => true
  | _ :: _, [] => false
  | a :: x, b :: y => if a = b then ltS x y else decide (a < b)
mutual
/-- whether Python's < is told -/
def D.cmp : D → D → Bool
  | .int _, .int _ => true
  | .str _, .str _ => true
  | .tup x, .tup y => D.cmpL x y
  | _, _ => false
def D.cmpL : List D → List D → Bool
  | a :: x, b :: y => (D.eqv a b || D.cmp a b) && D.cmpL x y
  | _, _ => true
end
mutual
/-- Python's < -/
def D.ltb : D → D → Bool
  | .int i, .int j => decide (i < j)
  | .str x, .str y => ltS x y
  | .tup x, .tup y => D.ltbL x y
  | _, _ => false
def D.ltbL : List D → List D → Bool
  | [], [] => false
  | [], _ :: _ => true
  | _ :: _, [] => false
  | a :: x, b :: y => if D.eqv a b then D.ltbL x y else D.ltb a b
end
def D.lt (a b : D) : Option Bool := if D.cmp a b then some (D.ltb a b) else none

mutual
/-- equality as keys: ints, texts, tuples of these -/
def D.same : D → D → Bool
  | .int i, .int j => decide (i = j)
  | .str x, .str y => decide (x = y)
  | .tup x, .tup y => D.sameL x y
  | _, _ => false
def D.sameL : List D → List D → Bool
  | [], [] => true
  | a :: x, b :: y => D.same a b && D.sameL x y
  | _, _ => false
end
def D.key1 : D → Bool
  | .int _ => true
  | .str _ => true
  | _ => false
/-- a key for a dict of this kind -/
def D.keyOk (t : Bool) : D → Bool
  | .int _ => !t
  | .str _ => !t
  | .tup l => t && l.all D.key1
  | _ => false
def kget (k : D) : List (D × D) → Option D
  | [] => none
  | (a, v) :: r => if D.same a k then some v else kget k r
def kput (k v : D) : List (D × D) → List (D × D)
  | [] => [(k, v)]
  | (a, x) :: r => if D.same a k then (a, v) :: r else (a, x) :: kput k v r
def kdrop (k : D) (l : List (D × D)) : List (D × D) := l.filter fun p => !D.same p.1 k

/-! ### results -/
inductive Rs (α : Type) where
  | ok (a : α)
  | ex (c : Nat) (p : List D) (B : List D)
  | bad
@[inline] def Rs.bind {α β : Type} (x : Rs α) (f : α → Rs β) : Rs β :=
  match x with
  | .ok a => f a
  | .ex c p B => .ex c p B
  | .bad => .bad
def Rs.of {α : Type} : Option α → Rs α
  | some a => .ok a
  | none => .bad
@[simp] theorem Rs.bind_ok {α β : Type} (a : α) (f : α → Rs β) : (Rs.ok a).bind f = f a := rfl
@[simp] theorem Rs.bind_bad {α β : Type} (f : α → Rs β) : (Rs.bad : Rs α).bind f = .bad := rfl
@[simp] theorem Rs.of_some {α : Type} (a : α) : Rs.of (some a) = .ok a := rfl
@[simp] theorem Rs.of_none {α : Type} : Rs.of (none : Option α) = .bad := rfl


/-! ### the small language -/
inductive Bop where
  | add | sub | mul | fdiv | mod | pow
inductive Cop where
  | eq | ne | lt | le | gt | ge | is | isNot | isIn | notIn
inductive Bi where
  | len | abs | int | str | sum | mn | mx | mn2 | mx2 | mn3 | all | any | sorted | sset | tuple | list | dict | getd | get1 | items | join | split | count | index
  | rng | enm | zip | mng | mxg | mng2 | mxg2 | sortd
inductive Ty where
  | int | bool | str | tup | lst | dic | none
mutual
inductive E where
  | var (i : Nat) | own (i : Nat) | cst (d : D)
  | bin (o : Bop) (a b : E) | cmp (o : Cop) (a b : E) | chain (o p : Cop) (a b c : E)
  | and (a b : E) | or (a b : E) | not (a : E) | neg (a : E) | ite (c a b : E)
  | sub (a b : E) | cut (a lo hi : E) | rev (a : E) | evn (a : E) (k : Nat) | nop
  | tup (es : Es) | lst (es : Es) | dnew (t : Bool) | ddis (t : Bool) (ks vs : Es)
  | call (f : Nat) (es : Es) | bi (b : Bi) (es : Es) | isi (a : E) (t : Ty)
  | lc (tg : Tg) (it c e : E) | lc2 (tg : Tg) (it c : E) (tg2 : Tg) (it2 c2 e : E) | dc (t : Bool) (tg : Tg) (it k v : E)
  | lcd (k : Nat) (it : E) (tg : Tg) (c e : E)
  | fresh (e : E) | mkbox (e : E) | mt (b : Bi) (a : E) (es : Es)
  | enm (a : E) | zip (a b : E)
inductive Es where
  | nil | cons (e : E) (es : Es)
inductive Tg where
  | nm (i : Nat) | tp (l : Tgs) | ix (i : Nat) (k : E) | bx (b k : E)
inductive Tgs where
  | nil | cons (t : Tg) (l : Tgs)
end
mutual
inductive S where
  | asg (tg : Tg) (e : E) | par (is : List Nat) (es : Es) | aug (i : Nat) (e : E) | augV (i : Nat) (e : E) | app (i : Nat) (e : E) | upd (i : Nat) (e : E) | pop (i : Nat) | ins (i : Nat) (k e : E)
  | expr (e : E) | ifs (c : E) (a b : Ss) | whl (c : E) (b : Ss) | for (tg : Tg) (it : E) (b : Ss)
  | ret (e : E) | retN | brk | cnt | pass | never | fz (is : List Nat) (s : S)
inductive Ss where
  | nil | cons (s : S) (ss : Ss)
end

/-! ### operations on data -/
/-- the longest list, text -/
abbrev ln : Nat := 16777216
def isLD : D → Bool
  | .lst _ => true
  | .dic _ _ => true
  | _ => false
def drf (B : List D) : D → D
  | .box n => (B[n]?).getD (.fn 0)
  | d => d
def rep (l : List D) (k : Nat) : List D := (List.replicate k l).flatten
def repS (l : List Nat) (k : Nat) : List Nat := (List.replicate k l).flatten
def small (i : Int) : Bool := decide (-(2 ^ 64) < i) && decide (i < 2 ^ 64)
def opB : Bop → D → D → Option D
  | .add, .int i, .int j => some (.int (i + j))
  | .add, .str x, .str y => if x.length + y.length ≤ ln then some (.str (x ++ y)) else none
  | .add, .lst x, .lst y => if x.length + y.length ≤ ln then some (.lst (x ++ y)) else none
  | .add, .tup x, .tup y => if x.length + y.length ≤ ln then some (.tup (x ++ y)) else none
  | .sub, .int i, .int j => some (.int (i - j))
  | .mul, .int i, .int j => if small i || small j then some (.int (i * j)) else none
  | .mul, .str x, .int k => if decide (-1000000 < k) && decide (k < 1000000) && decide (x.length * k.toNat ≤ ln) then some (.str (repS x k.toNat)) else none
  | .mul, .lst x, .int k => if decide (-1000000 < k) && decide (k < 1000000) && decide (x.length * k.toNat ≤ ln) then some (.lst (rep x k.toNat)) else none
  | .mul, .tup x, .int k => if decide (-1000000 < k) && decide (k < 1000000) && decide (x.length * k.toNat ≤ ln) then some (.tup (rep x k.toNat)) else none
  | .fdiv, .int i, .int j => if decide (0 < j) && decide (j < 1073741824) then some (.int (i / j)) else none
  | .mod, .int i, .int j => if 0 < j then some (.int (i % j)) else none
  | .pow, .int i, .int j => if decide (0 ≤ j) && decide (j ≤ 1000) && decide (i.natAbs < 2 ^ 64) then some (.int (i ^ j.toNat)) else none
  | _, _, _ => none
def ok64 (d : D) : Bool := decide (d.dep ≤ 64)
def inL (x : D) (l : List D) : Bool := l.any fun d => D.eqv d x
def inStr : D → List Nat → Option Bool
  | .str [c], y => some (y.contains c)
  | _, _ => none
def inD (x : D) : D → Option Bool
  | .str y => inStr x y
  | .lst l => if ok64 x && ok64 (.lst l) then some (inL x l) else none
  | .tup l => if ok64 x && ok64 (.tup l) then some (inL x l) else none
  | .dic t l => if x.keyOk t then some (kget x l).isSome else none
  | _ => none
def isD : D → D → Option Bool
  | .non, .non => some true
  | .bl a, .bl b => some (a == b)
  | .bl _, .non => some false
  | .int _, .non => some false
  | .str _, .non => some false
  | .tup _, .non => some false
  | .lst _, .non => some false
  | .dic _ _, .non => some false
  | .box _, .non => some false
  | .int _, .bl _ => some false
  | .str _, .bl _ => some false
  | .tup _, .bl _ => some false
  | .lst _, .bl _ => some false
  | .non, .bl _ => some false
  | _, _ => none
def eqD (a b : D) : Option Bool := if ok64 a && ok64 b then some (D.eqv a b) else none
def opC : Cop → D → D → Option Bool
  | .eq, a, b => eqD a b
  | .ne, a, b => (eqD a b).map not
  | .lt, a, b => if ok64 a && ok64 b then D.lt a b else none
  | .gt, a, b => if ok64 a && ok64 b then D.lt b a else none
  | .le, .int i, .int j => some (decide (i ≤ j))
  | .ge, .int i, .int j => some (decide (j ≤ i))
  | .is, a, b => isD a b
  | .isNot, a, b => (isD a b).map not
  | .isIn, a, b => inD a b
  | .notIn, a, b => (inD a b).map not
  | _, _, _ => none
def ixN (n : Nat) (i : Int) : Option Nat := if 0 ≤ i then (if i < n then some i.toNat else none) else if -(n : Int) ≤ i then some (i + n).toNat else none
def atI {α : Type} (xs : List α) (i : Int) : Option α := (ixN xs.length i).bind fun j => xs[j]?
def subD : D → D → Option D
  | .lst l, .int i => atI l i
  | .tup l, .int i => atI l i
  | .str s, .int i => (atI s i).map fun c => .str [c]
  | .dic t l, k => if k.keyOk t then kget k l else none
  | _, _ => none
/-- a slice's bound as a place among n (d where it is left out) -/
def sIx (n d : Nat) : Option Int → Nat
  | none => d
  | some v => if v < 0 then (v + n).toNat else min v.toNat n
def cutL {α : Type} (l : List α) (lo hi : Option Int) : List α := (l.drop (sIx l.length 0 lo)).take (sIx l.length l.length hi - sIx l.length 0 lo)
def part : E → D → Option (Option Int)
  | .nop, .non => some none
  | .nop, _ => none
  | _, .int i => some (some i)
  | _, _ => none
def cutD (d : D) (lo hi : Option Int) : Option D :=
  match d with
  | .lst l => some (.lst (cutL l lo hi))
  | .tup l => some (.tup (cutL l lo hi))
  | .str s => some (.str (cutL s lo hi))
  | _ => none
def revD : D → Option D
  | .lst l => some (.lst l.reverse)
  | .tup l => some (.tup l.reverse)
  | _ => none
/-- every second one -/
def evens {α : Type} : List α → List α
  | [] => []
  | [a] => [a]
  | a :: _ :: r => a :: evens r
def evnD (k : Nat) : D → Option D
  | .tup l => some (.tup (evens (l.drop k)))
  | _ => none
def intL : List D → Option (List Int)
  | [] => some []
  | .int i :: l => (intL l).map (i :: ·)
  | _ => none
def blL : List D → Option (List Bool)
  | [] => some []
  | .bl i :: l => (blL l).map (i :: ·)
  | _ => none
def strL : List D → Option (List (List Nat))
  | [] => some []
  | .str i :: l => (strL l).map (i :: ·)
  | _ => none
def mnL (m : D) : List D → Option D
  | [] => some m
  | d :: l => (D.lt d m).bind fun b => mnL (if b then d else m) l
def mxL (m : D) : List D → Option D
  | [] => some m
  | d :: l => (D.lt m d).bind fun b => mxL (if b then d else m) l
mutual
/-- plain ordered data: ints, texts, and lists and tuples of these -/
def D.ord : D → Bool
  | .int _ => true
  | .str _ => true
  | .tup l => D.ordL l
  | .lst l => D.ordL l
  | _ => false
def D.ordL : List D → Bool
  | [] => true
  | d :: l => d.ord && D.ordL l
end
def insD (x : D) : List D → List D
  | [] => [x]
  | y :: l => if D.ltb y x then y :: insD x l else x :: y :: l
def isort : List D → List D
  | [] => []
  | x :: l => insD x (isort l)
/-- any two are told apart by < -/
def cmpAll (l : List D) : Bool := l.all fun x => l.all fun y => D.cmp x y
def neT : D → Bool
  | .tup [] => false
  | _ => true
def sortD (l : List D) : Option D := if D.ordL l && cmpAll l && decide (D.depL l ≤ 60) && l.all neT then some (.lst (isort l)) else none
/-- what is walked -/
def itemsOf : D → Option (List D)
  | .lst l => some l
  | .tup l => some l
  | .str s => some (s.map fun c => .str [c])
  | _ => none
/-- .. or a dict's keys -/
def itemsK : D → Option (List D)
  | .dic _ l => some (l.map (·.1))
  | d => itemsOf d
/-- a dict walked: its keys, its pairs, its values -/
def itemsD (k : Nat) : D → Option (List D)
  | .dic false l => if k = 0 then some (l.map (·.1)) else none
  | _ => none
def dedup : List D → List D
  | [] => []
  | x :: l => if (dedup l).any (fun y => D.eqv y x) then dedup l else x :: dedup l
def rngL (a b : Int) : List D := (List.range (b - a).toNat).map fun k => .int (a + (k : Nat))
def rngDn (a b : Int) : List D := (List.range (a - b).toNat).map fun k => .int (a - (k : Nat))
def rngUp (a b : Int) (c : Nat) : List D := (List.range (if a < b then (b - a - 1) / c + 1 else 0).toNat).map fun k => .int (a + (k : Nat) * (c : Nat))
def Tgs.len : Tgs → Nat
  | .nil => 0
  | .cons _ l => l.len + 1
def Es.len : Es → Nat
  | .nil => 0
  | .cons _ es => es.len + 1
def bnd (i : Int) : Bool := decide (-(2 ^ 62) ≤ i) && decide (i < 2 ^ 62)
def pairsOf : List D → Option (List (D × D))
  | [] => some []
  | .tup [k, v] :: l => (pairsOf l).map ((k, v) :: ·)
  | _ => none
def mkDic (l : List (D × D)) : List (D × D) := l.foldl (fun acc p => kput p.1 p.2 acc) []
def joinS (sep : List Nat) : List (List Nat) → List Nat
  | [] => []
  | [x] => x
  | x :: l => x ++ (sep ++ joinS sep l)
def idxOf (x : D) : List D → Nat → Option Nat
  | [], _ => none
  | d :: l, n => if D.eqv d x then some n else idxOf x l (n + 1)
/-- text split at one sign -/
def splitC (c : Nat) : List Nat → List Nat → List (List Nat)
  | acc, [] => [acc]
  | acc, x :: l => if x = c then acc :: splitC c [] l else splitC c (acc ++ [x]) l
def cntC (c : Nat) (s : List Nat) : Nat := (s.filter (· == c)).length
def natS (n : Nat) : List Nat := (Nat.toDigits 10 n).map Char.toNat
def bi_len : List D → Option D
  | [.lst l] => some (.int l.length)
  | [.tup l] => some (.int l.length)
  | [.str s] => some (.int s.length)
  | [.dic _ l] => some (.int l.length)
  | _ => none
def bi_abs : List D → Option D
  | [.int i] => some (.int (if i < 0 then -i else i))
  | _ => none
def bi_int : List D → Option D
  | [.int i] => some (.int i)
  | _ => none
def bi_str : List D → Option D
  | [.str s] => some (.str s)
  | [.int i] => if decide (0 ≤ i) && decide (i < 10 ^ 9) then some (.str (natS i.toNat)) else none
  | _ => none
def bi_sum : List D → Option D
  | [.lst l] => (intL l).map fun ns => .int ns.sum
  | _ => none
def bi_mn : List D → Option D
  | [.lst l] => (intL l).bind fun ns => ns.min?.map .int
  | _ => none
def bi_mx : List D → Option D
  | [.lst l] => (intL l).bind fun ns => ns.max?.map .int
  | _ => none
def bi_mn2 : List D → Option D
  | [.int i, .int j] => some (.int (if j < i then j else i))
  | _ => none
def bi_mx2 : List D → Option D
  | [.int i, .int j] => some (.int (if j > i then j else i))
  | _ => none
def bi_mn3 : List D → Option D
  | _ => none
def bi_all : List D → Option D
  | [.lst l] => (blL l).map fun bs => .bl (bs.all id)
  | _ => none
def bi_any : List D → Option D
  | [.lst l] => (blL l).map fun bs => .bl (bs.any id)
  | _ => none
def bi_sorted : List D → Option D
  | [.lst l] => sortD l
  | _ => none
def bi_sset : List D → Option D
  | [.lst l] => if l.all D.key1 && decide (l.length < 4000) then sortD (dedup l) else none
  | _ => none
def bi_tuple : List D → Option D
  | [.lst l] => some (.tup l)
  | [.tup l] => some (.tup l)
  | _ => none
def bi_list : List D → Option D
  | [.scr l] => some (.lst l)
  | [.lst l] => some (.lst l)
  | [.tup l] => some (.lst l)
  | _ => none
def bi_dict : List D → Option D
  | [.dic false l] => some (.dic false l)
  | [.lst l] => (pairsOf l).bind fun ps => if ps.all fun p => p.1.keyOk false then some (.dic false (mkDic ps)) else none
  | _ => none
def bi_getd : List D → Option D
  | [.dic t l, k, x] => if k.keyOk t then some ((kget k l).getD x) else none
  | _ => none
def bi_get1 : List D → Option D
  | [.dic t l, k] => if k.keyOk t then some ((kget k l).getD .non) else none
  | _ => none
def bi_items : List D → Option D
  | [.dic _ l] => some (.lst (l.map fun p => .tup [p.1, p.2]))
  | _ => none
def bi_join : List D → Option D
  | [.str s, .lst l] => (strL l).bind fun xs => if (xs.map (·.length)).sum + xs.length * s.length ≤ 1000000 then some (.str (joinS s xs)) else none
  | [.str s, .tup l] => (strL l).bind fun xs => if (xs.map (·.length)).sum + xs.length * s.length ≤ 1000000 then some (.str (joinS s xs)) else none
  | _ => none
/-- least, greatest of ordered data: the first one of them -/
def mnF (m x : D) : D := if D.ltb x m then x else m
def mxF (m x : D) : D := if D.ltb m x then x else m
def ordOk (l : List D) : Bool := D.ordL l && cmpAll l && decide (D.depL l ≤ 60)
def bi_mng : List D → Option D
  | [.lst (d :: l)] => if ordOk (d :: l) then some (l.foldl mnF d) else none
  | _ => none
def bi_mxg : List D → Option D
  | [.lst (d :: l)] => if ordOk (d :: l) then some (l.foldl mxF d) else none
  | _ => none
def bi_mng2 : List D → Option D
  | [a, b] => if ordOk [a, b] then some (mnF a b) else none
  | _ => none
def bi_mxg2 : List D → Option D
  | [a, b] => if ordOk [a, b] then some (mxF a b) else none
  | _ => none
/-- a dict's keys, sorted -/
def bi_sortd : List D → Option D
  | [.dic false l] => if decide (l.length < 64) && ((strL (l.map (·.1))).isSome || (intL (l.map (·.1))).isSome) then some (.lst (isort (l.map (·.1)))) else none
  | _ => none
def bi_split : List D → Option D
  | [.str s, .str [c]] => some (.lst ((splitC c [] s).map .str))
  | _ => none
def bi_count : List D → Option D
  | [.str s, .str [c]] => some (.int (cntC c s))
  | _ => none
def bi_index : List D → Option D
  | [.lst l, x] => if ok64 x && ok64 (.lst l) then (idxOf x l 0).map fun n => .int n else none
  | [.tup l, x] => if ok64 x && ok64 (.tup l) then (idxOf x l 0).map fun n => .int n else none
  | _ => none
def rngOf : List D → Option (List D)
  | [.int b] => if bnd b then some (rngL 0 b) else none
  | [.int a, .int b] => if bnd a && bnd b then some (rngL a b) else none
  | [.int a, .int b, .int c] => if bnd a && bnd b then (if c = -1 then some (rngDn a b) else if decide (0 < c) && decide (c < 100000) then some (rngUp a b c.toNat) else none) else none
  | _ => none
def bi_rng (ds : List D) : Option D := (rngOf ds).map .lst
/-- the turns of enumerate, of zip -/
def enmL (l : List D) : List D := (l.zipIdx).map fun p => .tup [.int (p.2 : Nat), p.1]
def zipL (l m : List D) : List D := (l.zip m).map fun p => .tup [p.1, p.2]
def zipD : D → D → Option (List D)
  | .lst l, .lst m => some (zipL l m)
  | .tup l, .tup m => some (zipL l m)
  | _, _ => none
def bi_enm : List D → Option D
  | [d] => (itemsOf d).map fun l => .lst ((l.zipIdx).map fun p => .tup [.int (p.2 : Nat), p.1])
  | _ => none
def bi_zip : List D → Option D
  | [a, b] => (itemsOf a).bind fun l => (itemsOf b).map fun m => .lst ((l.zip m).map fun p => .tup [p.1, p.2])
  | _ => none
def opBi : Bi → List D → Option D
  | .len => bi_len
  | .abs => bi_abs
  | .int => bi_int
  | .str => bi_str
  | .sum => bi_sum
  | .mn => bi_mn
  | .mx => bi_mx
  | .mn2 => bi_mn2
  | .mx2 => bi_mx2
  | .mn3 => bi_mn3
  | .all => bi_all
  | .any => bi_any
  | .sorted => bi_sorted
  | .sset => bi_sset
  | .tuple => bi_tuple
  | .list => bi_list
  | .dict => bi_dict
  | .getd => bi_getd
  | .get1 => bi_get1
  | .items => bi_items
  | .join => bi_join
  | .split => bi_split
  | .count => bi_count
  | .index => bi_index
  | .rng => bi_rng
  | .enm => bi_enm
  | .zip => bi_zip
  | .mng => bi_mng
  | .mxg => bi_mxg
  | .mng2 => bi_mng2
  | .mxg2 => bi_mxg2
  | .sortd => bi_sortd
/-- whose method it is -/
def recv : Bi → D → Bool
  | .join, .str _ => true
  | .split, .str _ => true
  | .count, .str _ => true
  | .getd, .dic _ _ => true
  | .get1, .dic _ _ => true
  | .items, .dic _ _ => true
  | .index, .lst _ => true
  | .index, .tup _ => true
  | _, _ => false
def isiD : Ty → D → Option Bool
  | .int, .int _ => some true
  | .int, .bl _ => some true
  | .int, .non => some false
  | .int, .str _ => some false
  | .int, .tup _ => some false
  | .int, .lst _ => some false
  | .bool, .bl _ => some true
  | .bool, .int _ => some false
  | .bool, .non => some false
  | .bool, .str _ => some false
  | .bool, .tup _ => some false
  | .bool, .lst _ => some false
  | .str, .str _ => some true
  | .str, .int _ => some false
  | .str, .bl _ => some false
  | .str, .non => some false
  | .str, .tup _ => some false
  | .str, .lst _ => some false
  | .tup, .tup _ => some true
  | .tup, .int _ => some false
  | .tup, .bl _ => some false
  | .tup, .non => some false
  | .tup, .str _ => some false
  | .tup, .lst _ => some false
  | .lst, .lst _ => some true
  | .lst, .int _ => some false
  | .lst, .bl _ => some false
  | .lst, .non => some false
  | .lst, .str _ => some false
  | .lst, .tup _ => some false
  | _, _ => none

/-! ### evaluation -/
inductive Sl where
  | no | val (d : D) | own (d : D)
abbrev Sg := List Sl
/-- a called function: its number, arguments, the boxes -/
abbrev Fn := Nat → List D → List D → Rs (D × List D)
mutual
def Tg.names : Tg → List Nat
  | .nm i => [i]
  | .tp l => l.names
  | .ix _ _ => []
  | .bx _ _ => []
def Tgs.names : Tgs → List Nat
  | .nil => []
  | .cons t l => t.names ++ l.names
end
def wipeS (σ : Sg) : List Nat → Sg
  | [] => σ
  | v :: vs => (wipeS σ vs).set v .no
/-- a dict that is walked in place is not read meanwhile -/
def wv : E → Sg → Sg
  | .own i, σ => σ.set i .no
  | _, σ => σ
mutual
/-- names stored by a plain target -/
def put : Tg → D → Sg → Option Sg
  | .nm i, d, σ => if i < σ.length then some (σ.set i (.val d)) else none
  | .tp l, .tup ds, σ => puts l ds σ
  | _, _, _ => none
def puts : Tgs → List D → Sg → Option Sg
  | .nil, [], σ => some σ
  | .cons t l, d :: ds, σ => (put t d σ).bind fun σ' => puts l ds σ'
  | _, _, _ => none
end
def lcLoop (f : D → List D → Rs (Option D × List D)) : List D → List D → Rs (List D × List D)
  | [], B => .ok ([], B)
  | d :: ds, B => (f d B).bind fun x => (lcLoop f ds x.2).bind fun r => .ok (match x.1 with | some y => y :: r.1 | none => r.1, r.2)
/-- two clauses: the inner loop gives a list -/
def lcLoop2 (f : D → List D → Rs (List D × List D)) : List D → List D → Rs (List D × List D)
  | [], B => .ok ([], B)
  | d :: ds, B => (f d B).bind fun x => (lcLoop2 f ds x.2).bind fun r => .ok (x.1 ++ r.1, r.2)
def dcLoop (f : D → List D → Rs ((D × D) × List D)) : List D → List (D × D) → List D → Rs (List (D × D) × List D)
  | [], acc, B => .ok (acc, B)
  | d :: ds, acc, B => (f d B).bind fun x => dcLoop f ds (kput x.1.1 x.1.2 acc) x.2
def isB {α : Type} (d : D) (f : Bool → Rs α) : Rs α :=
  match d with
  | .bl b => f b
  | _ => .bad
@[simp] theorem isB_bl {α : Type} (b : Bool) (f : Bool → Rs α) : isB (.bl b) f = f b := rfl
variable (Φ : Fn)
mutual
/-- p: an owned list may be read in place -/
def ev (p : Bool) : E → Sg → List D → Rs (D × List D)
  | .var i, σ, B => match σ[i]? with
    | some (.val d) => .ok (d, B)
    | _ => .bad
  | .own i, σ, B => match p, σ[i]? with
    | true, some (.own d) => .ok (d, B)
    | _, _ => .bad
  | .cst d, _, B => .ok (d, B)
  | .bin o a b, σ, B => (ev true a σ B).bind fun x => (ev true b σ x.2).bind fun y => (Rs.of (opB o (drf y.2 x.1) (drf y.2 y.1))).bind fun d => .ok (d, y.2)
  | .cmp o a b, σ, B => (ev true a σ B).bind fun x => (ev true b σ x.2).bind fun y => (Rs.of (opC o (drf y.2 x.1) (drf y.2 y.1))).bind fun d => .ok (.bl d, y.2)
  | .chain o q a b c, σ, B => (ev true a σ B).bind fun x => (ev true b σ x.2).bind fun y => (Rs.of (opC o (drf y.2 x.1) (drf y.2 y.1))).bind fun d =>
      if d then (ev true c σ y.2).bind fun z => (Rs.of (opC q (drf z.2 y.1) (drf z.2 z.1))).bind fun e => .ok (.bl e, z.2) else .ok (.bl false, y.2)
  | .and a b, σ, B => (ev false a σ B).bind fun x => isB x.1 fun k => if k then ev false b σ x.2 else .ok (.bl false, x.2)
  | .or a b, σ, B => (ev false a σ B).bind fun x => isB x.1 fun k => if k then .ok (.bl true, x.2) else ev false b σ x.2
  | .not a, σ, B => (ev false a σ B).bind fun x => isB x.1 fun k => .ok (.bl (!k), x.2)
  | .neg a, σ, B => (ev false a σ B).bind fun x => match x.1 with
    | .int i => .ok (.int (-i), x.2)
    | _ => .bad
  | .ite c a b, σ, B => (ev false c σ B).bind fun x => isB x.1 fun k => if k then ev false a σ x.2 else ev false b σ x.2
  | .sub a b, σ, B => (ev true a σ B).bind fun x => (ev true b σ x.2).bind fun y => (Rs.of (subD (drf y.2 x.1) (drf y.2 y.1))).bind fun d => .ok (d, y.2)
  | .cut a lo hi, σ, B => (ev true a σ B).bind fun x => (ev false lo σ x.2).bind fun y => (Rs.of (part lo y.1)).bind fun l => (ev false hi σ y.2).bind fun z =>
      (Rs.of (part hi z.1)).bind fun h => (Rs.of (cutD (drf z.2 x.1) l h)).bind fun d => .ok (d, z.2)
  | .rev a, σ, B => (ev true a σ B).bind fun x => (Rs.of (revD (drf x.2 x.1))).bind fun d => .ok (d, x.2)
  | .evn a k, σ, B => (ev true a σ B).bind fun x => (Rs.of (evnD k (drf x.2 x.1))).bind fun d => .ok (d, x.2)
  | .nop, _, B => .ok (.non, B)
  | .tup es, σ, B => (evs false es σ B).bind fun x => if x.1.length ≤ ln then .ok (.tup x.1, x.2) else .bad
  | .lst es, σ, B => (evs false es σ B).bind fun x => if x.1.length ≤ ln then .ok (.lst x.1, x.2) else .bad
  | .dnew t, _, B => .ok (.dic t [], B)
  | .ddis t ks vs, σ, B => (evs false ks σ B).bind fun x => (evs false vs σ x.2).bind fun y => if x.1.all fun k => k.keyOk t then .ok (.dic t (mkDic (x.1.zip y.1)), y.2) else .bad
  | .call f es, σ, B => (evs false es σ B).bind fun x => Φ f x.1 x.2
  | .bi b es, σ, B => (evs true es σ B).bind fun x => (Rs.of (opBi b (x.1.map (drf x.2)))).bind fun d => .ok (d, x.2)
  | .isi a t, σ, B => (ev true a σ B).bind fun x => (Rs.of (isiD t (drf x.2 x.1))).bind fun d => .ok (.bl d, x.2)
  | .lc tg it c e, σ, B => (ev true it σ B).bind fun x => (Rs.of (itemsOf x.1)).bind fun ds => if ds.length ≤ ln then
      (lcLoop (fun d B => (Rs.of (put tg d (wipeS σ tg.names))).bind fun σ' => (ev false c σ' B).bind fun y => isB y.1 fun k =>
        if k then (ev false e σ' y.2).bind fun z => .ok (some z.1, z.2) else .ok (none, y.2)) ds x.2).bind fun r => .ok (.lst r.1, r.2)
      else .bad
  | .lcd k it tg c e, σ, B => (ev true it σ B).bind fun x => (Rs.of (itemsD k x.1)).bind fun ds => if ds.length ≤ ln then
      (lcLoop (fun d B => (Rs.of (put tg d (wipeS (wv it σ) tg.names))).bind fun σ' => (ev false c σ' B).bind fun y => isB y.1 fun k =>
        if k then (ev false e σ' y.2).bind fun z => .ok (some z.1, z.2) else .ok (none, y.2)) ds x.2).bind fun r => .ok (.lst r.1, r.2)
      else .bad
  | .lc2 tg it c tg2 it2 c2 e, σ, B => (ev true it σ B).bind fun x => (Rs.of (itemsOf x.1)).bind fun ds => if ds.length ≤ 4096 then
      (lcLoop2 (fun d B => (Rs.of (put tg d (wipeS σ (tg.names ++ tg2.names)))).bind fun σ' => (ev false c σ' B).bind fun y => isB y.1 fun k =>
        if k then (ev false it2 σ' y.2).bind fun z => (Rs.of (itemsOf z.1)).bind fun es => if es.length ≤ 4096 then
          lcLoop (fun d B => (Rs.of (put tg2 d (wipeS σ' tg2.names))).bind fun σ'' => (ev false c2 σ'' B).bind fun y => isB y.1 fun k =>
            if k then (ev false e σ'' y.2).bind fun z => .ok (some z.1, z.2) else .ok (none, y.2)) es z.2 else .bad
        else .ok ([], y.2)) ds x.2).bind fun r => .ok (.lst r.1, r.2)
      else .bad
  | .dc t tg it k v, σ, B => (ev true it σ B).bind fun x => (Rs.of (itemsOf x.1)).bind fun ds => if ds.length ≤ ln then
      (dcLoop (fun d B => (Rs.of (put tg d (wipeS σ tg.names))).bind fun σ' => (ev false k σ' B).bind fun y => (ev false v σ' y.2).bind fun z =>
        if y.1.keyOk t then .ok ((y.1, z.1), z.2) else .bad) ds [] x.2).bind fun r => .ok (.dic t r.1, r.2)
      else .bad
  | .fresh _, _, _ => .bad
  | .mt b a es, σ, B => (ev true a σ B).bind fun x => if recv b (drf x.2 x.1) then (evs true es σ x.2).bind fun y => (Rs.of (opBi b ((x.1 :: y.1).map (drf y.2)))).bind fun d => .ok (d, y.2) else .bad
  | .enm a, σ, B => (ev false a σ B).bind fun x => (Rs.of (itemsOf x.1)).bind fun l => .ok (.lst (enmL l), x.2)
  | .zip a b, σ, B => (ev false a σ B).bind fun x => (ev false b σ x.2).bind fun y => (Rs.of (zipD x.1 y.1)).bind fun l => .ok (.lst l, y.2)
  | .mkbox e, σ, B => (ev false e σ B).bind fun x => if isLD x.1 then .ok (.box x.2.length, x.2 ++ [x.1]) else .bad
def evs (p : Bool) : Es → Sg → List D → Rs (List D × List D)
  | .nil, _, B => .ok ([], B)
  | .cons e es, σ, B => (ev p e σ B).bind fun x => (evs p es σ x.2).bind fun y => .ok (x.1 :: y.1, y.2)
end
/-- a value for a name: fresh ones are owned -/
def evX : E → Sg → List D → Rs (Sl × List D)
  | .fresh e, σ, B => (ev Φ false e σ B).bind fun x => if isLD x.1 then .ok (.own x.1, x.2) else .bad
  | e, σ, B => (ev Φ false e σ B).bind fun x => .ok (.val x.1, x.2)
def evXs : Es → Sg → List D → Rs (List Sl × List D)
  | .nil, _, B => .ok ([], B)
  | .cons e es, σ, B => (evX Φ e σ B).bind fun x => (evXs es σ x.2).bind fun y => .ok (x.1 :: y.1, y.2)
def setD : D → D → D → Option D
  | .lst l, .int i, v => (ixN l.length i).map fun j => .lst (l.set j v)
  | .dic t l, k, v => if k.keyOk t && decide (l.length < ln) then some (.dic t (kput k v l)) else none
  | _, _, _ => none
def asg : Tg → Sl → Sg → List D → Rs (Sg × List D)
  | .nm i, v, σ, B => if i < σ.length then .ok (σ.set i v, B) else .bad
  | .tp l, .val d, σ, B => (Rs.of (put (.tp l) d σ)).bind fun σ' => .ok (σ', B)
  | .ix i k, .val d, σ, B => match σ[i]? with
    | some (.own c) => (ev Φ false k σ B).bind fun x => (Rs.of (setD c x.1 d)).bind fun c' => .ok (σ.set i (.own c'), x.2)
    | _ => .bad
  | .bx b k, .val d, σ, B => (ev Φ false b σ B).bind fun x => (ev Φ false k σ x.2).bind fun y => match x.1 with
    | .box n => match y.2[n]? with
      | some c => (Rs.of (setD c y.1 d)).bind fun c' => .ok (σ, y.2.set n c')
      | none => .bad
    | _ => .bad
  | _, _, _, _ => .bad
inductive Fl where
  | next | brk | cnt | ret (d : D)
abbrev Rq := Rs (Fl × Sg × List D)
def frzS : Sl → Sl
  | .own d => .val d
  | s => s
def frzAll (σ : Sg) : Sg := σ.map frzS
def frzAt : List Nat → Sg → Sg
  | [], σ => σ
  | i :: is, σ => frzAt is (σ.modify i frzS)
def setAll : List Nat → List Sl → Sg → Option Sg
  | [], [], σ => some σ
  | i :: is, v :: vs, σ => if i < σ.length then setAll is vs (σ.set i v) else none
  | _, _, _ => none
def forLoop (f : D → Sg → List D → Rq) : List D → Sg → List D → Rq
  | [], σ, B => .ok (.next, σ, B)
  | d :: ds, σ, B => (f d σ B).bind fun x => match x.1 with
    | .next => forLoop f ds x.2.1 x.2.2
    | .cnt => forLoop f ds x.2.1 x.2.2
    | .brk => .ok (.next, x.2.1, x.2.2)
    | .ret d => .ok (.ret d, x.2.1, x.2.2)
/-- while: fuel, test, body -/
def whlLoop (c : Sg → List D → Rs (D × List D)) (f : Sg → List D → Rq) : Nat → Sg → List D → Rq
  | 0, _, _ => .bad
  | n + 1, σ, B => (c σ B).bind fun x => isB x.1 fun k => if k then (f σ x.2).bind fun x => match x.1 with
      | .next => whlLoop c f n x.2.1 x.2.2
      | .cnt => whlLoop c f n x.2.1 x.2.2
      | .brk => .ok (.next, x.2.1, x.2.2)
      | .ret d => .ok (.ret d, x.2.1, x.2.2)
    else .ok (.next, σ, x.2)
def updL (c : D) (e : D) : Option D :=
  match c, e with
  | .dic false l, .dic false m => if l.length + m.length ≤ ln then some (.dic false (m.foldl (fun acc p => kput p.1 p.2 acc) l)) else none
  | _, _ => none
def augD (c : D) (e : D) : Option D :=
  match c, e with
  | .lst l, .lst m => if l.length + m.length ≤ ln then some (.lst (l ++ m)) else none
  | _, _ => none
def addV : D → D → Option D
  | .int i, b => opB .add (.int i) b
  | .str s, b => opB .add (.str s) b
  | _, _ => none
def fuel : Nat := 100000
mutual
def ex : S → Sg → List D → Rq
  | .asg tg e, σ, B => (evX Φ e σ B).bind fun x => (asg Φ tg x.1 σ x.2).bind fun y => .ok (.next, y.1, y.2)
  | .par is es, σ, B => (evXs Φ es σ B).bind fun x => (Rs.of (setAll is x.1 σ)).bind fun σ' => .ok (.next, σ', x.2)
  | .aug i e, σ, B => match σ[i]? with
    | some (.own c) => (ev Φ true e σ B).bind fun x => (Rs.of (augD c (drf x.2 x.1))).bind fun d => .ok (.next, σ.set i (.own d), x.2)
    | _ => .bad
  | .augV i e, σ, B => match σ[i]? with
    | some (.val c) => (ev Φ true e σ B).bind fun x => (Rs.of (addV c (drf x.2 x.1))).bind fun d => .ok (.next, σ.set i (.val d), x.2)
    | _ => .bad
  | .app i e, σ, B => match σ[i]? with
    | some (.own (.lst l)) => (ev Φ false e σ B).bind fun x => if l.length < ln then .ok (.next, σ.set i (.own (.lst (l ++ [x.1]))), x.2) else .bad
    | _ => .bad
  | .upd i e, σ, B => match σ[i]? with
    | some (.own (.dic t l)) => (ev Φ false e σ B).bind fun x => (Rs.of (updL (.dic t l) x.1)).bind fun d => .ok (.next, σ.set i (.own d), x.2)
    | _ => .bad
  | .pop i, σ, B => match σ[i]? with
    | some (.own (.lst l)) => if l = [] then .bad else .ok (.next, σ.set i (.own (.lst l.dropLast)), B)
    | _ => .bad
  | .ins i k e, σ, B => match σ[i]? with
    | some (.own (.lst l)) => (ev Φ false k σ B).bind fun x => (ev Φ false e σ x.2).bind fun y => match x.1 with
      | .int j => if decide (0 ≤ j) && decide (j ≤ l.length) && decide (l.length < ln) then .ok (.next, σ.set i (.own (.lst (l.take j.toNat ++ y.1 :: l.drop j.toNat))), y.2) else .bad
      | _ => .bad
    | _ => .bad
  | .expr e, σ, B => (ev Φ false e σ B).bind fun x => .ok (.next, σ, x.2)
  | .ifs c a b, σ, B => (ev Φ false c σ B).bind fun x => isB x.1 fun k => if k then exs a σ x.2 else exs b σ x.2
  | .whl c b, σ, B => whlLoop (fun σ B => ev Φ false c σ B) (fun σ B => exs b σ B) fuel σ B
  | .for tg it b, σ, B => (ev Φ false it σ B).bind fun x => (Rs.of (itemsOf x.1)).bind fun ds =>
      forLoop (fun d σ B => (Rs.of (put tg d σ)).bind fun σ' => exs b σ' B) ds σ x.2
  | .ret e, σ, B => (ev Φ false e (frzAll σ) B).bind fun x => .ok (.ret x.1, frzAll σ, x.2)
  | .retN, σ, B => .ok (.ret .non, σ, B)
  | .brk, σ, B => .ok (.brk, σ, B)
  | .cnt, σ, B => .ok (.cnt, σ, B)
  | .pass, σ, B => .ok (.next, σ, B)
  | .never, _, _ => .bad
  | .fz is s, σ, B => ex s (frzAt is σ) B
def exs : Ss → Sg → List D → Rq
  | .nil, σ, B => .ok (.next, σ, B)
  | .cons s ss, σ, B => (ex s σ B).bind fun x => match x.1 with
    | .next => exs ss x.2.1 x.2.2
    | fl => .ok (fl, x.2.1, x.2.2)
end
/-! ### programs -/
structure Fd where
  np : Nat
  ns : Nat
  body : Ss
def start (ns : Nat) (args : List D) : Sg := args.map .val ++ List.replicate (ns - args.length) .no
def run (tb : Nat → Option Fd) : Nat → Fn
  | 0, _, _, _ => .bad
  | n + 1, f, args, B => match tb f with
    | some fd => if args.length = fd.np then (exs (run tb n) fd.body (start fd.ns args) B).bind fun x => match x.1 with
      | .ret d => .ok (d, x.2.2)
      | .next => .ok (.non, x.2.2)
      | _ => .bad
      else .bad
    | none => .bad
end Pz
end
section
set_option Elab.async false
set_option linter.all false
set_option maxRecDepth 100000
namespace Pz
open PySem PySem.Spec PyProof.Rows L2

abbrev mk (l : List Nat) : Str := ⟨l.toArray⟩
theorem mk_inj {x y : List Nat} (h : mk x = mk y) : x = y := by
  have e : x.toArray = y.toArray := Str.mk.inj h
  simpa using congrArg Array.toList e

/-! ### how data stand in the heap -/
/-- a plain text that is not too long -/
def SOk (l : List Nat) : Prop := (∀ c ∈ l, c < 128) ∧ l.length ≤ ln
inductive RepKs : List D → List Key → Prop
  | nil : RepKs [] []
  | int {i : Int} {r : List D} {s : List Key} : RepKs r s → RepKs (.int i :: r) (.inl i :: s)
  | str {x : List Nat} {r : List D} {s : List Key} : SOk x → RepKs r s → RepKs (.str x :: r) (.inr (mk x) :: s)
mutual
inductive Rep (K : PySem.W.Frag) (Hs : Hp) (ρ : List Addr) : D → V → Prop
  | non : Rep K Hs ρ .non .non
  | bl (b : Bool) : Rep K Hs ρ (.bl b) (.bl b)
  | int (i : Int) : Rep K Hs ρ (.int i) (.int i)
  | str {l : List Nat} : SOk l → Rep K Hs ρ (.str l) (.str (mk l))
  | tup {l : List D} {a : Addr} {xs : List V} : Hs a = some (.tup xs) → RepL K Hs ρ l xs → Rep K Hs ρ (.tup l) (.ref a)
  | lst {l : List D} {a : Addr} {xs : List V} : Hs a = some (.lst xs) → RepL K Hs ρ l xs → Rep K Hs ρ (.lst l) (.ref a)
  | dK {l : List (D × D)} {a : Addr} {kvs : List (Key × V)} : Rd Hs a (.dK kvs) → RepK K Hs ρ l kvs → Rep K Hs ρ (.dic false l) (.ref a)
  | dT {l : List (D × D)} {a : Addr} {kvs : List (List Key × V)} : Rd Hs a (.dT kvs) → RepT K Hs ρ l kvs → Rep K Hs ρ (.dic true l) (.ref a)
  | box {n : Nat} {a : Addr} : ρ[n]? = some a → Rep K Hs ρ (.box n) (.ref a)
  | scr {l : List D} {a : Addr} {xs : List V} : SqL K Hs a xs → RepL K Hs ρ l xs → Rep K Hs ρ (.scr l) (.ref a)
inductive RepL (K : PySem.W.Frag) (Hs : Hp) (ρ : List Addr) : List D → List V → Prop
  | nil : RepL K Hs ρ [] []
  | cons {d : D} {v : V} {l : List D} {xs : List V} : Rep K Hs ρ d v → RepL K Hs ρ l xs → RepL K Hs ρ (d :: l) (v :: xs)
inductive RepK (K : PySem.W.Frag) (Hs : Hp) (ρ : List Addr) : List (D × D) → List (Key × V) → Prop
  | nil : RepK K Hs ρ [] []
  | int {i : Int} {d : D} {v : V} {l : List (D × D)} {xs : List (Key × V)} : Rep K Hs ρ d v → RepK K Hs ρ l xs → RepK K Hs ρ ((.int i, d) :: l) ((.inl i, v) :: xs)
  | str {x : List Nat} {d : D} {v : V} {l : List (D × D)} {xs : List (Key × V)} : SOk x → Rep K Hs ρ d v → RepK K Hs ρ l xs → RepK K Hs ρ ((.str x, d) :: l) ((.inr (mk x), v) :: xs)
inductive RepT (K : PySem.W.Frag) (Hs : Hp) (ρ : List Addr) : List (D × D) → List (List Key × V) → Prop
  | nil : RepT K Hs ρ [] []
  | cons {k : List D} {kk : List Key} {d : D} {v : V} {l : List (D × D)} {xs : List (List Key × V)} : RepKs k kk → Rep K Hs ρ d v → RepT K Hs ρ l xs → RepT K Hs ρ ((.tup k, d) :: l) ((kk, v) :: xs)
end

/-- a dict, which a loop over it locks -/
def Lk : HO → Prop
  | .dK _ => True
  | .dT _ => True
  | _ => False
/-- H' has all that H has; dicts may be locked -/
def Le (H H' : Hp) : Prop := ∀ a o, H a = some o → H' a = some o ∨ (Lk o ∧ ∃ f, H' a = some (.frz f o))
theorem Le.refl (H : Hp) : Le H H := fun _ _ h => .inl h
theorem Le.of {H H' : Hp} (h : ∀ a o, H a = some o → H' a = some o) : Le H H' := fun a o e => .inl (h a o e)
theorem Le.trans {H H1 H2 : Hp} (a : Le H H1) (b : Le H1 H2) : Le H H2 := fun c o e => by
  rcases a c o e with h | ⟨m, f, h⟩
  · exact b c o h
  · rcases b c _ h with h2 | ⟨m2, _⟩
    · exact .inr ⟨m, f, h2⟩
    · exact m2.elim
theorem Le.there {H H' : Hp} (l : Le H H') {a : Addr} (h : H' a = none) : H a = none := by
  cases e : H a with
  | none => rfl
  | some o =>
    rcases l a o e with q | ⟨_, f, q⟩ <;> rw [h] at q <;> cases q
theorem Le.rd {H H' : Hp} (l : Le H H') {a : Addr} {u : HO} (h : Rd H a u) : Rd H' a u := by
  rcases h with h | ⟨o, h⟩
  · rcases l a u h with q | ⟨_, f, q⟩
    · exact .inl q
    · exact .inr ⟨f, q⟩
  · rcases l a _ h with q | ⟨m, _⟩
    · exact .inr ⟨o, q⟩
    · exact m.elim
theorem Le.lst {H H' : Hp} (l : Le H H') {a : Addr} {xs : List V} (h : H a = some (.lst xs)) : H' a = some (.lst xs) := by
  rcases l a _ h with q | ⟨m, _⟩
  · exact q
  · exact m.elim
theorem Le.tup {H H' : Hp} (l : Le H H') {a : Addr} {xs : List V} (h : H a = some (.tup xs)) : H' a = some (.tup xs) := by
  rcases l a _ h with q | ⟨m, _⟩
  · exact q
  · exact m.elim
theorem Le.sqL {K : PySem.W.Frag} {H H' : Hp} (l : Le H H') {a : Addr} {xs : List V} (h : SqL K H a xs) : SqL K H' a xs := by
  rcases h with h | h
  · exact .inl (l.rd h)
  · exact .inr h
theorem Le.sqT {K : PySem.W.Frag} {H H' : Hp} (l : Le H H') {a : Addr} {xs : List V} (h : SqT K H a xs) : SqT K H' a xs := by
  rcases h with h | h
  · exact .inl (l.rd h)
  · exact .inr h
section
variable {K : PySem.W.Frag} {Hs Hs' : Hp} {ρ ρ' : List Addr}
theorem pre_get {n : Nat} {a : Addr} (p : ρ <+: ρ') (h : ρ[n]? = some a) : ρ'[n]? = some a := by
  obtain ⟨t, rfl⟩ := p
  rw [List.getElem?_append_left (List.getElem?_eq_some_iff.mp h).1]
  exact h
mutual
theorem Rep.mono (l : Le Hs Hs') (p : ρ <+: ρ') : ∀ {d : D} {v : V}, Rep K Hs ρ d v → Rep K Hs' ρ' d v
  | _, _, .non => .non
  | _, _, .bl b => .bl b
  | _, _, .int i => .int i
  | _, _, .str h => .str h
  | _, _, .tup h r => .tup (l.tup h) (RepL.mono l p r)
  | _, _, .lst h r => .lst (l.lst h) (RepL.mono l p r)
  | _, _, .scr h r => .scr (l.sqL h) (RepL.mono l p r)
  | _, _, .dK h r => .dK (l.rd h) (RepK.mono l p r)
  | _, _, .dT h r => .dT (l.rd h) (RepT.mono l p r)
  | _, _, .box h => .box (pre_get p h)
theorem RepL.mono (l : Le Hs Hs') (p : ρ <+: ρ') : ∀ {d : List D} {v : List V}, RepL K Hs ρ d v → RepL K Hs' ρ' d v
  | _, _, .nil => .nil
  | _, _, .cons h r => .cons (Rep.mono l p h) (RepL.mono l p r)
theorem RepK.mono (l : Le Hs Hs') (p : ρ <+: ρ') : ∀ {d : List (D × D)} {v : List (Key × V)}, RepK K Hs ρ d v → RepK K Hs' ρ' d v
  | _, _, .nil => .nil
  | _, _, .int h r => .int (Rep.mono l p h) (RepK.mono l p r)
  | _, _, .str c h r => .str c (Rep.mono l p h) (RepK.mono l p r)
theorem RepT.mono (l : Le Hs Hs') (p : ρ <+: ρ') : ∀ {d : List (D × D)} {v : List (List Key × V)}, RepT K Hs ρ d v → RepT K Hs' ρ' d v
  | _, _, .nil => .nil
  | _, _, .cons c h r => .cons c (Rep.mono l p h) (RepT.mono l p r)
end
theorem RepL.length : ∀ {d : List D} {v : List V}, RepL K Hs ρ d v → d.length = v.length
  | _, _, .nil => rfl
  | _, _, .cons _ r => congrArg Nat.succ (RepL.length r)
theorem RepL.get : ∀ {d : List D} {v : List V} {n : Nat} {x : D}, RepL K Hs ρ d v → d[n]? = some x → ∃ y, v[n]? = some y ∧ Rep K Hs ρ x y
  | _, _, _, _, .nil, e => by simp at e
  | _, _, 0, _, .cons h _, e => by simp at e; subst e; exact ⟨_, rfl, h⟩
  | _, _, n + 1, x, .cons _ r, e => by
    obtain ⟨y, e1, e2⟩ := RepL.get (n := n) (x := x) r (by simpa using e)
    exact ⟨y, by simpa using e1, e2⟩
theorem RepL.get' : ∀ {d : List D} {v : List V} {n : Nat} {y : V}, RepL K Hs ρ d v → v[n]? = some y → ∃ x, d[n]? = some x ∧ Rep K Hs ρ x y
  | _, _, _, _, .nil, e => by simp at e
  | _, _, 0, _, .cons h _, e => by simp at e; subst e; exact ⟨_, rfl, h⟩
  | _, _, n + 1, y, .cons _ r, e => by
    obtain ⟨x, e1, e2⟩ := RepL.get' (n := n) (y := y) r (by simpa using e)
    exact ⟨x, by simpa using e1, e2⟩
theorem RepL.append : ∀ {d e : List D} {v w : List V}, RepL K Hs ρ d v → RepL K Hs ρ e w → RepL K Hs ρ (d ++ e) (v ++ w)
  | _, _, _, _, .nil, s => s
  | _, _, _, _, .cons h r, s => .cons h (RepL.append r s)
theorem RepL.take : ∀ {d : List D} {v : List V} (n : Nat), RepL K Hs ρ d v → RepL K Hs ρ (d.take n) (v.take n)
  | _, _, 0, _ => .nil
  | _, _, _ + 1, .nil => .nil
  | _, _, n + 1, .cons h r => .cons h (RepL.take n r)
theorem RepL.drop : ∀ {d : List D} {v : List V} (n : Nat), RepL K Hs ρ d v → RepL K Hs ρ (d.drop n) (v.drop n)
  | _, _, 0, r => r
  | _, _, _ + 1, .nil => .nil
  | _, _, n + 1, .cons _ r => RepL.drop n r
theorem RepL.reverse : ∀ {d : List D} {v : List V}, RepL K Hs ρ d v → RepL K Hs ρ d.reverse v.reverse
  | _, _, .nil => .nil
  | _, _, .cons h r => by
    rw [List.reverse_cons, List.reverse_cons]
    exact RepL.append (RepL.reverse r) (.cons h .nil)
theorem RepL.set {x : D} {y : V} (h : Rep K Hs ρ x y) : ∀ {d : List D} {v : List V} (n : Nat), RepL K Hs ρ d v → RepL K Hs ρ (d.set n x) (v.set n y)
  | _, _, _, .nil => .nil
  | _, _, 0, .cons _ r => .cons h r
  | _, _, n + 1, .cons g r => .cons g (RepL.set h n r)
theorem RepL.nil_iff {v : List V} (r : RepL K Hs ρ [] v) : v = [] := by cases r; rfl
theorem RepL.one {d : D} {v : List V} (r : RepL K Hs ρ [d] v) : ∃ x, v = [x] ∧ Rep K Hs ρ d x := by
  cases r with
  | cons h t => cases t; exact ⟨_, rfl, h⟩
theorem RepL.two {d e : D} {v : List V} (r : RepL K Hs ρ [d, e] v) : ∃ x y, v = [x, y] ∧ Rep K Hs ρ d x ∧ Rep K Hs ρ e y := by
  cases r with
  | cons h t => cases t with
    | cons g t => cases t; exact ⟨_, _, rfl, h, g⟩
end

/-! ### what is owned -/
def OwnAt (K : PySem.W.Frag) (Hs : Hp) (ρ : List Addr) (H : Hp) (a : Addr) : D → Prop
  | .lst l => ∃ xs, H a = some (.lst xs) ∧ RepL K Hs ρ l xs
  | .dic false l => ∃ kvs, H a = some (.dK kvs) ∧ RepK K Hs ρ l kvs
  | .dic true l => ∃ kvs, H a = some (.dT kvs) ∧ RepT K Hs ρ l kvs
  | _ => False
section
variable {K : PySem.W.Frag} {Hs Hs' H H' : Hp} {ρ ρ' : List Addr} {a : Addr} {d : D} {v : V}
theorem OwnAt.some_ : ∀ {d : D}, OwnAt K Hs ρ H a d → ∃ o, H a = some o
  | .lst _, ⟨_, e, _⟩ => ⟨_, e⟩
  | .dic false _, ⟨_, e, _⟩ => ⟨_, e⟩
  | .dic true _, ⟨_, e, _⟩ => ⟨_, e⟩
theorem OwnAt.mono (l : Le Hs Hs') (p : ρ <+: ρ') (e : H' a = H a) : ∀ {d : D}, OwnAt K Hs ρ H a d → OwnAt K Hs' ρ' H' a d
  | .lst _, ⟨xs, h, r⟩ => ⟨xs, e.trans h, r.mono l p⟩
  | .dic false _, ⟨xs, h, r⟩ => ⟨xs, e.trans h, r.mono l p⟩
  | .dic true _, ⟨xs, h, r⟩ => ⟨xs, e.trans h, r.mono l p⟩
theorem OwnAt.mut : ∀ {d : D}, OwnAt K Hs ρ H a d → Mut (H a)
  | .lst _, ⟨_, e, _⟩ => by rw [e]; trivial
  | .dic false _, ⟨_, e, _⟩ => by rw [e]; trivial
  | .dic true _, ⟨_, e, _⟩ => by rw [e]; trivial
/-- an owned thing given away -/
theorem OwnAt.rep {Hs'' : Hp} (l : Le Hs Hs'') (p : ρ <+: ρ') (e : Hs'' a = H a) : ∀ {d : D}, OwnAt K Hs ρ H a d → Rep K Hs'' ρ' d (.ref a)
  | .lst _, ⟨xs, h, r⟩ => .lst (e.trans h) (r.mono l p)
  | .dic false _, ⟨xs, h, r⟩ => .dK (.inl (e.trans h)) (r.mono l p)
  | .dic true _, ⟨xs, h, r⟩ => .dT (.inl (e.trans h)) (r.mono l p)

/-- the boxes -/
structure BOk (K : PySem.W.Frag) (Hs : Hp) (ρ : List Addr) (H : Hp) (B : List D) : Prop where
  len : ρ.length = B.length
  nd : ρ.Nodup
  at_ : ∀ (n : Nat) (a : Addr) (d : D), ρ[n]? = some a → B[n]? = some d → OwnAt K Hs ρ H a d ∧ Hs a = none
/-- a slot -/
def SlOk (K : PySem.W.Frag) (Hs : Hp) (ρ : List Addr) (H : Hp) : Sl → Option V → Prop
  | .no, _ => True
  | .val d, o => ∃ v, o = some v ∧ Rep K Hs ρ d v
  | .own d, o => ∃ a, o = some (.ref a) ∧ OwnAt K Hs ρ H a d ∧ Hs a = none ∧ a ∉ ρ
/-- the slots of the frame that the body runs in, the shared part, the boxes -/
structure Stt (K : PySem.W.Frag) (Hs : Hp) (ρ : List Addr) (H : Hp) (σV : L2.St) (σ : Sg) (B : List D) : Prop where
  le : Le Hs H
  bx : BOk K Hs ρ H B
  len : σV.length = σ.length
  sl : ∀ (i : Nat) (s : Sl), σ[i]? = some s → SlOk K Hs ρ H s ((σV[i]?).getD none)
  di : ∀ (i j : Nat) (a : Addr) (d e : D), σ[i]? = some (.own d) → σ[j]? = some (.own e) → σV[i]? = some (some (.ref a)) → σV[j]? = some (some (.ref a)) → i = j
/-- what code may have done -/
structure Gr (Hs H : Hp) (ρ : List Addr) (Hs' H' : Hp) (ρ' : List Addr) : Prop where
  hs : ∀ a o, Hs a = some o → Hs' a = some o
  fr : ∀ a o, Hs' a = some o → (∃ u, Hs a = some u) ∨ H a = none
  kp : ∀ a o, H a = some o → a ∉ ρ → H' a = some o
  th : ∀ a o, H a = some o → ∃ u, H' a = some u
  rp : ρ <+: ρ'
  rn : ∀ a ∈ ρ', a ∈ ρ ∨ H a = none
theorem Gr.refl : Gr Hs H ρ Hs H ρ := ⟨fun _ _ h => h, fun _ _ h => .inl ⟨_, h⟩, fun _ _ h _ => h, fun _ _ h => ⟨_, h⟩, List.prefix_refl _, fun _ h => .inl h⟩
theorem Gr.none_ {Hs Hs' H H' : Hp} {ρ ρ' : List Addr} (g : Gr Hs H ρ Hs' H' ρ') {a : Addr} (h : H' a = none) : H a = none := by
  cases e : H a with
  | none => rfl
  | some o =>
    obtain ⟨u, q⟩ := g.th a o e
    rw [h] at q; cases q
theorem Gr.trans {Hs'' H'' : Hp} {ρ'' : List Addr} (g : Gr Hs H ρ Hs' H' ρ') (k : Gr Hs' H' ρ' Hs'' H'' ρ'') : Gr Hs H ρ Hs'' H'' ρ'' where
  hs := fun a o h => k.hs a o (g.hs a o h)
  fr := fun a o h => by
    rcases k.fr a o h with ⟨u, q⟩ | q
    · exact g.fr a u q
    · exact .inr (g.none_ q)
  kp := fun a o h n => k.kp a o (g.kp a o h n) fun z => by
    rcases g.rn a z with q | q
    · exact n q
    · rw [h] at q; cases q
  th := fun a o h => by
    obtain ⟨u, q⟩ := g.th a o h
    exact k.th a u q
  rp := g.rp.trans k.rp
  rn := fun a h => by
    rcases k.rn a h with q | q
    · exact g.rn a q
    · exact .inr (g.none_ q)
theorem Gr.le (g : Gr Hs H ρ Hs' H' ρ') : Le Hs Hs' := Le.of g.hs
theorem Gr.rep {d : D} {v : V} (g : Gr Hs H ρ Hs' H' ρ') (r : Rep K Hs ρ d v) : Rep K Hs' ρ' d v := r.mono g.le g.rp
theorem Gr.repL {d : List D} {v : List V} (g : Gr Hs H ρ Hs' H' ρ') (r : RepL K Hs ρ d v) : RepL K Hs' ρ' d v := r.mono g.le g.rp
theorem Gr.hsN (g : Gr Hs H ρ Hs' H' ρ') {a : Addr} {o : HO} (h : H a = some o) (n : Hs a = none) : Hs' a = none := by
  cases e : Hs' a with
  | none => rfl
  | some u =>
    rcases g.fr a u e with ⟨w, q⟩ | q
    · rw [n] at q; cases q
    · rw [h] at q; cases q
theorem Gr.rhoN (g : Gr Hs H ρ Hs' H' ρ') {a : Addr} {o : HO} (h : H a = some o) (n : a ∉ ρ) : a ∉ ρ' := fun z => by
  rcases g.rn a z with q | q
  · exact n q
  · rw [h] at q; cases q
theorem Gr.own (g : Gr Hs H ρ Hs' H' ρ') (h : OwnAt K Hs ρ H a d) (n : Hs a = none) (nr : a ∉ ρ) : OwnAt K Hs' ρ' H' a d ∧ Hs' a = none ∧ a ∉ ρ' := by
  obtain ⟨o, e⟩ := h.some_
  exact ⟨h.mono g.le g.rp ((g.kp a o e nr).trans e.symm), g.hsN e n, g.rhoN e nr⟩
theorem Stt.grow {σV : L2.St} {σ : Sg} {B B' : List D} (s : Stt K Hs ρ H σV σ B) (g : Gr Hs H ρ Hs' H' ρ') (l : Le Hs' H') (b : BOk K Hs' ρ' H' B') : Stt K Hs' ρ' H' σV σ B' := by
  refine ⟨l, b, s.len, fun i x e => ?_, s.di⟩
  have h := s.sl i x e
  cases x with
  | no => trivial
  | val d =>
    obtain ⟨v, e1, r⟩ := h
    exact ⟨v, e1, g.rep r⟩
  | own d =>
    obtain ⟨a, e1, r, n, nr⟩ := h
    exact ⟨a, e1, g.own r n nr⟩

/-- a value, or (p) an owned thing read in place -/
def RelP (K : PySem.W.Frag) (p : Bool) (Hs : Hp) (ρ : List Addr) (H : Hp) (d : D) (v : V) : Prop :=
  Rep K Hs ρ d v ∨ (p = true ∧ ∃ a, v = .ref a ∧ OwnAt K Hs ρ H a d ∧ Hs a = none ∧ a ∉ ρ)
theorem RelP.of {p : Bool} (r : Rep K Hs ρ d v) : RelP K p Hs ρ H d v := .inl r
theorem RelP.val (r : RelP K false Hs ρ H d v) : Rep K Hs ρ d v := by
  rcases r with r | ⟨z, _⟩
  · exact r
  · cases z
theorem RelP.grow {p : Bool} (r : RelP K p Hs ρ H d v) (g : Gr Hs H ρ Hs' H' ρ') : RelP K p Hs' ρ' H' d v := by
  rcases r with r | ⟨z, a, e, h, n, nr⟩
  · exact .inl (g.rep r)
  · exact .inr ⟨z, a, e, g.own h n nr⟩
/-- an operand at the time of its operation: a value, an owned thing, or a box's content -/
def RP (K : PySem.W.Frag) (Hs : Hp) (ρ : List Addr) (H : Hp) (d : D) (v : V) : Prop := Rep K Hs ρ d v ∨ ∃ a, v = .ref a ∧ OwnAt K Hs ρ H a d
theorem drf_ok {p : Bool} {B : List D} (r : RelP K p Hs ρ H d v) (b : BOk K Hs ρ H B) : RP K Hs ρ H (drf B d) v := by
  rcases r with r | ⟨_, a, e, h, _, _⟩
  · cases r with
    | @box n a e =>
      have hl : n < B.length := by rw [← b.len]; exact (List.getElem?_eq_some_iff.mp e).1
      have e2 : B[n]? = some B[n] := List.getElem?_eq_getElem hl
      refine .inr ⟨a, rfl, ?_⟩
      show OwnAt K Hs ρ H a ((B[n]?).getD (.fn 0))
      rw [e2]
      exact (b.at_ n a _ e e2).1
    | non => exact .inl .non
    | bl b => exact .inl (.bl b)
    | int i => exact .inl (.int i)
    | str h => exact .inl (.str h)
    | tup h r => exact .inl (.tup h r)
    | lst h r => exact .inl (.lst h r)
    | dK h r => exact .inl (.dK h r)
    | dT h r => exact .inl (.dT h r)
    | scr h r => exact .inl (.scr h r)
  · refine .inr ⟨a, e, ?_⟩
    cases d with
    | box n => exact h.elim
    | _ => exact h

/-! ### outcomes -/
/-- how exceptions that leave stand: kept for the rules of raise and try -/
def ExR (K : PySem.W.Frag) (Hs : Hp) (ρ : List Addr) (H : Hp) (c : Nat) (ps : List D) (cls : Value) (dd : Option Addr) : Prop := False
def Yld (K : PySem.W.Frag) (p : Bool) (Hs : Hp) (ρ : List Addr) (H : Hp) (B : List D) (d : D) (Q : VK) : Prop :=
  ∀ v H' Hs' ρ', Gr Hs H ρ Hs' H' ρ' → Le Hs' H' → BOk K Hs' ρ' H' B → RelP K p Hs' ρ' H' d v → Q v H'
def Exx (K : PySem.W.Frag) (Hs : Hp) (ρ : List Addr) (H : Hp) (c : Nat) (ps B : List D) (W : XK) : Prop :=
  ∀ H' Hs' ρ' cls dd, Gr Hs H ρ Hs' H' ρ' → Le Hs' H' → BOk K Hs' ρ' H' B → ExR K Hs' ρ' H' c ps cls dd → W cls dd H'
/-- outcomes: what is wanted of an answer -/
def OutG {α : Type} (K : PySem.W.Frag) (W : XK) (Hs : Hp) (ρ : List Addr) (H : Hp) (r : Rs α) (R : α → Prop) : Prop :=
  match r with
  | .ok x => R x
  | .ex c ps B => Exx K Hs ρ H c ps B W
  | .bad => False
def Out (K : PySem.W.Frag) (W : XK) (p : Bool) (Hs : Hp) (ρ : List Addr) (H : Hp) (r : Rs (D × List D)) (Q : VK) : Prop := OutG K W Hs ρ H r fun x => Yld K p Hs ρ H x.2 x.1 Q
/-- what is wanted may be asked later -/
def Shf {α : Type} (R : Hp → List Addr → Hp → α → Prop) : Prop := ∀ Hs H ρ Hs' H' ρ' x, Gr Hs H ρ Hs' H' ρ' → R Hs ρ H x → R Hs' ρ' H' x
theorem Yld.shift {p : Bool} {B : List D} {Q : VK} (h : Yld K p Hs ρ H B d Q) (g : Gr Hs H ρ Hs' H' ρ') : Yld K p Hs' ρ' H' B d Q :=
  fun v H2 Hs2 ρ2 g2 l b r => h v H2 Hs2 ρ2 (g.trans g2) l b r
theorem Yld.shf {p : Bool} {Q : VK} : Shf fun Hs ρ H (x : D × List D) => Yld K p Hs ρ H x.2 x.1 Q := fun _ _ _ _ _ _ _ g h => Yld.shift h g
theorem OutG.shift {α : Type} {W : XK} {r : Rs α} {R : Hp → List Addr → Hp → α → Prop} (hR : Shf R) (h : OutG K W Hs ρ H r (R Hs ρ H)) (g : Gr Hs H ρ Hs' H' ρ') : OutG K W Hs' ρ' H' r (R Hs' ρ' H') := by
  cases r with
  | ok x => exact hR _ _ _ _ _ _ _ g h
  | ex c ps B => exact fun H2 Hs2 ρ2 cls dd g2 l b r => h H2 Hs2 ρ2 cls dd (g.trans g2) l b r
  | bad => exact h
theorem Out.shift {W : XK} {p : Bool} {r : Rs (D × List D)} {Q : VK} (h : Out K W p Hs ρ H r Q) (g : Gr Hs H ρ Hs' H' ρ') : Out K W p Hs' ρ' H' r Q := OutG.shift Yld.shf h g
theorem OutG.bindE {α : Type} {W : XK} {q : Bool} {R : Hp → List Addr → Hp → α → Prop} (hR : Shf R) {r : Rs (D × List D)} {f : D × List D → Rs α} {Q : VK} (h : OutG K W Hs ρ H (r.bind f) (R Hs ρ H))
    (k : ∀ d B' v H' Hs' ρ', Gr Hs H ρ Hs' H' ρ' → Le Hs' H' → BOk K Hs' ρ' H' B' → RelP K q Hs' ρ' H' d v → OutG K W Hs' ρ' H' (f (d, B')) (R Hs' ρ' H') → Q v H') : Out K W q Hs ρ H r Q := by
  cases r with
  | ok x => exact fun v H' Hs' ρ' g l b r => k x.1 x.2 v H' Hs' ρ' g l b r (OutG.shift (r := f x) hR h g)
  | ex c ps B => exact h
  | bad => exact h
theorem Out.bind {W : XK} {p q : Bool} {r : Rs (D × List D)} {f : D × List D → Rs (D × List D)} {Q R : VK} (h : Out K W p Hs ρ H (r.bind f) Q)
    (k : ∀ d B' v H' Hs' ρ', Gr Hs H ρ Hs' H' ρ' → Le Hs' H' → BOk K Hs' ρ' H' B' → RelP K q Hs' ρ' H' d v → Out K W p Hs' ρ' H' (f (d, B')) Q → R v H') : Out K W q Hs ρ H r R :=
  OutG.bindE Yld.shf h k
theorem OutG.of {β : Type} {W : XK} {α : Type} {o : Option α} {f : α → Rs β} {R : β → Prop} (h : OutG K W Hs ρ H ((Rs.of o).bind f) R) : ∃ a, o = some a ∧ OutG K W Hs ρ H (f a) R := by
  cases o with
  | none => exact (show False from h).elim
  | some a => exact ⟨a, rfl, h⟩
theorem Out.of {W : XK} {p : Bool} {α : Type} {o : Option α} {f : α → Rs (D × List D)} {Q : VK} (h : Out K W p Hs ρ H ((Rs.of o).bind f) Q) : ∃ a, o = some a ∧ Out K W p Hs ρ H (f a) Q := OutG.of h
/-- a thing just made, not shared yet -/
def YldF (K : PySem.W.Frag) (Hs : Hp) (ρ : List Addr) (H : Hp) (B : List D) (d : D) (Q : VK) : Prop :=
  ∀ a H' Hs' ρ', Gr Hs H ρ Hs' H' ρ' → Le Hs' H' → BOk K Hs' ρ' H' B → OwnAt K Hs' ρ' H' a d → Hs' a = none → a ∉ ρ' → H a = none → Q (.ref a) H'
theorem YldF.shift {B : List D} {Q : VK} (h : YldF K Hs ρ H B d Q) (g : Gr Hs H ρ Hs' H' ρ') : YldF K Hs' ρ' H' B d Q :=
  fun a H2 Hs2 ρ2 g2 l b r n nr hn => h a H2 Hs2 ρ2 (g.trans g2) l b r n nr (g.none_ hn)
def OutF (K : PySem.W.Frag) (W : XK) (Hs : Hp) (ρ : List Addr) (H : Hp) (r : Rs (D × List D)) (Q : VK) : Prop := OutG K W Hs ρ H r fun x => isLD x.1 = true ∧ YldF K Hs ρ H x.2 x.1 Q
theorem YldF.shf {Q : VK} : Shf fun Hs ρ H (x : D × List D) => isLD x.1 = true ∧ YldF K Hs ρ H x.2 x.1 Q := fun _ _ _ _ _ _ _ g h => ⟨h.1, YldF.shift h.2 g⟩
/-- the shared part grows by a thing that is there -/
theorem gr_share {o : HO} (g : Gr Hs H ρ Hs' H' ρ') (n : Hs' a = none) (hn : H a = none) : Gr Hs H ρ (upd Hs' a o) H' ρ' where
  hs := fun b u e => by
    have q := g.hs b u e
    rw [upd_ne (ne_of_none q n)]
    exact q
  fr := fun b u e => by
    by_cases z : b = a
    · subst z; exact .inr hn
    · rw [upd_ne z] at e
      exact g.fr b u e
  kp := g.kp
  th := g.th
  rp := g.rp
  rn := g.rn
theorem le_share {o : HO} (l : Le Hs H) (e : H a = some o) : Le (upd Hs a o) H := fun b u q => by
  by_cases z : b = a
  · subst z
    rw [upd_same] at q
    cases q
    exact .inl e
  · rw [upd_ne z] at q
    exact l b u q
theorem hs_share {o : HO} (n : Hs a = none) : Le Hs (upd Hs a o) := Le.of fun b u q => by
  rw [upd_ne (ne_of_none q n)]
  exact q
theorem bok_share {o : HO} {B : List D} (b : BOk K Hs ρ H B) (n : Hs a = none) (nr : a ∉ ρ) : BOk K (upd Hs a o) ρ H B := by
  refine ⟨b.len, b.nd, fun m c d e1 e2 => ?_⟩
  obtain ⟨h, hn⟩ := b.at_ m c d e1 e2
  refine ⟨h.mono (hs_share n) (List.prefix_refl _) rfl, ?_⟩
  rw [upd_ne (fun z => nr (by rw [← z]; exact List.mem_of_getElem? e1))]
  exact hn
theorem Yld.toF {p : Bool} {B : List D} {Q : VK} (h : Yld K p Hs ρ H B d Q) : YldF K Hs ρ H B d Q := fun a H' Hs' ρ' g l b r n nr hn => by
  obtain ⟨o, e⟩ := r.some_
  refine h (.ref a) H' (upd Hs' a o) ρ' (gr_share g n hn) (le_share l e) (bok_share b n nr) (.of ?_)
  exact OwnAt.rep (hs_share n) (List.prefix_refl _) (by rw [upd_same]; exact e.symm) r
/-- the answer of an operation: lists and dicts are new -/
def YldN (K : PySem.W.Frag) (Hs : Hp) (ρ : List Addr) (H : Hp) (B : List D) (d : D) (Q : VK) : Prop :=
  match d with
  | .lst l => YldF K Hs ρ H B (.lst l) Q
  | .dic t l => YldF K Hs ρ H B (.dic t l) Q
  | d => Yld K false Hs ρ H B d Q
theorem YldN.of {p : Bool} {B : List D} {Q : VK} (h : Yld K p Hs ρ H B d Q) : YldN K Hs ρ H B d Q := by
  have h2 : Yld K false Hs ρ H B d Q := fun v H' Hs' ρ' g l b r => h v H' Hs' ρ' g l b (.inl r.val)
  cases d with
  | lst l => exact h2.toF
  | dic t l => exact h2.toF
  | _ => exact h2
theorem YldN.ofF {B : List D} {Q : VK} (h : isLD d = true ∧ YldF K Hs ρ H B d Q) : YldN K Hs ρ H B d Q := by
  obtain ⟨h1, h⟩ := h
  cases d with
  | lst l => exact h
  | dic t l => exact h
  | _ => cases h1
theorem bok_new {p : Addr} {o : HO} {B : List D} (n : H p = none) (b : BOk K Hs ρ H B) : BOk K Hs ρ (upd H p o) B := by
  refine ⟨b.len, b.nd, fun m a d e1 e2 => ?_⟩
  obtain ⟨h, hn⟩ := b.at_ m a d e1 e2
  obtain ⟨u, eu⟩ := h.some_
  exact ⟨h.mono (Le.refl _) (List.prefix_refl _) (upd_ne (ne_of_none eu n)), hn⟩
theorem le_new {p : Addr} {o : HO} (l : Le Hs H) (n : H p = none) : Le Hs (upd H p o) := fun a u e => by
  have hne : a ≠ p := fun z => by
    subst z
    have := l.there n
    rw [e] at this; cases this
  rw [upd_ne hne]
  exact l a u e
theorem gr_new {p : Addr} {o : HO} (n : H p = none) : Gr Hs H ρ Hs (upd H p o) ρ where
  hs := fun _ _ h => h
  fr := fun a o h => .inl ⟨_, h⟩
  kp := fun a u e _ => by
    rw [upd_ne (ne_of_none e n)]
    exact e
  th := fun a u e => ⟨u, by rw [upd_ne (ne_of_none e n)]; exact e⟩
  rp := List.prefix_refl _
  rn := fun _ h => .inl h
theorem rho_new {p : Addr} {B : List D} (n : H p = none) (b : BOk K Hs ρ H B) : p ∉ ρ := fun z => by
  obtain ⟨m, e⟩ := List.getElem?_of_mem z
  have hl : m < B.length := by rw [← b.len]; exact (List.getElem?_eq_some_iff.mp e).1
  obtain ⟨h, _⟩ := b.at_ m p _ e (List.getElem?_eq_getElem hl)
  obtain ⟨u, eu⟩ := h.some_
  rw [n] at eu; cases eu
theorem YldF.new {B : List D} {Q : VK} {o : HO} (h : YldF K Hs ρ H B d Q) (l : Le Hs H) (b : BOk K Hs ρ H B) : ∀ t, H t = none → OwnAt K Hs ρ (upd H t o) t d → Q (.ref t) (upd H t o) := fun t n r =>
  h t _ Hs ρ (gr_new n) (le_new l n) (bok_new n b) r (l.there n) (rho_new n b) n
theorem YldF.lst {B : List D} {Q : VK} {ds : List D} {xs : List V} (h : YldF K Hs ρ H B (.lst ds) Q) (l : Le Hs H) (b : BOk K Hs ρ H B) (r : RepL K Hs ρ ds xs) : ∀ t, H t = none → Q (.ref t) (upd H t (.lst xs)) := fun t n => h.new l b t n ⟨xs, upd_same, r⟩
theorem YldF.dK {B : List D} {Q : VK} {ds : List (D × D)} {xs : List (Key × V)} (h : YldF K Hs ρ H B (.dic false ds) Q) (l : Le Hs H) (b : BOk K Hs ρ H B) (r : RepK K Hs ρ ds xs) : ∀ t, H t = none → Q (.ref t) (upd H t (.dK xs)) := fun t n => h.new l b t n ⟨xs, upd_same, r⟩
theorem YldF.dT {B : List D} {Q : VK} {ds : List (D × D)} {xs : List (List Key × V)} (h : YldF K Hs ρ H B (.dic true ds) Q) (l : Le Hs H) (b : BOk K Hs ρ H B) (r : RepT K Hs ρ ds xs) : ∀ t, H t = none → Q (.ref t) (upd H t (.dT xs)) := fun t n => h.new l b t n ⟨xs, upd_same, r⟩
/-- nothing new was made -/
theorem Yld.here {p : Bool} {B : List D} {Q : VK} (h : Yld K p Hs ρ H B d Q) (l : Le Hs H) (b : BOk K Hs ρ H B) (r : Rep K Hs ρ d v) : Q v H := h v H Hs ρ .refl l b (.of r)

theorem upd_le {p : Addr} {o : HO} (l : Le Hs H) (n : H p = none) : Le (upd Hs p o) (upd H p o) := fun a u e => by
  by_cases z : a = p
  · subst z
    rw [upd_same] at e ⊢
    exact .inl e
  · rw [upd_ne z] at e ⊢
    exact l a u e
theorem gr_upd {p : Addr} {o : HO} (l : Le Hs H) (n : H p = none) : Gr Hs H ρ (upd Hs p o) (upd H p o) ρ where
  hs := fun a u e => by
    rw [upd_ne (ne_of_none e (l.there n))]
    exact e
  fr := fun a u e => by
    by_cases z : a = p
    · subst z; exact .inr n
    · rw [upd_ne z] at e
      exact .inl ⟨u, e⟩
  kp := fun a u e _ => by
    rw [upd_ne (ne_of_none e n)]
    exact e
  th := fun a u e => ⟨u, by rw [upd_ne (ne_of_none e n)]; exact e⟩
  rp := List.prefix_refl _
  rn := fun _ h => .inl h
theorem bok_upd {p : Addr} {o : HO} {B : List D} (l : Le Hs H) (n : H p = none) (b : BOk K Hs ρ H B) : BOk K (upd Hs p o) ρ (upd H p o) B := by
  refine ⟨b.len, b.nd, fun m a d e1 e2 => ?_⟩
  obtain ⟨h, hn⟩ := b.at_ m a d e1 e2
  obtain ⟨u, eu⟩ := h.some_
  have ne : a ≠ p := ne_of_none eu n
  exact ⟨h.mono (gr_upd (ρ := ρ) (o := o) l n).le (List.prefix_refl _) (upd_ne ne), by rw [upd_ne ne]; exact hn⟩
/-- new things -/
theorem Yld.tup {p : Bool} {B : List D} {Q : VK} {ds : List D} {xs : List V} (h : Yld K p Hs ρ H B (.tup ds) Q) (l : Le Hs H) (b : BOk K Hs ρ H B) (r : RepL K Hs ρ ds xs) : ∀ t, H t = none → Q (.ref t) (upd H t (.tup xs)) := fun t n =>
  have g : Gr Hs H ρ (upd Hs t (.tup xs)) (upd H t (.tup xs)) ρ := gr_upd l n
  h _ _ _ _ g (upd_le l n) (bok_upd l n b) (.of (.tup upd_same (g.repL r)))
theorem Yld.lst {p : Bool} {B : List D} {Q : VK} {ds : List D} {xs : List V} (h : Yld K p Hs ρ H B (.lst ds) Q) (l : Le Hs H) (b : BOk K Hs ρ H B) (r : RepL K Hs ρ ds xs) : ∀ t, H t = none → Q (.ref t) (upd H t (.lst xs)) := fun t n =>
  have g : Gr Hs H ρ (upd Hs t (.lst xs)) (upd H t (.lst xs)) ρ := gr_upd l n
  h _ _ _ _ g (upd_le l n) (bok_upd l n b) (.of (.lst upd_same (g.repL r)))
theorem Yld.dK {p : Bool} {B : List D} {Q : VK} {ds : List (D × D)} {xs : List (Key × V)} (h : Yld K p Hs ρ H B (.dic false ds) Q) (l : Le Hs H) (b : BOk K Hs ρ H B) (r : RepK K Hs ρ ds xs) : ∀ t, H t = none → Q (.ref t) (upd H t (.dK xs)) := fun t n =>
  have g : Gr Hs H ρ (upd Hs t (.dK xs)) (upd H t (.dK xs)) ρ := gr_upd l n
  h _ _ _ _ g (upd_le l n) (bok_upd l n b) (.of (.dK (.inl upd_same) (r.mono g.le g.rp)))
theorem Yld.dT {p : Bool} {B : List D} {Q : VK} {ds : List (D × D)} {xs : List (List Key × V)} (h : Yld K p Hs ρ H B (.dic true ds) Q) (l : Le Hs H) (b : BOk K Hs ρ H B) (r : RepT K Hs ρ ds xs) : ∀ t, H t = none → Q (.ref t) (upd H t (.dT xs)) := fun t n =>
  have g : Gr Hs H ρ (upd Hs t (.dT xs)) (upd H t (.dT xs)) ρ := gr_upd l n
  h _ _ _ _ g (upd_le l n) (bok_upd l n b) (.of (.dT (.inl upd_same) (r.mono g.le g.rp)))
/-- a list among the operands -/
theorem RP.lst {l : List D} (le : Le Hs H) (r : RP K Hs ρ H (.lst l) v) : ∃ a xs, v = .ref a ∧ H a = some (.lst xs) ∧ RepL K Hs ρ l xs := by
  rcases r with r | ⟨a, rfl, xs, e, r⟩
  · cases r with
    | lst h r => exact ⟨_, _, rfl, le.lst h, r⟩
  · exact ⟨a, xs, rfl, e, r⟩
theorem RP.tup {l : List D} (le : Le Hs H) (r : RP K Hs ρ H (.tup l) v) : ∃ a xs, v = .ref a ∧ H a = some (.tup xs) ∧ RepL K Hs ρ l xs := by
  rcases r with r | ⟨a, _, z⟩
  · cases r with
    | tup h r => exact ⟨_, _, rfl, le.tup h, r⟩
  · exact z.elim
theorem RP.scr {l : List D} (le : Le Hs H) (r : RP K Hs ρ H (.scr l) v) : ∃ a xs, v = .ref a ∧ SqL K H a xs ∧ RepL K Hs ρ l xs := by
  rcases r with r | ⟨a, _, z⟩
  · cases r with
    | scr h r => exact ⟨_, _, rfl, le.sqL h, r⟩
  · exact z.elim
theorem RP.int {i : Int} (r : RP K Hs ρ H (.int i) v) : v = .int i := by
  rcases r with r | ⟨a, _, z⟩
  · cases r; rfl
  · exact z.elim
theorem RP.bl {i : Bool} (r : RP K Hs ρ H (.bl i) v) : v = .bl i := by
  rcases r with r | ⟨a, _, z⟩
  · cases r; rfl
  · exact z.elim
theorem RP.non (r : RP K Hs ρ H .non v) : v = .non := by
  rcases r with r | ⟨a, _, z⟩
  · cases r; rfl
  · exact z.elim
theorem RP.str {l : List Nat} (r : RP K Hs ρ H (.str l) v) : v = .str (mk l) ∧ SOk l := by
  rcases r with r | ⟨a, _, z⟩
  · cases r with
    | str h => exact ⟨rfl, h⟩
  · exact z.elim
theorem RP.dK {l : List (D × D)} (le : Le Hs H) (r : RP K Hs ρ H (.dic false l) v) : ∃ a kvs, v = .ref a ∧ Rd H a (.dK kvs) ∧ RepK K Hs ρ l kvs := by
  rcases r with r | ⟨a, rfl, xs, e, r⟩
  · cases r with
    | dK h r => exact ⟨_, _, rfl, le.rd h, r⟩
  · exact ⟨a, xs, rfl, .inl e, r⟩
theorem RP.dT {l : List (D × D)} (le : Le Hs H) (r : RP K Hs ρ H (.dic true l) v) : ∃ a kvs, v = .ref a ∧ Rd H a (.dT kvs) ∧ RepT K Hs ρ l kvs := by
  rcases r with r | ⟨a, rfl, xs, e, r⟩
  · cases r with
    | dT h r => exact ⟨_, _, rfl, le.rd h, r⟩
  · exact ⟨a, xs, rfl, .inl e, r⟩
theorem RP.box {n : Nat} (r : RP K Hs ρ H (.box n) v) : ∃ a, v = .ref a ∧ ρ[n]? = some a := by
  rcases r with r | ⟨a, _, z⟩
  · cases r with
    | box h => exact ⟨_, rfl, h⟩
  · exact z.elim
end

/-! ### readings by runs of the small language -/
section
variable (K : PySem.W.Frag) (Φ : Fn) (W : WX)
def rdE (p : Bool) (e : E) : TE := fun σV H Q => ∃ Hs ρ σ B, Stt K Hs ρ H σV σ B ∧ Out K (fun c d h => W c d σV h) p Hs ρ H (ev Φ p e σ B) Q
def rdF (e : E) : TE := fun σV H Q => ∃ Hs ρ σ B, Stt K Hs ρ H σV σ B ∧ OutF K (fun c d h => W c d σV h) Hs ρ H (ev Φ false e σ B) Q
def rdT (e : E) : TT := fun σV H Q => ∃ Hs ρ σ B, Stt K Hs ρ H σV σ B ∧ Out K (fun c d h => W c d σV h) false Hs ρ H (ev Φ false e σ B) (fun v H' => ∃ b, v = .bl b ∧ Q b H')
end
theorem _root_.L2.PE.weaken {X : Cx} {e : Expr} {t t' : TE} (h : PE X e t) (w : ∀ σ H Q, t' σ H Q → t σ H Q) : PE X e t' := ⟨fun pins s σ H Q I q => h.run pins s σ H Q I (w σ H Q q)⟩
theorem _root_.L2.PT.weaken {X : Cx} {e : Expr} {t t' : TT} (h : PT X e t) (w : ∀ σ H Q, t' σ H Q → t σ H Q) : PT X e t' := ⟨fun pins s σ H Q I q => h.run pins s σ H Q I (w σ H Q q)⟩
theorem _root_.L2.PW.weaken {X : Cx} {e : Expr} {t t' : TT} (h : PW X e t) (w : ∀ σ H Q, t' σ H Q → t σ H Q) : PW X e t' := ⟨fun wh pins s σ H Q I q => h.run wh pins s σ H Q I (w σ H Q q)⟩
theorem _root_.L2.PA.weaken {X : Cx} {e : List Expr} {t t' : TA} (h : PA X e t) (w : ∀ σ H Q, t' σ H Q → t σ H Q) : PA X e t' := ⟨fun pos pins s σ H Q I q => h.run pos pins s σ H Q I (w σ H Q q)⟩
theorem _root_.L2.PS.weaken {X : Cx} {e : Stmt} {t t' : TS} (h : PS X e t) (w : ∀ D σ H, t' D σ H → t D σ H) : PS X e t' := ⟨fun pins s σ H D I q => h.run pins s σ H D I (w D σ H q)⟩
theorem _root_.L2.PSs.weaken {X : Cx} {e : List Stmt} {t t' : TS} (h : PSs X e t) (w : ∀ D σ H, t' D σ H → t D σ H) : PSs X e t' := ⟨fun pins s σ H D I q => h.run pins s σ H D I (w D σ H q)⟩
end Pz
end
section
set_option Elab.async false
set_option linter.all false
set_option maxRecDepth 100000
set_option maxHeartbeats 2000000
namespace Pz
open PySem PySem.Spec PyProof.Rows L2

theorem ln_eq : sizeLine = ln := sizeLine_eq
theorem mk_app (x y : List Nat) : mk x ++ mk y = mk (x ++ y) := by
  show Str.append _ _ = _
  unfold Str.append
  simp
theorem mk_len (x : List Nat) : (mk x).length = x.length := by
  show x.toArray.size = _
  simp

/-! ### binary operators -/
def pyB : Bop → Operator
  | .add => .Add | .sub => .Sub | .mul => .Mult | .fdiv => .FloorDiv | .mod => .Mod | .pow => .Pow
def rBin (K : PySem.W.Frag) (f : D → D → Option D) : R2 := fun x y H Q => ∃ Hs ρ B a b d, Le Hs H ∧ BOk K Hs ρ H B ∧ RP K Hs ρ H a x ∧ RP K Hs ρ H b y ∧ f a b = some d ∧ YldN K Hs ρ H B d Q

section
variable {K : PySem.W.Frag} {Hs H : Hp} {ρ : List Addr} {B : List D} {Q : VK} {d : D} {v : V}
theorem Yld.int {p : Bool} {i : Int} (h : Yld K p Hs ρ H B (.int i) Q) (l : Le Hs H) (b : BOk K Hs ρ H B) : Q (.int i) H := h.here l b (.int i)
theorem Yld.bl {p : Bool} {i : Bool} (h : Yld K p Hs ρ H B (.bl i) Q) (l : Le Hs H) (b : BOk K Hs ρ H B) : Q (.bl i) H := h.here l b (.bl i)
theorem Yld.str {p : Bool} {i : List Nat} (h : Yld K p Hs ρ H B (.str i) Q) (l : Le Hs H) (b : BOk K Hs ρ H B) (a : SOk i) : Q (.str (mk i)) H := h.here l b (.str a)
end
theorem rep_vs {K : PySem.W.Frag} {Hs : Hp} {ρ : List Addr} {l : List D} {xs : List V} (r : RepL K Hs ρ l xs) : ∀ k : Nat, RepL K Hs ρ (rep l k) ((List.replicate k xs).flatten)
  | 0 => .nil
  | k + 1 => by
    unfold rep
    rw [List.replicate_succ, List.flatten_cons, List.replicate_succ, List.flatten_cons]
    exact r.append (rep_vs r k)
theorem rep_len (l : List D) (k : Nat) : (rep l k).length = l.length * k := by
  unfold rep
  rw [PyProof.Rows.lm_len_rep_flat, Nat.mul_comm]
theorem all_rep {x : List Nat} (h : ∀ c ∈ x, c < 128) (k : Nat) : ∀ c ∈ repS x k, c < 128 := fun c hc => by
  unfold repS at hc
  rw [List.mem_flatten] at hc
  obtain ⟨l, hl, hcl⟩ := hc
  rw [List.mem_replicate] at hl
  rw [hl.2] at hcl
  exact h c hcl
theorem str_rep (x : List Nat) : ∀ k : Nat, (List.replicate k (mk x).cps).foldl (· ++ ·) #[] = (repS x k).toArray := by
  have f : ∀ (k : Nat) (acc : List Nat), (List.replicate k x.toArray).foldl (· ++ ·) acc.toArray = (acc ++ repS x k).toArray := by
    intro k
    induction k with
    | zero => intro acc; simp [repS]
    | succ k ih =>
      intro acc
      rw [List.replicate_succ, List.foldl_cons]
      have e : acc.toArray ++ x.toArray = (acc ++ x).toArray := by simp
      rw [e, ih]
      unfold repS
      rw [List.replicate_succ, List.flatten_cons, List.append_assoc]
  intro k
  have := f k []
  simpa using this
theorem rep_lenS (l : List Nat) (k : Nat) : (repS l k).length = l.length * k := by
  unfold repS
  rw [PyProof.Rows.lm_len_rep_flat, Nat.mul_comm]
theorem cons_ite {α : Type} {c : Prop} [Decidable c] {a d : α} (h : (if c then some a else none) = some d) : c ∧ a = d := by
  split at h
  · rename_i q
    exact ⟨q, Option.some.inj h⟩
  · cases h


section
theorem tuple_mul_same (l : Addr) (items : Array Value) (n : Nat) (dd : Option Addr) (sl : Array (Option Value)) (x : Int) (u : Tok) (c0 : (decide (x < -(2 ^ 63)) || decide (x ≥ 2 ^ 63)) = false) (c1 : (items.isEmpty || x == 1) = true) :
    Meets (Builtin.«tuple.__mul__» ⟨[.ref l, .int x u], []⟩) (fun _ R s => s.heap.get? l = some { cls := .type "tuple", dict := dd, data := .seq items n, slots := sl } ∧ R (.ok (.ret (Value.ref l))) s) :=
  .of_wp fun prog w A R s h => by
    obtain ⟨hp, g, d, tk, os⟩ := s
    obtain ⟨hl, h⟩ := h
    have f1 := AutoSeq1.idx_int
    wp_walk using wpAny_loadPart' hl
    repeat (first
      | (refine wpAny_ite_false (decide_eq_false (by rw [c0]; exact Bool.false_ne_true)) ?_; wp_walk using wpAny_loadPart' hl)
      | (refine wpAny_ite_true (decide_eq_true (by rw [c1])) ?_; wp_walk using wpAny_loadPart' hl))
    exact ⟨_, rfl, h⟩
theorem tuple_mul_none (l : Addr) (items : Array Value) (n : Nat) (dd : Option Addr) (sl : Array (Option Value)) (x : Int) (u : Tok) (c0 : (decide (x < -(2 ^ 63)) || decide (x ≥ 2 ^ 63)) = false) (c1 : (items.isEmpty || x == 1) = false) (c2 : (decide (x ≤ 0) || items.isEmpty) = true) :
    Meets (Builtin.«tuple.__mul__» ⟨[.ref l, .int x u], []⟩) (fun _ R s => s.heap.get? l = some { cls := .type "tuple", dict := dd, data := .seq items n, slots := sl } ∧
      R (.ok (.ret (Value.ref s.heap.objs.size))) { s with heap := s.heap.push { cls := Value.type "tuple", data := Data.seq #[] }, toks := s.toks }) :=
  .of_wp fun prog w A R s h => by
    obtain ⟨hp, g, d, tk, os⟩ := s
    obtain ⟨hl, h⟩ := h
    have f1 := AutoSeq1.idx_int
    have hsz : (#[] : Array Value).size ≤ sizeLine := Nat.zero_le _
    wp_walk using wpAny_loadPart' hl
    repeat (first
      | (refine wpAny_ite_false (decide_eq_false (by rw [c0]; exact Bool.false_ne_true)) ?_; wp_walk using wpAny_loadPart' hl)
      | (refine wpAny_ite_false (decide_eq_false (by rw [c1]; exact Bool.false_ne_true)) ?_; wp_walk using wpAny_loadPart' hl)
      | (refine wpAny_ite_true (decide_eq_true (by rw [c2])) ?_; wp_walk using wpAny_loadPart' hl)
      | (refine wpAny_ite_false (decide_eq_false (Nat.not_lt.mpr hsz)) ?_; wp_walk using wpAny_loadPart' hl))
    exact ⟨_, rfl, h⟩
end
/-- a tuple times an int -/
def rRepA (K : PySem.W.Frag) : R2 := fun x y H Q => ∃ l k xs, x = .ref l ∧ y = .int k ∧ SqT K H l xs ∧ -(2 ^ 63) ≤ k ∧ k < 1000000 ∧ xs.length * k.toNat ≤ ln ∧
  (xs = [] ∨ k = 1 → Q (.ref l) H) ∧ (∀ p, H p = none → Q (.ref p) (upd H p (.tup (List.replicate k.toNat xs).flatten)))
theorem op_repA {X : Cx} : OpR X (binaryOp .Mult) (rRepA X.K) := by
  intro pins s σ H x y v u Q I rx ry h
  obtain ⟨l, k, xs, rfl, rfl, hT, h1, h2, hz, q1, q⟩ := h
  cases rx
  obtain ⟨t, rfl⟩ := ry
  obtain ⟨its, r, ⟨⟨cls, dd, data, sl⟩, ho, hc, n, hd⟩, hs⟩ := I.tuple hT
  simp only at hc hd
  subst hc hd
  have hle : its.length = xs.length := r.length.symm
  have c0 : (decide (k < -(2 ^ 63)) || decide (k ≥ 2 ^ 63)) = false := by
    rw [decide_eq_false (by omega), decide_eq_false (by omega)] <;> rfl
  refine wpAny_binaryOp_repeat_ref (T := "tuple") (U := "int") (by decide) ⟨_, ho, rfl⟩ (fun s' => typeIs_int s' k t) noFill_tuple_mul F.fills_int_mul F.slot_int_rmul repeat_tuple F.slot_int_index.lookup
    (call_meets F.slot_int_rmul (typeIs_int s k t) F.entry_int_rmul (F.args_int_rmul_2 _ _) (int_rmul_tuple k t l its.toArray n dd sl)
      ⟨ho, rfl, ⟨_, ho, rfl⟩, ?_⟩)
  have ei : its.toArray.isEmpty = decide (xs = []) := by
    cases its with
    | nil => cases r; rfl
    | cons a b => cases r with | cons _ _ => simp
  by_cases hA : xs = [] ∨ k = 1
  · have c1 : (its.toArray.isEmpty || k == 1) = true := by
      rw [ei]
      rcases hA with e | e
      · rw [decide_eq_true e]; rfl
      · rw [e]; simp
    exact call_meets F.slot_tuple_mul ⟨_, ho, rfl⟩ F.entry_tuple_mul (F.args_tuple_mul_2 _ _) (tuple_mul_same l its.toArray n dd sl k t c0 c1) ⟨ho, ⟨.ref l, H, I, rfl, q1 hA⟩⟩
  · have hne : ¬ xs = [] := fun e => hA (.inl e)
    have hk1 : ¬ k = 1 := fun e => hA (.inr e)
    have c1 : (its.toArray.isEmpty || k == 1) = false := by
      rw [ei, decide_eq_false hne, Bool.false_or]
      exact beq_eq_false_iff_ne.mpr hk1
    by_cases hk : k ≤ 0
    · have c2 : (decide (k ≤ 0) || its.toArray.isEmpty) = true := by rw [decide_eq_true hk]; rfl
      refine call_meets F.slot_tuple_mul ⟨_, ho, rfl⟩ F.entry_tuple_mul (F.args_tuple_mul_2 _ _) (tuple_mul_none l its.toArray n dd sl k t c0 c1 c2) ⟨ho, ?_⟩
      have e0 : k.toNat = 0 := by omega
      have q' := q _ (I.hok.fresh (Nat.le_refl _))
      rw [e0] at q'
      refine ⟨.ref s.heap.objs.size, _, I.laid (t' := s.toks) (o := .tup []) (fun b ob q => Heap.get?_push_of_some _ q) (Nat.le_refl _) ?_, rfl, q'⟩
      exact ⟨Nat.zero_le _, [], .nil, IsTup.new _ _⟩
    · have c2 : (decide (k ≤ 0) || its.toArray.isEmpty) = false := by
        rw [decide_eq_false hk, ei, decide_eq_false hne]; rfl
      have hsz0 : its.toArray.size = xs.length := by rw [List.size_toArray, hle]
      have hm : ((its.toArray.size : Nat) : Int) * k ≤ ln := by
        rw [hsz0]
        have e : ((xs.length : Nat) : Int) * k = ((xs.length * k.toNat : Nat) : Int) := by
          rw [Int.natCast_mul]
          congr 1
          omega
        rw [e]
        exact Int.ofNat_le.mpr hz
      have flen : (List.replicate k.toNat its).flatten.length ≤ sizeLine := by
        rw [PyProof.Rows.lm_len_rep_flat, hle, ln_eq, Nat.mul_comm]
        exact hz
      have c4 : Builtin.Tuple.tupleTooMany (((its.toArray.size : Nat) : Int) * k) = false := by
        unfold Builtin.Tuple.tupleTooMany
        rw [ln_eq]
        exact decide_eq_false (by omega)
      refine call_meets F.slot_tuple_mul ⟨_, ho, rfl⟩ F.entry_tuple_mul (F.args_tuple_mul_2 _ _) (tuple_mulW l its.toArray n dd sl k t c0 c1 c2 (by have h16 : ((ln : Nat) : Int) = 16777216 := rfl; omega) c4 (by rw [size_rep, List.size_toArray]; exact flen)) ⟨ho, ?_⟩
      rw [size_rep]
      refine ⟨.ref s.heap.objs.size, _, I.laid (t' := s.toks) (o := .tup (List.replicate k.toNat xs).flatten) (fun b ob q => Heap.get?_push_of_some _ q) (Nat.le_refl _) ?_, rfl, q _ (I.hok.fresh (Nat.le_refl _))⟩
      exact ⟨by rw [PyProof.Rows.lm_len_rep_flat, ln_eq, Nat.mul_comm]; exact hz, _, r.rep k.toNat, IsTup.new _ _⟩
/-- a text times an int -/
theorem op_repS {X : Cx} : OpR X (binaryOp .Mult) (fun x y H Q => ∃ (l : List Nat) (k : Int), x = .str (mk l) ∧ y = .int k ∧ -(2 ^ 63) ≤ k ∧ k < 1000000 ∧ l.length * k.toNat ≤ ln ∧ Q (.str (mk (repS l k.toNat))) H) := by
  intro pins s σ H x y v u Q I rx ry h
  obtain ⟨l, k, rfl, rfl, h1, h2, hz, q⟩ := h
  obtain ⟨t, rfl⟩ := rx
  obtain ⟨t', rfl⟩ := ry
  have hlz : ((l.length : Nat) : Int) * k = ((l.length * k.toNat : Nat) : Int) ∨ k < 1 := by
    by_cases hk : k < 1
    · exact .inr hk
    · refine .inl ?_
      rw [Int.natCast_mul]
      congr 1
      omega
  refine PySem.P.mul_str (by rw [decide_eq_false (by omega), decide_eq_false (by omega)]; rfl) (fun hk _ => ?_) (fun hk _ => ?_) ?_
  · rw [mk_len]
    intro hgt
    have h3 : ((2 : Int) ^ 63 - 1) / k < (l.length : Int) := hgt
    have hkp : 0 < k := by omega
    have h4 := Int.lt_mul_of_ediv_lt hkp h3
    rcases hlz with e | e
    · rw [e] at h4
      have h16 : ((l.length * k.toNat : Nat) : Int) ≤ 16777216 := Int.ofNat_le.mpr hz
      omega
    · omega
  · rw [mk_len]
    unfold PySem.Builtin.Str.tooLong
    rw [ln_eq]
    exact decide_eq_false (by omega)
  · by_cases hk : k < 1
    · rw [if_pos hk]
      have e0 : k.toNat = 0 := by omega
      rw [e0] at q
      exact ⟨by decide, .str (mk []), H, I.tok _, ⟨_, rfl⟩, q⟩
    · rw [if_neg hk]
      by_cases h1' : (k == 1 || (mk l).length == 0) = true
      · rw [if_pos h1']
        have e : repS l k.toNat = l := by
          rw [Bool.or_eq_true, beq_iff_eq, beq_iff_eq, mk_len] at h1'
          rcases h1' with e | e
          · subst e; simp [repS]
          · have : l = [] := List.eq_nil_of_length_eq_zero e
            subst this
            simp [repS]
        rw [e] at q
        exact ⟨.str (mk l), H, I, ⟨_, rfl⟩, q⟩
      · rw [if_neg h1']
        rw [str_rep]
        refine ⟨?_, .str (mk (repS l k.toNat)), H, I.tok _, ⟨_, rfl⟩, q⟩
        show (repS l k.toNat).toArray.size ≤ sizeLine
        rw [List.size_toArray, rep_lenS, ln_eq]
        exact hz

theorem mul_cond {k : Int} {n : Nat} (h : (decide (-1000000 < k) && decide (k < 1000000) && decide (n * k.toNat ≤ ln)) = true) : -1000000 < k ∧ k < 1000000 ∧ n * k.toNat ≤ ln := by
  simpa [Bool.and_eq_true, and_assoc] using h
theorem opB_ok {X : Cx} (o : Bop) : OpR X (binaryOp (pyB o)) (rBin X.K (opB o)) := by
  rintro pins s σ H x y v u Q I rx ry ⟨Hs, ρ, B, a, b, d, le, bx, ra, rb, e, h⟩
  cases o with
  | add =>
    cases a with
    | int i =>
      cases b with
      | int j =>
        obtain rfl := ra.int
        obtain rfl := rb.int
        cases (show some (D.int (i + j)) = some d from e)
        exact op_add pins s σ H _ _ v u Q I rx ry ⟨i, j, rfl, rfl, Yld.int (p := false) h le bx⟩
      | _ => cases e
    | str i =>
      cases b with
      | str j =>
        obtain ⟨rfl, hi⟩ := ra.str
        obtain ⟨rfl, hj⟩ := rb.str
        obtain ⟨hl, e⟩ := cons_ite (show (if i.length + j.length ≤ ln then some (D.str (i ++ j)) else none) = some d from e)
        subst e
        refine op_add_str pins s σ H _ _ v u Q I rx ry ⟨mk i, mk j, rfl, rfl, by rw [mk_len, mk_len, ln_eq]; exact hl, ?_⟩
        rw [mk_app]
        exact Yld.str (p := false) h le bx ⟨fun c hc => (List.mem_append.mp hc).elim (hi.1 c) (hj.1 c), by rw [List.length_append]; exact hl⟩
      | _ => cases e
    | lst i =>
      cases b with
      | lst j =>
        obtain ⟨p, xs, rfl, hp, r1⟩ := ra.lst le
        obtain ⟨q, ys, rfl, hq, r2⟩ := rb.lst le
        obtain ⟨hl, e⟩ := cons_ite (show (if i.length + j.length ≤ ln then some (D.lst (i ++ j)) else none) = some d from e)
        subst e
        exact op_cat pins s σ H _ _ v u Q I rx ry ⟨p, q, xs, ys, rfl, rfl, hp, hq, by rw [← r1.length, ← r2.length, ln_eq]; exact hl, YldF.lst h le bx (r1.append r2)⟩
      | _ => cases e
    | tup i =>
      cases b with
      | tup j =>
        obtain ⟨p, xs, rfl, hp, r1⟩ := ra.tup le
        obtain ⟨q, ys, rfl, hq, r2⟩ := rb.tup le
        obtain ⟨hl, e⟩ := cons_ite (show (if i.length + j.length ≤ ln then some (D.tup (i ++ j)) else none) = some d from e)
        subst e
        have sc : ∀ {z : V} {l : List D}, RP X.K Hs ρ H (.tup l) z → Rep X.K Hs ρ (.tup l) z := fun {z l} r => by
          rcases r with r | ⟨_, _, z⟩
          · exact r
          · exact z.elim
        refine op_catA pins s σ H _ _ v u Q I rx ry ⟨p, q, xs, ys, rfl, rfl, SqT.of hp, SqT.of hq, by rw [← r1.length, ← r2.length, ln_eq]; exact hl, fun ex => ?_, fun _ ey => ?_, fun _ _ => Yld.tup (p := false) h le bx (r1.append r2)⟩
        · subst ex
          cases r1
          exact Yld.here (p := false) h le bx (sc rb)
        · subst ey
          cases r2
          rw [List.append_nil] at h
          exact Yld.here (p := false) h le bx (sc ra)
      | _ => cases e
    | _ => cases e
  | sub =>
    cases a with
    | int i =>
      cases b with
      | int j =>
        obtain rfl := ra.int
        obtain rfl := rb.int
        cases (show some (D.int (i - j)) = some d from e)
        exact op_sub pins s σ H _ _ v u Q I rx ry ⟨i, j, rfl, rfl, Yld.int (p := false) h le bx⟩
      | _ => cases e
    | _ => cases e
  | mul =>
    cases a with
    | int i =>
      cases b with
      | int j =>
        obtain rfl := ra.int
        obtain rfl := rb.int
        obtain ⟨hc, e⟩ := cons_ite (show (if (small i || small j) = true then some (D.int (i * j)) else none) = some d from e)
        subst e
        refine op_mul pins s σ H _ _ v u Q I rx ry ⟨i, j, rfl, rfl, ?_, Yld.int (p := false) h le bx⟩
        unfold small at hc
        simp only [Bool.or_eq_true, Bool.and_eq_true, decide_eq_true_eq] at hc
        exact hc
      | _ => cases e
    | str i =>
      cases b with
      | int k =>
        obtain ⟨rfl, hi⟩ := ra.str
        obtain rfl := rb.int
        obtain ⟨hc, e⟩ := cons_ite (show (if (decide (-1000000 < k) && decide (k < 1000000) && decide (i.length * k.toNat ≤ ln)) = true then some (D.str (repS i k.toNat)) else none) = some d from e)
        subst e
        obtain ⟨h1, h2, h3⟩ := mul_cond hc
        exact op_repS pins s σ H _ _ v u Q I rx ry ⟨i, k, rfl, rfl, by omega, h2, h3, Yld.str (p := false) h le bx ⟨all_rep hi.1 _, by rw [rep_lenS]; exact h3⟩⟩
      | _ => cases e
    | lst i =>
      cases b with
      | int k =>
        obtain ⟨p, xs, rfl, hp, r1⟩ := ra.lst le
        obtain rfl := rb.int
        obtain ⟨hc, e⟩ := cons_ite (show (if (decide (-1000000 < k) && decide (k < 1000000) && decide (i.length * k.toNat ≤ ln)) = true then some (D.lst (rep i k.toNat)) else none) = some d from e)
        subst e
        obtain ⟨h1, h2, h3⟩ := mul_cond hc
        exact op_rep pins s σ H _ _ v u Q I rx ry ⟨p, k, xs, rfl, rfl, hp, by omega, by omega, by rw [← r1.length, ln_eq]; exact h3, YldF.lst h le bx (rep_vs r1 _)⟩
      | _ => cases e
    | tup i =>
      cases b with
      | int k =>
        obtain ⟨p, xs, rfl, hp, r1⟩ := ra.tup le
        obtain rfl := rb.int
        obtain ⟨hc, e⟩ := cons_ite (show (if (decide (-1000000 < k) && decide (k < 1000000) && decide (i.length * k.toNat ≤ ln)) = true then some (D.tup (rep i k.toNat)) else none) = some d from e)
        subst e
        obtain ⟨h1, h2, h3⟩ := mul_cond hc
        refine op_repA pins s σ H _ _ v u Q I rx ry ⟨p, k, xs, rfl, rfl, SqT.of hp, by omega, h2, by rw [← r1.length]; exact h3, fun z => ?_, Yld.tup (p := false) h le bx (rep_vs r1 _)⟩
        have er : rep i k.toNat = i := by
          rcases z with z | z
          · subst z
            cases r1
            simp [rep]
          · subst z
            simp [rep]
        rw [er] at h
        rcases ra with ra | ⟨_, _, z⟩
        · exact Yld.here (p := false) h le bx ra
        · exact z.elim
      | _ => cases e
    | _ => cases e
  | fdiv =>
    cases a with
    | int i =>
      cases b with
      | int j =>
        obtain rfl := ra.int
        obtain rfl := rb.int
        obtain ⟨hc, e⟩ := cons_ite (show (if (decide (0 < j) && decide (j < 1073741824)) = true then some (D.int (i / j)) else none) = some d from e)
        subst e
        rw [Bool.and_eq_true, decide_eq_true_eq, decide_eq_true_eq] at hc
        exact op_fdiv pins s σ H _ _ v u Q I rx ry ⟨i, j, rfl, rfl, hc, Yld.int (p := false) h le bx⟩
      | _ => cases e
    | _ => cases e
  | mod =>
    cases a with
    | int i =>
      cases b with
      | int j =>
        obtain rfl := ra.int
        obtain rfl := rb.int
        obtain ⟨hc, e⟩ := cons_ite (show (if 0 < j then some (D.int (i % j)) else none) = some d from e)
        subst e
        exact op_mod pins s σ H _ _ v u Q I rx ry ⟨i, j, rfl, rfl, hc, Yld.int (p := false) h le bx⟩
      | _ => cases e
    | _ => cases e
  | pow =>
    cases a with
    | int i =>
      cases b with
      | int j =>
        obtain rfl := ra.int
        obtain rfl := rb.int
        obtain ⟨hc, e⟩ := cons_ite (show (if (decide (0 ≤ j) && decide (j ≤ 1000) && decide (i.natAbs < 2 ^ 64)) = true then some (D.int (i ^ j.toNat)) else none) = some d from e)
        subst e
        simp only [Bool.and_eq_true, decide_eq_true_eq] at hc
        exact op_pow pins s σ H _ _ v u Q I rx ry ⟨i, j, rfl, rfl, ⟨hc.1.1, by omega, hc.2⟩, Yld.int (p := false) h le bx⟩
      | _ => cases e
    | _ => cases e
end Pz
end
section
set_option Elab.async false
set_option linter.all false
set_option maxRecDepth 100000
set_option maxHeartbeats 2000000
namespace Pz
open PySem PySem.Spec PyProof.Rows L2 Ob

mutual
/-- as the library's data -/
def D.py : D → PyData
  | .non => .none
  | .bl b => .bool b
  | .int i => .int i
  | .str l => .str (mk l)
  | .tup l => .tuple (D.pyL l)
  | .lst l => .list (D.pyL l)
  | _ => .none
def D.pyL : List D → List PyData
  | [] => []
  | d :: l => D.py d :: D.pyL l
end
theorem max64 {a b : Nat} (h : max a b ≤ 64) : a ≤ 64 ∧ b ≤ 64 := by omega
theorem big64 (h : 1000 ≤ 64) : False := by omega
section
variable {K : PySem.W.Frag} {Hs H : Hp} {ρ : List Addr}
mutual
theorem Rep.dp (le : Le Hs H) : ∀ {d : D} {v : V}, Rep K Hs ρ d v → d.dep ≤ 64 → Dp K H v d.py
  | _, _, .non, _ => by simp only [D.py]; exact .non
  | _, _, .bl b, _ => by simp only [D.py]; exact .bl b
  | _, _, .int i, _ => by simp only [D.py]; exact .int i
  | _, _, .str h, _ => by simp only [D.py]; exact .str _
  | _, _, .tup h r, e => by
    simp only [D.dep] at e
    simp only [D.py]
    exact .tup (.inl (.inl (le.tup h))) (RepL.dp le r (by omega))
  | _, _, .lst h r, e => by
    simp only [D.dep] at e
    simp only [D.py]
    exact .lst (.inl (.inl (le.lst h))) (RepL.dp le r (by omega))
  | _, _, .dK _ _, e => by simp only [D.dep] at e; exact (big64 e).elim
  | _, _, .dT _ _, e => by simp only [D.dep] at e; exact (big64 e).elim
  | _, _, .box _, e => by simp only [D.dep] at e; exact (big64 e).elim
  | _, _, .scr _ _, e => by simp only [D.dep] at e; exact (big64 e).elim
theorem RepL.dp (le : Le Hs H) : ∀ {d : List D} {v : List V}, RepL K Hs ρ d v → D.depL d ≤ 64 → DpAll K H v (D.pyL d)
  | _, _, .nil, _ => by simp only [D.pyL]; exact .nil
  | _, _, .cons h r, e => by
    simp only [D.depL] at e
    simp only [D.pyL]
    exact .cons (Rep.dp le h (max64 e).1) (RepL.dp le r (max64 e).2)
end
theorem RP.dp (le : Le Hs H) {d : D} {v : V} (r : RP K Hs ρ H d v) (e : d.dep ≤ 64) : Dp K H v d.py := by
  rcases r with r | ⟨a, rfl, o⟩
  · exact Rep.dp le r e
  · cases d with
    | lst l =>
      obtain ⟨xs, h, r⟩ := o
      simp only [D.dep] at e
      simp only [D.py]
      exact .lst (.inl (.inl h)) (RepL.dp le r (by omega))
    | dic t l => simp only [D.dep] at e; exact (big64 e).elim
    | _ => exact o.elim
end
theorem strOk_mk {l : List Nat} (h' : SOk l) : PyData.strOk (mk l) = true := by
  have h := h'.1
  unfold PyData.strOk
  show l.toArray.all _ = true
  rw [List.all_toArray, List.all_eq_true]
  intro c hc
  have := h c hc
  exact decide_eq_true (by omega)
section
variable {K : PySem.W.Frag} {Hs H : Hp} {ρ : List Addr}
mutual
theorem Rep.lay : ∀ {d : D} {v : V}, Rep K Hs ρ d v → d.dep ≤ 64 → d.py.canLay0 = true
  | _, _, .non, _ => by simp only [D.py, PyData.canLay0]
  | _, _, .bl b, _ => by simp only [D.py, PyData.canLay0]
  | _, _, .int i, _ => by simp only [D.py, PyData.canLay0]
  | _, _, .str h, _ => by simp only [D.py, PyData.canLay0]; exact strOk_mk h
  | _, _, .tup h r, e => by
    simp only [D.dep] at e
    simp only [D.py, PyData.canLay0]
    exact RepL.lay r (by omega)
  | _, _, .lst h r, e => by
    simp only [D.dep] at e
    simp only [D.py, PyData.canLay0]
    exact RepL.lay r (by omega)
  | _, _, .dK _ _, e => by simp only [D.dep] at e; exact (big64 e).elim
  | _, _, .dT _ _, e => by simp only [D.dep] at e; exact (big64 e).elim
  | _, _, .box _, e => by simp only [D.dep] at e; exact (big64 e).elim
  | _, _, .scr _ _, e => by simp only [D.dep] at e; exact (big64 e).elim
theorem RepL.lay : ∀ {d : List D} {v : List V}, RepL K Hs ρ d v → D.depL d ≤ 64 → PyData.canLayAll0 (D.pyL d) = true
  | _, _, .nil, _ => by simp only [D.pyL, PyData.canLayAll0]
  | _, _, .cons h r, e => by
    simp only [D.depL] at e
    simp only [D.pyL, PyData.canLayAll0, Rep.lay h (max64 e).1, RepL.lay r (max64 e).2, Bool.and_self]
end
theorem RP.lay {d : D} {v : V} (r : RP K Hs ρ H d v) (e : d.dep ≤ 64) : d.py.canLay0 = true := by
  rcases r with r | ⟨a, rfl, o⟩
  · exact r.lay e
  · cases d with
    | lst l =>
      obtain ⟨xs, h, r⟩ := o
      simp only [D.dep] at e
      simp only [D.py, PyData.canLay0]
      exact r.lay (by omega)
    | dic t l => simp only [D.dep] at e; exact (big64 e).elim
    | _ => exact o.elim
end
mutual
theorem py_depth : ∀ d : D, d.py.depth ≤ d.dep
  | .non => by simp [D.py, PyData.depth]
  | .bl b => by simp [D.py, PyData.depth]
  | .int i => by simp [D.py, PyData.depth]
  | .str l => by simp [D.py, PyData.depth]
  | .tup l => by
    have := py_depthL l
    simp only [D.py, PyData.depth, D.dep]; omega
  | .lst l => by
    have := py_depthL l
    simp only [D.py, PyData.depth, D.dep]; omega
  | .dic _ _ => by simp [D.py, PyData.depth]
  | .box _ => by simp [D.py, PyData.depth]
  | .fn _ => by simp [D.py, PyData.depth]
  | .scr _ => by simp [D.py, PyData.depth]
theorem py_depthL : ∀ l : List D, PyData.depthAll (D.pyL l) ≤ D.depL l
  | [] => by simp [D.pyL, PyData.depthAll]
  | d :: l => by
    have h1 := py_depth d
    have h2 := py_depthL l
    simp only [D.pyL, PyData.depthAll, D.depL]
    omega
end
theorem mk_beq (x y : List Nat) : (mk x == mk y) = (x == y) := by
  by_cases h : x = y
  · subst h; simp
  · have h2 : ¬ mk x = mk y := fun e => h (mk_inj e)
    rw [beq_eq_false_iff_ne.mpr h, beq_eq_false_iff_ne.mpr h2]
mutual
theorem py_eqv : ∀ a b : D, a.dep ≤ 64 → b.dep ≤ 64 → PyData.eqv a.py b.py = D.eqv a b
  | .tup x, .tup y, h, k => by
    simp only [D.dep] at h k
    simp only [D.py, PyData.eqv, D.eqv]
    exact py_eqvL x y (by omega) (by omega)
  | .lst x, .lst y, h, k => by
    simp only [D.dep] at h k
    simp only [D.py, PyData.eqv, D.eqv]
    exact py_eqvL x y (by omega) (by omega)
  | .dic _ _, _, h, _ => by simp only [D.dep] at h; exact (big64 h).elim
  | .box _, _, h, _ => by simp only [D.dep] at h; exact (big64 h).elim
  | .fn _, _, h, _ => by simp only [D.dep] at h; exact (big64 h).elim
  | .scr _, _, h, _ => by simp only [D.dep] at h; exact (big64 h).elim
  | .non, b, _, k => by cases b <;> first | (simp only [D.dep] at k; exact (big64 k).elim) | simp only [D.py, PyData.eqv, D.eqv]
  | .bl _, b, _, k => by cases b <;> first | (simp only [D.dep] at k; exact (big64 k).elim) | simp only [D.py, PyData.eqv, D.eqv]
  | .int _, b, _, k => by cases b <;> first | (simp only [D.dep] at k; exact (big64 k).elim) | simp only [D.py, PyData.eqv, D.eqv]
  | .str x, b, _, k => by
    cases b with
    | str y => simp only [D.py, PyData.eqv, D.eqv]; exact mk_beq x y
    | _ => first | (simp only [D.dep] at k; exact (big64 k).elim) | simp only [D.py, PyData.eqv, D.eqv]
  | .tup _, .non, _, _ => by simp only [D.py, PyData.eqv, D.eqv]
  | .tup _, .bl _, _, _ => by simp only [D.py, PyData.eqv, D.eqv]
  | .tup _, .int _, _, _ => by simp only [D.py, PyData.eqv, D.eqv]
  | .tup _, .str _, _, _ => by simp only [D.py, PyData.eqv, D.eqv]
  | .tup _, .lst _, _, _ => by simp only [D.py, PyData.eqv, D.eqv]
  | .tup _, .dic _ _, _, k => by simp only [D.dep] at k; exact (big64 k).elim
  | .tup _, .box _, _, k => by simp only [D.dep] at k; exact (big64 k).elim
  | .tup _, .fn _, _, k => by simp only [D.dep] at k; exact (big64 k).elim
  | .tup _, .scr _, _, k => by simp only [D.dep] at k; exact (big64 k).elim
  | .lst _, .non, _, _ => by simp only [D.py, PyData.eqv, D.eqv]
  | .lst _, .bl _, _, _ => by simp only [D.py, PyData.eqv, D.eqv]
  | .lst _, .int _, _, _ => by simp only [D.py, PyData.eqv, D.eqv]
  | .lst _, .str _, _, _ => by simp only [D.py, PyData.eqv, D.eqv]
  | .lst _, .tup _, _, _ => by simp only [D.py, PyData.eqv, D.eqv]
  | .lst _, .dic _ _, _, k => by simp only [D.dep] at k; exact (big64 k).elim
  | .lst _, .box _, _, k => by simp only [D.dep] at k; exact (big64 k).elim
  | .lst _, .fn _, _, k => by simp only [D.dep] at k; exact (big64 k).elim
  | .lst _, .scr _, _, k => by simp only [D.dep] at k; exact (big64 k).elim
theorem py_eqvL : ∀ x y : List D, D.depL x ≤ 64 → D.depL y ≤ 64 → PyData.eqvAll (D.pyL x) (D.pyL y) = D.eqvL x y
  | [], [], _, _ => by simp only [D.pyL, PyData.eqvAll, D.eqvL]
  | [], _ :: _, _, _ => by simp only [D.pyL, PyData.eqvAll, D.eqvL]
  | _ :: _, [], _, _ => by simp only [D.pyL, PyData.eqvAll, D.eqvL]
  | a :: x, b :: y, h, k => by
    simp only [D.depL] at h k
    simp only [D.pyL, PyData.eqvAll, D.eqvL, py_eqv a b (max64 h).1 (max64 k).1, py_eqvL x y (max64 h).2 (max64 k).2]
end
theorem cons_ite' {α : Type} {c : Prop} [Decidable c] {a : Option α} {d : α} (h : (if c then a else none) = some d) : c ∧ a = some d := by
  split at h
  · rename_i q
    exact ⟨q, h⟩
  · cases h
theorem ok64_dep {d : D} (h : ok64 d = true) : d.dep ≤ 64 := of_decide_eq_true h

/-! ### comparisons -/
def pyC : Cop → CmpOp
  | .eq => .Eq | .ne => .NotEq | .lt => .Lt | .le => .LtE | .gt => .Gt | .ge => .GtE | .is => .Is | .isNot => .IsNot | .isIn => .In | .notIn => .NotIn
def rCmp (K : PySem.W.Frag) (f : D → D → Option Bool) : R2 := fun x y H Q => ∃ Hs ρ B a b d, Le Hs H ∧ BOk K Hs ρ H B ∧ RP K Hs ρ H a x ∧ RP K Hs ρ H b y ∧ f a b = some d ∧ Yld K false Hs ρ H B (.bl d) Q
theorem eqD_some {a b : D} {d : Bool} (h : eqD a b = some d) : a.dep ≤ 64 ∧ b.dep ≤ 64 ∧ d = D.eqv a b := by
  unfold eqD at h
  obtain ⟨hc, e⟩ := cons_ite h
  rw [Bool.and_eq_true] at hc
  exact ⟨ok64_dep hc.1, ok64_dep hc.2, e.symm⟩
theorem opEq_ok {X : Cx} (hu : X.A.units + 70 < cLine) : OpR X (compareOp .Eq) (rCmp X.K eqD) := by
  rintro pins s σ H x y v u Q I rx ry ⟨Hs, ρ, B, a, b, d, le, bx, ra, rb, e, h⟩
  obtain ⟨ha, hb, rfl⟩ := eqD_some e
  obtain ⟨as, r1⟩ := Dp.reads I _ x v (RP.dp le ra ha) rx
  obtain ⟨bs, r2⟩ := Dp.reads I _ y u (RP.dp le rb hb) ry
  have h1 := py_depth a
  refine SeqAt.compareEq_reads r1 r2 (ra.lay ha) (rb.lay hb) (by omega) ?_
  rw [py_eqv a b ha hb]
  exact ⟨.bl _, H, I, rfl, h.bl le bx⟩
theorem opNe_ok {X : Cx} (hu : X.A.units + 70 < cLine) : OpR X (compareOp .NotEq) (rCmp X.K fun a b => (eqD a b).map not) := by
  rintro pins s σ H x y v u Q I rx ry ⟨Hs, ρ, B, a, b, d, le, bx, ra, rb, e, h⟩
  obtain ⟨d', e', rfl⟩ := Option.map_eq_some_iff.mp e
  obtain ⟨ha, hb, rfl⟩ := eqD_some e'
  obtain ⟨as, r1⟩ := Dp.reads I _ x v (RP.dp le ra ha) rx
  obtain ⟨bs, r2⟩ := Dp.reads I _ y u (RP.dp le rb hb) ry
  have h1 := py_depth a
  refine SeqAt.compareNe_reads r1 r2 (ra.lay ha) (rb.lay hb) (by omega) ?_
  rw [py_eqv a b ha hb]
  exact ⟨.bl _, H, I, rfl, h.bl le bx⟩

/-! ### order -/
theorem lex_eq (l m : List D) : ∀ (k i : Nat), i ≤ l.length → i ≤ m.length → k = min (l.length - i) (m.length - i) →
    lexAt (fun j => D.eqv (l.getD j .non) (m.getD j .non)) (fun j => D.ltb (l.getD j .non) (m.getD j .non)) (decide (l.length < m.length)) i k = D.ltbL (l.drop i) (m.drop i) := by
  intro k
  induction k with
  | zero =>
    intro i hil him hk
    rw [lexAt_zero]
    by_cases hl : l.length ≤ i
    · rw [List.drop_eq_nil_of_le hl]
      by_cases hm : m.length ≤ i
      · rw [List.drop_eq_nil_of_le hm]
        simp only [D.ltbL]
        exact decide_eq_false (by omega)
      · rw [List.drop_eq_getElem_cons (by omega)]
        simp only [D.ltbL]
        exact decide_eq_true (by omega)
    · have hm : m.length ≤ i := by omega
      rw [List.drop_eq_getElem_cons (show i < l.length by omega), List.drop_eq_nil_of_le hm]
      simp only [D.ltbL]
      exact decide_eq_false (by omega)
  | succ k ih =>
    intro i hil him hk
    have hl : i < l.length := by omega
    have hm : i < m.length := by omega
    rw [lexAt_succ, ih (i + 1) (by omega) (by omega) (by omega), List.drop_eq_getElem_cons hl, List.drop_eq_getElem_cons hm]
    have e1 : l.getD i .non = l[i] := by rw [List.getD_eq_getElem?_getD, List.getElem?_eq_getElem hl]; rfl
    have e2 : m.getD i .non = m[i] := by rw [List.getD_eq_getElem?_getD, List.getElem?_eq_getElem hm]; rfl
    rw [e1, e2]
    simp only [D.ltbL]
mutual
theorem eqv_comm : ∀ a b : D, D.eqv a b = D.eqv b a
  | .tup x, .tup y => by simp only [D.eqv]; exact eqv_commL x y
  | .lst x, .lst y => by simp only [D.eqv]; exact eqv_commL x y
  | .bl a, .bl b => by simp only [D.eqv]; exact Bool.beq_comm
  | .bl a, .int j => by simp only [D.eqv]; exact Bool.beq_comm
  | .int i, .bl b => by simp only [D.eqv]; exact Bool.beq_comm
  | .int i, .int j => by simp only [D.eqv]; exact Bool.beq_comm
  | .str x, .str y => by simp only [D.eqv]; exact Bool.beq_comm
  | .non, b => by cases b <;> simp only [D.eqv]
  | .dic _ _, b => by cases b <;> simp only [D.eqv]
  | .box _, b => by cases b <;> simp only [D.eqv]
  | .fn _, b => by cases b <;> simp only [D.eqv]
  | .scr _, b => by cases b <;> simp only [D.eqv]
  | .bl _, .non => by simp only [D.eqv]
  | .bl _, .str _ => by simp only [D.eqv]
  | .bl _, .tup _ => by simp only [D.eqv]
  | .bl _, .lst _ => by simp only [D.eqv]
  | .bl _, .dic _ _ => by simp only [D.eqv]
  | .bl _, .box _ => by simp only [D.eqv]
  | .bl _, .fn _ => by simp only [D.eqv]
  | .bl _, .scr _ => by simp only [D.eqv]
  | .int _, .non => by simp only [D.eqv]
  | .int _, .str _ => by simp only [D.eqv]
  | .int _, .tup _ => by simp only [D.eqv]
  | .int _, .lst _ => by simp only [D.eqv]
  | .int _, .dic _ _ => by simp only [D.eqv]
  | .int _, .box _ => by simp only [D.eqv]
  | .int _, .fn _ => by simp only [D.eqv]
  | .int _, .scr _ => by simp only [D.eqv]
  | .str _, .non => by simp only [D.eqv]
  | .str _, .bl _ => by simp only [D.eqv]
  | .str _, .int _ => by simp only [D.eqv]
  | .str _, .tup _ => by simp only [D.eqv]
  | .str _, .lst _ => by simp only [D.eqv]
  | .str _, .dic _ _ => by simp only [D.eqv]
  | .str _, .box _ => by simp only [D.eqv]
  | .str _, .fn _ => by simp only [D.eqv]
  | .str _, .scr _ => by simp only [D.eqv]
  | .tup _, .non => by simp only [D.eqv]
  | .tup _, .bl _ => by simp only [D.eqv]
  | .tup _, .int _ => by simp only [D.eqv]
  | .tup _, .str _ => by simp only [D.eqv]
  | .tup _, .lst _ => by simp only [D.eqv]
  | .tup _, .dic _ _ => by simp only [D.eqv]
  | .tup _, .box _ => by simp only [D.eqv]
  | .tup _, .fn _ => by simp only [D.eqv]
  | .tup _, .scr _ => by simp only [D.eqv]
  | .lst _, .non => by simp only [D.eqv]
  | .lst _, .bl _ => by simp only [D.eqv]
  | .lst _, .int _ => by simp only [D.eqv]
  | .lst _, .str _ => by simp only [D.eqv]
  | .lst _, .tup _ => by simp only [D.eqv]
  | .lst _, .dic _ _ => by simp only [D.eqv]
  | .lst _, .box _ => by simp only [D.eqv]
  | .lst _, .fn _ => by simp only [D.eqv]
  | .lst _, .scr _ => by simp only [D.eqv]
theorem eqv_commL : ∀ x y : List D, D.eqvL x y = D.eqvL y x
  | [], [] => rfl
  | [], _ :: _ => by simp only [D.eqvL]
  | _ :: _, [] => by simp only [D.eqvL]
  | a :: x, b :: y => by simp only [D.eqvL]; rw [eqv_comm a b, eqv_commL x y]
end
theorem lex_gt (l m : List D) (k i : Nat) (hl : i ≤ l.length) (hm : i ≤ m.length) (h : k = min (l.length - i) (m.length - i)) :
    lexAt (fun j => D.eqv (l.getD j .non) (m.getD j .non)) (fun j => D.ltb (m.getD j .non) (l.getD j .non)) (decide (l.length > m.length)) i k = D.ltbL (m.drop i) (l.drop i) := by
  have e : (fun j => D.eqv (l.getD j .non) (m.getD j .non)) = fun j => D.eqv (m.getD j .non) (l.getD j .non) := by
    funext j
    exact eqv_comm _ _
  rw [e]
  exact lex_eq m l k i hm hl (by omega)
theorem ltS_lex : ∀ x y : List Nat, ltS x y = decide (x < y)
  | [], [] => by simp [ltS]
  | [], _ :: _ => by simp [ltS]
  | _ :: _, [] => by simp [ltS]
  | a :: x, b :: y => by
    simp only [ltS, List.cons_lt_cons_iff]
    by_cases h : a = b
    · subst h
      rw [if_pos rfl, ltS_lex x y]
      simp
    · rw [if_neg h]
      by_cases h2 : a < b <;> simp [h, h2]
theorem in1_units (A : Around) : A.in1.units = A.units + 1 := rfl
section
variable {X : Cx} {pins : List (Addr × Obj)} {σ : L2.St} {H Hs : Hp} {s : Shared} {ρ : List Addr}
theorem rep_eqAt (I : Inv X pins σ H s) (le : Le Hs H) {a b : D} {A : Around} {x y : V} {v u : Value} (ra : Rep X.K Hs ρ a x) (rb : Rep X.K Hs ρ b y) (rx : RelV x v) (ry : RelV y u) (ha : a.dep ≤ 64) (hb : b.dep ≤ 64) (hu : A.units + a.dep < cLine) :
    SeqAt.EqAt A s v u (D.eqv a b) := by
  obtain ⟨as, r1⟩ := Dp.reads I _ x v (ra.dp le ha) rx
  obtain ⟨bs, r2⟩ := Dp.reads I _ y u (rb.dp le hb) ry
  have h1 := py_depth a
  have h := SeqAt.eqAt_reads a.py b.py A s v u as bs r1 r2 (ra.lay ha) (rb.lay hb) (by omega)
  rw [py_eqv a b ha hb] at h
  exact h
/-- < or > -/
theorem rcS {op : Bool} {A : Around} {x y : List Nat} {t u : Tok} : RcOp (if op then .Lt else .Gt) A s (.str (mk x) t) (.str (mk y) u) (if op then ltS x y else ltS y x) := fun prog w E Q h => by
  cases op with
  | true =>
    refine PyProof.Rows.lt_str ?_
    rw [if_pos rfl, ltS_lex] at h
    simpa using h
  | false =>
    refine PySem.P.gt_str ?_
    rw [if_neg Bool.false_ne_true, ltS_lex] at h
    simpa using h
theorem rcI {op : Bool} {A : Around} {x y : Int} {t u : Tok} : RcOp (if op then .Lt else .Gt) A s (.int x t) (.int y u) (if op then decide (x < y) else decide (y < x)) := by
  cases op with
  | true => exact RcOp.lt_int x y t u
  | false => exact RcOp.gt_int x y t u

mutual
theorem rc_lt (I : Inv X pins σ H s) (le : Le Hs H) (op : Bool) : ∀ (a : D) (b : D) (A : Around) (x y : V) (v u : Value), Rep X.K Hs ρ a x → Rep X.K Hs ρ b y → RelV x v → RelV y u → a.dep ≤ 64 → b.dep ≤ 64 → A.units + a.dep + 1 < cLine → D.cmp a b = true →
    RcOp (if op then .Lt else .Gt) A s v u (if op then D.ltb a b else D.ltb b a)
  | .int i => fun b A x y v u ra rb rx ry ha hb hu hc => by
    cases b with
    | int j =>
      cases ra
      cases rb
      obtain ⟨t, rfl⟩ := rx
      obtain ⟨t', rfl⟩ := ry
      simp only [D.ltb]
      exact rcI
    | _ => exact absurd hc (by simp [D.cmp])
  | .str i => fun b A x y v u ra rb rx ry ha hb hu hc => by
    cases b with
    | str j =>
      cases ra
      cases rb
      obtain ⟨t, rfl⟩ := rx
      obtain ⟨t', rfl⟩ := ry
      simp only [D.ltb]
      exact rcS
    | _ => exact absurd hc (by simp [D.cmp])
  | .tup l => fun b A x y v u ra rb rx ry ha hb hu hc => by
    cases b with
    | tup m =>
      cases ra with
      | tup h1 r1 =>
      cases rb with
      | tup h2 r2 =>
      obtain ⟨its, rv, p, _⟩ := I.tuple (SqT.of (le.tup h1))
      obtain ⟨its2, rv2, p2, _⟩ := I.tuple (SqT.of (le.tup h2))
      cases rx
      cases ry
      simp only [D.dep] at ha hb hu
      simp only [D.cmp] at hc
      have L := rc_ltL I le op l m A.in1 _ _ its its2 r1 r2 rv rv2 (by omega) (by omega) (by rw [in1_units]; omega) hc
      have e1 : its.toArray.size = l.length := by rw [List.size_toArray, ← rv.length, r1.length]
      have e2 : its2.toArray.size = m.length := by rw [List.size_toArray, ← rv2.length, r2.length]
      have g := fun (j : Nat) (h1 : j < its.toArray.size) (h2 : j < its2.toArray.size) => L j (by simpa using h1) (by simpa using h2)
      cases op with
      | true =>
        have hh := RcOp.tuples_lt (A := A) (s := s) (e := fun j => D.eqv (l.getD j .non) (m.getD j .non)) (r := fun j => D.ltb (l.getD j .non) (m.getD j .non)) p p2 (by omega) (fun j h1 h2 => by simpa using (g j h1 h2).1) (fun j h1 h2 he => by simpa using (g j h1 h2).2 he)
        rw [e1, e2, lex_eq l m _ 0 (Nat.zero_le _) (Nat.zero_le _) (by omega)] at hh
        simpa only [D.ltb, if_true, List.drop_zero] using hh
      | false =>
        have hh := RcOp.tuples_gt (A := A) (s := s) (e := fun j => D.eqv (l.getD j .non) (m.getD j .non)) (r := fun j => D.ltb (m.getD j .non) (l.getD j .non)) p p2 (by omega) (fun j h1 h2 => by simpa using (g j h1 h2).1) (fun j h1 h2 he => by simpa using (g j h1 h2).2 he)
        rw [e1, e2, lex_gt l m _ 0 (Nat.zero_le _) (Nat.zero_le _) (by omega)] at hh
        simpa only [D.ltb, Bool.false_eq_true, if_false, List.drop_zero] using hh
    | _ => exact absurd hc (by simp [D.cmp])
  | .non => fun b A x y v u ra rb rx ry ha hb hu hc => by cases b <;> exact absurd hc (by simp [D.cmp])
  | .bl _ => fun b A x y v u ra rb rx ry ha hb hu hc => by cases b <;> exact absurd hc (by simp [D.cmp])
  | .lst _ => fun b A x y v u ra rb rx ry ha hb hu hc => by cases b <;> exact absurd hc (by simp [D.cmp])
  | .dic _ _ => fun b A x y v u ra rb rx ry ha hb hu hc => by cases b <;> exact absurd hc (by simp [D.cmp])
  | .box _ => fun b A x y v u ra rb rx ry ha hb hu hc => by cases b <;> exact absurd hc (by simp [D.cmp])
  | .fn _ => fun b A x y v u ra rb rx ry ha hb hu hc => by cases b <;> exact absurd hc (by simp [D.cmp])
  | .scr _ => fun b A x y v u ra rb rx ry ha hb hu hc => by cases b <;> exact absurd hc (by simp [D.cmp])
theorem rc_ltL (I : Inv X pins σ H s) (le : Le Hs H) (op : Bool) : ∀ (l : List D) (m : List D) (A : Around) (xs ys : List V) (its its2 : List Value), RepL X.K Hs ρ l xs → RepL X.K Hs ρ m ys → Vals xs its → Vals ys its2 → D.depL l ≤ 64 → D.depL m ≤ 64 → A.units + D.depL l + 1 < cLine → D.cmpL l m = true →
    ∀ (j : Nat) (h1 : j < its.length) (h2 : j < its2.length), SeqAt.EqAt A s its[j] its2[j] (D.eqv (l.getD j .non) (m.getD j .non)) ∧
      (D.eqv (l.getD j .non) (m.getD j .non) = false → RcOp (if op then .Lt else .Gt) A s its[j] its2[j] (if op then D.ltb (l.getD j .non) (m.getD j .non) else D.ltb (m.getD j .non) (l.getD j .non)))
  | [] => fun m A xs ys its its2 r1 r2 v1 v2 ha hb hu hc j h1 h2 => by
    cases r1
    cases v1
    exact absurd h1 (Nat.not_lt_zero _)
  | a :: l => fun m A xs ys its its2 r1 r2 v1 v2 ha hb hu hc j h1 h2 => by
    cases m with
    | nil =>
      cases r2
      cases v2
      exact absurd h2 (Nat.not_lt_zero _)
    | cons b m =>
      cases r1 with
      | cons ra rl =>
      cases r2 with
      | cons rb rm =>
      cases v1 with
      | cons va vl =>
      cases v2 with
      | cons vb vm =>
      simp only [D.depL] at ha hb hu
      simp only [D.cmpL, Bool.and_eq_true, Bool.or_eq_true] at hc
      cases j with
      | zero =>
        have q0 := rep_eqAt I le (A := A) ra rb va vb (show a.dep ≤ 64 by omega) (show b.dep ≤ 64 by omega) (by omega)
        refine ⟨q0, fun he => ?_⟩
        rcases hc.1 with q | q
        · have he' : D.eqv a b = false := he
          rw [q] at he'; cases he'
        · exact rc_lt I le op a b A _ _ _ _ ra rb va vb (by omega) (by omega) (by omega) q
      | succ j => exact rc_ltL I le op l m A _ _ _ _ rl rm vl vm (by omega) (by omega) (by omega) hc.2 j (Nat.lt_of_succ_lt_succ h1) (Nat.lt_of_succ_lt_succ h2)
end
theorem RP.repO {a : D} {x : V} (r : RP X.K Hs ρ H a x) (h : ∀ l, a ≠ .lst l) (h2 : ∀ t l, a ≠ .dic t l) : Rep X.K Hs ρ a x := by
  rcases r with r | ⟨_, _, o⟩
  · exact r
  · cases a with
    | lst l => exact absurd rfl (h l)
    | dic t l => exact absurd rfl (h2 t l)
    | _ => exact o.elim
theorem cmp_repL {a b : D} {x : V} (h : D.cmp a b = true) (r : RP X.K Hs ρ H a x) : Rep X.K Hs ρ a x := by
  refine r.repO (fun l e => ?_) (fun t l e => ?_) <;> subst e <;> cases b <;> simp only [D.cmp] at h <;> cases h
theorem cmp_repR {a b : D} {x : V} (h : D.cmp a b = true) (r : RP X.K Hs ρ H b x) : Rep X.K Hs ρ b x := by
  refine r.repO (fun l e => ?_) (fun t l e => ?_) <;> subst e <;> cases a <;> simp only [D.cmp] at h <;> cases h
end
theorem opLt_ok {X : Cx} (hu : X.A.units + 70 < cLine) : OpR X (compareOp .Lt) (rCmp X.K (opC .lt)) := by
  rintro pins s σ H x y v u Q I rx ry ⟨Hs, ρ, B, a, b, d, le, bx, ra, rb, e, h⟩
  obtain ⟨hc, e⟩ := cons_ite' (show (if (ok64 a && ok64 b) = true then D.lt a b else none) = some d from e)
  obtain ⟨hm, rfl⟩ := cons_ite (show (if D.cmp a b = true then some (D.ltb a b) else none) = some d from e)
  rw [Bool.and_eq_true] at hc
  have h1 := ok64_dep hc.1
  have hh := rc_lt I le true a b X.A x y v u (cmp_repL hm ra) (cmp_repR hm rb) rx ry h1 (ok64_dep hc.2) (by omega) hm
  exact hh _ _ _ _ ⟨.bl _, H, I, rfl, h.bl le bx⟩

mutual
theorem cmp_comm : ∀ (a b : D), D.cmp a b = D.cmp b a
  | .int _ => fun b => by cases b <;> simp only [D.cmp]
  | .str _ => fun b => by cases b <;> simp only [D.cmp]
  | .tup l => fun b => by
    cases b with
    | tup m => simp only [D.cmp]; exact cmp_commL l m
    | _ => simp only [D.cmp]
  | .non => fun b => by cases b <;> simp only [D.cmp]
  | .bl _ => fun b => by cases b <;> simp only [D.cmp]
  | .lst _ => fun b => by cases b <;> simp only [D.cmp]
  | .dic _ _ => fun b => by cases b <;> simp only [D.cmp]
  | .box _ => fun b => by cases b <;> simp only [D.cmp]
  | .fn _ => fun b => by cases b <;> simp only [D.cmp]
  | .scr _ => fun b => by cases b <;> simp only [D.cmp]
theorem cmp_commL : ∀ (l m : List D), D.cmpL l m = D.cmpL m l
  | [] => fun m => by cases m <;> simp only [D.cmpL]
  | a :: l => fun m => by
    cases m with
    | nil => simp only [D.cmpL]
    | cons b m => simp only [D.cmpL]; rw [eqv_comm a b, cmp_comm a b, cmp_commL l m]
end
theorem opGt_ok {X : Cx} (hu : X.A.units + 70 < cLine) : OpR X (compareOp .Gt) (rCmp X.K (opC .gt)) := by
  rintro pins s σ H x y v u Q I rx ry ⟨Hs, ρ, B, a, b, d, le, bx, ra, rb, e, h⟩
  obtain ⟨hc, e⟩ := cons_ite' (show (if (ok64 a && ok64 b) = true then D.lt b a else none) = some d from e)
  obtain ⟨hm, rfl⟩ := cons_ite (show (if D.cmp b a = true then some (D.ltb b a) else none) = some d from e)
  rw [Bool.and_eq_true] at hc
  have h1 := ok64_dep hc.1
  have hm' : D.cmp a b = true := (cmp_comm a b).trans hm
  have hh := rc_lt I le false a b X.A x y v u (cmp_repL hm' ra) (cmp_repR hm' rb) rx ry h1 (ok64_dep hc.2) (by omega) hm'
  exact hh _ _ _ _ ⟨.bl _, H, I, rfl, h.bl le bx⟩
theorem opLe_ok {X : Cx} : OpR X (compareOp .LtE) (rCmp X.K (opC .le)) := by
  rintro pins s σ H x y v u Q I rx ry ⟨Hs, ρ, B, a, b, d, le, bx, ra, rb, e, h⟩
  cases a with
  | int i =>
    cases b with
    | int j =>
      obtain rfl := ra.int
      obtain rfl := rb.int
      cases (show some (decide (i ≤ j)) = some d from e)
      exact op_le pins s σ H _ _ v u Q I rx ry ⟨i, j, rfl, rfl, h.bl le bx⟩
    | _ => cases e
  | _ => cases e
theorem opGe_ok {X : Cx} : OpR X (compareOp .GtE) (rCmp X.K (opC .ge)) := by
  rintro pins s σ H x y v u Q I rx ry ⟨Hs, ρ, B, a, b, d, le, bx, ra, rb, e, h⟩
  cases a with
  | int i =>
    cases b with
    | int j =>
      obtain rfl := ra.int
      obtain rfl := rb.int
      cases (show some (decide (j ≤ i)) = some d from e)
      exact op_ge pins s σ H _ _ v u Q I rx ry ⟨i, j, rfl, rfl, h.bl le bx⟩
    | _ => cases e
  | _ => cases e

/-! ### in -/
theorem any_py (x : D) (hx : x.dep ≤ 64) : ∀ l : List D, D.depL l ≤ 64 → (D.pyL l).any (fun y => PyData.eqv y x.py) = inL x l
  | [], _ => rfl
  | d :: l, h => by
    simp only [D.depL] at h
    have e := any_py x hx l (max64 h).2
    unfold inL at e ⊢
    simp only [D.pyL, List.any_cons, e, py_eqv d x (max64 h).1 hx]
theorem inS_some {x y : List Nat} {d : Bool} (h : inD (.str x) (.str y) = some d) : ∃ c, x = [c] ∧ d = y.contains c := by
  match x, h with
  | [c], h => exact ⟨c, rfl, (Option.some.inj h).symm⟩
theorem mem_contains (c : Nat) (y : List Nat) : decide (c ∈ (mk y).cps.toList) = y.contains c := by
  show decide (c ∈ y.toArray.toList) = _
  rw [List.contains_eq_mem]
theorem kget_pos {a k v : D} {r : List (D × D)} (h : D.same a k = true) : kget k ((a, v) :: r) = some v := by
  unfold kget
  rw [if_pos h]
theorem kget_neg {a k v : D} {r : List (D × D)} (h : D.same a k = false) : kget k ((a, v) :: r) = kget k r := by
  show (if D.same a k = true then some v else kget k r) = kget k r
  rw [if_neg (by rw [h]; exact Bool.false_ne_true)]
/-- a key of flat kind -/
inductive KeyR : D → Key → Prop
  | int (i : Int) : KeyR (.int i) (.inl i)
  | str {x : List Nat} : SOk x → KeyR (.str x) (.inr (mk x))
theorem KeyR.same {a b : D} {i j : Key} (h : KeyR a i) (k : KeyR b j) : D.same a b = decide (i = j) := by
  cases h with
  | int x =>
    cases k with
    | int y =>
      simp only [D.same]
      by_cases e : x = y
      · subst e; simp
      · rw [decide_eq_false e, decide_eq_false (fun z => e (Sum.inl.inj z))]
    | str _ => simp only [D.same]; rw [decide_eq_false (fun z => nomatch z)]
  | @str x hx =>
    cases k with
    | int y => simp only [D.same]; rw [decide_eq_false (fun z => nomatch z)]
    | @str y _ =>
      simp only [D.same]
      by_cases e : x = y
      · subst e; simp
      · rw [decide_eq_false e, decide_eq_false (fun z => e (mk_inj (Sum.inr.inj z)))]
section
variable {K : PySem.W.Frag} {Hs H : Hp} {ρ : List Addr}
theorem key_of {k : D} (h : k.keyOk false = true) {v : V} (r : RP K Hs ρ H k v) : ∃ kk, KeyR k kk ∧ v = kV kk := by
  cases k with
  | int i => exact ⟨.inl i, .int i, r.int⟩
  | str x =>
    obtain ⟨rfl, hx⟩ := r.str
    exact ⟨.inr (mk x), .str hx, rfl⟩
  | tup l => simp [D.keyOk] at h
  | _ => simp [D.keyOk] at h
/-- dicts, entry by entry -/
theorem RepK.cons_inv {k d : D} {l : List (D × D)} {kvs : List (Key × V)} (r : RepK K Hs ρ ((k, d) :: l) kvs) : ∃ kk v s, kvs = (kk, v) :: s ∧ KeyR k kk ∧ Rep K Hs ρ d v ∧ RepK K Hs ρ l s := by
  cases r with
  | int hd hr => exact ⟨_, _, _, rfl, .int _, hd, hr⟩
  | str hx hd hr => exact ⟨_, _, _, rfl, .str hx, hd, hr⟩
theorem RepK.cons_of {k d : D} {kk : Key} {v : V} {l : List (D × D)} {s : List (Key × V)} (hk : KeyR k kk) (hd : Rep K Hs ρ d v) (hr : RepK K Hs ρ l s) : RepK K Hs ρ ((k, d) :: l) ((kk, v) :: s) := by
  cases hk with
  | int _ => exact .int hd hr
  | str hx => exact .str hx hd hr
theorem RepK.get {k : D} {kk : Key} (hk : KeyR k kk) : ∀ {l : List (D × D)} {kvs : List (Key × V)}, RepK K Hs ρ l kvs →
    (∀ d, kget k l = some d → ∃ w, valV kvs kk = some w ∧ Rep K Hs ρ d w) ∧ (kget k l = none → valV kvs kk = none)
  | [], _, r => by cases r; exact ⟨fun d e => (by cases e), fun _ => rfl⟩
  | (a, d) :: l, kvs, r => by
    obtain ⟨ka, v, s, rfl, ha, hd, hr⟩ := r.cons_inv
    by_cases e : ka = kk
    · have es : D.same a k = true := by rw [ha.same hk]; exact decide_eq_true e
      rw [kget_pos es, valV_pos e]
      exact ⟨fun d' e => by cases e; exact ⟨v, rfl, hd⟩, fun e => by cases e⟩
    · have es : D.same a k = false := by rw [ha.same hk]; exact decide_eq_false e
      rw [kget_neg es, valV_neg e]
      exact RepK.get hk hr
theorem kput_pos {a k v x : D} {r : List (D × D)} (h : D.same a k = true) : kput k v ((a, x) :: r) = (a, v) :: r := by
  show (if D.same a k = true then (a, v) :: r else (a, x) :: kput k v r) = _
  rw [if_pos h]
theorem kput_neg {a k v x : D} {r : List (D × D)} (h : D.same a k = false) : kput k v ((a, x) :: r) = (a, x) :: kput k v r := by
  show (if D.same a k = true then (a, v) :: r else (a, x) :: kput k v r) = _
  rw [if_neg (by rw [h]; exact Bool.false_ne_true)]
end
/-- a key that is a tuple -/
theorem RepKs.rel {l : List D} {ks : List Key} (h : RepKs l ks) {K : PySem.W.Frag} {Hs : Hp} {ρ : List Addr} : RepL K Hs ρ l (ks.map kV) := by
  induction h with
  | nil => exact .nil
  | int _ ih => exact .cons (.int _) ih
  | str hx _ ih => exact .cons (.str hx) ih
theorem RepKs.of {K : PySem.W.Frag} {Hs : Hp} {ρ : List Addr} : ∀ {l : List D} {xs : List V}, l.all D.key1 = true → RepL K Hs ρ l xs → ∃ ks, RepKs l ks ∧ xs = ks.map kV
  | [], _, _, r => by cases r; exact ⟨[], .nil, rfl⟩
  | d :: l, _, h, r => by
    cases r with
    | cons hd hr =>
      rw [List.all_cons, Bool.and_eq_true] at h
      obtain ⟨ks, h1, h2⟩ := RepKs.of h.2 hr
      subst h2
      cases hd with
      | int i => exact ⟨.inl i :: ks, .int h1, rfl⟩
      | str hx => exact ⟨.inr (mk _) :: ks, .str hx h1, rfl⟩
      | _ => simp [D.key1] at h
theorem RepKs.same : ∀ {a b : List D} {i j : List Key}, RepKs a i → RepKs b j → D.sameL a b = decide (i = j)
  | [], [], _, _, .nil, .nil => by simp only [D.sameL]; simp
  | [], _ :: _, _, _, .nil, h => by cases h <;> (simp only [D.sameL]; rw [decide_eq_false (fun z => nomatch z)])
  | _ :: _, [], _, _, h, .nil => by cases h <;> (simp only [D.sameL]; rw [decide_eq_false (fun z => nomatch z)])
  | x :: a, y :: b, i, j, h, k => by
    have hx : ∃ i1 i2, i = i1 :: i2 ∧ KeyR x i1 ∧ RepKs a i2 := by
      cases h with
      | int h => exact ⟨_, _, rfl, .int _, h⟩
      | str q h => exact ⟨_, _, rfl, .str q, h⟩
    have hy : ∃ i1 i2, j = i1 :: i2 ∧ KeyR y i1 ∧ RepKs b i2 := by
      cases k with
      | int h => exact ⟨_, _, rfl, .int _, h⟩
      | str q h => exact ⟨_, _, rfl, .str q, h⟩
    obtain ⟨i1, i2, rfl, k1, h1⟩ := hx
    obtain ⟨j1, j2, rfl, k2, h2⟩ := hy
    simp only [D.sameL]
    rw [k1.same k2, RepKs.same h1 h2]
    by_cases e : i1 = j1
    · by_cases e2 : i2 = j2
      · subst e e2; simp
      · rw [decide_eq_false e2, Bool.and_false, decide_eq_false (fun z => e2 (List.cons.inj z).2)]
    · rw [decide_eq_false e, Bool.false_and, decide_eq_false (fun z => e (List.cons.inj z).1)]
section
variable {K : PySem.W.Frag} {Hs H : Hp} {ρ : List Addr}
theorem RepT.get {k : List D} {kk : List Key} (hk : RepKs k kk) : ∀ {l : List (D × D)} {kvs : List (List Key × V)}, RepT K Hs ρ l kvs →
    (∀ d, kget (.tup k) l = some d → ∃ w, valV kvs kk = some w ∧ Rep K Hs ρ d w) ∧ (kget (.tup k) l = none → valV kvs kk = none)
  | [], _, r => by cases r; exact ⟨fun d e => (by cases e), fun _ => rfl⟩
  | (a, d) :: l, kvs, r => by
    cases r with
    | @cons ka kka _ v _ s ha hd hr =>
      have sm : D.same (.tup ka) (.tup k) = decide (kka = kk) := by simp only [D.same]; exact ha.same hk
      by_cases e : kka = kk
      · rw [kget_pos (by rw [sm]; exact decide_eq_true e), valV_pos e]
        exact ⟨fun d' e => by cases e; exact ⟨v, rfl, hd⟩, fun e => by cases e⟩
      · rw [kget_neg (by rw [sm]; exact decide_eq_false e), valV_neg e]
        exact RepT.get hk hr
/-- what a dict holds at a key -/
theorem dget_of {t : Bool} {l : List (D × D)} {k : D} {x y : V} (le : Le Hs H) (rd : RP K Hs ρ H (.dic t l) x) (rk : RP K Hs ρ H k y) (h : k.keyOk t = true) :
    ∃ a o, x = .ref a ∧ DGet H a y o ∧ (∀ d, kget k l = some d → ∃ w, o = some w ∧ Rep K Hs ρ d w) ∧ (kget k l = none → o = none) := by
  cases t with
  | false =>
    obtain ⟨a, kvs, rfl, hr, r⟩ := rd.dK le
    obtain ⟨kk, hk, rfl⟩ := key_of h rk
    have g := r.get hk
    exact ⟨a, valV kvs kk, rfl, .inl ⟨kvs, kk, hr, rfl, rfl⟩, g.1, g.2⟩
  | true =>
    obtain ⟨a, kvs, rfl, hr, r⟩ := rd.dT le
    cases k with
    | tup ks =>
      obtain ⟨b, xs, rfl, hb, rx⟩ := rk.tup le
      have h1 : ks.all D.key1 = true := by simpa [D.keyOk] using h
      obtain ⟨kk, hk, rfl⟩ := RepKs.of h1 rx
      have g := r.get hk
      exact ⟨a, valV kvs kk, rfl, .inr ⟨kvs, kk, b, hr, rfl, hb, rfl⟩, g.1, g.2⟩
    | _ => simp [D.keyOk] at h
theorem isSome_of {k : D} {l : List (D × D)} {o : Option V} (h1 : ∀ d, kget k l = some d → ∃ w, o = some w ∧ Rep K Hs ρ d w) (h2 : kget k l = none → o = none) : o.isSome = (kget k l).isSome := by
  cases e : kget k l with
  | none => rw [h2 e]; rfl
  | some d => obtain ⟨w, h, _⟩ := h1 d e; rw [h]; rfl
end
theorem inL_some {x : D} {l : List D} {c : D} {d : Bool} (hc : c = .lst l ∨ c = .tup l) (h : inD x c = some d) : x.dep ≤ 64 ∧ D.depL l ≤ 64 ∧ d = inL x l := by
  have key : (if (ok64 x && ok64 c) = true then some (inL x l) else none) = some d → x.dep ≤ 64 ∧ D.depL l ≤ 64 ∧ d = inL x l := fun h => by
    obtain ⟨hc', e⟩ := cons_ite h
    rw [Bool.and_eq_true] at hc'
    have h2 := ok64_dep hc'.2
    refine ⟨ok64_dep hc'.1, ?_, e.symm⟩
    rcases hc with rfl | rfl <;> (simp only [D.dep] at h2; omega)
  rcases hc with rfl | rfl
  · exact key h
  · exact key h
theorem opIn_ok {X : Cx} (hu : X.A.units + 70 < cLine) : OpR X (compareOp .In) (rCmp X.K inD) := by
  rintro pins s σ H x y v u Q I rx ry ⟨Hs, ρ, B, a, b, d, le, bx, ra, rb, e, h⟩
  cases b with
  | str j =>
    cases a with
    | str i =>
      obtain ⟨c, rfl, rfl⟩ := inS_some e
      obtain ⟨rfl, _⟩ := ra.str
      obtain ⟨rfl, _⟩ := rb.str
      refine op_in_sign pins s σ H _ _ v u Q I rx ry ⟨c, mk j, rfl, rfl, ?_⟩
      rw [mem_contains]
      exact h.bl le bx
    | _ => cases e
  | lst l =>
    obtain ⟨ha, hl, rfl⟩ := inL_some (.inl rfl) e
    have hd : D.dep (.lst l) ≤ 65 := by simp only [D.dep]; omega
    obtain ⟨p, xs, rfl, hp, r⟩ := rb.lst le
    obtain ⟨as, r1⟩ := Dp.reads I _ x v (RP.dp le ra ha) rx
    obtain ⟨bs, r2⟩ := Dp.reads I (.list (D.pyL l)) _ u (.lst (SqL.of hp) (r.dp le hl)) ry
    have h1 := py_depth a
    refine SeqAt.in_list_reads r2 r1 (r.lay hl) (ra.lay ha) (by omega) ?_
    rw [any_py a ha l hl]
    exact ⟨.bl _, H, I, rfl, h.bl le bx⟩
  | tup l =>
    obtain ⟨ha, hl, rfl⟩ := inL_some (.inr rfl) e
    obtain ⟨p, xs, rfl, hp, r⟩ := rb.tup le
    obtain ⟨as, r1⟩ := Dp.reads I _ x v (RP.dp le ra ha) rx
    obtain ⟨bs, r2⟩ := Dp.reads I (.tuple (D.pyL l)) _ u (.tup (SqT.of hp) (r.dp le hl)) ry
    have h1 := py_depth a
    refine SeqAt.in_tuple_reads r2 r1 (r.lay hl) (ra.lay ha) (by omega) ?_
    rw [any_py a ha l hl]
    exact ⟨.bl _, H, I, rfl, h.bl le bx⟩
  | dic t l =>
    obtain ⟨hk, e⟩ := cons_ite (show (if a.keyOk t = true then some (kget a l).isSome else none) = some d from e)
    subst e
    obtain ⟨p, o, rfl, g, g1, g2⟩ := dget_of le rb ra hk
    cases ry
    refine d_in (by omega) I g rx fun s' I' => ?_
    rw [isSome_of g1 g2]
    exact ⟨.bl _, H, I', rfl, h.bl le bx⟩
  | _ => cases e
theorem opNotIn_ok {X : Cx} (hu : X.A.units + 70 < cLine) : OpR X (compareOp .NotIn) (rCmp X.K fun a b => (inD a b).map not) := by
  rintro pins s σ H x y v u Q I rx ry ⟨Hs, ρ, B, a, b, d, le, bx, ra, rb, e0, h⟩
  obtain ⟨d', e, rfl⟩ := Option.map_eq_some_iff.mp e0
  clear e0
  cases b with
  | str j =>
    cases a with
    | str i =>
      obtain ⟨c, rfl, rfl⟩ := inS_some e
      obtain ⟨rfl, _⟩ := ra.str
      obtain ⟨rfl, _⟩ := rb.str
      refine op_notIn_sign pins s σ H _ _ v u Q I rx ry ⟨c, mk j, rfl, rfl, ?_⟩
      rw [mem_contains]
      exact h.bl le bx
    | _ => cases e
  | lst l =>
    obtain ⟨ha, hl, rfl⟩ := inL_some (.inl rfl) e
    obtain ⟨p, xs, rfl, hp, r⟩ := rb.lst le
    obtain ⟨as, r1⟩ := Dp.reads I _ x v (RP.dp le ra ha) rx
    obtain ⟨bs, r2⟩ := Dp.reads I (.list (D.pyL l)) _ u (.lst (SqL.of hp) (r.dp le hl)) ry
    have h1 := py_depth a
    refine SeqAt.notIn_list_reads r2 r1 (r.lay hl) (ra.lay ha) (by omega) ?_
    rw [any_py a ha l hl]
    exact ⟨.bl _, H, I, rfl, h.bl le bx⟩
  | tup l =>
    obtain ⟨ha, hl, rfl⟩ := inL_some (.inr rfl) e
    obtain ⟨p, xs, rfl, hp, r⟩ := rb.tup le
    obtain ⟨as, r1⟩ := Dp.reads I _ x v (RP.dp le ra ha) rx
    obtain ⟨bs, r2⟩ := Dp.reads I (.tuple (D.pyL l)) _ u (.tup (SqT.of hp) (r.dp le hl)) ry
    have h1 := py_depth a
    refine SeqAt.notIn_tuple_reads r2 r1 (r.lay hl) (ra.lay ha) (by omega) ?_
    rw [any_py a ha l hl]
    exact ⟨.bl _, H, I, rfl, h.bl le bx⟩
  | dic t l =>
    obtain ⟨hk, e⟩ := cons_ite (show (if a.keyOk t = true then some (kget a l).isSome else none) = some d' from e)
    subst e
    obtain ⟨p, o, rfl, g, g1, g2⟩ := dget_of le rb ra hk
    cases ry
    refine d_notIn (by omega) I g rx fun s' I' => ?_
    rw [isSome_of g1 g2]
    exact ⟨.bl _, H, I', rfl, h.bl le bx⟩
  | _ => cases e
end Pz
end
section
set_option Elab.async false
set_option linter.all false
set_option maxRecDepth 100000
namespace Pz
open PySem PySem.Spec PyProof.Rows L2

/-! ### is -/
def D.isRef : D → Bool
  | .tup _ => true
  | .lst _ => true
  | .dic _ _ => true
  | .box _ => true
  | .scr _ => true
  | _ => false
section
variable {K : PySem.W.Frag} {Hs H : Hp} {ρ : List Addr}
theorem RP.isRef {d : D} {v : V} (r : RP K Hs ρ H d v) (h : d.isRef = true) : ∃ a, v = .ref a := by
  rcases r with r | ⟨a, e, _⟩
  · cases r <;> first | exact ⟨_, rfl⟩ | cases h
  · exact ⟨a, e⟩
theorem is_val {a b : D} {d : Bool} {x y : V} {v u : Value} (e : isD a b = some d) (ra : RP K Hs ρ H a x) (rb : RP K Hs ρ H b y) (rx : RelV x v) (ry : RelV y u) : plainIs v u = true ∧ (v == u) = d := by
  have hb : (b = .non ∧ u = .none) ∨ ∃ k, b = .bl k ∧ u = .bool k := by
    cases b with
    | non => cases rb.non; cases ry; exact .inl ⟨rfl, rfl⟩
    | bl k => cases rb.bl; cases ry; exact .inr ⟨k, rfl, rfl⟩
    | _ => cases a <;> cases e
  have hr : a.isRef = true → ∃ p, v = .ref p := fun h => by
    obtain ⟨p, rfl⟩ := ra.isRef h
    cases rx
    exact ⟨p, rfl⟩
  rcases hb with ⟨rfl, rfl⟩ | ⟨k, rfl, rfl⟩
  · cases a with
    | non => cases ra.non; cases rx; cases e; exact ⟨rfl, rfl⟩
    | bl j => cases ra.bl; cases rx; cases e; exact ⟨rfl, rfl⟩
    | int j => cases ra.int; obtain ⟨t, rfl⟩ := rx; cases e; exact ⟨rfl, rfl⟩
    | str j => cases ra.str.1; obtain ⟨t, rfl⟩ := rx; cases e; exact ⟨rfl, rfl⟩
    | fn j => cases e
    | scr j => cases e
    | _ => obtain ⟨p, rfl⟩ := hr rfl; cases e; exact ⟨rfl, rfl⟩
  · cases a with
    | non => cases ra.non; cases rx; cases e; exact ⟨rfl, rfl⟩
    | bl j =>
      cases ra.bl; cases rx
      have e : some (j == k) = some d := e
      cases e
      refine ⟨rfl, ?_⟩
      cases j <;> cases k <;> rfl
    | int j => cases ra.int; obtain ⟨t, rfl⟩ := rx; cases e; exact ⟨rfl, rfl⟩
    | str j => cases ra.str.1; obtain ⟨t, rfl⟩ := rx; cases e; exact ⟨rfl, rfl⟩
    | tup j => obtain ⟨p, rfl⟩ := hr rfl; cases e; exact ⟨rfl, rfl⟩
    | lst j => obtain ⟨p, rfl⟩ := hr rfl; cases e; exact ⟨rfl, rfl⟩
    | _ => cases e
end
theorem opIs_ok {X : Cx} : OpR X (compareOp .Is) (rCmp X.K isD) := by
  rintro pins s σ H x y v u Q I rx ry ⟨Hs, ρ, B, a, b, d, le, bx, ra, rb, e, h⟩
  obtain ⟨h1, h2⟩ := is_val e ra rb rx ry
  refine wpAny_is_plain h1 ?_
  rw [h2]
  exact ⟨.bl d, H, I, rfl, h.bl le bx⟩
theorem opIsN_ok {X : Cx} : OpR X (compareOp .IsNot) (rCmp X.K fun a b => (isD a b).map not) := by
  rintro pins s σ H x y v u Q I rx ry ⟨Hs, ρ, B, a, b, d, le, bx, ra, rb, e0, h⟩
  obtain ⟨d', e, rfl⟩ := Option.map_eq_some_iff.mp e0
  obtain ⟨h1, h2⟩ := is_val e ra rb rx ry
  refine wpAny_isNot_plain h1 ?_
  rw [h2]
  exact ⟨.bl _, H, I, rfl, h.bl le bx⟩
theorem opC_ok {X : Cx} (hu : X.A.units + 70 < cLine) (o : Cop) : OpR X (compareOp (pyC o)) (rCmp X.K (opC o)) := by
  cases o with
  | eq => exact opEq_ok hu
  | ne => exact opNe_ok hu
  | lt => exact opLt_ok hu
  | le => exact opLe_ok
  | gt => exact opGt_ok hu
  | ge => exact opGe_ok
  | is => exact opIs_ok
  | isNot => exact opIsN_ok
  | isIn => exact opIn_ok hu
  | notIn => exact opNotIn_ok hu

/-! ### readings -/
def sOk (l : List Nat) : Bool := l.all (· < 128) && decide (l.length ≤ 1000000)
theorem sOk_ok {l : List Nat} (h : sOk l = true) : SOk l := by
  rw [sOk, Bool.and_eq_true] at h
  refine ⟨fun c hc => of_decide_eq_true (List.all_eq_true.mp h.1 c hc), ?_⟩
  have := of_decide_eq_true h.2
  show l.length ≤ 16777216
  omega
theorem Yld.f {K : PySem.W.Frag} {Hs H : Hp} {ρ : List Addr} {p : Bool} {B : List D} {d : D} {Q : VK} (h : Yld K p Hs ρ H B d Q) : Yld K false Hs ρ H B d Q :=
  fun v H' Hs' ρ' g l b r => h v H' Hs' ρ' g l b (.inl r.val)
structure EOk (X : Cx) (Φ : Fn) (W : WX) (pe : Expr) (ie : E) : Prop where
  run : ∀ p, PE X pe (rdE X.K Φ W p ie)
structure TOk (X : Cx) (Φ : Fn) (W : WX) (pe : Expr) (ie : E) : Prop where
  run : PT X pe (rdT X.K Φ W ie)
structure WOk (X : Cx) (Φ : Fn) (W : WX) (pe : Expr) (ie : E) : Prop where
  run : PW X pe (rdT X.K Φ W ie)
theorem WOk.t {X : Cx} {Φ : Fn} {W : WX} {pe : Expr} {ie : E} (h : WOk X Φ W pe ie) : TOk X Φ W pe ie := ⟨h.run.pt⟩
theorem Out.isB {K : PySem.W.Frag} {Hs H : Hp} {ρ : List Addr} {W : XK} {p : Bool} {x : D} {f : Bool → Rs (D × List D)} {Q : VK} (h : Out K W p Hs ρ H (isB x f) Q) : ∃ k, x = .bl k ∧ Out K W p Hs ρ H (f k) Q := by
  cases x with
  | bl b => exact ⟨b, rfl, h⟩
  | _ => exact h.elim
section
variable {X : Cx} {Φ : Fn} {W : WX} {a b c : Expr} {ia ib ic : E} {pos : Pos}
theorem e_var {i : Nat} {x : Str} (hN : X.N[i]? = some x) (hv : Vis X.env.scope x) (hd : (x == ("__debug__" : Str)) = false := by decide) (hcd : (x == ("__classdict__" : Str)) = false := by decide) : EOk X Φ W (.Name x pos) (.var i) :=
  ⟨fun p => (pe_var hN hv hd hcd).weaken fun σV H Q ⟨Hs, ρ, σ, B, st, out⟩ => by
    have hl : ∃ d, σ[i]? = some (.val d) ∧ Yld X.K p Hs ρ H B d Q := by
      unfold ev at out
      split at out
      · rename_i d e; exact ⟨d, e, out⟩
      · exact out.elim
    obtain ⟨d, e, y⟩ := hl
    obtain ⟨v, e1, r⟩ := st.sl i _ e
    refine ⟨v, ?_, y.here st.le st.bx r⟩
    cases q : σV[i]? with
    | none => rw [q] at e1; cases e1
    | some o => rw [q] at e1; cases o <;> cases e1; rfl⟩
theorem e_own {i : Nat} {x : Str} (hN : X.N[i]? = some x) (hv : Vis X.env.scope x) (hd : (x == ("__debug__" : Str)) = false := by decide) (hcd : (x == ("__classdict__" : Str)) = false := by decide) : EOk X Φ W (.Name x pos) (.own i) :=
  ⟨fun p => (pe_var hN hv hd hcd).weaken fun σV H Q ⟨Hs, ρ, σ, B, st, out⟩ => by
    have hl : p = true ∧ ∃ d, σ[i]? = some (.own d) ∧ Yld X.K p Hs ρ H B d Q := by
      unfold ev at out
      split at out
      · rename_i d e _; exact ⟨rfl, d, e, out⟩
      · exact out.elim
    obtain ⟨hp, d, e, y⟩ := hl
    obtain ⟨q, e1, r, n, nr⟩ := st.sl i _ e
    refine ⟨.ref q, ?_, y _ H Hs ρ .refl st.le st.bx (.inr ⟨hp, q, rfl, r, n, nr⟩)⟩
    cases q : σV[i]? with
    | none => rw [q] at e1; cases e1
    | some o => rw [q] at e1; cases o <;> cases e1; rfl⟩
/-- a constant -/
theorem e_c {e : Expr} {v : V} {d : D} (h : PE X e (tC v)) (r : ∀ Hs ρ, Rep X.K Hs ρ d v) : EOk X Φ W e (.cst d) :=
  ⟨fun p => h.weaken fun σV H Q ⟨Hs, ρ, σ, B, st, out⟩ => Yld.here (show Yld X.K p Hs ρ H B d Q from out) st.le st.bx (r Hs ρ)⟩
theorem e_int {i : Int} {j} : EOk X Φ W (.Constant (.int i) j pos) (.cst (.int i)) := e_c pe_int fun _ _ => .int i
theorem e_bl {i : Bool} {j} : EOk X Φ W (.Constant (.bool i) j pos) (.cst (.bl i)) := e_c pe_bl fun _ _ => .bl i
theorem e_non {j} : EOk X Φ W (.Constant .none j pos) (.cst .non) := e_c pe_non fun _ _ => .non
theorem e_str {x : Str} {l : List Nat} {j} (h : x = mk l) (hl : sOk l = true) : EOk X Φ W (.Constant (.str x) j pos) (.cst (.str l)) :=
  e_c pe_str fun _ _ => by
    rw [h]
    exact .str (sOk_ok hl)
/-- a module's text or int -/
theorem e_globS {x z : Str} {t : Tok} {l : List Nat} (hg : Gl X x) (hm : X.mg x = some (.str z t)) (h : z = mk l) (hl : sOk l = true) (hd : (x == ("__debug__" : Str)) = false := by decide) : EOk X Φ W (.Name x pos) (.cst (.str l)) :=
  e_c (v := .str z) (pe_glob hg hm ⟨t, rfl⟩ hd) fun _ _ => by
    rw [h]
    exact .str (sOk_ok hl)
theorem e_globI {x : Str} {t : Tok} {i : Int} (hg : Gl X x) (hm : X.mg x = some (.int i t)) (hd : (x == ("__debug__" : Str)) = false := by decide) : EOk X Φ W (.Name x pos) (.cst (.int i)) :=
  e_c (v := .int i) (pe_glob hg hm ⟨t, rfl⟩ hd) fun _ _ => .int i
theorem op_core {R : Hp → List Addr → Hp → D × List D → Prop} (hR : Shf R) {σV : L2.St} {H : Hp} {Q : VK} {p : Bool} {o : Bop} (hq : ∀ Hs ρ H x, R Hs ρ H x → YldN X.K Hs ρ H x.2 x.1 Q)
    (h : ∃ Hs ρ σ B, Stt X.K Hs ρ H σV σ B ∧ OutG X.K (fun c d h => W c d σV h) Hs ρ H (ev Φ p (.bin o ia ib) σ B) (R Hs ρ H)) : tOp (rBin X.K (opB o)) (rdE X.K Φ W true ia) (rdE X.K Φ W true ib) σV H Q := by
  obtain ⟨Hs, ρ, σ, B, st, out⟩ := h
  refine ⟨Hs, ρ, σ, B, st, OutG.bindE hR out fun x B1 v H1 Hs1 ρ1 g1 l1 b1 r1 out => ?_⟩
  refine ⟨Hs1, ρ1, σ, B1, st.grow g1 l1 b1, OutG.bindE hR out fun y B2 u H2 Hs2 ρ2 g2 l2 b2 r2 out => ?_⟩
  obtain ⟨d, hd, out⟩ := OutG.of out
  exact ⟨Hs2, ρ2, B2, _, _, d, l2, b2, drf_ok (r1.grow g2) b2, drf_ok r2 b2, hd, hq _ _ _ (d, B2) out⟩
structure FOk (X : Cx) (Φ : Fn) (W : WX) (pe : Expr) (ie : E) : Prop where
  run : PE X pe (rdF X.K Φ W ie)
theorem e_op {op : Operator} {o : Bop} (ho : op = pyB o) (ha : EOk X Φ W a ia) (hb : EOk X Φ W b ib) : EOk X Φ W (.BinOp a op b pos) (.bin o ia ib) :=
  ⟨fun p => by
    subst ho
    exact (pe_op (opB_ok o) (ha.run true) (hb.run true)).weaken fun σV H Q h => op_core Yld.shf (fun _ _ _ _ h => .of h) h⟩
theorem f_op {op : Operator} {o : Bop} (ho : op = pyB o) (ha : EOk X Φ W a ia) (hb : EOk X Φ W b ib) : FOk X Φ W (.BinOp a op b pos) (.bin o ia ib) :=
  ⟨by
    subst ho
    exact (pe_op (opB_ok o) (ha.run true) (hb.run true)).weaken fun σV H Q h => op_core YldF.shf (fun _ _ _ _ h => .ofF h) h⟩
theorem cmp_core {σV : L2.St} {H : Hp} {Q : VK} {p : Bool} {o : Cop} (h : rdE X.K Φ W p (.cmp o ia ib) σV H Q) : tOp (rCmp X.K (opC o)) (rdE X.K Φ W true ia) (rdE X.K Φ W true ib) σV H Q := by
  obtain ⟨Hs, ρ, σ, B, st, out⟩ := h
  refine ⟨Hs, ρ, σ, B, st, Out.bind (p := p) (Q := Q) out fun x B1 v H1 Hs1 ρ1 g1 l1 b1 r1 out => ?_⟩
  refine ⟨Hs1, ρ1, σ, B1, st.grow g1 l1 b1, Out.bind (p := p) (Q := Q) out fun y B2 u H2 Hs2 ρ2 g2 l2 b2 r2 out => ?_⟩
  obtain ⟨d, hd, out⟩ := Out.of out
  exact ⟨Hs2, ρ2, B2, _, _, d, l2, b2, drf_ok (r1.grow g2) b2, drf_ok r2 b2, hd, Yld.f out⟩
theorem e_cmp {op : CmpOp} {o : Cop} (hu : X.A.units + 70 < cLine) (ho : op = pyC o) (ha : EOk X Φ W a ia) (hb : EOk X Φ W b ib) (hm : behindInMarks op b = false) : EOk X Φ W (.Compare a [op] [b] pos) (.cmp o ia ib) :=
  ⟨fun p => by
    subst ho
    exact (pe_cmpR (opC_ok hu o) (ha.run true) (hb.run true) hm).weaken fun σV H Q h => cmp_core h⟩
theorem t_cmp {op : CmpOp} {o : Cop} (hu : X.A.units + 70 < cLine) (ho : op = pyC o) (ha : EOk X Φ W a ia) (hb : EOk X Φ W b ib) (hm : behindInMarks op b = false) : TOk X Φ W (.Compare a [op] [b] pos) (.cmp o ia ib) :=
  ⟨by
    subst ho
    exact (pt_cmpR (opC_ok hu o) (ha.run true) (hb.run true) hm).weaken fun σV H Q h => cmp_core h⟩
theorem chain_core {σV : L2.St} {H : Hp} {Q : VK} {p : Bool} {o q : Cop} (h : rdE X.K Φ W p (.chain o q ia ib ic) σV H Q) : tChain (rCmp X.K (opC o)) (rCmp X.K (opC q)) (rdE X.K Φ W true ia) (rdE X.K Φ W true ib) (rdE X.K Φ W true ic) σV H Q := by
  obtain ⟨Hs, ρ, σ, B, st, out⟩ := h
  refine ⟨Hs, ρ, σ, B, st, Out.bind (p := p) (Q := Q) out fun x B1 v H1 Hs1 ρ1 g1 l1 b1 r1 out => ?_⟩
  refine ⟨Hs1, ρ1, σ, B1, st.grow g1 l1 b1, Out.bind (p := p) (Q := Q) out fun y B2 u H2 Hs2 ρ2 g2 l2 b2 r2 out => ?_⟩
  obtain ⟨d, hd, out⟩ := Out.of out
  refine ⟨Hs2, ρ2, B2, _, _, d, l2, b2, drf_ok (r1.grow g2) b2, drf_ok r2 b2, hd, ?_⟩
  intro z H3 Hs3 ρ3 g3 l3 b3 r3
  have r3' := r3.val
  cases r3'
  refine ⟨d, rfl, ?_⟩
  cases d with
  | false => exact Yld.here (p := p) (Yld.shift out g3) l3 b3 (.bl false)
  | true =>
    refine ⟨Hs3, ρ3, σ, B2, (st.grow ((g1.trans g2).trans g3) l3 b3), Out.bind (p := p) (Q := Q) (Out.shift out g3) fun w B4 u' H4 Hs4 ρ4 g4 l4 b4 r4 out => ?_⟩
    obtain ⟨d', hd', out⟩ := Out.of out
    exact ⟨Hs4, ρ4, B4, _, _, d', l4, b4, drf_ok ((r2.grow g3).grow g4) b4, drf_ok r4 b4, hd', Yld.f out⟩
theorem e_chain {op op' : CmpOp} {o q : Cop} (hu : X.A.units + 70 < cLine) (ho : op = pyC o) (ho' : op' = pyC q) (ha : EOk X Φ W a ia) (hb : EOk X Φ W b ib) (hc : EOk X Φ W c ic) (hm : lastMarks [op, op'] [b, c] = false) : EOk X Φ W (.Compare a [op, op'] [b, c] pos) (.chain o q ia ib ic) :=
  ⟨fun p => by
    subst ho ho'
    exact (pe_chain (opC_ok hu o) (opC_ok hu q) (ha.run true) (hb.run true) (hc.run true) hm).weaken fun σV H Q h => chain_core h⟩
theorem t_chain {op op' : CmpOp} {o q : Cop} (hu : X.A.units + 70 < cLine) (ho : op = pyC o) (ho' : op' = pyC q) (ha : EOk X Φ W a ia) (hb : EOk X Φ W b ib) (hc : EOk X Φ W c ic) (hm : lastMarks [op, op'] [b, c] = false) : TOk X Φ W (.Compare a [op, op'] [b, c] pos) (.chain o q ia ib ic) :=
  ⟨by
    subst ho ho'
    exact (pt_chain (opC_ok hu o) (opC_ok hu q) (ha.run true) (hb.run true) (hc.run true) hm).weaken fun σV H Q h => chain_core h⟩
theorem t_val (h : EOk X Φ W a ia) (he : ∀ whole, isTrue a X.env whole = (do let v ← whole; standAt a.pos; holding [v] (truthy v))) : TOk X Φ W a ia :=
  ⟨(pt_val (h.run false) he).weaken fun σV H Q h => h⟩
/-- the bool of a test -/
theorem bl_of {K : PySem.W.Frag} {Hs H : Hp} {ρ : List Addr} {k : Bool} {v : V} (r : RelP K false Hs ρ H (.bl k) v) : v = .bl k := by
  have r := r.val
  cases r; rfl
variable {rest : List Expr}
theorem e_one {op} (h : EOk X Φ W a ia) : EOk X Φ W (.BoolOp op [a] pos) ia := ⟨fun p => pe_one (h.run p)⟩
theorem e_and (ha : EOk X Φ W a ia) (hb : EOk X Φ W (.BoolOp .And (b :: rest) pos) ib) : EOk X Φ W (.BoolOp .And (a :: b :: rest) pos) (.and ia ib) :=
  ⟨fun p => (pe_and (ha.run false) (hb.run false)).weaken fun σV H Q ⟨Hs, ρ, σ, B, st, out⟩ => by
    refine ⟨Hs, ρ, σ, B, st, Out.bind (p := p) (Q := Q) out fun x B1 v H1 Hs1 ρ1 g1 l1 b1 r1 out => ?_⟩
    obtain ⟨k, rfl, out⟩ := out.isB
    refine ⟨k, bl_of r1, ?_⟩
    cases k with
    | false => exact Yld.here (p := p) out l1 b1 (.bl false)
    | true =>
      refine ⟨Hs1, ρ1, σ, B1, st.grow g1 l1 b1, ?_⟩
      show Out X.K _ false Hs1 ρ1 H1 (ev Φ false ib σ B1) Q
      have out : Out X.K (fun c d h => W c d σV h) p Hs1 ρ1 H1 (ev Φ false ib σ B1) Q := out
      cases q : ev Φ false ib σ B1 with
      | ok x => rw [q] at out; exact Yld.f out
      | ex c ps B => rw [q] at out; exact out
      | bad => rw [q] at out; exact out⟩
theorem e_or (ha : EOk X Φ W a ia) (hb : EOk X Φ W (.BoolOp .Or (b :: rest) pos) ib) : EOk X Φ W (.BoolOp .Or (a :: b :: rest) pos) (.or ia ib) :=
  ⟨fun p => (pe_or (ha.run false) (hb.run false)).weaken fun σV H Q ⟨Hs, ρ, σ, B, st, out⟩ => by
    refine ⟨Hs, ρ, σ, B, st, Out.bind (p := p) (Q := Q) out fun x B1 v H1 Hs1 ρ1 g1 l1 b1 r1 out => ?_⟩
    obtain ⟨k, rfl, out⟩ := out.isB
    refine ⟨k, bl_of r1, ?_⟩
    cases k with
    | true => exact Yld.here (p := p) out l1 b1 (.bl true)
    | false =>
      refine ⟨Hs1, ρ1, σ, B1, st.grow g1 l1 b1, ?_⟩
      show Out X.K _ false Hs1 ρ1 H1 (ev Φ false ib σ B1) Q
      have out : Out X.K (fun c d h => W c d σV h) p Hs1 ρ1 H1 (ev Φ false ib σ B1) Q := out
      cases q : ev Φ false ib σ B1 with
      | ok x => rw [q] at out; exact Yld.f out
      | ex c ps B => rw [q] at out; exact out
      | bad => rw [q] at out; exact out⟩
theorem e_not (ha : EOk X Φ W a ia) : EOk X Φ W (.UnaryOp .Not a pos) (.not ia) :=
  ⟨fun p => (pe_not (ha.run false)).weaken fun σV H Q ⟨Hs, ρ, σ, B, st, out⟩ => by
    refine ⟨Hs, ρ, σ, B, st, Out.bind (p := p) (Q := Q) out fun x B1 v H1 Hs1 ρ1 g1 l1 b1 r1 out => ?_⟩
    obtain ⟨k, rfl, out⟩ := out.isB
    exact ⟨k, bl_of r1, Yld.here (p := p) out l1 b1 (.bl _)⟩⟩
theorem w_one_and (ha : TOk X Φ W a ia) : WOk X Φ W (.BoolOp .And [a] pos) ia := ⟨pw_and1 ha.run⟩
theorem w_one_or (ha : TOk X Φ W a ia) : WOk X Φ W (.BoolOp .Or [a] pos) ia := ⟨pw_or1 ha.run⟩
theorem w_and (ha : TOk X Φ W a ia) (hb : WOk X Φ W (.BoolOp .And (b :: rest) pos) ib) : WOk X Φ W (.BoolOp .And (a :: b :: rest) pos) (.and ia ib) :=
  ⟨(pw_and ha.run hb.run).weaken fun σV H Q ⟨Hs, ρ, σ, B, st, out⟩ => by
    refine ⟨Hs, ρ, σ, B, st, Out.bind (p := false) out fun x B1 v H1 Hs1 ρ1 g1 l1 b1 r1 out => ?_⟩
    obtain ⟨k, rfl, out⟩ := out.isB
    refine ⟨k, bl_of r1, ?_⟩
    cases k with
    | false =>
      obtain ⟨b, e, q⟩ := Yld.here (p := false) out l1 b1 (.bl false)
      cases e
      exact q
    | true => exact ⟨Hs1, ρ1, σ, B1, st.grow g1 l1 b1, out⟩⟩
theorem w_or (ha : TOk X Φ W a ia) (hb : WOk X Φ W (.BoolOp .Or (b :: rest) pos) ib) : WOk X Φ W (.BoolOp .Or (a :: b :: rest) pos) (.or ia ib) :=
  ⟨(pw_or ha.run hb.run).weaken fun σV H Q ⟨Hs, ρ, σ, B, st, out⟩ => by
    refine ⟨Hs, ρ, σ, B, st, Out.bind (p := false) out fun x B1 v H1 Hs1 ρ1 g1 l1 b1 r1 out => ?_⟩
    obtain ⟨k, rfl, out⟩ := out.isB
    refine ⟨k, bl_of r1, ?_⟩
    cases k with
    | true =>
      obtain ⟨b, e, q⟩ := Yld.here (p := false) out l1 b1 (.bl true)
      cases e
      exact q
    | false => exact ⟨Hs1, ρ1, σ, B1, st.grow g1 l1 b1, out⟩⟩
theorem t_not (ha : TOk X Φ W a ia) : TOk X Φ W (.UnaryOp .Not a pos) (.not ia) :=
  ⟨(pt_not ha.run).weaken fun σV H Q ⟨Hs, ρ, σ, B, st, out⟩ => by
    refine ⟨Hs, ρ, σ, B, st, Out.bind (p := false) out fun x B1 v H1 Hs1 ρ1 g1 l1 b1 r1 out => ?_⟩
    obtain ⟨k, rfl, out⟩ := out.isB
    refine ⟨k, bl_of r1, ?_⟩
    obtain ⟨b, e, q⟩ := Yld.here (p := false) out l1 b1 (.bl (!k))
    cases e
    exact q⟩
theorem Out.f {K : PySem.W.Frag} {Hs H : Hp} {ρ : List Addr} {Wk : XK} {p : Bool} {r : Rs (D × List D)} {Q : VK} (h : Out K Wk p Hs ρ H r Q) : Out K Wk false Hs ρ H r Q := by
  cases r with
  | ok x => exact Yld.f h
  | ex c ps B => exact h
  | bad => exact h
theorem e_ite (hc : TOk X Φ W c ic) (ha : EOk X Φ W a ia) (hb : EOk X Φ W b ib) : EOk X Φ W (.IfExp c a b pos) (.ite ic ia ib) :=
  ⟨fun p => (pe_ifExp hc.run (ha.run false) (hb.run false)).weaken fun σV H Q ⟨Hs, ρ, σ, B, st, out⟩ => by
    refine ⟨Hs, ρ, σ, B, st, Out.bind (p := p) out fun x B1 v H1 Hs1 ρ1 g1 l1 b1 r1 out => ?_⟩
    obtain ⟨k, rfl, out⟩ := out.isB
    refine ⟨k, bl_of r1, ?_⟩
    cases k with
    | true => exact ⟨Hs1, ρ1, σ, B1, st.grow g1 l1 b1, out.f⟩
    | false => exact ⟨Hs1, ρ1, σ, B1, st.grow g1 l1 b1, out.f⟩⟩
theorem e_neg (ha : EOk X Φ W a ia) : EOk X Φ W (.UnaryOp .USub a pos) (.neg ia) :=
  ⟨fun p => (pe_un un_neg (ha.run false)).weaken fun σV H Q ⟨Hs, ρ, σ, B, st, out⟩ => by
    refine ⟨Hs, ρ, σ, B, st, Out.bind (p := p) (Q := Q) out fun x B1 v H1 Hs1 ρ1 g1 l1 b1 r1 out => ?_⟩
    cases x with
    | int i =>
      have r := r1.val
      cases r
      exact ⟨i, rfl, Yld.here (p := p) out l1 b1 (.int _)⟩
    | _ => exact out.elim⟩
end
end Pz
end
section
set_option Elab.async false
set_option linter.all false
set_option maxRecDepth 100000
namespace Pz
open PySem PySem.Spec PyProof.Rows L2

/-! ### argument lists -/
def YldL (K : PySem.W.Frag) (p : Bool) (Hs : Hp) (ρ : List Addr) (H : Hp) (B : List D) (ds : List D) (Q : List V → Hp → Prop) : Prop :=
  ∀ vs H' Hs' ρ', Gr Hs H ρ Hs' H' ρ' → Le Hs' H' → BOk K Hs' ρ' H' B → Paired (RelP K p Hs' ρ' H') ds vs → Q vs H'
def OutL (K : PySem.W.Frag) (W : XK) (p : Bool) (Hs : Hp) (ρ : List Addr) (H : Hp) (r : Rs (List D × List D)) (Q : List V → Hp → Prop) : Prop := OutG K W Hs ρ H r fun x => YldL K p Hs ρ H x.2 x.1 Q
section
variable {K : PySem.W.Frag} {Hs Hs' H H' : Hp} {ρ ρ' : List Addr} {W : XK} {p q : Bool}
theorem YldL.shift {B ds : List D} {Q : List V → Hp → Prop} (h : YldL K p Hs ρ H B ds Q) (g : Gr Hs H ρ Hs' H' ρ') : YldL K p Hs' ρ' H' B ds Q :=
  fun v H2 Hs2 ρ2 g2 l b r => h v H2 Hs2 ρ2 (g.trans g2) l b r
theorem YldL.shf {Q : List V → Hp → Prop} : Shf fun Hs ρ H (x : List D × List D) => YldL K p Hs ρ H x.2 x.1 Q := fun _ _ _ _ _ _ _ g h => YldL.shift h g
theorem OutL.bindE {r : Rs (D × List D)} {f : D × List D → Rs (List D × List D)} {Q : List V → Hp → Prop} {R : VK} (h : OutL K W p Hs ρ H (r.bind f) Q)
    (k : ∀ d B' v H' Hs' ρ', Gr Hs H ρ Hs' H' ρ' → Le Hs' H' → BOk K Hs' ρ' H' B' → RelP K q Hs' ρ' H' d v → OutL K W p Hs' ρ' H' (f (d, B')) Q → R v H') : Out K W q Hs ρ H r R := OutG.bindE YldL.shf h k
theorem OutG.bindL {α : Type} {R : Hp → List Addr → Hp → α → Prop} (hR : Shf R) {r : Rs (List D × List D)} {f : List D × List D → Rs α} {Q : List V → Hp → Prop} (h : OutG K W Hs ρ H (r.bind f) (R Hs ρ H))
    (k : ∀ ds B' vs H' Hs' ρ', Gr Hs H ρ Hs' H' ρ' → Le Hs' H' → BOk K Hs' ρ' H' B' → Paired (RelP K q Hs' ρ' H') ds vs → OutG K W Hs' ρ' H' (f (ds, B')) (R Hs' ρ' H') → Q vs H') : OutL K W q Hs ρ H r Q := by
  cases r with
  | ok x => exact fun v H' Hs' ρ' g l b r => k x.1 x.2 v H' Hs' ρ' g l b r (OutG.shift (r := f x) hR h g)
  | ex c ps B => exact h
  | bad => exact h
theorem OutL.bindL {r : Rs (List D × List D)} {f : List D × List D → Rs (List D × List D)} {Q R : List V → Hp → Prop} (h : OutL K W p Hs ρ H (r.bind f) Q)
    (k : ∀ ds B' vs H' Hs' ρ', Gr Hs H ρ Hs' H' ρ' → Le Hs' H' → BOk K Hs' ρ' H' B' → Paired (RelP K q Hs' ρ' H') ds vs → OutL K W p Hs' ρ' H' (f (ds, B')) Q → R vs H') : OutL K W q Hs ρ H r R := OutG.bindL YldL.shf h k
theorem Out.bindL {r : Rs (List D × List D)} {f : List D × List D → Rs (D × List D)} {Q : VK} {R : List V → Hp → Prop} (h : Out K W p Hs ρ H (r.bind f) Q)
    (k : ∀ ds B' vs H' Hs' ρ', Gr Hs H ρ Hs' H' ρ' → Le Hs' H' → BOk K Hs' ρ' H' B' → Paired (RelP K q Hs' ρ' H') ds vs → Out K W p Hs' ρ' H' (f (ds, B')) Q → R vs H') : OutL K W q Hs ρ H r R := OutG.bindL Yld.shf h k
theorem repL_of {ds : List D} {vs : List V} (r : Paired (RelP K false Hs ρ H) ds vs) : RepL K Hs ρ ds vs := by
  induction r with
  | nil => exact .nil
  | cons h _ ih => exact .cons h.val ih
theorem rp_of {B ds : List D} {vs : List V} (r : Paired (RelP K p Hs ρ H) ds vs) (b : BOk K Hs ρ H B) : Paired (RP K Hs ρ H) (ds.map (drf B)) vs := by
  induction r with
  | nil => exact .nil
  | cons h _ ih => exact .cons (drf_ok h b) ih
end
def rdA (K : PySem.W.Frag) (Φ : Fn) (W : WX) (p : Bool) (es : Es) : TA := fun σV H Q => ∃ Hs ρ σ B, Stt K Hs ρ H σV σ B ∧ OutL K (fun c d h => W c d σV h) p Hs ρ H (evs Φ p es σ B) Q
structure AOk (X : Cx) (Φ : Fn) (W : WX) (pe : List Expr) (ie : Es) : Prop where
  run : ∀ p, PA X pe (rdA X.K Φ W p ie)
section
variable {X : Cx} {Φ : Fn} {W : WX} {a b c : Expr} {ia ib ic : E} {pos : Pos} {es : List Expr} {ies : Es}
theorem a_nil : AOk X Φ W [] .nil := ⟨fun p => pa_nil.weaken fun σV H Q ⟨Hs, ρ, σ, B, st, out⟩ => (show YldL X.K p Hs ρ H B [] Q from out) [] H Hs ρ .refl st.le st.bx .nil⟩
theorem a_cons (ha : EOk X Φ W a ia) (hr : AOk X Φ W es ies) (hs : starEach (a :: es) X.env = (false, eval a X.env) :: starEach es X.env := by rfl) : AOk X Φ W (a :: es) (.cons ia ies) :=
  ⟨fun p => (pa_cons (ha.run p) (hr.run p) hs).weaken fun σV H Q ⟨Hs, ρ, σ, B, st, out⟩ => by
    refine ⟨Hs, ρ, σ, B, st, OutL.bindE (p := p) (Q := Q) out fun x B1 v H1 Hs1 ρ1 g1 l1 b1 r1 out => ?_⟩
    refine ⟨Hs1, ρ1, σ, B1, st.grow g1 l1 b1, OutL.bindL (p := p) (Q := Q) out fun ys B2 vs H2 Hs2 ρ2 g2 l2 b2 r2 out => ?_⟩
    exact (show YldL X.K p Hs2 ρ2 H2 B2 (x :: ys) Q from out) (v :: vs) H2 Hs2 ρ2 .refl l2 b2 (.cons (r1.grow g2) r2)⟩
theorem OutG.ite {K : PySem.W.Frag} {Hs H : Hp} {ρ : List Addr} {Wk : XK} {α : Type} {c : Prop} [Decidable c] {r : Rs α} {R : α → Prop} (h : OutG K Wk Hs ρ H (if c then r else .bad) R) : c ∧ OutG K Wk Hs ρ H r R := by
  by_cases z : c
  · rw [if_pos z] at h; exact ⟨z, h⟩
  · rw [if_neg z] at h; exact h.elim
theorem e_tup {k} (h : AOk X Φ W es ies) : EOk X Φ W (.Tuple es k pos) (.tup ies) :=
  ⟨fun p => (pe_tup (h.run false)).weaken fun σV H Q ⟨Hs, ρ, σ, B, st, out⟩ => by
    refine ⟨Hs, ρ, σ, B, st, Out.bindL (p := p) (Q := Q) out fun ds B1 vs H1 Hs1 ρ1 g1 l1 b1 r1 out => ?_⟩
    obtain ⟨hl, out⟩ := OutG.ite out
    have r := repL_of r1
    refine ⟨by rw [← r.length, ln_eq]; exact hl, ?_⟩
    exact Yld.tup (p := p) out l1 b1 r⟩
theorem lst_core {R : Hp → List Addr → Hp → D × List D → Prop} (hR : Shf R) {σV : L2.St} {H : Hp} {Q : VK} {p : Bool} (hq : ∀ Hs ρ H x, R Hs ρ H x → YldN X.K Hs ρ H x.2 x.1 Q)
    (h : ∃ Hs ρ σ B, Stt X.K Hs ρ H σV σ B ∧ OutG X.K (fun c d h => W c d σV h) Hs ρ H (ev Φ p (.lst ies) σ B) (R Hs ρ H)) : tLst (rdA X.K Φ W false ies) σV H Q := by
  obtain ⟨Hs, ρ, σ, B, st, out⟩ := h
  refine ⟨Hs, ρ, σ, B, st, OutG.bindL hR out fun ds B1 vs H1 Hs1 ρ1 g1 l1 b1 r1 out => ?_⟩
  obtain ⟨hl, out⟩ := OutG.ite out
  have r := repL_of r1
  refine ⟨by rw [← r.length, ln_eq]; exact hl, ?_⟩
  exact YldF.lst (hq _ _ _ _ out) l1 b1 r
theorem e_lst (h : AOk X Φ W es ies) : EOk X Φ W (.List es pos) (.lst ies) := ⟨fun p => (pe_lst (h.run false)).weaken fun σV H Q h => lst_core Yld.shf (fun _ _ _ _ h => .of h) h⟩
theorem f_lst (h : AOk X Φ W es ies) : FOk X Φ W (.List es pos) (.lst ies) := ⟨(pe_lst (h.run false)).weaken fun σV H Q h => lst_core YldF.shf (fun _ _ _ _ h => .ofF h) h⟩
theorem e_dnewK : EOk X Φ W (.Dict [] [] pos) (.dnew false) :=
  ⟨fun p => pe_dnewK.weaken fun σV H Q ⟨Hs, ρ, σ, B, st, out⟩ => Yld.dK (p := p) (ds := []) out st.le st.bx .nil⟩
theorem e_dnewT : EOk X Φ W (.Dict [] [] pos) (.dnew true) :=
  ⟨fun p => pe_dnewT.weaken fun σV H Q ⟨Hs, ρ, σ, B, st, out⟩ => Yld.dT (p := p) (ds := []) out st.le st.bx .nil⟩
theorem f_dnewK : FOk X Φ W (.Dict [] [] pos) (.dnew false) :=
  ⟨pe_dnewK.weaken fun σV H Q ⟨Hs, ρ, σ, B, st, out⟩ => YldF.dK (ds := []) out.2 st.le st.bx .nil⟩
theorem f_dnewT : FOk X Φ W (.Dict [] [] pos) (.dnew true) :=
  ⟨pe_dnewT.weaken fun σV H Q ⟨Hs, ρ, σ, B, st, out⟩ => YldF.dT (ds := []) out.2 st.le st.bx .nil⟩

/-! ### subscripts -/
def rSub (K : PySem.W.Frag) : R2 := fun x y H Q => ∃ Hs ρ B a b d, Le Hs H ∧ BOk K Hs ρ H B ∧ RP K Hs ρ H a x ∧ RP K Hs ρ H b y ∧ subD a b = some d ∧ Yld K false Hs ρ H B d Q
theorem atI_rep {K : PySem.W.Frag} {Hs : Hp} {ρ : List Addr} {l : List D} {xs : List V} {i : Int} {d : D} (r : RepL K Hs ρ l xs) (h : Pz.atI l i = some d) : ∃ w, L2.atI xs i = some w ∧ Rep K Hs ρ d w := by
  have h : (Pz.ixN l.length i).bind (fun j => l[j]?) = some d := h
  cases q : Pz.ixN l.length i with
  | none => rw [q] at h; cases h
  | some j =>
    rw [q] at h
    obtain ⟨w, e, rw_⟩ := r.get (show l[j]? = some d from h)
    refine ⟨w, ?_, rw_⟩
    show (L2.ixN xs.length i).bind (fun j => xs[j]?) = some w
    rw [← r.length]
    rw [show L2.ixN l.length i = some j from q]
    exact e
theorem ix_ok (hu : X.A.units + 70 < cLine) : IxR X (rSub X.K) := by
  intro value slice pins s σ H x y v u Q I rx ry ⟨Hs, ρ, B, a, b, d, le, bx, ra, rb, e, h⟩ hs
  cases a with
  | lst l =>
    cases b with
    | int i =>
      obtain ⟨p, xs, rfl, hp, r⟩ := ra.lst le
      obtain rfl := rb.int
      obtain ⟨w, e1, e2⟩ := atI_rep r e
      exact ix_list value slice pins s σ H _ _ v u Q I rx ry ⟨p, xs, i, w, rfl, rfl, SqL.of hp, e1, h.here le bx e2⟩ hs
    | _ => cases e
  | tup l =>
    cases b with
    | int i =>
      obtain ⟨p, xs, rfl, hp, r⟩ := ra.tup le
      obtain rfl := rb.int
      obtain ⟨w, e1, e2⟩ := atI_rep r e
      exact ix_tup value slice pins s σ H _ _ v u Q I rx ry ⟨p, xs, i, w, rfl, rfl, SqT.of hp, e1, h.here le bx e2⟩ hs
    | _ => cases e
  | str l =>
    cases b with
    | int i =>
      obtain ⟨rfl, hl⟩ := ra.str
      obtain rfl := rb.int
      obtain ⟨c, e1, rfl⟩ := Option.map_eq_some_iff.mp (show (Pz.atI l i).map (fun c => D.str [c]) = some d from e)
      have hc : c ∈ l := by
        have e1 : (Pz.ixN l.length i).bind (fun j => l[j]?) = some c := e1
        cases q : Pz.ixN l.length i with
        | none => rw [q] at e1; cases e1
        | some j => rw [q] at e1; exact List.mem_of_getElem? e1
      exact ix_str value slice pins s σ H _ _ v u Q I rx ry ⟨mk l, i, c, rfl, rfl, by rw [mk_len, ln_eq]; exact hl.2, e1, h.here le bx (.str ⟨fun z hz => by cases List.mem_singleton.mp hz; exact hl.1 _ hc, Nat.le_trans (Nat.le_refl 1) (by decide : 1 ≤ ln)⟩)⟩ hs
    | _ => cases e
  | dic t l =>
    obtain ⟨hk, e⟩ := cons_ite' (show (if b.keyOk t = true then kget b l else none) = some d from e)
    obtain ⟨p, o, rfl, g, g1, g2⟩ := dget_of le ra rb hk
    obtain ⟨w, rfl, rw_⟩ := g1 d e
    cases rx
    exact tail_any (dict_typeIs I g) PySem.F.slot_dict_getitem.lookup (d_getItem (by omega) I g ry fun w' s3 I3 r' => ⟨w, H, I3, r', h.here le bx rw_⟩) hs
  | _ => cases e
theorem e_sub (hu : X.A.units + 70 < cLine) (ha : EOk X Φ W a ia) (hb : EOk X Φ W b ib) (hs : PlainIx b) : EOk X Φ W (.Subscript a b pos) (.sub ia ib) :=
  ⟨fun p => by
    refine (pe_ix (ix_ok hu) (ha.run true) (hb.run true) hs).weaken fun σV H Q ⟨Hs, ρ, σ, B, st, out⟩ => ?_
    refine ⟨Hs, ρ, σ, B, st, Out.bind (p := p) (Q := Q) out fun x B1 v H1 Hs1 ρ1 g1 l1 b1 r1 out => ?_⟩
    refine ⟨Hs1, ρ1, σ, B1, st.grow g1 l1 b1, Out.bind (p := p) (Q := Q) out fun y B2 u H2 Hs2 ρ2 g2 l2 b2 r2 out => ?_⟩
    obtain ⟨d, hd, out⟩ := Out.of out
    exact ⟨Hs2, ρ2, B2, _, _, d, l2, b2, drf_ok (r1.grow g2) b2, drf_ok r2 b2, hd, Yld.f out⟩⟩

/-! ### slices -/
theorem sIx_eq (n d : Nat) (o : Option Int) : HT.sIx n d o = Pz.sIx n d o := by cases o <;> rfl
theorem cutV_rep {K : PySem.W.Frag} {Hs : Hp} {ρ : List Addr} {l : List D} {xs : List V} {lo hi : Option Int} (r : RepL K Hs ρ l xs) : RepL K Hs ρ (cutL l lo hi) (cutV xs lo hi) := by
  unfold cutL cutV
  rw [sIx_eq, sIx_eq, r.length]
  exact (r.drop _).take _
theorem RP.rep_tup {K : PySem.W.Frag} {Hs H : Hp} {ρ : List Addr} {l : List D} {v : V} (r : RP K Hs ρ H (.tup l) v) : Rep K Hs ρ (.tup l) v := by
  rcases r with r | ⟨a, _, z⟩
  · exact r
  · exact z.elim
theorem cut_sok {l : List Nat} {lo hi : Option Int} (h : SOk l) : SOk (cutL l lo hi) := by
  refine ⟨fun c hc => h.1 c (List.mem_of_mem_drop (List.mem_of_mem_take hc)), ?_⟩
  unfold cutL
  rw [List.length_take, List.length_drop]
  have := h.2
  omega
theorem cutS_mk (l : List Nat) (lo hi : Option Int) : cutS (mk l) lo hi = mk (cutL l lo hi) := by
  unfold cutL
  rw [← sIx_eq, ← sIx_eq]
  rfl
def rCut (K : PySem.W.Frag) : V → Option Int → Option Int → Hp → VK → Prop := fun x lo hi H Q => ∃ Hs ρ B a d, Le Hs H ∧ BOk K Hs ρ H B ∧ RP K Hs ρ H a x ∧ cutD a lo hi = some d ∧ YldN K Hs ρ H B d Q
theorem sl_ok : SlR X (rCut X.K) := by
  intro pins s σ H x v vl vu lo hi sl Q I rx hs pl pu ⟨Hs, ρ, B, a, d, le, bx, ra, e, h⟩
  cases a with
  | lst l =>
    obtain ⟨p, xs, rfl, hp, r⟩ := ra.lst le
    cases e
    exact sl_list pins s σ H _ v vl vu lo hi sl Q I rx hs pl pu ⟨p, xs, rfl, SqL.of hp, YldF.lst h le bx (cutV_rep r)⟩
  | tup l =>
    have rt := ra.rep_tup
    obtain ⟨p, xs, rfl, hp, r⟩ := ra.tup le
    cases e
    refine sl_tupA pins s σ H _ v vl vu lo hi sl Q I rx hs pl pu ⟨p, xs, rfl, SqT.of hp, fun hw => ?_, fun _ => Yld.tup (p := false) h le bx (cutV_rep r)⟩
    have ec : cutL l lo hi = l := by
      rw [sIx_eq, sIx_eq, ← r.length] at hw
      unfold cutL
      rw [hw.1, hw.2, List.drop_zero, Nat.sub_zero, List.take_length]
    rw [ec] at h
    exact Yld.here (p := false) h le bx rt
  | str l =>
    obtain ⟨rfl, hl⟩ := ra.str
    cases e
    refine sl_str pins s σ H _ v vl vu lo hi sl Q I rx hs pl pu ⟨mk l, rfl, by rw [mk_len, ln_eq]; exact hl.2, ?_⟩
    rw [cutS_mk]
    exact Yld.str (p := false) h le bx (cut_sok hl)
  | _ => cases e
def rdO (K : PySem.W.Frag) (Φ : Fn) (W : WX) (e : E) : TO := fun σV H Q => ∃ Hs ρ σ B, Stt K Hs ρ H σV σ B ∧ Out K (fun c d h => W c d σV h) false Hs ρ H (ev Φ false e σ B) (fun v H' => ∃ d o, part e d = some o ∧ (d = .non → v = .non) ∧ (∀ i, d = .int i → v = .int i) ∧ Q o H')
structure OOk (X : Cx) (Φ : Fn) (W : WX) (pe : Option Expr) (ie : E) : Prop where
  run : PO X pe (rdO X.K Φ W ie)
theorem o_none : OOk X Φ W none .nop :=
  ⟨⟨fun pins s σ H Q I ⟨Hs, ρ, τ, B, st, out⟩ => by
    obtain ⟨d, o, e, e1, e2, q⟩ := Yld.here (p := false) (show Yld X.K false Hs ρ H B .non _ from out) st.le st.bx .non
    have hd : o = none := by
      cases d <;> cases e
      rfl
    subst hd
    exact po_none.run pins s σ H Q I q⟩⟩
theorem o_some (ha : EOk X Φ W a ia) (hn : ia ≠ .nop) : OOk X Φ W (some a) ia :=
  ⟨⟨fun pins s σ H Q I ⟨Hs, ρ, τ, B, st, out⟩ => by
    refine (po_some (ha.run false)).run pins s σ H Q I ⟨Hs, ρ, τ, B, st, ?_⟩
    cases q : ev Φ false ia τ B with
    | ok x =>
      rw [q] at out
      intro v H' Hs' ρ' g l b r
      obtain ⟨d, o, e, e1, e2, q⟩ := out v H' Hs' ρ' g l b r
      have hd : ∃ i, d = .int i ∧ o = some i := by
        cases ia <;> first | exact absurd rfl hn | (cases d <;> cases e; exact ⟨_, rfl, rfl⟩)
      obtain ⟨i, rfl, rfl⟩ := hd
      exact ⟨i, e2 i rfl, q⟩
    | ex c ps B => rw [q] at out; exact out
    | bad => rw [q] at out; exact out⟩⟩
theorem cut_core {R : Hp → List Addr → Hp → D × List D → Prop} (hR : Shf R) {σV : L2.St} {H : Hp} {Q : VK} {p : Bool} {il ih : E} (hq : ∀ Hs ρ H x, R Hs ρ H x → YldN X.K Hs ρ H x.2 x.1 Q)
    (h : ∃ Hs ρ σ B, Stt X.K Hs ρ H σV σ B ∧ OutG X.K (fun c d h => W c d σV h) Hs ρ H (ev Φ p (.cut ia il ih) σ B) (R Hs ρ H)) : tSl (rCut X.K) (rdE X.K Φ W true ia) (rdO X.K Φ W il) (rdO X.K Φ W ih) σV H Q := by
  obtain ⟨Hs, ρ, σ, B, st, out⟩ := h
  refine ⟨Hs, ρ, σ, B, st, OutG.bindE hR out fun x B1 v H1 Hs1 ρ1 g1 l1 b1 r1 out => ?_⟩
  refine ⟨Hs1, ρ1, σ, B1, st.grow g1 l1 b1, OutG.bindE hR out fun y B2 u H2 Hs2 ρ2 g2 l2 b2 r2 out => ?_⟩
  obtain ⟨o1, ho1, out⟩ := OutG.of out
  refine ⟨y, o1, ho1, fun e => ?_, fun i e => ?_, ?_⟩
  · subst e; have r := r2.val; cases r; rfl
  · subst e; have r := r2.val; cases r; rfl
  refine ⟨Hs2, ρ2, σ, B2, st.grow (g1.trans g2) l2 b2, OutG.bindE hR out fun z B3 w H3 Hs3 ρ3 g3 l3 b3 r3 out => ?_⟩
  obtain ⟨o2, ho2, out⟩ := OutG.of out
  refine ⟨z, o2, ho2, fun e => ?_, fun i e => ?_, ?_⟩
  · subst e; have r := r3.val; cases r; rfl
  · subst e; have r := r3.val; cases r; rfl
  obtain ⟨d, hd, out⟩ := OutG.of out
  exact ⟨Hs3, ρ3, B3, _, d, l3, b3, drf_ok ((r1.grow g2).grow g3) b3, hd, hq _ _ _ (d, B3) out⟩
theorem e_cut {lo hi : Option Expr} {il ih : E} {p2 : Pos} (ha : EOk X Φ W a ia) (hl : OOk X Φ W lo il) (hh : OOk X Φ W hi ih) : EOk X Φ W (.Subscript a (.Slice lo hi none p2) pos) (.cut ia il ih) :=
  ⟨fun p => (pe_slice sl_ok (ha.run true) hl.run hh.run).weaken fun σV H Q h => cut_core Yld.shf (fun _ _ _ _ h => .of h) h⟩
theorem f_cut {lo hi : Option Expr} {il ih : E} {p2 : Pos} (ha : EOk X Φ W a ia) (hl : OOk X Φ W lo il) (hh : OOk X Φ W hi ih) : FOk X Φ W (.Subscript a (.Slice lo hi none p2) pos) (.cut ia il ih) :=
  ⟨(pe_slice sl_ok (ha.run true) hl.run hh.run).weaken fun σV H Q h => cut_core YldF.shf (fun _ _ _ _ h => .ofF h) h⟩
end
end Pz
end
section
set_option Elab.async false
set_option linter.all false
set_option maxRecDepth 100000
namespace Pz
open PySem PySem.Spec PyProof.Rows L2

/-! ### the state between statements -/
structure En where
  Hs : Hp
  H : Hp
  ρ : List Addr
structure SSt (K : PySem.W.Frag) (E : En) (Hs : Hp) (ρ : List Addr) (H : Hp) (σV : L2.St) (σ : Sg) (B : List D) : Prop where
  st : Stt K Hs ρ H σV σ B
  gr : Gr E.Hs E.H E.ρ Hs H ρ
  ow : ∀ (i : Nat) (a : Addr) (d : D), σ[i]? = some (.own d) → σV[i]? = some (some (.ref a)) → E.H a = none
section
variable {K : PySem.W.Frag} {E : En} {Hs Hs' H H' : Hp} {ρ ρ' : List Addr} {σV : L2.St} {σ : Sg} {B B' : List D}
theorem SSt.grow (s : SSt K E Hs ρ H σV σ B) (g : Gr Hs H ρ Hs' H' ρ') (l : Le Hs' H') (b : BOk K Hs' ρ' H' B') : SSt K E Hs' ρ' H' σV σ B' := ⟨s.st.grow g l b, s.gr.trans g, s.ow⟩
theorem Stt.slotV (s : Stt K Hs ρ H σV σ B) {i : Nat} {d : D} (e : σ[i]? = some (.own d)) : ∃ a, σV[i]? = some (some (.ref a)) ∧ OwnAt K Hs ρ H a d ∧ Hs a = none ∧ a ∉ ρ := by
  obtain ⟨a, e1, h⟩ := s.sl i _ e
  refine ⟨a, ?_, h⟩
  cases q : σV[i]? with
  | none => rw [q] at e1; cases e1
  | some o => rw [q] at e1; exact congrArg some e1
theorem set_at {α : Type} {l : List α} {i j : Nat} {x y : α} (h : (l.set i x)[j]? = some y) : (i = j ∧ y = x) ∨ (i ≠ j ∧ l[j]? = some y) := by
  by_cases e : i = j
  · subst e
    have hl : i < (l.set i x).length := (List.getElem?_eq_some_iff.mp h).1
    rw [List.length_set] at hl
    rw [List.getElem?_set_self hl] at h
    exact .inl ⟨rfl, (Option.some.inj h).symm⟩
  · rw [List.getElem?_set_ne e] at h
    exact .inr ⟨e, h⟩
/-- a value at a name -/
theorem SSt.setV (s : SSt K E Hs ρ H σV σ B) {i : Nat} {d : D} {v : V} (hi : i < σ.length) (r : Rep K Hs ρ d v) : SSt K E Hs ρ H (σV.set i (some v)) (σ.set i (.val d)) B where
  gr := s.gr
  ow := fun j a e h1 h2 => by
    rcases set_at h1 with ⟨_, q⟩ | ⟨q, h1⟩
    · cases q
    · rw [List.getElem?_set_ne q] at h2
      exact s.ow j a e h1 h2
  st := {
    le := s.st.le
    bx := s.st.bx
    len := by rw [List.length_set, List.length_set]; exact s.st.len
    sl := fun j x h => by
      rcases set_at h with ⟨q, rfl⟩ | ⟨q, h⟩
      · subst q
        rw [List.getElem?_set_self (by rw [s.st.len]; exact hi)]
        exact ⟨v, rfl, r⟩
      · rw [List.getElem?_set_ne q]
        exact s.st.sl j x h
    di := fun j k a d1 d2 h1 h2 h3 h4 => by
      rcases set_at h1 with ⟨_, q⟩ | ⟨q1, h1⟩
      · cases q
      rcases set_at h2 with ⟨_, q⟩ | ⟨q2, h2⟩
      · cases q
      rw [List.getElem?_set_ne q1] at h3
      rw [List.getElem?_set_ne q2] at h4
      exact s.st.di j k a d1 d2 h1 h2 h3 h4 }
/-- an owned thing at a name -/
theorem SSt.setO (s : SSt K E Hs ρ H σV σ B) {i : Nat} {d : D} {a : Addr} (hi : i < σ.length) (r : OwnAt K Hs ρ H a d) (n : Hs a = none) (nr : a ∉ ρ) (ne : E.H a = none)
    (nd : ∀ (j : Nat) (e : D), σ[j]? = some (.own e) → σV[j]? ≠ some (some (.ref a))) : SSt K E Hs ρ H (σV.set i (some (.ref a))) (σ.set i (.own d)) B where
  gr := s.gr
  ow := fun j b e h1 h2 => by
    rcases set_at h1 with ⟨q, _⟩ | ⟨q, h1⟩
    · subst q
      rw [List.getElem?_set_self (by rw [s.st.len]; exact hi)] at h2
      cases h2
      exact ne
    · rw [List.getElem?_set_ne q] at h2
      exact s.ow j b e h1 h2
  st := {
    le := s.st.le
    bx := s.st.bx
    len := by rw [List.length_set, List.length_set]; exact s.st.len
    sl := fun j x h => by
      rcases set_at h with ⟨q, rfl⟩ | ⟨q, h⟩
      · subst q
        rw [List.getElem?_set_self (by rw [s.st.len]; exact hi)]
        exact ⟨a, rfl, r, n, nr⟩
      · rw [List.getElem?_set_ne q]
        exact s.st.sl j x h
    di := fun j k b d1 d2 h1 h2 h3 h4 => by
      rcases set_at h1 with ⟨q1, _⟩ | ⟨q1, h1⟩
      · subst q1
        rw [List.getElem?_set_self (by rw [s.st.len]; exact hi)] at h3
        cases h3
        rcases set_at h2 with ⟨q2, _⟩ | ⟨q2, h2⟩
        · exact q2
        · rw [List.getElem?_set_ne q2] at h4
          exact absurd h4 (nd k d2 h2)
      · rw [List.getElem?_set_ne q1] at h3
        rcases set_at h2 with ⟨q2, _⟩ | ⟨q2, h2⟩
        · subst q2
          rw [List.getElem?_set_self (by rw [s.st.len]; exact hi)] at h4
          cases h4
          exact absurd h3 (nd j d1 h1)
        · rw [List.getElem?_set_ne q2] at h4
          exact s.st.di j k b d1 d2 h1 h2 h3 h4 }
/-- nothing at a name -/
theorem SSt.mut (s : SSt K E Hs ρ H σV σ B) {i : Nat} {d c : D} {a : Addr} {o : HO} (e : σ[i]? = some (.own d)) (ea : σV[i]? = some (some (.ref a))) (r : OwnAt K Hs ρ (upd H a o) a c) : SSt K E Hs ρ (upd H a o) σV (σ.set i (.own c)) B := by
  obtain ⟨a', ea', hw, n, nr⟩ := s.st.slotV e
  have hae : a' = a := by rw [ea] at ea'; cases ea'; rfl
  subst hae
  have ne := s.ow i a' d e ea
  obtain ⟨u, hu⟩ := hw.some_
  have hi : i < σ.length := (List.getElem?_eq_some_iff.mp e).1
  have hne : ∀ b w, Hs b = some w → b ≠ a' := fun b w q => ne_of_none q n
  refine ⟨⟨fun b w q => ?_, ⟨s.st.bx.len, s.st.bx.nd, fun m b f e1 e2 => ?_⟩, by rw [List.length_set]; exact s.st.len, fun j x h => ?_, fun j k b d1 d2 h1 h2 h3 h4 => ?_⟩, ⟨s.gr.hs, s.gr.fr, fun b w q nb => ?_, fun b w q => ?_, s.gr.rp, s.gr.rn⟩, fun j b f h1 h2 => ?_⟩
  · rw [upd_ne (hne b w q)]
    exact s.st.le b w q
  · obtain ⟨hb, hn⟩ := s.st.bx.at_ m b f e1 e2
    refine ⟨hb.mono (Le.refl _) (List.prefix_refl _) (upd_ne fun z => nr (by rw [← z]; exact List.mem_of_getElem? e1)), hn⟩
  · rcases set_at h with ⟨q, rfl⟩ | ⟨q, h⟩
    · subst q
      rw [ea]
      exact ⟨a', rfl, r, n, nr⟩
    · have hs := s.st.sl j x h
      cases x with
      | no => trivial
      | val f => exact hs
      | own f =>
        obtain ⟨b, hb, h2⟩ := s.st.slotV h
        rw [hb]
        refine ⟨b, rfl, h2.1.mono (Le.refl _) (List.prefix_refl _) (upd_ne fun z => q ?_), h2.2⟩
        subst z
        exact s.st.di i j b d f e h ea hb
  · have back : ∀ (j : Nat) (f : D), (σ.set i (.own c))[j]? = some (.own f) → ∃ f', σ[j]? = some (.own f') := fun j f h => by
      rcases set_at h with ⟨q, _⟩ | ⟨q, h⟩
      · subst q; exact ⟨d, e⟩
      · exact ⟨f, h⟩
    obtain ⟨f1, h1⟩ := back j d1 h1
    obtain ⟨f2, h2⟩ := back k d2 h2
    exact s.st.di j k b f1 f2 h1 h2 h3 h4
  · rw [upd_ne (ne_of_none q ne)]
    exact s.gr.kp b w q nb
  · by_cases z : b = a'
    · subst z; exact ⟨_, upd_same⟩
    · rw [upd_ne z]
      exact s.gr.th b w q
  · rcases set_at h1 with ⟨q, _⟩ | ⟨q, h1⟩
    · subst q
      exact s.ow i b d e h2
    · exact s.ow j b f h1 h2
/-- a box is written -/
theorem SSt.mutB (s : SSt K E Hs ρ H σV σ B) {n : Nat} {c c' : D} {a : Addr} {o : HO} (e : B[n]? = some c) (ea : ρ[n]? = some a) (r : OwnAt K Hs ρ (upd H a o) a c') : SSt K E Hs ρ (upd H a o) σV σ (B.set n c') := by
  obtain ⟨hw, hn⟩ := s.st.bx.at_ n a c ea e
  obtain ⟨u, hu⟩ := hw.some_
  have hne : ∀ b w, Hs b = some w → b ≠ a := fun b w q => ne_of_none q hn
  have har : a ∈ ρ := List.mem_of_getElem? ea
  refine ⟨⟨fun b w q => ?_, ⟨by rw [List.length_set]; exact s.st.bx.len, s.st.bx.nd, fun m b f e1 e2 => ?_⟩, s.st.len, fun j x h => ?_, s.st.di⟩, ⟨s.gr.hs, s.gr.fr, fun b w q nb => ?_, fun b w q => ?_, s.gr.rp, s.gr.rn⟩, s.ow⟩
  · rw [upd_ne (hne b w q)]
    exact s.st.le b w q
  · rcases set_at e2 with ⟨q, rfl⟩ | ⟨q, e2⟩
    · subst q
      rw [ea] at e1; cases e1
      exact ⟨r, hn⟩
    · obtain ⟨hb, hn2⟩ := s.st.bx.at_ m b f e1 e2
      refine ⟨hb.mono (Le.refl _) (List.prefix_refl _) (upd_ne fun z => q ?_), hn2⟩
      subst z
      exact (List.getElem?_inj (List.getElem?_eq_some_iff.mp ea).1 s.st.bx.nd).mp (ea.trans e1.symm)
  · have hs := s.st.sl j x h
    cases x with
    | no => trivial
    | val f => exact hs
    | own f =>
      obtain ⟨b, hb, h2⟩ := hs
      exact ⟨b, hb, h2.1.mono (Le.refl _) (List.prefix_refl _) (upd_ne fun z => h2.2.2 (by rw [z]; exact har)), h2.2⟩
  · refine (upd_ne fun z => ?_).trans (s.gr.kp b w q nb)
    subst z
    rcases s.gr.rn b har with k | k
    · exact nb k
    · rw [q] at k; cases k
  · by_cases z : b = a
    · subst z; exact ⟨_, upd_same⟩
    · rw [upd_ne z]
      exact s.gr.th b w q

/-! ### owned things given away -/
theorem SSt.frz1 (s : SSt K E Hs ρ H σV σ B) (i : Nat) : ∃ Hs', SSt K E Hs' ρ H σV (σ.modify i frzS) B := by
  have same : (∀ d, σ[i]? ≠ some (.own d)) → σ.modify i frzS = σ := fun h => by
    refine List.ext_getElem? fun j => ?_
    rw [List.getElem?_modify]
    by_cases e : i = j
    · subst e
      cases q : σ[i]? with
      | none => rfl
      | some x =>
        cases x with
        | own d => exact absurd q (h d)
        | _ => simp [frzS]
    · simp [e]
  cases q : σ[i]? with
  | none => exact ⟨Hs, by rw [same (fun d => by rw [q]; simp)]; exact s⟩
  | some x =>
    cases x with
    | no => exact ⟨Hs, by rw [same (fun d => by rw [q]; simp)]; exact s⟩
    | val d => exact ⟨Hs, by rw [same (fun d => by rw [q]; simp)]; exact s⟩
    | own d =>
      obtain ⟨a, ea, hw, n, nr⟩ := s.st.slotV q
      obtain ⟨o, ho⟩ := hw.some_
      have ne := s.ow i a d q ea
      have at_ : ∀ (j : Nat) (x : Sl), (σ.modify i frzS)[j]? = some x → (i = j ∧ x = .val d) ∨ (i ≠ j ∧ σ[j]? = some x) := fun j x h => by
        rw [List.getElem?_modify] at h
        by_cases e : i = j
        · subst e
          rw [q] at h
          simp [frzS] at h
          exact .inl ⟨rfl, h.symm⟩
        · simp [e] at h
          exact .inr ⟨e, h⟩
      have ls := hs_share (o := o) n
      refine ⟨upd Hs a o, ⟨le_share s.st.le ho, bok_share s.st.bx n nr, by rw [List.length_modify]; exact s.st.len, fun j x h => ?_, fun j k b d1 d2 h1 h2 h3 h4 => ?_⟩, ⟨fun b w e => ?_, fun b w e => ?_, s.gr.kp, s.gr.th, s.gr.rp, s.gr.rn⟩, fun j b f h1 h2 => ?_⟩
      · rcases at_ j x h with ⟨z, rfl⟩ | ⟨z, h⟩
        · subst z
          rw [ea]
          exact ⟨_, rfl, OwnAt.rep ls (List.prefix_refl _) (by rw [upd_same]; exact ho.symm) hw⟩
        · have hs := s.st.sl j x h
          cases x with
          | no => trivial
          | val f =>
            obtain ⟨v, e1, r⟩ := hs
            exact ⟨v, e1, r.mono ls (List.prefix_refl _)⟩
          | own f =>
            obtain ⟨b, hb, h2⟩ := s.st.slotV h
            rw [hb]
            refine ⟨b, rfl, h2.1.mono ls (List.prefix_refl _) rfl, ?_, h2.2.2⟩
            rw [upd_ne fun w => z ?_]
            · exact h2.2.1
            · subst w
              exact s.st.di i j b d f q h ea hb
      · rcases at_ j _ h1 with ⟨_, z⟩ | ⟨_, h1⟩
        · cases z
        rcases at_ k _ h2 with ⟨_, z⟩ | ⟨_, h2⟩
        · cases z
        exact s.st.di j k b d1 d2 h1 h2 h3 h4
      · have k := s.gr.hs b w e
        rw [upd_ne (ne_of_none k n)]
        exact k
      · by_cases z : b = a
        · subst z; exact .inr ne
        · rw [upd_ne z] at e
          exact s.gr.fr b w e
      · rcases at_ j _ h1 with ⟨_, z⟩ | ⟨_, h1⟩
        · cases z
        exact s.ow j b f h1 h2
theorem SSt.frz : ∀ {is : List Nat} {Hs : Hp} {σ : Sg}, SSt K E Hs ρ H σV σ B → ∃ Hs', SSt K E Hs' ρ H σV (frzAt is σ) B
  | [], Hs, _, s => ⟨Hs, s⟩
  | i :: is, Hs, σ, s => by
    obtain ⟨Hs1, s1⟩ := s.frz1 i
    exact SSt.frz (is := is) s1
theorem frzAt_at : ∀ (is : List Nat) (σ : Sg) (j : Nat), (frzAt is σ)[j]? = if j ∈ is then (σ[j]?).map frzS else σ[j]?
  | [], σ, j => by simp [frzAt]
  | i :: is, σ, j => by
    show (frzAt is (σ.modify i frzS))[j]? = _
    rw [frzAt_at is, List.getElem?_modify]
    by_cases e : i = j
    · subst e
      by_cases h : i ∈ is
      · rw [if_pos h, if_pos (List.mem_cons_self)]
        cases σ[i]? with
        | none => rfl
        | some x => cases x <;> simp [frzS]
      · rw [if_neg h, if_pos (List.mem_cons_self)]
        simp
    · have : j ≠ i := fun z => e z.symm
      simp [e, this]
theorem frzAll_eq (σ : Sg) : frzAll σ = frzAt (List.range σ.length) σ := by
  refine List.ext_getElem? fun j => ?_
  rw [frzAt_at]
  unfold frzAll
  rw [List.getElem?_map]
  by_cases h : j < σ.length
  · rw [if_pos (List.mem_range.mpr h)]
  · rw [List.getElem?_eq_none (by omega)]
    simp
theorem SSt.frzA (s : SSt K E Hs ρ H σV σ B) : ∃ Hs', SSt K E Hs' ρ H σV (frzAll σ) B := by
  rw [frzAll_eq]
  exact s.frz
end

/-! ### readings of statements -/
def EndAt (K : PySem.W.Frag) (D_ : Ends) (Hs : Hp) (ρ : List Addr) (H : Hp) (σV : L2.St) (fl : Fl) : Prop :=
  match fl with
  | .next => D_.nx σV H
  | .brk => D_.bk σV H
  | .cnt => D_.ct σV H
  | .ret d => ∀ v, Rep K Hs ρ d v → D_.rt v H
def OutS (K : PySem.W.Frag) (W : XK) (E : En) (D_ : Ends) (r : Rq) : Prop :=
  OutG K W E.Hs E.ρ E.H r fun x => ∀ σV H Hs ρ, SSt K E Hs ρ H σV x.2.1 x.2.2 → EndAt K D_ Hs ρ H σV x.1
def rdS (K : PySem.W.Frag) (Φ : Fn) (W : XK) (E : En) (s : S) : TS := fun D_ σV H => ∃ Hs ρ σ B, SSt K E Hs ρ H σV σ B ∧ OutS K W E D_ (ex Φ s σ B)
def rdSs (K : PySem.W.Frag) (Φ : Fn) (W : XK) (E : En) (s : Ss) : TS := fun D_ σV H => ∃ Hs ρ σ B, SSt K E Hs ρ H σV σ B ∧ OutS K W E D_ (exs Φ s σ B)
structure StOk (X : Cx) (Φ : Fn) (ps : Stmt) (is : S) : Prop where
  run : ∀ W E, PS X ps (rdS X.K Φ W E is)
structure SsOk (X : Cx) (Φ : Fn) (ps : List Stmt) (is : Ss) : Prop where
  run : ∀ W E, PSs X ps (rdSs X.K Φ W E is)
theorem exx_any {K : PySem.W.Frag} {Hs H : Hp} {ρ : List Addr} {c : Nat} {ps B : List D} {W : XK} : Exx K Hs ρ H c ps B W := fun _ _ _ _ _ _ _ _ h => h.elim
section
variable {K : PySem.W.Frag} {E : En} {Hs H : Hp} {ρ : List Addr} {W W' : XK} {D_ : Ends}
theorem OutS.bindE {q : Bool} {r : Rs (D × List D)} {f : D × List D → Rq} {Q : VK} (h : OutS K W E D_ (r.bind f))
    (k : ∀ d B' v H' Hs' ρ', Gr Hs H ρ Hs' H' ρ' → Le Hs' H' → BOk K Hs' ρ' H' B' → RelP K q Hs' ρ' H' d v → OutS K W E D_ (f (d, B')) → Q v H') : Out K W' q Hs ρ H r Q := by
  cases r with
  | ok x => exact fun v H' Hs' ρ' g l b r => k x.1 x.2 v H' Hs' ρ' g l b r h
  | ex c ps B => exact exx_any
  | bad => exact h
theorem OutS.bindF {r : Rs (D × List D)} {f : D × List D → Rq} {Q : VK} (h : OutS K W E D_ (r.bind f)) (hl : ∀ x, r = .ok x → isLD x.1 = true)
    (k : ∀ d B' a H' Hs' ρ', Gr Hs H ρ Hs' H' ρ' → Le Hs' H' → BOk K Hs' ρ' H' B' → OwnAt K Hs' ρ' H' a d → Hs' a = none → a ∉ ρ' → H a = none → OutS K W E D_ (f (d, B')) → Q (.ref a) H') : OutF K W' Hs ρ H r Q := by
  cases r with
  | ok x => exact ⟨hl x rfl, fun v H' Hs' ρ' g l b r n nr hn => k x.1 x.2 v H' Hs' ρ' g l b r n nr hn h⟩
  | ex c ps B => exact exx_any
  | bad => exact h
theorem OutS.of {α : Type} {o : Option α} {f : α → Rq} (h : OutS K W E D_ ((Rs.of o).bind f)) : ∃ a, o = some a ∧ OutS K W E D_ (f a) := OutG.of h
theorem OutS.isB {x : D} {f : Bool → Rq} (h : OutS K W E D_ (isB x f)) : ∃ k, x = .bl k ∧ OutS K W E D_ (f k) := by
  cases x with
  | bl b => exact ⟨b, rfl, h⟩
  | _ => exact h.elim
end
section
variable {X : Cx} {Φ : Fn} {pos : Pos} {st : Stmt} {rest : List Stmt} {is : S} {iss : Ss} {e : Expr} {ie : E}
/-- where a reading of expressions asks for a wish, any will do -/
abbrev WX0 : WX := fun _ _ _ _ => False
theorem ss_nil : SsOk X Φ [] .nil := ⟨fun W E => pss_nil.weaken fun D_ σV H ⟨Hs, ρ, σ, B, s, out⟩ => out σV H Hs ρ s⟩
theorem ss_cons (h1 : StOk X Φ st is) (h2 : SsOk X Φ rest iss) : SsOk X Φ (st :: rest) (.cons is iss) :=
  ⟨fun W E => (pss_cons (h1.run W E) (h2.run W E)).weaken fun D_ σV H ⟨Hs, ρ, σ, B, s, out⟩ => by
    refine ⟨Hs, ρ, σ, B, s, ?_⟩
    have out : OutS X.K W E D_ ((ex Φ is σ B).bind fun x => match x.1 with
      | .next => exs Φ iss x.2.1 x.2.2
      | fl => .ok (fl, x.2.1, x.2.2)) := out
    cases q : ex Φ is σ B with
    | bad => rw [q] at out; exact out
    | ex c ps B => exact exx_any
    | ok x =>
      rw [q] at out
      obtain ⟨fl, σ', B'⟩ := x
      cases fl with
      | next => exact fun σV' H' Hs' ρ' s' => ⟨Hs', ρ', σ', B', s', out⟩
      | brk => exact fun σV' H' Hs' ρ' s' => out σV' H' Hs' ρ' s'
      | cnt => exact fun σV' H' Hs' ρ' s' => out σV' H' Hs' ρ' s'
      | ret d => exact fun σV' H' Hs' ρ' s' => out σV' H' Hs' ρ' s'⟩
theorem ss_one (h1 : StOk X Φ st is) : SsOk X Φ [st] (.cons is .nil) := ss_cons h1 ss_nil
theorem s_pass : StOk X Φ (.Pass pos) .pass := ⟨fun W E => ps_pass.weaken fun D_ σV H ⟨Hs, ρ, σ, B, s, out⟩ => out σV H Hs ρ s⟩
theorem s_doc {x j pos'} : StOk X Φ (.Expr (.Constant (.str x) j pos) pos') .pass := ⟨fun W E => ps_doc.weaken fun D_ σV H ⟨Hs, ρ, σ, B, s, out⟩ => out σV H Hs ρ s⟩
theorem s_brk : StOk X Φ (.Break pos) .brk := ⟨fun W E => ps_break.weaken fun D_ σV H ⟨Hs, ρ, σ, B, s, out⟩ => out σV H Hs ρ s⟩
theorem s_cnt : StOk X Φ (.Continue pos) .cnt := ⟨fun W E => ps_continue.weaken fun D_ σV H ⟨Hs, ρ, σ, B, s, out⟩ => out σV H Hs ρ s⟩
theorem s_never : StOk X Φ st .never := ⟨fun W E => ps_never.weaken fun D_ σV H ⟨Hs, ρ, σ, B, s, out⟩ => out⟩
theorem s_fz {l : List Nat} (h : StOk X Φ st is) : StOk X Φ st (.fz l is) := ⟨fun W E => (h.run W E).weaken fun D_ σV H ⟨Hs, ρ, σ, B, s, out⟩ => by
  obtain ⟨Hs', s'⟩ := s.frz (is := l)
  exact ⟨Hs', ρ, _, B, s', out⟩⟩
theorem s_expr (h : EOk X Φ WX0 e ie) (hs : swapsWith e none pos.line X.env = pure false := by rfl) : StOk X Φ (.Expr e pos) (.expr ie) :=
  ⟨fun W E => (ps_expr (h.run false) hs).weaken fun D_ σV H ⟨Hs, ρ, σ, B, s, out⟩ => by
    exact ⟨Hs, ρ, σ, B, s.st, OutS.bindE out fun d B' v H' Hs' ρ' g l b r out => out σV H' Hs' ρ' (s.grow g l b)⟩⟩
theorem s_ret (h : EOk X Φ WX0 e ie) : StOk X Φ (.Return (some e) pos) (.ret ie) :=
  ⟨fun W E => (ps_ret (h.run false)).weaken fun D_ σV H ⟨Hs, ρ, σ, B, s, out⟩ => by
    obtain ⟨Hs1, s1⟩ := s.frzA
    exact ⟨Hs1, ρ, _, B, s1.st, OutS.bindE out fun d B' v H' Hs' ρ' g l b r out => out σV H' Hs' ρ' (s1.grow g l b) v r.val⟩⟩
theorem s_retN : StOk X Φ (.Return none pos) .retN :=
  ⟨fun W E => ps_retN.weaken fun D_ σV H ⟨Hs, ρ, σ, B, s, out⟩ => out σV H Hs ρ s .non .non⟩
theorem s_if {c : Expr} {ic : E} {a b : List Stmt} {ia ib : Ss} (hc : TOk X Φ WX0 c ic) (ha : SsOk X Φ a ia) (hb : SsOk X Φ b ib) : StOk X Φ (.If c a b pos) (.ifs ic ia ib) :=
  ⟨fun W E => (ps_if hc.run (ha.run W E) (hb.run W E)).weaken fun D_ σV H ⟨Hs, ρ, σ, B, s, out⟩ => by
    refine ⟨Hs, ρ, σ, B, s.st, OutS.bindE out fun d B' v H' Hs' ρ' g l b r out => ?_⟩
    obtain ⟨k, rfl, out⟩ := out.isB
    refine ⟨k, bl_of r, ?_⟩
    cases k with
    | true => exact ⟨Hs', ρ', σ, B', s.grow g l b, out⟩
    | false => exact ⟨Hs', ρ', σ, B', s.grow g l b, out⟩⟩
/-- name = value -/
theorem evX_val {e : E} {σ : Sg} {B : List D} (h : ∀ f, e ≠ .fresh f) : evX Φ e σ B = (ev Φ false e σ B).bind fun x => .ok (.val x.1, x.2) := by
  cases e <;> first | rfl | exact absurd rfl (h _)
theorem asg_if {i : Nat} {v : Sl} {σ : Sg} {B : List D} {E : En} {W : XK} {D_ : Ends} (h : OutS X.K W E D_ ((asg Φ (.nm i) v σ B).bind fun y => .ok (.next, y.1, y.2))) : i < σ.length ∧ OutS X.K W E D_ (.ok (.next, σ.set i v, B)) := by
  have h : OutS X.K W E D_ ((if i < σ.length then Rs.ok (σ.set i v, B) else .bad).bind fun y => .ok (.next, y.1, y.2)) := h
  by_cases z : i < σ.length
  · rw [if_pos z] at h; exact ⟨z, h⟩
  · rw [if_neg z] at h; exact h.elim
theorem s_set {i : Nat} {x : Str} {pos' : Pos} (hN : X.N.Nodup) (hi : X.N[i]? = some x) (hx : Loc X.env.scope x) (h : EOk X Φ WX0 e ie) (hn : ∀ f, ie ≠ .fresh f) (hs : swapsWith e (some (.Name x pos')) pos.line X.env = pure false := by rfl)
    (hf : X.fn x = true ∨ X.env.scope.names.lookup x = some .local := by first | exact .inl rfl | exact .inr rfl) : StOk X Φ (.Assign [.Name x pos'] e pos) (.asg (.nm i) ie) :=
  ⟨fun W E => (ps_set hN hi hx (h.run false) hs hf).weaken fun D_ σV H ⟨Hs, ρ, σ, B, s, out⟩ => by
    have out : OutS X.K W E D_ ((evX Φ ie σ B).bind fun x => (asg Φ (.nm i) x.1 σ x.2).bind fun y => .ok (.next, y.1, y.2)) := out
    rw [evX_val hn] at out
    refine ⟨Hs, ρ, σ, B, s.st, ?_⟩
    cases q : ev Φ false ie σ B with
    | bad => rw [q] at out; exact out
    | ex c ps B => exact exx_any
    | ok x =>
      rw [q] at out
      obtain ⟨hi, out⟩ := asg_if out
      exact fun v H' Hs' ρ' g l b r => out _ H' Hs' ρ' ((s.grow g l b).setV hi r.val)⟩
theorem s_setF {i : Nat} {x : Str} {pos' : Pos} (hN : X.N.Nodup) (hi : X.N[i]? = some x) (hx : Loc X.env.scope x) (h : FOk X Φ WX0 e ie) (hs : swapsWith e (some (.Name x pos')) pos.line X.env = pure false := by rfl)
    (hf : X.fn x = true ∨ X.env.scope.names.lookup x = some .local := by first | exact .inl rfl | exact .inr rfl) : StOk X Φ (.Assign [.Name x pos'] e pos) (.asg (.nm i) (.fresh ie)) :=
  ⟨fun W E => (ps_set hN hi hx h.run hs hf).weaken fun D_ σV H ⟨Hs, ρ, σ, B, s, out⟩ => by
    have out : OutS X.K W E D_ (((ev Φ false ie σ B).bind fun x => if isLD x.1 then .ok (.own x.1, x.2) else .bad).bind fun x => (asg Φ (.nm i) x.1 σ x.2).bind fun y => .ok (.next, y.1, y.2)) := out
    refine ⟨Hs, ρ, σ, B, s.st, ?_⟩
    cases q : ev Φ false ie σ B with
    | bad => rw [q] at out; exact out
    | ex c ps B => exact exx_any
    | ok x =>
      rw [q] at out
      have hl : isLD x.1 = true := by
        cases z : isLD x.1 with
        | true => rfl
        | false =>
          have out : OutS X.K W E D_ ((if isLD x.1 = true then Rs.ok (Sl.own x.1, x.2) else .bad).bind fun x => (asg Φ (.nm i) x.1 σ x.2).bind fun y => .ok (.next, y.1, y.2)) := out
          rw [z, if_neg Bool.false_ne_true] at out
          exact out.elim
      have out : OutS X.K W E D_ ((if isLD x.1 = true then Rs.ok (Sl.own x.1, x.2) else .bad).bind fun x => (asg Φ (.nm i) x.1 σ x.2).bind fun y => .ok (.next, y.1, y.2)) := out
      rw [if_pos hl] at out
      obtain ⟨hi, out⟩ := asg_if out
      refine ⟨hl, fun a H' Hs' ρ' g l b r n nr hn => out _ H' Hs' ρ' ((s.grow g l b).setO hi r n nr ?_ fun j f h1 h2 => ?_)⟩
      · exact s.gr.none_ hn
      · obtain ⟨a', e1, h3, _⟩ := s.st.slotV h1
        rw [h2] at e1
        cases e1
        obtain ⟨u, hu⟩ := h3.some_
        rw [hn] at hu; cases hu⟩
end
end Pz
end
section
set_option Elab.async false
set_option linter.all false
set_option maxRecDepth 100000
namespace Pz
open PySem PySem.Spec PyProof.Rows L2

/-! ### what an iterator yields -/
def Cnd (p : Bool) (Hs : Hp) (H : Hp) (ρ : List Addr) (Hs' : Hp) (H' : Hp) (ρ' : List Addr) : Prop :=
  (∀ a o, Hs a = some o → Hs' a = some o) ∧ ρ <+: ρ' ∧ (p = true → Gr Hs H ρ Hs' H' ρ')
structure ItR (K : PySem.W.Frag) (p : Bool) (J : It) (Hs : Hp) (ρ : List Addr) (H : Hp) (ds : List D) : Prop where
  go : ∀ (i : Nat) (Hs' H' : Hp) (ρ' : List Addr), Cnd p Hs H ρ Hs' H' ρ' → Le Hs' H' → i < ds.length → J.go i H'
  stop : ∀ (i : Nat) (Hs' H' : Hp) (ρ' : List Addr), Cnd p Hs H ρ Hs' H' ρ' → Le Hs' H' → ds.length ≤ i → J.stop i H'
  yld : ∀ (i : Nat) (Hs' H' : Hp) (ρ' : List Addr) (B : List D) (x : V) (H2 : Hp) (d : D), Cnd p Hs H ρ Hs' H' ρ' → Le Hs' H' → BOk K Hs' ρ' H' B → ds[i]? = some d → J.yld i H' x H2 →
    ∃ Hs2, Gr Hs' H' ρ' Hs2 H2 ρ' ∧ Le Hs2 H2 ∧ BOk K Hs2 ρ' H2 B ∧ Rep K Hs2 ρ' d x
theorem Cnd.of {p : Bool} {Hs H Hs' H' : Hp} {ρ ρ' : List Addr} (g : Gr Hs H ρ Hs' H' ρ') : Cnd p Hs H ρ Hs' H' ρ' := ⟨g.hs, g.rp, fun _ => g⟩
section
variable {K : PySem.W.Frag} {p : Bool} {Hs H : Hp} {ρ : List Addr}
theorem ItR.same {J : It} {ds : List D} (go : ∀ (i : Nat) (Hs' H' : Hp) (ρ' : List Addr), Cnd p Hs H ρ Hs' H' ρ' → Le Hs' H' → i < ds.length → J.go i H')
    (stop : ∀ (i : Nat) (Hs' H' : Hp) (ρ' : List Addr), Cnd p Hs H ρ Hs' H' ρ' → Le Hs' H' → ds.length ≤ i → J.stop i H')
    (yld : ∀ (i : Nat) (Hs' H' : Hp) (ρ' : List Addr) (x : V) (H2 : Hp) (d : D), Cnd p Hs H ρ Hs' H' ρ' → Le Hs' H' → ds[i]? = some d → J.yld i H' x H2 → H2 = H' ∧ Rep K Hs' ρ' d x) : ItR K p J Hs ρ H ds :=
  ⟨go, stop, fun i Hs' H' ρ' B x H2 d c l b e y => by
    obtain ⟨rfl, r⟩ := yld i Hs' H' ρ' x H2 d c l e y
    exact ⟨Hs', .refl, l, b, r⟩⟩
theorem cnd_le {Hs' H' : Hp} {ρ' : List Addr} (c : Cnd p Hs H ρ Hs' H' ρ') : Le Hs Hs' := Le.of c.1
/-- a list, shared or (p) owned -/
theorem itR_list {l : List D} {a : Addr} (r : RelP K p Hs ρ H (.lst l) (.ref a)) : ItR K p (Itl K a) Hs ρ H l := by
  have key : ∃ xs, (∀ Hs' H' ρ', Cnd p Hs H ρ Hs' H' ρ' → Le Hs' H' → H' a = some (.lst xs)) ∧ RepL K Hs ρ l xs := by
    rcases r with r | ⟨z, a', e, ⟨xs, h1, h2⟩, n, nr⟩
    · cases r with
      | @lst _ _ xs h r => exact ⟨xs, fun Hs' H' ρ' c le => le.lst (c.1 _ _ h), r⟩
    · cases e
      exact ⟨xs, fun Hs' H' ρ' c le => (c.2.2 z).kp a _ h1 nr, h2⟩
  obtain ⟨xs, hk, r⟩ := key
  have uniq : ∀ {H' : Hp} {ys : List V}, H' a = some (.lst xs) → SqL K H' a ys → H' a = some (.lst xs) := fun h _ => h
  refine .same (fun i Hs' H' ρ' c le hi => ?_) (fun i Hs' H' ρ' c le hi => ⟨xs, SqL.of (hk _ _ _ c le), by rw [← r.length]; exact hi⟩) fun i Hs' H' ρ' x H2 d c le e y => ?_
  · obtain ⟨v, e, _⟩ := r.get (List.getElem?_eq_getElem hi)
    exact ⟨xs, v, SqL.of (hk _ _ _ c le), e⟩
  · obtain ⟨e1, e2⟩ := y
    obtain ⟨v, ev_, rv⟩ := r.get e
    have := e2 xs (SqL.of (hk _ _ _ c le))
    rw [ev_] at this; cases this
    exact ⟨e1, rv.mono (cnd_le c) c.2.1⟩
theorem itR_tup {l : List D} {a : Addr} (r : Rep K Hs ρ (.tup l) (.ref a)) : ItR K p (Itt K a) Hs ρ H l := by
  cases r with
  | @tup _ _ xs h r =>
    have hk : ∀ Hs' H' ρ', Cnd p Hs H ρ Hs' H' ρ' → Le Hs' H' → H' a = some (.tup xs) := fun Hs' H' ρ' c le => le.tup (c.1 _ _ h)
    refine .same (fun i Hs' H' ρ' c le hi => ?_) (fun i Hs' H' ρ' c le hi => ⟨xs, SqT.of (hk _ _ _ c le), by rw [← r.length]; exact hi⟩) fun i Hs' H' ρ' x H2 d c le e y => ?_
    · obtain ⟨v, e, _⟩ := r.get (List.getElem?_eq_getElem hi)
      exact ⟨xs, v, SqT.of (hk _ _ _ c le), e⟩
    · obtain ⟨e1, e2⟩ := y
      obtain ⟨v, ev_, rv⟩ := r.get e
      have := e2 xs (SqT.of (hk _ _ _ c le))
      rw [ev_] at this; cases this
      exact ⟨e1, rv.mono (cnd_le c) c.2.1⟩
theorem itR_str {l : List Nat} (h : SOk l) : ItR K p (Its (mk l)) Hs ρ H (l.map fun c => .str [c]) := by
  refine .same (fun i Hs' H' ρ' c le hi => ?_) (fun i Hs' H' ρ' c le hi => ?_) fun i Hs' H' ρ' x H2 d c le e y => ?_
  · show i < l.toArray.size
    rw [List.size_toArray]
    simpa using hi
  · show l.toArray.size ≤ i
    rw [List.size_toArray]
    simpa using hi
  · obtain ⟨e1, c, e2, rfl⟩ := y
    refine ⟨e1, ?_⟩
    rw [List.getElem?_map] at e
    have e2 : l.toArray[i]? = some c := e2
    rw [List.getElem?_toArray] at e2
    rw [e2] at e
    cases e
    exact .str ⟨fun z hz => by cases List.mem_singleton.mp hz; exact h.1 _ (List.mem_of_getElem? e2), Nat.le_trans (Nat.le_refl 1) (by decide : 1 ≤ ln)⟩
theorem rng_at {α : Type} {n i : Nat} {f : Nat → α} {d : α} (h : ((List.range n).map f)[i]? = some d) : i < n ∧ d = f i := by
  rw [List.getElem?_map] at h
  by_cases hi : i < n
  · rw [List.getElem?_range hi] at h
    cases h
    exact ⟨hi, rfl⟩
  · rw [List.getElem?_eq_none (by simpa using hi)] at h
    cases h
theorem itR_rng {a : Int} {n : Nat} : ItR K p (Itr a n) Hs ρ H ((List.range n).map fun k => .int (a + (k : Nat))) := by
  refine .same (fun i Hs' H' ρ' c le hi => by rw [List.length_map, List.length_range] at hi; exact hi) (fun i Hs' H' ρ' c le hi => by rw [List.length_map, List.length_range] at hi; exact hi) fun i Hs' H' ρ' x H2 d c le e y => ?_
  obtain ⟨e1, rfl⟩ := y
  obtain ⟨hi, rfl⟩ := rng_at e
  exact ⟨e1, .int _⟩
theorem itR_rngC {a c : Int} {n : Nat} : ItR K p (Itc a c n) Hs ρ H ((List.range n).map fun k => .int (a + (k : Nat) * c)) := by
  refine .same (fun i Hs' H' ρ' c le hi => by rw [List.length_map, List.length_range] at hi; exact hi) (fun i Hs' H' ρ' c le hi => by rw [List.length_map, List.length_range] at hi; exact hi) fun i Hs' H' ρ' x H2 d c le e y => ?_
  obtain ⟨e1, rfl⟩ := y
  obtain ⟨hi, rfl⟩ := rng_at e
  exact ⟨e1, .int _⟩
end
def YldI (K : PySem.W.Frag) (p : Bool) (Hs : Hp) (ρ : List Addr) (H : Hp) (B : List D) (ds : List D) (R : It → Hp → Prop) : Prop :=
  ∀ J H' Hs' ρ', Gr Hs H ρ Hs' H' ρ' → Le Hs' H' → BOk K Hs' ρ' H' B → ItR K p J Hs' ρ' H' ds → R J H'
def rdI (K : PySem.W.Frag) (Φ : Fn) (W : WX) (p : Bool) (e : E) : TI := fun σV H R => ∃ Hs ρ σ B, Stt K Hs ρ H σV σ B ∧
  OutG K (fun c d h => W c d σV h) Hs ρ H ((ev Φ p e σ B).bind fun x => (Rs.of (itemsOf x.1)).bind fun ds => .ok (ds, x.2)) fun x => YldI K p Hs ρ H x.2 x.1 R
structure IOk (X : Cx) (Φ : Fn) (W : WX) (p : Bool) (tg pe : Expr) (ie : E) : Prop where
  run : PI X tg pe (rdI X.K Φ W p ie)
theorem YldI.shf {K : PySem.W.Frag} {p : Bool} {R : It → Hp → Prop} : Shf fun Hs ρ H (x : List D × List D) => YldI K p Hs ρ H x.2 x.1 R := fun _ _ _ _ _ _ _ g h J H2 Hs2 ρ2 g2 l b r => h J H2 Hs2 ρ2 (g.trans g2) l b r
section
variable {X : Cx} {Φ : Fn} {W : WX} {tg e : Expr} {ie : E} {p : Bool}
/-- the value read, then its iterator -/
theorem iter_ok {pins : List (Addr × Obj)} {σ : L2.St} {H Hs : Hp} {ρ : List Addr} {s : Shared} {R : It → Hp → Prop} {d : D} {ds : List D} {x : V} {v : Value} (I : Inv X pins σ H s) (le : Le Hs H) (r : RelP X.K p Hs ρ H d x) (rv : RelV x v) (hi : itemsOf d = some ds)
    (q : ∀ J, ItR X.K p J Hs ρ H ds → R J H) : wpAny (model X.prog X.w) X.A (pyIter v) (PIE X pins σ tg R) X.xe s := by
  cases d with
  | lst l =>
    obtain rfl := Option.some.inj (show some l = some ds from hi)
    have key : ∃ a xs, x = .ref a ∧ H a = some (.lst xs) := by
      rcases r with r | ⟨z, a', e, ⟨xs, h1, h2⟩, n, nr⟩
      · cases r with
        | lst h r => exact ⟨_, _, rfl, le.lst h⟩
      · exact ⟨a', xs, e, h1⟩
    obtain ⟨a, xs, rfl, hq⟩ := key
    cases rv
    obtain ⟨its, rv, p, hz⟩ := I.list (SqL.of hq)
    refine wpAny_pyIter_list p.isList ?_
    exact pi_one (tk := s.toks) I _ (turn_list a s.heap.objs.size) ⟨_, Heap.get?_push_size _ rfl, rfl, rfl⟩ (q _ (itR_list r))
  | tup l =>
    obtain rfl := Option.some.inj (show some l = some ds from hi)
    have r : Rep X.K Hs ρ (.tup l) x := by
      rcases r with r | ⟨z, a', e, h, n, nr⟩
      · exact r
      · exact h.elim
    have r0 := r
    cases r with
    | @tup _ a xs h r =>
      cases rv
      obtain ⟨its, rv, p, hz⟩ := I.tuple (SqT.of (le.tup h))
      refine wpAny_pyIter_tuple (show s.heap.IsTuple a its.toArray from p) ?_
      exact pi_one (tk := s.toks) I _ (turn_tuple a _) ⟨_, Heap.get?_push_size _ rfl, rfl, rfl⟩ (q _ (itR_tup r0))
  | str l =>
    obtain rfl := Option.some.inj (show some (l.map fun c => D.str [c]) = some ds from hi)
    have r : Rep X.K Hs ρ (.str l) x := by
      rcases r with r | ⟨z, a', e, h, n, nr⟩
      · exact r
      · exact h.elim
    cases r with
    | str hl =>
      obtain ⟨t, rfl⟩ := rv
      cases ha : (mk l).cps.all (· < 128)
      · exact wpAny_pyIter_wide ha (pi_one (tk := s.toks) I _ (turn_str _ (mk l) t "str_iterator" (.inr rfl)) ⟨_, Heap.get?_push_size _ rfl, rfl, rfl⟩ (q _ (itR_str hl)))
      · exact wpAny_pyIter_ascii ha (pi_one (tk := s.toks) I _ (turn_str _ (mk l) t "str_ascii_iterator" (.inl rfl)) ⟨_, Heap.get?_push_size _ rfl, rfl, rfl⟩ (q _ (itR_str hl)))
  | _ => cases hi
theorem i_val (h : EOk X Φ W e ie) : IOk X Φ W p tg e ie := by
  refine ⟨⟨fun pins s σV H R I ⟨Hs, ρ, σ, B, st, out⟩ => ?_⟩⟩
  refine thn ((h.run p).run pins s σV H (fun x H1 => ∃ Hs1 ρ1 d ds, Le Hs1 H1 ∧ RelP X.K p Hs1 ρ1 H1 d x ∧ itemsOf d = some ds ∧ ∀ J, ItR X.K p J Hs1 ρ1 H1 ds → R J H1) I ⟨Hs, ρ, σ, B, st, OutG.bindE YldI.shf out fun d B' v H' Hs' ρ' g l b r out => ?_⟩) fun v s1 ⟨x, H1, I1, r1, Hs1, ρ1, d, ds, le, r, hi, q⟩ => iter_ok I1 le r r1 hi q
  obtain ⟨ds, hd, out⟩ := OutG.of out
  exact ⟨Hs', ρ', d, ds, l, r, hd, fun J hJ => out J H' Hs' ρ' .refl l b hJ⟩
/-! ranges -/
variable {es : List Expr} {ies : Es} {a b c : Expr} {ia ib ic : E} {pp pos : Pos}
theorem evs_len {p : Bool} : ∀ (es : Es) (σ : Sg) (B : List D) (x : List D × List D), evs Φ p es σ B = .ok x → x.1.length = es.len
  | .nil, σ, B, x, h => by cases h; rfl
  | .cons e es, σ, B, x, h => by
    have h : ((ev Φ p e σ B).bind fun x => (evs Φ p es σ x.2).bind fun y => .ok (x.1 :: y.1, y.2)) = .ok x := h
    cases q : ev Φ p e σ B with
    | ok y =>
      rw [q] at h
      have h : ((evs Φ p es σ y.2).bind fun z => .ok (y.1 :: z.1, z.2)) = .ok x := h
      cases q2 : evs Φ p es σ y.2 with
      | ok z =>
        rw [q2] at h
        cases h
        exact congrArg Nat.succ (evs_len es σ y.2 z q2)
      | ex c ps B => rw [q2] at h; cases h
      | bad => rw [q2] at h; cases h
    | ex c ps B => rw [q] at h; cases h
    | bad => rw [q] at h; cases h
theorem rng_args {p : Bool} {σV : L2.St} {H : Hp} {R : It → Hp → Prop} {r : List V → Hp → Prop} (h : rdI X.K Φ W p (.bi .rng ies) σV H R)
    (k : ∀ ds vs l Hs' H' ρ', ds.length = ies.len → Paired (RP X.K Hs' ρ' H') ds vs → rngOf ds = some l → (∀ J, ItR X.K p J Hs' ρ' H' l → R J H') → r vs H') : rdA X.K Φ W true ies σV H r := by
  obtain ⟨Hs, ρ, σ, B, st, out⟩ := h
  refine ⟨Hs, ρ, σ, B, st, ?_⟩
  have out : OutG X.K (fun c d h => W c d σV h) Hs ρ H (((evs Φ true ies σ B).bind fun x => (Rs.of (bi_rng (x.1.map (drf x.2)))).bind fun d => .ok (d, x.2)).bind fun x => (Rs.of (itemsOf x.1)).bind fun ds => .ok (ds, x.2)) (fun x => YldI X.K p Hs ρ H x.2 x.1 R) := out
  cases q : evs Φ true ies σ B with
  | ok x =>
    rw [q] at out
    intro vs H' Hs' ρ' g l b r
    have rp := rp_of r b
    have out : OutG X.K (fun c d h => W c d σV h) Hs ρ H (((Rs.of (bi_rng (x.1.map (drf x.2)))).bind fun d => .ok (d, x.2)).bind fun x => (Rs.of (itemsOf x.1)).bind fun ds => .ok (ds, x.2)) (fun x => YldI X.K p Hs ρ H x.2 x.1 R) := out
    unfold bi_rng at out
    cases q2 : rngOf (x.1.map (drf x.2)) with
    | none => rw [q2] at out; exact out.elim
    | some l' =>
      rw [q2] at out
      exact k _ vs l' Hs' H' ρ' (by rw [List.length_map]; exact evs_len _ _ _ _ q) rp q2 fun J hJ => out J H' Hs' ρ' g l b hJ
  | ex c ps B => rw [q] at out; exact out
  | bad => rw [q] at out; exact out
theorem PI.weaken_ {tg e : Expr} {wi wi' : TI} (h : PI X tg e wi) (w : ∀ σ H R, wi' σ H R → wi σ H R) : PI X tg e wi' := ⟨fun pins s σ H R I q => h.run pins s σ H R I (w σ H R q)⟩
theorem bnd_ok {i : Int} (h : bnd i = true) : -(2 ^ 62) ≤ i ∧ i < 2 ^ 62 := by
  unfold bnd at h
  rw [Bool.and_eq_true, decide_eq_true_eq, decide_eq_true_eq] at h
  exact h
theorem paired_int {K : PySem.W.Frag} {Hs H : Hp} {ρ : List Addr} {i : Int} {ds : List D} {vs : List V} (r : Paired (RP K Hs ρ H) (.int i :: ds) vs) : ∃ ws, vs = .int i :: ws ∧ Paired (RP K Hs ρ H) ds ws := by
  cases r with
  | cons h t => cases h.int; exact ⟨_, rfl, t⟩
theorem paired_nil {K : PySem.W.Frag} {Hs H : Hp} {ρ : List Addr} {vs : List V} (r : Paired (RP K Hs ρ H) [] vs) : vs = [] := by cases r; rfl
theorem i_rng1 {p : Bool} (hg : Gl X "range") (hm : X.mg "range" = none) (ha : EOk X Φ W a ia) (hs : starEach [a] X.env = [(false, eval a X.env)] := by rfl) : IOk X Φ W p tg (.Call (.Name "range" pp) [a] [] pos) (.bi .rng (.cons ia .nil)) :=
  ⟨PI.weaken_ (pi_range1 hg hm (((a_cons ha a_nil hs : AOk X Φ W [a] (.cons ia .nil))).run true) hs) fun σV H R h => rng_args h fun ds vs l Hs' H' ρ' hl r hr q => by
    match ds, hl, r, hr with
    | [.int j], _, r, hr =>
      obtain ⟨ws, rfl, r1⟩ := paired_int r
      cases paired_nil r1
      obtain ⟨hb, rfl⟩ := cons_ite (show (if bnd j = true then some (rngL 0 j) else none) = some l from hr)
      obtain ⟨h1, h2⟩ := bnd_ok hb
      refine ⟨j, rfl, h1, h2, q _ ?_⟩
      have := itR_rng (K := X.K) (p := p) (Hs := Hs') (ρ := ρ') (H := H') (a := 0) (n := j.toNat)
      unfold rngL
      rw [Int.sub_zero]
      exact this⟩
theorem i_rng2 {p : Bool} (hg : Gl X "range") (hm : X.mg "range" = none) (ha : EOk X Φ W a ia) (hb : EOk X Φ W b ib) (hs : starEach [a, b] X.env = [(false, eval a X.env), (false, eval b X.env)] := by rfl) (hs2 : starEach [b] X.env = [(false, eval b X.env)] := by rfl) : IOk X Φ W p tg (.Call (.Name "range" pp) [a, b] [] pos) (.bi .rng (.cons ia (.cons ib .nil))) :=
  ⟨PI.weaken_ (pi_range2 hg hm (((a_cons ha (a_cons hb a_nil hs2) (by rw [hs, hs2]) : AOk X Φ W [a, b] (.cons ia (.cons ib .nil)))).run true) hs hs2) fun σV H R h => rng_args h fun ds vs l Hs' H' ρ' hl r hr q => by
    match ds, hl, r, hr with
    | [.int i, .int j], _, r, hr =>
      obtain ⟨ws, rfl, r1⟩ := paired_int r
      obtain ⟨ws2, rfl, r2⟩ := paired_int r1
      cases paired_nil r2
      obtain ⟨hb, rfl⟩ := cons_ite (show (if (bnd i && bnd j) = true then some (rngL i j) else none) = some l from hr)
      rw [Bool.and_eq_true] at hb
      obtain ⟨h1, h2⟩ := bnd_ok hb.1
      obtain ⟨h3, h4⟩ := bnd_ok hb.2
      exact ⟨i, j, rfl, ⟨h1, h2, h3, h4⟩, q _ itR_rng⟩⟩
theorem rgc_up {i j : Int} {c : Nat} (hc : 0 < c) (hc2 : c < 100000) (ha : -(2 ^ 62) ≤ i) (ha' : i < 2 ^ 62) (hb : -(2 ^ 62) ≤ j) (hb' : j < 2 ^ 62) : RgC i j (c : Nat) ((if i < j then (j - i - 1) / (c : Nat) + 1 else 0 : Int)).toNat := by
  have e : Builtin.Range.rangeSize i j (c : Nat) = (if i < j then (j - i - 1) / (c : Nat) + 1 else 0) := by
    unfold Builtin.Range.rangeSize
    rw [if_pos (by omega)]
  have nn : 0 ≤ (if i < j then (j - i - 1) / (c : Nat) + 1 else 0 : Int) := by
    split
    · have := Int.ediv_nonneg (a := j - i - 1) (b := (c : Int)) (by omega) (by omega)
      omega
    · omega
  have le : (if i < j then (j - i - 1) / (c : Nat) + 1 else 0 : Int) ≤ 2 ^ 63 - 1 := by
    split
    · have := Int.ediv_le_self (a := j - i - 1) (c : Int) (by omega)
      omega
    · omega
  refine ⟨by omega, by omega, ?_, by rw [e]; omega⟩
  unfold Builtin.Range.small
  rw [e]
  simp only [Builtin.Range.rangeFitsLong, Bool.and_eq_true, Bool.or_eq_true, decide_eq_true_eq, beq_iff_eq]
  have hm : (if i < j then (j - i - 1) / (c : Nat) + 1 else 0 : Int) = 0 ∨ i < j := by
    by_cases z : i < j
    · exact .inr z
    · rw [if_neg z]; exact .inl rfl
  generalize (if i < j then (j - i - 1) / (c : Nat) + 1 else 0 : Int) = m at nn le hm
  rw [if_pos (by omega)]
  refine ⟨⟨⟨⟨⟨?_, ?_⟩, ?_, ?_⟩, ?_, ?_⟩, ?_, ?_⟩, ?_⟩ <;> first | omega | skip
  refine .inr ?_
  rw [Bool.and_eq_true, decide_eq_true_eq, decide_eq_true_eq]
  omega
theorem i_rng3 {p : Bool} (hg : Gl X "range") (hm : X.mg "range" = none) (ha : EOk X Φ W a ia) (hb : EOk X Φ W b ib) (hc : EOk X Φ W c ic) (hs : starEach [a, b, c] X.env = (false, eval a X.env) :: starEach [b, c] X.env := by rfl) (hs2 : starEach [b, c] X.env = (false, eval b X.env) :: starEach [c] X.env := by rfl) (hs3 : starEach [c] X.env = (false, eval c X.env) :: starEach [] X.env := by rfl)
    (hpl : (backTo pos (starEach [b, c] X.env)).any (·.1) = false := by rfl) : IOk X Φ W p tg (.Call (.Name "range" pp) [a, b, c] [] pos) (.bi .rng (.cons ia (.cons ib (.cons ic .nil)))) :=
  ⟨PI.weaken_ (pi_range3 hg hm (((a_cons ha (a_cons hb (a_cons hc a_nil hs3) hs2) hs : AOk X Φ W [a, b, c] (.cons ia (.cons ib (.cons ic .nil))))).run true) hs hpl) fun σV H R h => rng_args h fun ds vs l Hs' H' ρ' hl r hr q => by
    match ds, hl, r, hr with
    | [.int i, .int j, .int k], _, r, hr =>
      obtain ⟨ws, rfl, r1⟩ := paired_int r
      obtain ⟨ws2, rfl, r2⟩ := paired_int r1
      obtain ⟨ws3, rfl, r3⟩ := paired_int r2
      cases paired_nil r3
      obtain ⟨hb, hr⟩ := cons_ite' (show (if (bnd i && bnd j) = true then (if k = -1 then some (rngDn i j) else if (decide (0 < k) && decide (k < 100000)) = true then some (rngUp i j k.toNat) else none) else none) = some l from hr)
      rw [Bool.and_eq_true] at hb
      obtain ⟨h1, h2⟩ := bnd_ok hb.1
      obtain ⟨h3, h4⟩ := bnd_ok hb.2
      by_cases hk : k = -1
      · subst hk
        rw [if_pos rfl] at hr
        cases hr
        refine ⟨i, j, -1, _, rfl, RgC.neg h1 h2 h3 h4, q _ ?_⟩
        have e : rngDn i j = (List.range (i - j).toNat).map fun k => .int (i + (k : Nat) * (-1)) := by
          unfold rngDn
          refine List.map_congr_left fun k _ => ?_
          show D.int _ = D.int _
          rw [Int.mul_neg_one, Int.sub_eq_add_neg]
        rw [e]
        exact itR_rngC
      · rw [if_neg hk] at hr
        obtain ⟨hc, rfl⟩ := cons_ite hr
        rw [Bool.and_eq_true, decide_eq_true_eq, decide_eq_true_eq] at hc
        have ek : ((k.toNat : Nat) : Int) = k := by omega
        have hR := rgc_up (c := k.toNat) (by omega) (by omega) h1 h2 h3 h4
        rw [ek] at hR
        refine ⟨i, j, k, _, rfl, hR, q _ ?_⟩
        have := itR_rngC (K := X.K) (p := p) (Hs := Hs') (ρ := ρ') (H := H') (a := i) (c := ((k.toNat : Nat) : Int)) (n := ((if i < j then (j - i - 1) / (k.toNat : Nat) + 1 else 0 : Int)).toNat)
        unfold rngUp
        rw [ek] at this ⊢
        exact this⟩
end
end Pz
end
section
set_option Elab.async false
set_option linter.all false
set_option maxRecDepth 100000
namespace Pz
open PySem PySem.Spec PyProof.Rows L2

/-! ### plain targets -/
section
variable {K : PySem.W.Frag} {Hs H : Hp} {ρ : List Addr} {σV : L2.St} {σ : Sg} {B : List D}
theorem Stt.setV (s : Stt K Hs ρ H σV σ B) {i : Nat} {d : D} {v : V} (hi : i < σ.length) (r : Rep K Hs ρ d v) : Stt K Hs ρ H (σV.set i (some v)) (σ.set i (.val d)) B where
  le := s.le
  bx := s.bx
  len := by rw [List.length_set, List.length_set]; exact s.len
  sl := fun j x h => by
    rcases set_at h with ⟨q, rfl⟩ | ⟨q, h⟩
    · subst q
      rw [List.getElem?_set_self (by rw [s.len]; exact hi)]
      exact ⟨v, rfl, r⟩
    · rw [List.getElem?_set_ne q]
      exact s.sl j x h
  di := fun j k a d1 d2 h1 h2 h3 h4 => by
    rcases set_at h1 with ⟨_, q⟩ | ⟨q1, h1⟩
    · cases q
    rcases set_at h2 with ⟨_, q⟩ | ⟨q2, h2⟩
    · cases q
    rw [List.getElem?_set_ne q1] at h3
    rw [List.getElem?_set_ne q2] at h4
    exact s.di j k a d1 d2 h1 h2 h3 h4
theorem Stt.setN (s : Stt K Hs ρ H σV σ B) {i : Nat} {o : Option V} : Stt K Hs ρ H (σV.set i o) (σ.set i .no) B where
  le := s.le
  bx := s.bx
  len := by rw [List.length_set, List.length_set]; exact s.len
  sl := fun j x h => by
    rcases set_at h with ⟨q, rfl⟩ | ⟨q, h⟩
    · trivial
    · rw [List.getElem?_set_ne q]
      exact s.sl j x h
  di := fun j k a d1 d2 h1 h2 h3 h4 => by
    rcases set_at h1 with ⟨_, q⟩ | ⟨q1, h1⟩
    · cases q
    rcases set_at h2 with ⟨_, q⟩ | ⟨q2, h2⟩
    · cases q
    rw [List.getElem?_set_ne q1] at h3
    rw [List.getElem?_set_ne q2] at h4
    exact s.di j k a d1 d2 h1 h2 h3 h4
theorem Stt.wipe_ (s : Stt K Hs ρ H σV σ B) : ∀ vs : List Nat, Stt K Hs ρ H (L2.wipe σV vs) (wipeS σ vs) B
  | [] => s
  | v :: vs => (Stt.wipe_ s vs).setN
/-- what a plain target leaves -/
structure Kept (ns : List Nat) (σV σV' : L2.St) (σ σ' : Sg) : Prop where
  v : ∀ i, i ∉ ns → σV'[i]? = σV[i]?
  s : ∀ i d, σ'[i]? = some (.own d) → σ[i]? = some (.own d) ∧ i ∉ ns
  lv : σV'.length = σV.length
  ls : σ'.length = σ.length
end
def rdP (K : PySem.W.Frag) (tg : Tg) : TG := fun v σV H Q => ∃ Hs ρ σ B d σ', Stt K Hs ρ H σV σ B ∧ Rep K Hs ρ d v ∧ put tg d σ = some σ' ∧
  ∀ σV', Stt K Hs ρ H σV' σ' B → Kept tg.names σV σV' σ σ' → Q σV' H
def rdPs (K : PySem.W.Frag) (tg : Tgs) : TGs := fun vs σV H Q => ∃ Hs ρ σ B ds σ', Stt K Hs ρ H σV σ B ∧ RepL K Hs ρ ds vs ∧ puts tg ds σ = some σ' ∧
  ∀ σV', Stt K Hs ρ H σV' σ' B → Kept tg.names σV σV' σ σ' → Q σV' H
structure GOk (X : Cx) (pe : Expr) (tg : Tg) : Prop where
  run : PG X pe (rdP X.K tg)
structure GsOk (X : Cx) (pe : List Expr) (tg : Tgs) : Prop where
  run : PGs X pe (rdPs X.K tg)
section
variable {X : Cx} {pos : Pos} {e : Expr} {es : List Expr} {t : Tg} {ts : Tgs}
theorem g_name {i : Nat} {x : Str} (hN : X.N.Nodup) (hi : X.N[i]? = some x) (hx : Loc X.env.scope x) (hf : X.fn x = true ∨ X.env.scope.names.lookup x = some .local) : GOk X (.Name x pos) (.nm i) :=
  ⟨⟨fun pins s σV H v u Q I r ⟨Hs, ρ, σ, B, d, σ', st, rep, e, q⟩ => by
    obtain ⟨hl, rfl⟩ := cons_ite (show (if i < σ.length then some (σ.set i (.val d)) else none) = some σ' from e)
    refine (pg_name hN hi hx hf).run pins s σV H v u Q I r (q _ (st.setV hl rep) ⟨fun j hj => ?_, fun j d' h => ?_, List.length_set, List.length_set⟩)
    · exact List.getElem?_set_ne fun z => hj (by rw [← z]; exact List.mem_singleton.mpr rfl)
    · rcases set_at h with ⟨_, z⟩ | ⟨z, h⟩
      · cases z
      · exact ⟨h, fun m => z (List.mem_singleton.mp m).symm⟩⟩⟩
theorem gs_nil : GsOk X [] .nil :=
  ⟨⟨fun pins s σV H vs us Q I r ⟨Hs, ρ, σ, B, ds, σ', st, rep, e, q⟩ => by
    have hd : ds = [] ∧ σ' = σ := by
      cases ds with
      | nil => cases e; exact ⟨rfl, rfl⟩
      | cons a b => cases e
    obtain ⟨rfl, rfl⟩ := hd
    cases rep
    exact pgs_nil.run pins s σV H [] us Q I r ⟨rfl, q _ st ⟨fun _ _ => rfl, fun _ _ h => ⟨h, List.not_mem_nil⟩, rfl, rfl⟩⟩⟩⟩
theorem gs_cons (h1 : GOk X e t) (h2 : GsOk X es ts) (hs : (assignEach (e :: es) X.env).map (·.2) = assign e X.env :: (assignEach es X.env).map (·.2) := by rfl) : GsOk X (e :: es) (.cons t ts) :=
  ⟨⟨fun pins s σV H vs us Q I r ⟨Hs, ρ, σ, B, ds, σ', st, rep, e, q⟩ => by
    cases ds with
    | nil => cases e
    | cons d ds =>
      cases rep with
      | @cons _ v _ ws hv hr =>
        obtain ⟨σ1, e1, e2⟩ := Option.bind_eq_some_iff.mp (show (put t d σ).bind (fun σ' => puts ts ds σ') = some σ' from e)
        refine (pgs_cons h1.run h2.run hs).run pins s σV H (v :: ws) us Q I r ⟨v, ws, rfl, Hs, ρ, σ, B, d, σ1, st, hv, e1, fun σV1 st1 k1 => ⟨Hs, ρ, σ1, B, ds, σ', st1, hr, e2, fun σV2 st2 k2 => q σV2 st2 ⟨fun i hi => ?_, fun i d' h => ?_, k2.lv.trans k1.lv, k2.ls.trans k1.ls⟩⟩⟩
        · have hi : i ∉ t.names ++ ts.names := hi
          rw [List.mem_append] at hi
          exact (k2.v i fun z => hi (.inr z)).trans (k1.v i fun z => hi (.inl z))
        · obtain ⟨h1, n1⟩ := k2.s i d' h
          obtain ⟨h2, n2⟩ := k1.s i d' h1
          refine ⟨h2, fun z => ?_⟩
          have z : i ∈ t.names ++ ts.names := z
          rcases List.mem_append.mp z with z | z
          · exact n2 z
          · exact n1 z⟩⟩
theorem puts_len : ∀ (ts : Tgs) (ds : List D) (σ σ' : Sg), puts ts ds σ = some σ' → ds.length = ts.len
  | .nil, [], _, _, _ => rfl
  | .nil, _ :: _, _, _, e => by cases e
  | .cons _ _, [], _, _, e => by cases e
  | .cons t ts, d :: ds, σ, σ', e => by
    obtain ⟨σ1, _, e2⟩ := Option.bind_eq_some_iff.mp (show (put t d σ).bind (fun σ' => puts ts ds σ') = some σ' from e)
    exact congrArg Nat.succ (puts_len ts ds σ1 σ' e2)
theorem put_tup {ts : Tgs} {d : D} {σ σ' : Sg} (e : put (.tp ts) d σ = some σ') : ∃ ds, d = .tup ds ∧ puts ts ds σ = some σ' := by
  cases d with
  | tup ds => exact ⟨ds, rfl, e⟩
  | _ => cases e
theorem g_tup {k : Nat} (hc : X.calm = true) (h : GsOk X es ts) (hn : (assignEach es X.env).length = ts.len := by rfl) (hst : (assignEach es X.env).findIdx? (·.1) = none := by rfl) : GOk X (.Tuple es k pos) (.tp ts) :=
  ⟨⟨fun pins s σV H v u Q I r ⟨Hs, ρ, σ, B, d, σ', st, rep, e, q⟩ => by
    obtain ⟨ds, rfl, e⟩ := put_tup e
    cases rep with
    | @tup _ a xs ha hr =>
      exact (pg_tup hc h.run hn hst).run pins s σV H _ u Q I r ⟨a, xs, rfl, SqT.of (st.le.tup ha), by rw [← hr.length]; exact puts_len _ _ _ _ e, Hs, ρ, σ, B, ds, σ', st, hr, e, q⟩⟩⟩

/-! ### storing -/
variable {Φ : Fn} {ie : E}
theorem SSt.ofKept {K : PySem.W.Frag} {E : En} {Hs H : Hp} {ρ : List Addr} {σV σV' : L2.St} {σ σ' : Sg} {B : List D} {ns : List Nat} (s : SSt K E Hs ρ H σV σ B) (st : Stt K Hs ρ H σV' σ' B) (k : Kept ns σV σV' σ σ') : SSt K E Hs ρ H σV' σ' B :=
  ⟨st, s.gr, fun i a d h1 h2 => by
    obtain ⟨h3, n⟩ := k.s i d h1
    rw [k.v i n] at h2
    exact s.ow i a d h3 h2⟩
/-- (a, b, ..) = value -/
theorem s_asgT {tp : Expr} {ts : Tgs} (he : EOk X Φ WX0 e ie) (hn : ∀ f, ie ≠ .fresh f) (hg : GOk X tp (.tp ts)) (hs : swapsWithSole [tp] e pos.line X.env = pure false := by rfl) (hw : swappedStores [tp] e X.env = pure none := by rfl)
    (h1 : (assignEach [tp] X.env).map (·.2) = [assign tp X.env] := by rfl) : StOk X Φ (.Assign [tp] e pos) (.asg (.tp ts) ie) :=
  ⟨fun W E => (ps_asg (he.run false) hg.run hs hw h1).weaken fun D_ σV H ⟨Hs, ρ, σ, B, s, out⟩ => by
    have out : OutS X.K W E D_ ((evX Φ ie σ B).bind fun x => (asg Φ (.tp ts) x.1 σ x.2).bind fun y => .ok (.next, y.1, y.2)) := out
    rw [evX_val hn] at out
    refine ⟨Hs, ρ, σ, B, s.st, ?_⟩
    cases q : ev Φ false ie σ B with
    | bad => rw [q] at out; exact out
    | ex c ps B => exact exx_any
    | ok x =>
      rw [q] at out
      have out : OutS X.K W E D_ (((Rs.of (put (.tp ts) x.1 σ)).bind fun σ' => Rs.ok (σ', x.2)).bind fun y => .ok (.next, y.1, y.2)) := out
      cases q2 : put (.tp ts) x.1 σ with
      | none => rw [q2] at out; exact out.elim
      | some σ' =>
        rw [q2] at out
        intro v H' Hs' ρ' g l b r
        have s' := s.grow g l b
        exact ⟨Hs', ρ', σ, x.2, x.1, σ', s'.st, r.val, q2, fun σV' st k => out σV' H' Hs' ρ' (s'.ofKept st k)⟩⟩
/-- the item store, by values -/
def rStore (K : PySem.W.Frag) : TSet := fun o i v H Q => ∃ Hs ρ c k d c' a, o = .ref a ∧ Le Hs H ∧ OwnAt K Hs ρ H a c ∧ Rep K Hs ρ k i ∧ Rep K Hs ρ d v ∧ setD c k d = some c' ∧ ∀ o', OwnAt K Hs ρ (upd H a o') a c' → Q (upd H a o')
theorem RepK.length {K : PySem.W.Frag} {Hs : Hp} {ρ : List Addr} : ∀ {l : List (D × D)} {kvs : List (Key × V)}, RepK K Hs ρ l kvs → l.length = kvs.length
  | _, _, .nil => rfl
  | _, _, .int _ r => congrArg Nat.succ (RepK.length r)
  | _, _, .str _ _ r => congrArg Nat.succ (RepK.length r)
theorem RepT.length {K : PySem.W.Frag} {Hs : Hp} {ρ : List Addr} : ∀ {l : List (D × D)} {kvs : List (List Key × V)}, RepT K Hs ρ l kvs → l.length = kvs.length
  | _, _, .nil => rfl
  | _, _, .cons _ _ r => congrArg Nat.succ (RepT.length r)
theorem putK_eq {κ : Type} [DecidableEq κ] (k : κ) (v : V) : ∀ kvs : List (κ × V), (kvs.map (·.1)).Nodup → ∀ {a : κ} {x : V},
    (a = k → k ∉ kvs.map (·.1) → putK ((a, x) :: kvs) k v = (a, v) :: kvs) ∧ (a ≠ k → putK ((a, x) :: kvs) k v = (a, x) :: putK kvs k v) := fun kvs nd a x => by
  have any_cons : (((a, x) :: kvs).any fun kv => decide (kv.1 = k)) = (decide (a = k) || kvs.any fun kv => decide (kv.1 = k)) := rfl
  refine ⟨fun e hn => ?_, fun e => ?_⟩
  · unfold putK
    rw [any_cons, decide_eq_true e, Bool.true_or, if_pos rfl, List.map_cons, if_pos e]
    congr 1
    have : kvs.map (fun kv => if kv.1 = k then (kv.1, v) else kv) = kvs.map id := List.map_congr_left fun p hp => if_neg fun z => hn (by rw [← z]; exact List.mem_map_of_mem hp)
    rw [this, List.map_id]
  · unfold putK
    rw [any_cons, decide_eq_false e, Bool.false_or]
    by_cases h : (kvs.any fun kv => decide (kv.1 = k)) = true
    · rw [if_pos h, if_pos h, List.map_cons, if_neg e]
    · rw [if_neg h, if_neg h, List.cons_append]
theorem RepK.put {K : PySem.W.Frag} {Hs : Hp} {ρ : List Addr} {k d : D} {kk : Key} {v : V} (hk : KeyR k kk) (hd : Rep K Hs ρ d v) : ∀ {l : List (D × D)} {kvs : List (Key × V)}, (kvs.map (·.1)).Nodup → RepK K Hs ρ l kvs → RepK K Hs ρ (kput k d l) (putK kvs kk v)
  | [], _, _, r => by
    cases r
    exact RepK.cons_of hk hd .nil
  | (a, x) :: l, kvs, nd, r => by
    obtain ⟨ka, w, s, rfl, ha, hx, hr⟩ := r.cons_inv
    rw [List.map_cons, List.nodup_cons] at nd
    have key := putK_eq kk v s nd.2 (a := ka) (x := w)
    by_cases e : ka = kk
    · rw [kput_pos (by rw [ha.same hk]; exact decide_eq_true e), key.1 e (by rw [← e]; exact nd.1)]
      exact RepK.cons_of ha hd hr
    · rw [kput_neg (by rw [ha.same hk]; exact decide_eq_false e), key.2 e]
      exact RepK.cons_of ha hx (RepK.put hk hd nd.2 hr)
theorem RepT.put {K : PySem.W.Frag} {Hs : Hp} {ρ : List Addr} {k : List D} {d : D} {kk : List Key} {v : V} (hk : RepKs k kk) (hd : Rep K Hs ρ d v) : ∀ {l : List (D × D)} {kvs : List (List Key × V)}, (kvs.map (·.1)).Nodup → RepT K Hs ρ l kvs → RepT K Hs ρ (kput (.tup k) d l) (putK kvs kk v)
  | [], _, _, r => by
    cases r
    exact .cons hk hd .nil
  | (a, x) :: l, kvs, nd, r => by
    cases r with
    | @cons ka kka _ w _ s ha hx hr =>
      rw [List.map_cons, List.nodup_cons] at nd
      have key := putK_eq kk v s nd.2 (a := kka) (x := w)
      have sm : D.same (.tup ka) (.tup k) = decide (kka = kk) := by simp only [D.same]; exact ha.same hk
      by_cases e : kka = kk
      · rw [kput_pos (by rw [sm]; exact decide_eq_true e), key.1 e (by rw [← e]; exact nd.1)]
        exact .cons ha hd hr
      · rw [kput_neg (by rw [sm]; exact decide_eq_false e), key.2 e]
        exact .cons ha hx (RepT.put hk hd nd.2 hr)
theorem paired_fst {κ α β : Type} {F : (κ × α) → (κ × β) → Prop} (hF : ∀ p q, F p q → p.1 = q.1) : ∀ {l : List (κ × α)} {m : List (κ × β)}, Paired F l m → l.map (·.1) = m.map (·.1)
  | _, _, .nil => rfl
  | _, _, .cons h t => by rw [List.map_cons, List.map_cons, hF _ _ h, paired_fst hF t]
theorem dK_nodup {pins : List (Addr × Obj)} {σ : L2.St} {H : Hp} {s : Shared} {a : Addr} {kvs : List (Key × V)} (I : Inv X pins σ H s) (h : Rd H a (.dK kvs)) : (kvs.map (·.1)).Nodup := by
  obtain ⟨_, _, vs, r, o, es, ep, _, _, _, _, _, nd⟩ := dk_rd I.hok h
  rw [paired_fst (fun p q h => h.1) r]
  exact nd
theorem dT_nodup {pins : List (Addr × Obj)} {σ : L2.St} {H : Hp} {s : Shared} {a : Addr} {kvs : List (List Key × V)} (I : Inv X pins σ H s) (h : Rd H a (.dT kvs)) : (kvs.map (·.1)).Nodup := by
  obtain ⟨_, _, xs, r, o, es, ep, _, _, _, _, _, nd⟩ := dt_rd I.hok h
  have e : kvs.map (·.1) = xs.map (·.1) := paired_fst (F := fun p q => p.1 = q.1 ∧ H q.2.1 = some (.tup (p.1.map kV)) ∧ RelV p.2 q.2.2) (fun p q h => h.1) r
  rw [e]
  exact nd
theorem set_ok (hu : X.A.units + 70 < cLine) : PSet X (rStore X.K) := by
  intro pins s σV H o i v ov iv u Q I ro ri rv ⟨Hs, ρ, c, k, d, c', a, ho, le, own, rk, rd, e, q⟩
  subst ho
  cases c with
  | lst l =>
    obtain ⟨xs, h, r⟩ := own
    cases k with
    | int j =>
      cases rk
      obtain ⟨n, e1, rfl⟩ := Option.map_eq_some_iff.mp (show (Pz.ixN l.length j).map (fun n => D.lst (l.set n d)) = some c' from e)
      refine set_list pins s σV H _ _ _ ov iv u Q I ro ri rv ⟨a, xs, j, n, rfl, rfl, h, by rw [← r.length]; exact e1, q _ ⟨_, upd_same, r.set rd n⟩⟩
    | _ => cases e
  | dic t l =>
    obtain ⟨hc, rfl⟩ := cons_ite (show (if (k.keyOk t && decide (l.length < ln)) = true then some (D.dic t (kput k d l)) else none) = some c' from e)
    rw [Bool.and_eq_true, decide_eq_true_eq] at hc
    cases ro
    cases t with
    | false =>
      obtain ⟨kvs, h, r⟩ := own
      obtain ⟨kk, hk, rfl⟩ := key_of hc.1 (H := H) (.inl rk)
      have hl : kvs.length < sizeLine := by
        rw [← r.length, ln_eq]; exact hc.2
      refine d_setItem (by omega) I (.inl ⟨kvs, kk, h, rfl, hl, rfl⟩) ri rv fun s' I' => ⟨_, I', q _ ⟨_, upd_same, RepK.put hk rd (dK_nodup I (.inl h)) r⟩⟩
    | true =>
      obtain ⟨kvs, h, r⟩ := own
      cases k with
      | tup ks =>
        cases rk with
        | @tup _ b xs hb rx =>
          have h1 : ks.all D.key1 = true := by simpa [D.keyOk] using hc.1
          obtain ⟨kk, hk, rfl⟩ := RepKs.of h1 rx
          have hl : kvs.length < sizeLine := by
            rw [← r.length, ln_eq]; exact hc.2
          refine d_setItem (by omega) I (.inr ⟨kvs, kk, b, h, rfl, le.tup hb, hl, rfl⟩) ri rv fun s' I' => ⟨_, I', q _ ⟨_, upd_same, RepT.put hk rd (dT_nodup I (.inl h)) r⟩⟩
      | _ => simp [D.keyOk] at hc
  | _ => cases e
theorem Rs.bind_bind {α β γ : Type} (x : Rs α) (f : α → Rs β) (g : β → Rs γ) : (x.bind f).bind g = x.bind fun a => (f a).bind g := by cases x <;> rfl
theorem own_slot {K : PySem.W.Frag} {W : XK} {E : En} {D_ : Ends} {α : Type} {o : Option Sl} {f : D → Rs α} {g : α → Rq} (h : OutS K W E D_ ((match o with
    | some (.own c) => f c
    | _ => .bad).bind g)) : ∃ c, o = some (.own c) ∧ OutS K W E D_ ((f c).bind g) := by
  cases o with
  | none => exact h.elim
  | some w =>
    cases w with
    | own c => exact ⟨c, rfl, h⟩
    | _ => exact h.elim
/-- x[k] = value, x an owned list or dict -/
theorem s_ix {i : Nat} {x : Str} {ke : Expr} {ik : E} {p1 p2 : Pos} (hu : X.A.units + 70 < cLine) (hN : X.N[i]? = some x) (hv : Vis X.env.scope x) (he : EOk X Φ WX0 e ie) (hn : ∀ f, ie ≠ .fresh f) (hk : EOk X Φ WX0 ke ik)
    (ha : ∀ v, assign (.Subscript (.Name x p1) ke p2) X.env v = (do let ov ← holding [v] (eval (.Name x p1) X.env); let iv ← holding [v, ov] (eval ke X.env); standAt p2; holding [v, ov, iv] (setItem ov iv v); release [v, ov, iv] []) := by intro _; rfl)
    (hs : swapsWithSole [.Subscript (.Name x p1) ke p2] e pos.line X.env = pure false := by rfl) (hw : swappedStores [.Subscript (.Name x p1) ke p2] e X.env = pure none := by rfl)
    (h1 : (assignEach [.Subscript (.Name x p1) ke p2] X.env).map (·.2) = [assign (.Subscript (.Name x p1) ke p2) X.env] := by rfl)
    (hd : (x == ("__debug__" : Str)) = false := by decide) (hcd : (x == ("__classdict__" : Str)) = false := by decide) : StOk X Φ (.Assign [.Subscript (.Name x p1) ke p2] e pos) (.asg (.ix i ik) ie) :=
  ⟨fun W E => (ps_asg (he.run false) (pg_sub (pe_var hN hv hd hcd) (hk.run false) (set_ok hu) ha) hs hw h1).weaken fun D_ σV H ⟨Hs, ρ, σ, B, s, out⟩ => by
    have out : OutS X.K W E D_ ((evX Φ ie σ B).bind fun x => (asg Φ (.ix i ik) x.1 σ x.2).bind fun y => .ok (.next, y.1, y.2)) := out
    rw [evX_val hn] at out
    refine ⟨Hs, ρ, σ, B, s.st, ?_⟩
    cases q : ev Φ false ie σ B with
    | bad => rw [q] at out; exact out
    | ex c ps B => exact exx_any
    | ok y =>
      rw [q] at out
      have out : OutS X.K W E D_ ((match σ[i]? with
        | some (.own c) => (ev Φ false ik σ y.2).bind fun z => (Rs.of (setD c z.1 y.1)).bind fun c' => Rs.ok (σ.set i (.own c'), z.2)
        | _ => .bad).bind fun w => .ok (.next, w.1, w.2)) := out
      obtain ⟨c, hsl, out⟩ := own_slot out
      intro v H1 Hs1 ρ1 g1 l1 b1 r1
      have s1 := s.grow g1 l1 b1
      obtain ⟨a, ea, own, n, nr⟩ := s1.st.slotV hsl
      refine ⟨.ref a, ea, Hs1, ρ1, σ, y.2, s1.st, ?_⟩
      have out : OutS X.K W E D_ (((ev Φ false ik σ y.2).bind fun z => (Rs.of (setD c z.1 y.1)).bind fun c' => Rs.ok (σ.set i (.own c'), z.2)).bind fun w => .ok (.next, w.1, w.2)) := out
      rw [Rs.bind_bind] at out
      refine OutS.bindE out fun k' B2 kv H2 Hs2 ρ2 g2 l2 b2 r2 out => ?_
      have s2 := s1.grow g2 l2 b2
      rw [Rs.bind_bind] at out
      obtain ⟨c', q4, out⟩ := OutS.of out
      obtain ⟨a', ea', own2, _⟩ := s2.st.slotV hsl
      rw [ea] at ea'
      cases ea'
      exact ⟨Hs2, ρ2, c, k', y.1, c', a, rfl, l2, own2, r2.val, g2.rep r1.val, q4, fun o' ho => out _ _ _ _ (s2.mut hsl ea ho)⟩⟩
/-- b[k] = value, b an expression whose value is a box -/
theorem s_bx {be ke : Expr} {ib ik : E} {p2 : Pos} (hu : X.A.units + 70 < cLine) (he : EOk X Φ WX0 e ie) (hn : ∀ f, ie ≠ .fresh f) (hb : EOk X Φ WX0 be ib) (hk : EOk X Φ WX0 ke ik)
    (ha : ∀ v, assign (.Subscript be ke p2) X.env v = (do let ov ← holding [v] (eval be X.env); let iv ← holding [v, ov] (eval ke X.env); standAt p2; holding [v, ov, iv] (setItem ov iv v); release [v, ov, iv] []) := by intro _; rfl)
    (hs : swapsWithSole [.Subscript be ke p2] e pos.line X.env = pure false := by rfl) (hw : swappedStores [.Subscript be ke p2] e X.env = pure none := by rfl)
    (h1 : (assignEach [.Subscript be ke p2] X.env).map (·.2) = [assign (.Subscript be ke p2) X.env] := by rfl) : StOk X Φ (.Assign [.Subscript be ke p2] e pos) (.asg (.bx ib ik) ie) :=
  ⟨fun W E => (ps_asg (he.run false) (pg_sub (hb.run false) (hk.run false) (set_ok hu) ha) hs hw h1).weaken fun D_ σV H ⟨Hs, ρ, σ, B, s, out⟩ => by
    have out : OutS X.K W E D_ ((evX Φ ie σ B).bind fun x => (asg Φ (.bx ib ik) x.1 σ x.2).bind fun y => .ok (.next, y.1, y.2)) := out
    rw [evX_val hn] at out
    refine ⟨Hs, ρ, σ, B, s.st, ?_⟩
    cases q : ev Φ false ie σ B with
    | bad => rw [q] at out; exact out
    | ex c ps B => exact exx_any
    | ok y =>
      rw [q] at out
      have out : OutS X.K W E D_ (((ev Φ false ib σ y.2).bind fun x => (ev Φ false ik σ x.2).bind fun z => match x.1 with
        | .box n => match z.2[n]? with
          | some c => (Rs.of (setD c z.1 y.1)).bind fun c' => Rs.ok (σ, z.2.set n c')
          | none => .bad
        | _ => .bad).bind fun w => .ok (.next, w.1, w.2)) := out
      intro v H1 Hs1 ρ1 g1 l1 b1 r1
      have s1 := s.grow g1 l1 b1
      rw [Rs.bind_bind] at out
      refine ⟨Hs1, ρ1, σ, y.2, s1.st, OutS.bindE out fun x B2 xv H2 Hs2 ρ2 g2 l2 b2 r2 out => ?_⟩
      have s2 := s1.grow g2 l2 b2
      rw [Rs.bind_bind] at out
      refine ⟨Hs2, ρ2, σ, B2, s2.st, OutS.bindE out fun k' B3 kv H3 Hs3 ρ3 g3 l3 b3 r3 out => ?_⟩
      have s3 := s2.grow g3 l3 b3
      cases x with
      | box n =>
        have out : OutS X.K W E D_ ((match B3[n]? with
          | some c => (Rs.of (setD c k' y.1)).bind fun c' => Rs.ok (σ, B3.set n c')
          | none => .bad).bind fun w => .ok (.next, w.1, w.2)) := out
        cases q2 : B3[n]? with
        | none => rw [q2] at out; exact out.elim
        | some c =>
          rw [q2] at out
          have out : OutS X.K W E D_ (((Rs.of (setD c k' y.1)).bind fun c' => Rs.ok (σ, B3.set n c')).bind fun w => .ok (.next, w.1, w.2)) := out
          rw [Rs.bind_bind] at out
          obtain ⟨c', q4, out⟩ := OutS.of out
          have rb := (r2.grow g3).val
          cases rb with
          | @box _ a ea =>
            obtain ⟨own, hn⟩ := s3.st.bx.at_ n a c ea q2
            exact ⟨Hs3, ρ3, c, k', y.1, c', a, rfl, l3, own, r3.val, g3.rep (g2.rep r1.val), q4, fun o' ho => out _ _ _ _ (s3.mutB q2 ea ho)⟩
      | _ => exact out.elim⟩
/-- x.append(value) -/
theorem s_app {i : Nat} {x : Str} {p1 apos cpos : Pos} (hN : X.N[i]? = some x) (hv : Vis X.env.scope x) (he : EOk X Φ WX0 e ie)
    (hbase : attributeBase (.Name x p1) "append" X.env (eval (.Name x p1) X.env) = eval (.Name x p1) X.env := by rfl)
    (hfew : ((backTo cpos (starEach [e] X.env)).all (fun x => !x.1) && (backToKw cpos (keywordEach [] X.env)).all (fun x => x.1.isSome)
      && decide ([e].length + ([] : List Keyword).length + (if ([] : List Keyword).isEmpty then 0 else 1) < 30)) = true := by rfl)
    (hline : (apos.endLine == cpos.line) = true := by rfl) (hst : starEach [e] X.env = (false, eval e X.env) :: starEach [] X.env := by rfl)
    (hsw : swapsWith (.Call (.Attribute (.Name x p1) "append" apos) [e] [] cpos) none pos.line X.env = pure false := by rfl)
    (hd : (x == ("__debug__" : Str)) = false := by decide) (hcd : (x == ("__classdict__" : Str)) = false := by decide) :
    StOk X Φ (.Expr (.Call (.Attribute (.Name x p1) "append" apos) [e] [] cpos) pos) (.app i ie) :=
  ⟨fun W E => (ps_expr (pe_bm PySem.F.plainAttrs_list PySem.F.slot_list_append PySem.F.type_list_append mt_append (pe_var hN hv hd hcd) ((a_cons he a_nil hst).run false) hbase hfew hline hst) hsw).weaken fun D_ σV H ⟨Hs, ρ, σ, B, s, out⟩ => by
    have out : OutS X.K W E D_ ((match σ[i]? with
      | some (.own (.lst l)) => (ev Φ false ie σ B).bind fun x => if l.length < ln then .ok (.next, σ.set i (.own (.lst (l ++ [x.1]))), x.2) else .bad
      | _ => .bad)) := out
    have hsl : ∃ l, σ[i]? = some (.own (.lst l)) := by
      cases q2 : σ[i]? with
      | none => rw [q2] at out; exact out.elim
      | some w =>
        cases w with
        | own c =>
          cases c with
          | lst l => exact ⟨l, rfl⟩
          | _ => rw [q2] at out; exact out.elim
        | _ => rw [q2] at out; exact out.elim
    obtain ⟨l, hsl⟩ := hsl
    rw [hsl] at out
    have out : OutS X.K W E D_ ((ev Φ false ie σ B).bind fun x => if l.length < ln then .ok (.next, σ.set i (.own (.lst (l ++ [x.1]))), x.2) else .bad) := out
    obtain ⟨a, ea, ⟨xs, hx, hr⟩, n, nr⟩ := s.st.slotV hsl
    refine ⟨.ref a, ea, .inl ⟨rfl, xs, SqL.of hx⟩, Hs, ρ, σ, B, s.st, ?_⟩
    have out : OutS X.K W E D_ (((ev Φ false ie σ B).bind fun x => Rs.ok ([x.1], x.2)).bind fun x => match x.1 with
      | [y] => if l.length < ln then .ok (.next, σ.set i (.own (.lst (l ++ [y]))), x.2) else .bad
      | _ => .bad) := by rw [Rs.bind_bind]; exact out
    show OutL X.K _ false Hs ρ H ((ev Φ false ie σ B).bind fun x => Rs.ok ([x.1], x.2)) _
    cases q : ev Φ false ie σ B with
    | bad => rw [q] at out; exact out
    | ex c ps B => exact exx_any
    | ok y =>
      rw [q] at out
      intro vs H1 Hs1 ρ1 g1 l1 b1 r1
      have s1 := s.grow g1 l1 b1
      cases r1 with
      | @cons _ v _ vs h t =>
        cases t
        obtain ⟨a', ea', ⟨ys, hy, hr⟩, n, nr⟩ := s1.st.slotV hsl
        rw [ea] at ea'
        cases ea'
        obtain ⟨hl, out⟩ := OutG.ite (show OutG X.K W E.Hs E.ρ E.H (if l.length < ln then (Rs.ok (Fl.next, σ.set i (Sl.own (D.lst (l ++ [y.1]))), y.2) : Rq) else .bad) _ from out)
        refine ⟨a, ys, v, rfl, rfl, hy, by rw [← hr.length, ln_eq]; exact hl, ?_⟩
        exact out σV _ _ _ (s1.mut hsl ea ⟨_, upd_same, hr.append (.cons h.val .nil)⟩)⟩
/-- x += value: ints, texts -/
def rAug (K : PySem.W.Frag) : TIp := fun x y H Q => ∃ Hs ρ B a b d, Le Hs H ∧ BOk K Hs ρ H B ∧ Rep K Hs ρ a x ∧ RP K Hs ρ H b y ∧ addV a b = some d ∧ Yld K false Hs ρ H B d Q
theorem aug_ok : PIp X .Add (rAug X.K) := by
  intro pins s σ H x y v u Q I rx ry ⟨Hs, ρ, B, a, b, d, le, bx, ra, rb, e, h⟩
  cases a with
  | int i =>
    cases ra
    cases b with
    | int j =>
      cases rb.int
      cases e
      exact iop_add pins s σ H _ _ v u Q I rx ry ⟨i, j, rfl, rfl, h.int le bx⟩
    | _ => cases e
  | str i =>
    cases ra with
    | str hi =>
      cases b with
      | str j =>
        obtain ⟨rfl, hj⟩ := rb.str
        obtain ⟨hl, e⟩ := cons_ite (show (if i.length + j.length ≤ ln then some (D.str (i ++ j)) else none) = some d from e)
        subst e
        refine iop_add_str pins s σ H _ _ v u Q I rx ry ⟨mk i, mk j, rfl, rfl, by rw [mk_len, mk_len, ln_eq]; exact hl, ?_⟩
        rw [mk_app]
        exact h.str le bx ⟨fun c hc => (List.mem_append.mp hc).elim (hi.1 c) (hj.1 c), by rw [List.length_append]; exact hl⟩
      | _ => cases e
  | _ => cases e
theorem s_augV {i : Nat} {x : Str} {p1 : Pos} (hN : X.N.Nodup) (hi : X.N[i]? = some x) (hx : Loc X.env.scope x) (he : EOk X Φ WX0 e ie) (hf : X.fn x = true ∨ X.env.scope.names.lookup x = some .local) : StOk X Φ (.AugAssign (.Name x p1) .Add e pos) (.augV i ie) :=
  ⟨fun W E => (ps_aug hN hi hx (he.run true) aug_ok hf).weaken fun D_ σV H ⟨Hs, ρ, σ, B, s, out⟩ => by
    have out : OutS X.K W E D_ ((match σ[i]? with
      | some (.val c) => (ev Φ true ie σ B).bind fun x => (Rs.of (addV c (drf x.2 x.1))).bind fun d => .ok (.next, σ.set i (.val d), x.2)
      | _ => .bad)) := out
    have hsl : ∃ c, σ[i]? = some (.val c) := by
      cases q2 : σ[i]? with
      | none => rw [q2] at out; exact out.elim
      | some w =>
        cases w with
        | val c => exact ⟨c, rfl⟩
        | _ => rw [q2] at out; exact out.elim
    obtain ⟨c, hsl⟩ := hsl
    rw [hsl] at out
    have out : OutS X.K W E D_ ((ev Φ true ie σ B).bind fun x => (Rs.of (addV c (drf x.2 x.1))).bind fun d => .ok (.next, σ.set i (.val d), x.2)) := out
    have hil : i < σ.length := (List.getElem?_eq_some_iff.mp hsl).1
    obtain ⟨v, e1, r⟩ := s.st.sl i _ hsl
    refine ⟨v, ?_, Hs, ρ, σ, B, s.st, OutS.bindE out fun y B1 u H1 Hs1 ρ1 g1 l1 b1 r1 out => ?_⟩
    · cases q : σV[i]? with
      | none => rw [q] at e1; cases e1
      | some o => rw [q] at e1; exact congrArg some e1
    · obtain ⟨d, hd, out⟩ := OutS.of out
      refine ⟨Hs1, ρ1, B1, c, drf B1 y, d, l1, b1, g1.rep r, drf_ok r1 b1, hd, fun z H2 Hs2 ρ2 g2 l2 b2 r2 => ?_⟩
      exact out _ _ _ _ (((s.grow g1 l1 b1).grow g2 l2 b2).setV hil r2.val)⟩
end
end Pz
end
section
set_option Elab.async false
set_option linter.all false
set_option maxRecDepth 100000
namespace Pz
open PySem PySem.Spec PyProof.Rows L2

/-! ### loops -/
section
variable {K : PySem.W.Frag} {E : En} {Hs H : Hp} {ρ : List Addr} {σV : L2.St} {σ : Sg} {B : List D}
/-- a loop's own entry -/
theorem SSt.enter (s : SSt K E Hs ρ H σV σ B) : ∃ E', E'.Hs = Hs ∧ E'.ρ = ρ ∧ SSt K E' Hs ρ H σV σ B ∧ ∀ {Hs' H' : Hp} {ρ' : List Addr} {σV' : L2.St} {σ' : Sg} {B' : List D}, SSt K E' Hs' ρ' H' σV' σ' B' → SSt K E Hs' ρ' H' σV' σ' B' := by
  classical
  have hk : ∀ a o, (if E.H a ≠ none ∨ Hs a ≠ none then H a else none) = some o → H a = some o := fun a o h => by
    split at h
    · exact h
    · cases h
  refine ⟨⟨Hs, fun a => if E.H a ≠ none ∨ Hs a ≠ none then H a else none, ρ⟩, rfl, rfl, ⟨s.st, ⟨fun _ _ h => h, fun _ _ h => .inl ⟨_, h⟩, fun a o h _ => hk a o h, fun a o h => ⟨o, hk a o h⟩, List.prefix_refl _, fun _ h => .inl h⟩, fun i a d h1 h2 => ?_⟩, fun s' => ⟨s'.st, ?_, fun i a d h1 h2 => ?_⟩⟩
  · obtain ⟨a', e', _, n, _⟩ := s.st.slotV h1
    rw [h2] at e'
    cases e'
    have := s.ow i a d h1 h2
    exact if_neg (by simp [this, n])
  · refine Gr.trans (Hs' := Hs) (H' := fun a => if E.H a ≠ none ∨ Hs a ≠ none then H a else none) (ρ' := ρ) ⟨s.gr.hs, s.gr.fr, fun a o h n => ?_, fun a o h => ?_, s.gr.rp, s.gr.rn⟩ s'.gr
    · show (if E.H a ≠ none ∨ Hs a ≠ none then H a else none) = some o
      rw [if_pos (.inl (by rw [h]; simp))]
      exact s.gr.kp a o h n
    · obtain ⟨u, hu⟩ := s.gr.th a o h
      refine ⟨u, ?_⟩
      show (if E.H a ≠ none ∨ Hs a ≠ none then H a else none) = some u
      rw [if_pos (.inl (by rw [h]; simp))]
      exact hu
  · have q : (if E.H a ≠ none ∨ Hs a ≠ none then H a else none) = none := s'.ow i a d h1 h2
    cases e : E.H a with
    | none => rfl
    | some o =>
      rw [if_pos (.inl (by rw [e]; simp))] at q
      obtain ⟨u, hu⟩ := s.gr.th a o e
      rw [q] at hu; cases hu
end
section
variable {X : Cx} {Φ : Fn} {pos : Pos} {e : Expr} {ie : E} {body : List Stmt} {ib : Ss}
def rdSa (K : PySem.W.Frag) (Φ : Fn) (is : Ss) : TS := fun D_ σV H => ∃ W E, rdSs K Φ W E is D_ σV H
theorem ss_any (h : SsOk X Φ body ib) : PSs X body (rdSa X.K Φ ib) := ⟨fun pins s σ H D_ I ⟨W, E, q⟩ => (h.run W E).run pins s σ H D_ I q⟩
theorem s_for {tg : Tg} {tp it : Expr} {iit : E} (hp : PassesOwn (model X.prog X.w) X.A X.env X.xe) (hc : X.calm = true) (hi : IOk X Φ WX0 false tp it iit) (hg : GOk X tp tg) (hb : SsOk X Φ body ib) (hs : ∀ x, foldedSetIterable it X.env x = pure x := by intro _; rfl) :
    StOk X Φ (.For tp it body [] pos) (.for tg iit ib) :=
  ⟨fun W E => (ps_for hp hc hi.run hg.run (ss_any hb) hs).weaken fun D_ σV H ⟨Hs, ρ, σ, B, s, out⟩ => by
    have out : OutS X.K W E D_ ((ev Φ false iit σ B).bind fun x => (Rs.of (itemsOf x.1)).bind fun ds => forLoop (fun d σ B => (Rs.of (put tg d σ)).bind fun σ' => exs Φ ib σ' B) ds σ x.2) := out
    refine ⟨Hs, ρ, σ, B, s.st, ?_⟩
    cases q : ev Φ false iit σ B with
    | bad => rw [q] at out; exact out
    | ex c ps B => exact exx_any
    | ok x =>
      rw [q] at out
      obtain ⟨ds, hds, out⟩ := OutS.of (show OutS X.K W E D_ ((Rs.of (itemsOf x.1)).bind fun ds => forLoop (fun d σ B => (Rs.of (put tg d σ)).bind fun σ' => exs Φ ib σ' B) ds σ x.2) from out)
      show OutG X.K _ Hs ρ H ((Rs.of (itemsOf x.1)).bind fun ds => Rs.ok (ds, x.2)) _
      rw [hds]
      intro J H1 Hs1 ρ1 g1 l1 b1 hit
      obtain ⟨E', eh, er, s1, back⟩ := (s.grow g1 l1 b1).enter
      refine ⟨fun i m σV H => i ≤ ds.length ∧ m = ds.length - i ∧ ∃ Hs ρ σ B, SSt X.K E' Hs ρ H σV σ B ∧ OutS X.K W E D_ (forLoop (fun d σ B => (Rs.of (put tg d σ)).bind fun σ' => exs Φ ib σ' B) (ds.drop i) σ B),
        ⟨_, Nat.zero_le _, rfl, Hs1, ρ1, σ, x.2, s1, out⟩, ?_⟩
      rintro i m σV H ⟨hi, rfl, Hs, ρ, σ, B, s, out⟩
      have cnd : Cnd false Hs1 H1 ρ1 Hs H ρ := ⟨by rw [← eh]; exact s.gr.hs, by rw [← er]; exact s.gr.rp, fun z => by cases z⟩
      by_cases hl : i = ds.length
      · subst hl
        rw [List.drop_length] at out
        exact .inl ⟨hit.stop _ Hs H ρ cnd s.st.le (Nat.le_refl _), out σV H Hs ρ (back s)⟩
      · have hlt : i < ds.length := by omega
        have hd : ds[i]? = some ds[i] := List.getElem?_eq_getElem hlt
        rw [List.drop_eq_getElem_cons hlt] at out
        refine .inr ⟨hit.go i Hs H ρ cnd s.st.le hlt, fun σV' H' => i + 1 ≤ ds.length ∧ ∃ Hs ρ σ B, SSt X.K E' Hs ρ H' σV' σ B ∧ OutS X.K W E D_ (forLoop (fun d σ B => (Rs.of (put tg d σ)).bind fun σ' => exs Φ ib σ' B) (ds.drop (i + 1)) σ B),
          fun σV' H' h => ⟨ds.length - (i + 1), by omega, h.1, rfl, h.2⟩, fun xv H' hy => ?_⟩
        obtain ⟨Hs2, g2, l2, b2, r2⟩ := hit.yld i Hs H ρ B xv H' _ cnd s.st.le s.st.bx hd hy
        have s2 := s.grow g2 l2 b2
        have out : OutS X.K W E D_ (((Rs.of (put tg ds[i] σ)).bind fun σ' => exs Φ ib σ' B).bind fun x => match x.1 with
          | .next => forLoop (fun d σ B => (Rs.of (put tg d σ)).bind fun σ' => exs Φ ib σ' B) (ds.drop (i + 1)) x.2.1 x.2.2
          | .cnt => forLoop (fun d σ B => (Rs.of (put tg d σ)).bind fun σ' => exs Φ ib σ' B) (ds.drop (i + 1)) x.2.1 x.2.2
          | .brk => .ok (.next, x.2.1, x.2.2)
          | .ret d => .ok (.ret d, x.2.1, x.2.2)) := out
        rw [Rs.bind_bind] at out
        obtain ⟨σ', hput, out⟩ := OutS.of out
        refine ⟨Hs2, ρ, σ, B, _, σ', s2.st, r2, hput, fun σV' st k => ⟨W, E', Hs2, ρ, σ', B, s2.ofKept st k, ?_⟩⟩
        cases q2 : exs Φ ib σ' B with
        | bad => rw [q2] at out; exact out
        | ex c ps B => exact exx_any
        | ok y =>
          rw [q2] at out
          obtain ⟨fl, σ3, B3⟩ := y
          intro σV3 H3 Hs3 ρ3 s3
          cases fl with
          | next => exact ⟨hlt, Hs3, ρ3, σ3, B3, s3, out⟩
          | cnt => exact ⟨hlt, Hs3, ρ3, σ3, B3, s3, out⟩
          | brk => exact out σV3 H3 Hs3 ρ3 (back s3)
          | ret d => exact out σV3 H3 Hs3 ρ3 (back s3)⟩
theorem s_while {c : Expr} {ic : E} (hp : PassesOwn (model X.prog X.w) X.A X.env X.xe) (hc : TOk X Φ WX0 c ic) (hb : SsOk X Φ body ib) : StOk X Φ (.While c body [] pos) (.whl ic ib) :=
  ⟨fun W E => (ps_while hp hc.run (ss_any hb)).weaken fun D_ σV H ⟨Hs, ρ, σ, B, s, out⟩ => by
    have out : OutS X.K W E D_ (whlLoop (fun σ B => ev Φ false ic σ B) (fun σ B => exs Φ ib σ B) fuel σ B) := out
    refine ⟨fun m σV H => ∃ Hs ρ σ B, SSt X.K E Hs ρ H σV σ B ∧ OutS X.K W E D_ (whlLoop (fun σ B => ev Φ false ic σ B) (fun σ B => exs Φ ib σ B) m σ B), ⟨fuel, Hs, ρ, σ, B, s, out⟩, ?_⟩
    rintro m σV H ⟨Hs, ρ, σ, B, s, out⟩
    cases m with
    | zero => exact out.elim
    | succ m =>
      have out : OutS X.K W E D_ ((ev Φ false ic σ B).bind fun x => Pz.isB x.1 fun k => if k then (exs Φ ib σ x.2).bind fun x => match x.1 with
        | .next => whlLoop (fun σ B => ev Φ false ic σ B) (fun σ B => exs Φ ib σ B) m x.2.1 x.2.2
        | .cnt => whlLoop (fun σ B => ev Φ false ic σ B) (fun σ B => exs Φ ib σ B) m x.2.1 x.2.2
        | .brk => .ok (.next, x.2.1, x.2.2)
        | .ret d => .ok (.ret d, x.2.1, x.2.2)
        else .ok (.next, σ, x.2)) := out
      refine ⟨Hs, ρ, σ, B, s.st, OutS.bindE out fun x B1 v H1 Hs1 ρ1 g1 l1 b1 r1 out => ?_⟩
      have s1 := s.grow g1 l1 b1
      obtain ⟨k, rfl, out⟩ := out.isB
      refine ⟨k, bl_of r1, ?_⟩
      cases k with
      | false => exact out σV H1 Hs1 ρ1 s1
      | true =>
        refine ⟨fun σV' H' => ∃ Hs ρ σ B, SSt X.K E Hs ρ H' σV' σ B ∧ OutS X.K W E D_ (whlLoop (fun σ B => ev Φ false ic σ B) (fun σ B => exs Φ ib σ B) m σ B), fun σV' H' h => ⟨m, Nat.lt_succ_self _, h⟩, W, E, Hs1, ρ1, σ, B1, s1, ?_⟩
        cases q2 : exs Φ ib σ B1 with
        | bad => rw [q2] at out; exact out
        | ex c ps B => exact exx_any
        | ok y =>
          rw [q2] at out
          obtain ⟨fl, σ3, B3⟩ := y
          intro σV3 H3 Hs3 ρ3 s3
          cases fl with
          | next => exact ⟨Hs3, ρ3, σ3, B3, s3, out⟩
          | cnt => exact ⟨Hs3, ρ3, σ3, B3, s3, out⟩
          | brk => exact out σV3 H3 Hs3 ρ3 s3
          | ret d => exact out σV3 H3 Hs3 ρ3 s3⟩
end
end Pz
end
section
set_option Elab.async false
set_option linter.all false
set_option maxRecDepth 100000
namespace Pz
open PySem PySem.Spec PyProof.Rows L2

/-! ### list comprehensions -/
section
variable {K : PySem.W.Frag} {Hs0 Hs H0 H : Hp} {ρ0 ρ : List Addr} {W0 W : XK}
/-- a part of a run, while what is wanted stays put -/
theorem OutG.bindC {α : Type} {q : Bool} {R : α → Prop} {r : Rs (D × List D)} {f : D × List D → Rs α} {Q : VK} (h : OutG K W0 Hs0 ρ0 H0 (r.bind f) R)
    (k : ∀ d B' v H' Hs' ρ', Gr Hs H ρ Hs' H' ρ' → Le Hs' H' → BOk K Hs' ρ' H' B' → RelP K q Hs' ρ' H' d v → OutG K W0 Hs0 ρ0 H0 (f (d, B')) R → Q v H') : Out K W q Hs ρ H r Q := by
  cases r with
  | ok x => exact fun v H' Hs' ρ' g l b r => k x.1 x.2 v H' Hs' ρ' g l b r h
  | ex c ps B => exact exx_any
  | bad => exact h
theorem OutG.isB {α : Type} {R : α → Prop} {x : D} {f : Bool → Rs α} (h : OutG K W Hs ρ H (Pz.isB x f) R) : ∃ k, x = .bl k ∧ OutG K W Hs ρ H (f k) R := by
  cases x with
  | bl b => exact ⟨b, rfl, h⟩
  | _ => exact h.elim
end
structure TsOk (X : Cx) (Φ : Fn) (W : WX) (pe : List Expr) (ie : E) : Prop where
  run : PTs X pe (rdT X.K Φ W ie)
theorem PTs.weaken_ {X : Cx} {e : List Expr} {t t' : TT} (h : PTs X e t) (w : ∀ σ H Q, t' σ H Q → t σ H Q) : PTs X e t' := ⟨fun pins s σ H Q I q => h.run pins s σ H Q I (w σ H Q q)⟩
section
variable {X : Cx} {Φ : Fn} {W : WX} {c : Expr} {ic : E}
theorem ts_nil : TsOk X Φ W [] (.cst (.bl true)) := ⟨PTs.weaken_ pts_nil fun σV H Q ⟨Hs, ρ, σ, B, st, out⟩ => by
  obtain ⟨b, e, q⟩ := Yld.here (p := false) (show Yld X.K false Hs ρ H B (.bl true) _ from out) st.le st.bx (.bl true)
  cases e
  exact q⟩
theorem ts_one (h : TOk X Φ W c ic) : TsOk X Φ W [c] ic := ⟨pts_one h.run⟩
theorem wipe_set (σ : L2.St) : ∀ (vs : List Nat) (σ' : L2.St), σ'.length = σ.length → (∀ i, i ∉ vs → σ'[i]? = σ[i]?) → L2.wipe σ' vs = L2.wipe σ vs
  | [], σ', _, h => by
    show σ' = σ
    exact List.ext_getElem? fun i => h i List.not_mem_nil
  | v :: vs, σ', hl, h => by
    show (L2.wipe σ' vs).set v none = (L2.wipe σ vs).set v none
    refine List.ext_getElem? fun i => ?_
    by_cases e : v = i
    · subst e
      by_cases hv : v < σ.length
      · rw [List.getElem?_set_self (by rw [L2.wipe_length, hl]; exact hv), List.getElem?_set_self (by rw [L2.wipe_length]; exact hv)]
      · rw [List.getElem?_eq_none (by rw [List.length_set, L2.wipe_length, hl]; omega), List.getElem?_eq_none (by rw [List.length_set, L2.wipe_length]; omega)]
    · rw [List.getElem?_set_ne e, List.getElem?_set_ne e]
      by_cases hm : i ∈ vs
      · have key : ∀ (τ : L2.St) (vs : List Nat), i ∈ vs → (L2.wipe τ vs)[i]? = if i < τ.length then some none else none := fun τ vs => by
          induction vs with
          | nil => intro h; cases h
          | cons w ws ih =>
            intro h
            show ((L2.wipe τ ws).set w none)[i]? = _
            by_cases e2 : w = i
            · subst e2
              by_cases hv : w < τ.length
              · rw [List.getElem?_set_self (by rw [L2.wipe_length]; exact hv), if_pos hv]
              · rw [List.getElem?_eq_none (by rw [List.length_set, L2.wipe_length]; omega), if_neg hv]
            · rw [List.getElem?_set_ne e2]
              rcases List.mem_cons.mp h with z | z
              · exact absurd z.symm e2
              · exact ih z
        rw [key σ' vs hm, key σ vs hm, hl]
      · rw [wipe_out hm, wipe_out hm]
        exact h i fun z => (List.mem_cons.mp z).elim (fun z => e z.symm) hm
theorem wipe_wipe (σ : L2.St) (vs : List Nat) : L2.wipe (L2.wipe σ vs) vs = L2.wipe σ vs := wipe_set σ vs _ (L2.wipe_length σ vs) fun i hi => wipe_out hi
/-- the turns of a comprehension -/
abbrev lcF (Φ : Fn) (tg : Tg) (ic ie : E) (σ : Sg) : D → List D → Rs (Option D × List D) := fun d B => (Rs.of (put tg d (wipeS σ tg.names))).bind fun σ' => (ev Φ false ic σ' B).bind fun y => Pz.isB y.1 fun k =>
  if k then (ev Φ false ie σ' y.2).bind fun z => .ok (some z.1, z.2) else .ok (none, y.2)
theorem lc_turns {K : PySem.W.Frag} {Φ : Fn} {tg : Tg} {ic ie : E} {Wi : WX} {W0 : XK} {p : Bool} {J : It} {ds : List D} {Hs0 Hs1 H0 H1 : Hp} {ρ0 ρ1 : List Addr} {σV : L2.St} {σ : Sg} {B1 : List D} {R : D × List D → Prop} {Q : VK}
    (st : Stt K Hs1 ρ1 H1 σV σ B1) (hit : ItR K p J Hs1 ρ1 H1 ds) (hl : ds.length ≤ ln)
    (out : OutG K W0 Hs0 ρ0 H0 ((lcLoop (lcF Φ tg ic ie σ) ds B1).bind fun r => .ok (.lst r.1, r.2)) R) {D : Addr} (hD : H1 D = none)
    (fin : ∀ l B H Hs ρ, R (.lst l, B) → Gr Hs1 H1 ρ1 Hs H ρ → Le Hs H → BOk K Hs ρ H B → OwnAt K Hs ρ H D (.lst l) → Hs D = none → D ∉ ρ → Q (.ref D) H) :
    ∃ W : Nat → Nat → Hp → Prop, (∃ m, W 0 m (upd H1 D (.lst []))) ∧ ∀ i m H, W i m H →
      (J.stop i H ∧ Q (.ref D) H) ∨ (J.go i H ∧ ∃ Nx : Hp → Prop, (∀ H', Nx H' → ∃ m', m' < m ∧ W (i + 1) m' H') ∧ ∀ x H', J.yld i H x H' → rdP K tg x (L2.wipe σV tg.names) H' fun σ2 H2 => L2.wipe σ2 tg.names = L2.wipe σV tg.names ∧ rdT K Φ Wi ic σ2 H2 fun b H3 =>
        if b = true then rdE K Φ Wi false ie σ2 H3 fun y H4 => ∃ acc, H4 D = some (.lst acc) ∧ acc.length < sizeLine ∧ Nx (upd H4 D (.lst (acc ++ [y]))) else Nx H3) := by
  have hs0 : Hs1 D = none := st.le.there hD
  have hr0 : D ∉ ρ1 := rho_new hD st.bx
  let Inv_ : Nat → Hp → Prop := fun i H => i ≤ ds.length ∧ ∃ Hs ρ B acc accV, Gr Hs1 H1 ρ1 Hs H ρ ∧ Le Hs H ∧ BOk K Hs ρ H B ∧ H D = some (.lst accV) ∧ Hs D = none ∧ D ∉ ρ ∧ RepL K Hs ρ acc accV ∧ acc.length ≤ i ∧
    OutG K W0 Hs0 ρ0 H0 ((lcLoop (lcF Φ tg ic ie σ) (ds.drop i) B).bind fun r => .ok (.lst (acc ++ r.1), r.2)) R
  refine ⟨fun i m H => m = ds.length - i ∧ Inv_ i H, ⟨_, rfl, Nat.zero_le _, Hs1, ρ1, B1, [], [], gr_new hD, le_new st.le hD, bok_new hD st.bx, upd_same, hs0, hr0, .nil, Nat.zero_le _, out⟩, ?_⟩
  rintro i m H ⟨rfl, hi, Hs, ρ, B, acc, accV, g, l, b, h1, h2, h3, h4, h5, out⟩
  by_cases he : i = ds.length
  · subst he
    rw [List.drop_length] at out
    have out : R (.lst (acc ++ []), B) := out
    rw [List.append_nil] at out
    exact .inl ⟨hit.stop _ Hs H ρ (.of g) l (Nat.le_refl _), fin acc B H Hs ρ out g l b ⟨_, h1, h4⟩ h2 h3⟩
  · have hlt : i < ds.length := by omega
    rw [List.drop_eq_getElem_cons hlt] at out
    refine .inr ⟨hit.go i Hs H ρ (.of g) l hlt, fun H' => Inv_ (i + 1) H', fun H' h => ⟨ds.length - (i + 1), by omega, rfl, h⟩, fun x H' hy => ?_⟩
    obtain ⟨Hs2, g2, l2, b2, r2⟩ := hit.yld i Hs H ρ B x H' _ (.of g) l b (List.getElem?_eq_getElem hlt) hy
    have out : OutG K W0 Hs0 ρ0 H0 (((lcF Φ tg ic ie σ ds[i] B).bind fun x => (lcLoop (lcF Φ tg ic ie σ) (ds.drop (i + 1)) x.2).bind fun r => .ok ((match x.1 with | some y => y :: r.1 | none => r.1), r.2)).bind fun r => .ok (.lst (acc ++ r.1), r.2)) R := out
    rw [Rs.bind_bind] at out
    have out : OutG K W0 Hs0 ρ0 H0 (((Rs.of (put tg ds[i] (wipeS σ tg.names))).bind fun σ' => (ev Φ false ic σ' B).bind fun y => Pz.isB y.1 fun k =>
      if k then (ev Φ false ie σ' y.2).bind fun z => .ok (some z.1, z.2) else .ok (none, y.2)).bind fun x => ((lcLoop (lcF Φ tg ic ie σ) (ds.drop (i + 1)) x.2).bind fun r => .ok ((match x.1 with | some y => y :: r.1 | none => r.1), r.2)).bind fun r => .ok (.lst (acc ++ r.1), r.2)) R := out
    rw [Rs.bind_bind] at out
    obtain ⟨σ', hput, out⟩ := OutG.of out
    have hown : OwnAt K Hs ρ H D (.lst acc) := ⟨_, h1, h4⟩
    refine ⟨Hs2, ρ, wipeS σ tg.names, B, _, σ', ((st.grow g l b).grow g2 l2 b2).wipe_ _, r2, hput, fun σV' st' kp => ⟨?_, ?_⟩⟩
    · rw [wipe_set (L2.wipe σV tg.names) tg.names σV' kp.lv kp.v, wipe_wipe]
    rw [Rs.bind_bind] at out
    refine ⟨Hs2, ρ, σ', B, st', OutG.bindC out fun y B3 v H3 Hs3 ρ3 g3 l3 b3 r3 out => ?_⟩
    have hown3 := (g2.trans g3).own hown h2 h3
    have out : OutG K W0 Hs0 ρ0 H0 ((Pz.isB y fun k => if k then (ev Φ false ie σ' B3).bind fun z => Rs.ok (some z.1, z.2) else .ok (none, B3)).bind fun x => ((lcLoop (lcF Φ tg ic ie σ) (ds.drop (i + 1)) x.2).bind fun r => .ok ((match x.1 with | some y => y :: r.1 | none => r.1), r.2)).bind fun r => .ok (.lst (acc ++ r.1), r.2)) R := out
    have hy : ∃ k, y = .bl k := by
      cases y with
      | bl k => exact ⟨k, rfl⟩
      | _ => exact out.elim
    obtain ⟨k, rfl⟩ := hy
    refine ⟨k, bl_of r3, ?_⟩
    cases k with
    | false =>
      rw [if_neg Bool.false_ne_true]
      obtain ⟨⟨accV3, hd3, hr3⟩, hn3, hp3⟩ := hown3
      refine ⟨hlt, Hs3, ρ3, B3, acc, accV3, (g.trans g2).trans g3, l3, b3, hd3, hn3, hp3, hr3, by omega, ?_⟩
      have out : OutG K W0 Hs0 ρ0 H0 (((lcLoop (lcF Φ tg ic ie σ) (ds.drop (i + 1)) B3).bind fun r => Rs.ok (r.1, r.2)).bind fun r => .ok (.lst (acc ++ r.1), r.2)) R := out
      rw [Rs.bind_bind] at out
      exact out
    | true =>
      rw [if_pos rfl]
      have out : OutG K W0 Hs0 ρ0 H0 (((ev Φ false ie σ' B3).bind fun z => Rs.ok (some z.1, z.2)).bind fun x => ((lcLoop (lcF Φ tg ic ie σ) (ds.drop (i + 1)) x.2).bind fun r => .ok ((match x.1 with | some y => y :: r.1 | none => r.1), r.2)).bind fun r => .ok (.lst (acc ++ r.1), r.2)) R := out
      rw [Rs.bind_bind] at out
      refine ⟨Hs3, ρ3, σ', B3, st'.grow g3 l3 b3, OutG.bindC out fun z B4 w H4 Hs4 ρ4 g4 l4 b4 r4 out => ?_⟩
      obtain ⟨⟨accV4, hd4, hr4⟩, hn4, hp4⟩ := ((g2.trans g3).trans g4).own hown h2 h3
      have lenA : accV4.length < sizeLine := by
        rw [← hr4.length, ln_eq]
        omega
      refine ⟨accV4, hd4, lenA, hlt, Hs4, ρ4, B4, acc ++ [z], accV4 ++ [w], ?_, ?_, ?_, upd_same, hn4, hp4, hr4.append (.cons r4.val .nil), by rw [List.length_append, List.length_singleton]; omega, ?_⟩
      · have gg := ((g.trans g2).trans g3).trans g4
        refine ⟨gg.hs, gg.fr, fun a o q n => ?_, fun a o q => ?_, gg.rp, gg.rn⟩
        · rw [upd_ne (ne_of_none q hD)]
          exact gg.kp a o q n
        · rw [upd_ne (ne_of_none q hD)]
          exact gg.th a o q
      · intro a o q
        rw [upd_ne (ne_of_none q hn4)]
        exact l4 a o q
      · refine ⟨b4.len, b4.nd, fun n a d e1 e2 => ?_⟩
        obtain ⟨h, hn⟩ := b4.at_ n a d e1 e2
        exact ⟨h.mono (Le.refl _) (List.prefix_refl _) (upd_ne fun z => hp4 (by rw [← z]; exact List.mem_of_getElem? e1)), hn⟩
      · have out : OutG K W0 Hs0 ρ0 H0 (((lcLoop (lcF Φ tg ic ie σ) (ds.drop (i + 1)) B4).bind fun r => Rs.ok (z :: r.1, r.2)).bind fun r => .ok (.lst (acc ++ r.1), r.2)) R := out
        rw [Rs.bind_bind] at out
        have e : (fun r : List Pz.D × List Pz.D => (Rs.ok (z :: r.1, r.2)).bind fun r => Rs.ok (Pz.D.lst (acc ++ r.1), r.2)) = fun r => Rs.ok (Pz.D.lst (acc ++ [z] ++ r.1), r.2) := by
          funext r
          show Rs.ok (Pz.D.lst (acc ++ z :: r.1), r.2) = _
          rw [List.append_assoc, List.singleton_append]
        rw [e] at out
        exact out
end
section
variable {X : Cx} {Φ : Fn} {W : WX} {elt tp it : Expr} {ifs : List Expr} {scope : Scope} {own : List (Str × Nat)} {cpos : Pos} {tg : Tg} {iit ic ie : E}
theorem lc_core {R : Hp → List Addr → Hp → D × List D → Prop} (hR : Shf R) {σV : L2.St} {H : Hp} {Q : VK} {p : Bool}
    (hq : ∀ Hs ρ H x, R Hs ρ H x → YldN X.K Hs ρ H x.2 x.1 Q) (h : ∃ Hs ρ σ B, Stt X.K Hs ρ H σV σ B ∧ OutG X.K (fun c d h => W c d σV h) Hs ρ H (ev Φ p (.lc tg iit ic ie) σ B) (R Hs ρ H)) :
    tLc (rdI X.K Φ W true iit) (rdP X.K tg) (rdT X.K Φ WX0 ic) (rdE X.K Φ WX0 false ie) tg.names σV H Q := by
  obtain ⟨Hs, ρ, σ, B, st, out⟩ := h
  refine ⟨Hs, ρ, σ, B, st, ?_⟩
  have out : OutG X.K (fun c d h => W c d σV h) Hs ρ H ((ev Φ true iit σ B).bind fun x => (Rs.of (itemsOf x.1)).bind fun ds => if ds.length ≤ ln then (lcLoop (lcF Φ tg ic ie σ) ds x.2).bind fun r => .ok (.lst r.1, r.2) else .bad) (R Hs ρ H) := out
  cases q : ev Φ true iit σ B with
  | bad => rw [q] at out; exact out
  | ex c ps B => exact exx_any
  | ok x =>
    rw [q] at out
    obtain ⟨ds, hds, out⟩ := OutG.of (show OutG X.K _ Hs ρ H ((Rs.of (itemsOf x.1)).bind fun ds => if ds.length ≤ ln then (lcLoop (lcF Φ tg ic ie σ) ds x.2).bind fun r => Rs.ok (.lst r.1, r.2) else .bad) (R Hs ρ H) from out)
    obtain ⟨hl, out⟩ := OutG.ite out
    show OutG X.K _ Hs ρ H ((Rs.of (itemsOf x.1)).bind fun ds => Rs.ok (ds, x.2)) _
    rw [hds]
    intro J H1 Hs1 ρ1 g1 l1 b1 hit D hD
    refine lc_turns (st.grow g1 l1 b1) hit hl out hD fun l B H' Hs' ρ' r g l_ b own n nr => ?_
    have y : YldF X.K Hs ρ H B (.lst l) Q := hq _ _ _ _ r
    exact y D H' Hs' ρ' (g1.trans g) l_ b own n nr (g1.none_ hD)
theorem e_lc (hc : X.calm = true) (hN : X.N.Nodup) (hi : IOk X Φ W true tp it iit) (ok : BlkOk X.N X.env.scope scope own) (hv : own.map (·.2) = tg.names)
    (hg : ∀ (s : Shared) (H : Hp) (C : Addr) (cl : List (Str × Addr)) (fp : List Addr), GOk (X.blk s H scope (compEnvC scope cl C X.env) fp) tp tg)
    (ht : ∀ (s : Shared) (H : Hp) (C : Addr) (cl : List (Str × Addr)) (fp : List Addr), TsOk (X.blk s H scope (compEnvC scope cl C X.env) fp) Φ WX0 ifs ic)
    (he : ∀ (s : Shared) (H : Hp) (C : Addr) (cl : List (Str × Addr)) (fp : List Addr), EOk (X.blk s H scope (compEnvC scope cl C X.env) fp) Φ WX0 elt ie)
    (hs : ∀ x, foldedSetIterable it X.env x = pure x := by intro _; rfl) : EOk X Φ W (.ListComp elt [⟨tp, it, ifs, 0⟩] scope cpos) (.lc tg iit ic ie) :=
  ⟨fun p => (pe_lc (own := own) hc hN hi.run ok (fun s H C cl fp => (hg s H C cl fp).run) (fun s H C cl fp => (ht s H C cl fp).run) (fun s H C cl fp => (he s H C cl fp).run false) hs).weaken fun σV H Q h => by
    rw [hv]
    exact lc_core Yld.shf (fun _ _ _ _ h => .of h) h⟩
theorem f_lc (hc : X.calm = true) (hN : X.N.Nodup) (hi : IOk X Φ W true tp it iit) (ok : BlkOk X.N X.env.scope scope own) (hv : own.map (·.2) = tg.names)
    (hg : ∀ (s : Shared) (H : Hp) (C : Addr) (cl : List (Str × Addr)) (fp : List Addr), GOk (X.blk s H scope (compEnvC scope cl C X.env) fp) tp tg)
    (ht : ∀ (s : Shared) (H : Hp) (C : Addr) (cl : List (Str × Addr)) (fp : List Addr), TsOk (X.blk s H scope (compEnvC scope cl C X.env) fp) Φ WX0 ifs ic)
    (he : ∀ (s : Shared) (H : Hp) (C : Addr) (cl : List (Str × Addr)) (fp : List Addr), EOk (X.blk s H scope (compEnvC scope cl C X.env) fp) Φ WX0 elt ie)
    (hs : ∀ x, foldedSetIterable it X.env x = pure x := by intro _; rfl) : FOk X Φ W (.ListComp elt [⟨tp, it, ifs, 0⟩] scope cpos) (.lc tg iit ic ie) :=
  ⟨(pe_lc (own := own) hc hN hi.run ok (fun s H C cl fp => (hg s H C cl fp).run) (fun s H C cl fp => (ht s H C cl fp).run) (fun s H C cl fp => (he s H C cl fp).run false) hs).weaken fun σV H Q h => by
    rw [hv]
    exact lc_core YldF.shf (fun _ _ _ _ h => .ofF h) h⟩
end
end Pz
end
section
set_option Elab.async false
set_option linter.all false
set_option maxRecDepth 100000
namespace Pz
open PySem PySem.Spec PyProof.Rows L2

/-! ### defs -/
def spD (K : PySem.W.Frag) (φ : List D → List D → Rs (D × List D)) : Sp := fun vs H Q E => ∃ Hs ρ B ds, Le Hs H ∧ BOk K Hs ρ H B ∧ RepL K Hs ρ ds vs ∧ Out K E false Hs ρ H (φ ds B) Q
/-- a def of the module, known by its promise -/
structure Cl (P : Program) (w : World) (K : PySem.W.Frag) (mg : Str → Option Value) (base : Heap) (k : Nat) (Φ : Fn) (x : Str) (id : Nat) : Prop where
  ex : ∃ (f : Addr) (fd : FuncData) (ps : List Str), FnOk P w K mg base CX0 k f fd ps (spD K (Φ id)) ∧ mg x = some (.ref f) ∧ PySem.W.keepIn K (.ref f) = true ∧ Binds K fd ps []
section
variable {X : Cx} {Φ : Fn} {W : WX} {e : Expr} {es : List Expr} {ies : Es} {p pos : Pos} {x : Str} {k id : Nat}
theorem e_call (C : Cl X.prog X.w X.K X.mg X.base k Φ x id) (hr : Room k X.A) (hg : Gl X x) (ha : AOk X Φ W (e :: es) ies) (hdb : (x == ("__debug__" : Str)) = false := by decide)
    (he : starEach (e :: es) X.env = (false, eval e X.env) :: starEach es X.env := by rfl) (hpl : (backTo pos (starEach es X.env)).any (·.1) = false := by rfl) : EOk X Φ W (.Call (.Name x p) (e :: es) [] pos) (.call id ies) := by
  obtain ⟨f, fd, ps, F, hm, hk, hb⟩ := C.ex
  refine ⟨fun p => (pe_call (E := fun _ _ _ => False) F hr hg hm hk hb .nil pass0 (ha.run false) hdb he hpl).weaken fun σV H Q ⟨Hs, ρ, σ, B, st, out⟩ => ?_⟩
  refine ⟨Hs, ρ, σ, B, st, Out.bindL (p := p) (Q := Q) out fun ds B1 vs H1 Hs1 ρ1 g1 l1 b1 r1 out => ?_⟩
  refine ⟨Hs1, ρ1, B1, ds, l1, b1, by rw [List.append_nil]; exact repL_of r1, ?_⟩
  have out : Out X.K (fun c d h => W c d σV h) p Hs1 ρ1 H1 (Φ id ds B1) Q := out
  show Out X.K _ false Hs1 ρ1 H1 (Φ id ds B1) Q
  cases q : Φ id ds B1 with
  | ok x => rw [q] at out; exact Yld.f (p := p) out
  | ex c ps B => exact exx_any
  | bad => rw [q] at out; exact out
end
section
variable {P : Program} {w : World} {K : PySem.W.Frag} {mg : Str → Option Value} {base : Heap} {x qual : Str} {params : Arguments} {body : List Stmt} {scope : Scope} {f : Addr} {fd : FuncData} {N ps : List Str} {tb : Nat → Option Fd} {n id np ns : Nat} {ib : Ss}
theorem len_of {φ : List D → List D → Rs (D × List D)} (h : ∀ ds B, φ ds B ≠ .bad → ds.length = np) {vs : List V} {H : Hp} {Q : VK} {E : XK} (s : spD K φ vs H Q E) : vs.length = np := by
  obtain ⟨Hs, ρ, B, ds, l, b, r, out⟩ := s
  rw [← r.length]
  refine h ds B fun z => ?_
  rw [z] at out
  exact out
theorem fn_zero (hnp : ps.length = np) : FnOk P w K mg base CX0 0 f fd ps (spD K (run tb 0 id)) :=
  ⟨fun vs H Q E h => by
    obtain ⟨Hs, ρ, B, ds, l, b, r, out⟩ := h
    exact (show False from out).elim, fun A outer s H args us vs Q E hr e0 hb hv h => by
    obtain ⟨Hs, ρ, B, ds, l, b, r, out⟩ := h
    exact (show False from out).elim⟩
theorem start_at {α β : Type} {f : α → β} {z : β} {l : List α} {n i : Nat} {y : β} (h : (l.map f ++ List.replicate n z)[i]? = some y) : (∃ a, l[i]? = some a ∧ y = f a) ∨ y = z := by
  by_cases hi : i < l.length
  · rw [List.getElem?_append_left (by simpa using hi), List.getElem?_map] at h
    obtain ⟨a, e, rfl⟩ := Option.map_eq_some_iff.mp h
    exact .inl ⟨a, e, rfl⟩
  · rw [List.getElem?_append_right (by simpa using hi), List.getElem?_replicate] at h
    split at h
    · cases h; exact .inr rfl
    · cases h
theorem stt_start {Hs H : Hp} {ρ : List Addr} {B ds : List D} {vs : List V} (le : Le Hs H) (bx : BOk K Hs ρ H B) (r : RepL K Hs ρ ds vs) (hns : N.length = ns) : Stt K Hs ρ H (L2.start N vs) (Pz.start ns ds) B := by
  refine ⟨le, bx, ?_, fun i s h => ?_, fun i j a d e h1 h2 h3 h4 => ?_⟩
  · unfold L2.start Pz.start
    rw [List.length_append, List.length_append, List.length_map, List.length_map, List.length_replicate, List.length_replicate, hns, r.length]
  · unfold Pz.start at h
    rcases start_at h with ⟨d, e, rfl⟩ | rfl
    · obtain ⟨v, ev_, rv⟩ := r.get e
      refine ⟨v, ?_, rv⟩
      unfold L2.start
      have hi : i < vs.length := (List.getElem?_eq_some_iff.mp ev_).1
      rw [List.getElem?_append_left (by simpa using hi), List.getElem?_map, ev_]
      rfl
    · trivial
  · unfold Pz.start at h1
    rcases start_at h1 with ⟨d, e, z⟩ | z <;> cases z
theorem fn_ok (F : FunD K x qual params body scope [] [] f fd) (S : FnScope N ps scope) (ht : tb id = some ⟨np, ns, ib⟩) (hnp : ps.length = np) (hns : N.length = ns)
    (hb : ∀ (cdv : Value) (A : Around) (outer : List Env) (s : Shared) (H : Hp) (E : XK), Room n (A.deeper (envOfC qual scope s.heap.objs.size f cdv)) → SsOk (cxOf CX0 P w K mg base N qual scope f cdv A outer s H E).nox (run tb n) body ib) :
    FnOk P w K mg base CX0 (n + 1) f fd ps (spD K (run tb (n + 1) id)) := by
  have hrun : ∀ ds B, run tb (n + 1) id ds B = if ds.length = np then (exs (run tb n) ib (Pz.start ns ds) B).bind fun x => match x.1 with
      | .ret d => .ok (d, x.2.2)
      | .next => .ok (.non, x.2.2)
      | _ => .bad
      else .bad := fun ds B => by
    show (match tb id with
      | some fd => if ds.length = fd.np then (exs (run tb n) fd.body (Pz.start fd.ns ds) B).bind fun x => match x.1 with
        | .ret d => .ok (d, x.2.2)
        | .next => .ok (.non, x.2.2)
        | _ => .bad
        else .bad
      | none => .bad) = _
    rw [ht]
  refine F.ok S (fun vs H Q E h => ?_) fun cdv A outer s H vs Q E hr h => ⟨rdSa K (run tb n) ib, PSs.nox (ss_any (hb cdv A outer s H E hr)), ?_⟩
  · rw [hnp]
    refine len_of (fun ds B hne => ?_) h
    by_cases z : ds.length = np
    · exact z
    · rw [hrun, if_neg z] at hne
      exact absurd rfl hne
  · obtain ⟨Hs, ρ, B, ds, l, b, r, out⟩ := h
    rw [hrun] at out
    obtain ⟨hl, out⟩ := OutG.ite (show OutG K E Hs ρ H _ _ from out)
    refine ⟨fun _ _ _ => False, ⟨Hs, H, ρ⟩, Hs, ρ, Pz.start ns ds, B, ⟨stt_start l b r hns, .refl, fun i a d h1 h2 => ?_⟩, ?_⟩
    · unfold Pz.start at h1
      rcases start_at h1 with ⟨d, e, z⟩ | z <;> cases z
    · cases q : exs (run tb n) ib (Pz.start ns ds) B with
      | bad => rw [q] at out; exact out
      | ex c ps B => exact exx_any
      | ok y =>
        rw [q] at out
        obtain ⟨fl, σ3, B3⟩ := y
        intro σV3 H3 Hs3 ρ3 s3
        cases fl with
        | next => exact (show Yld K false Hs ρ H B3 .non Q from out) _ _ _ _ s3.gr s3.st.le s3.st.bx (.of .non)
        | ret d => exact fun v rv => (show Yld K false Hs ρ H B3 d Q from out) _ _ _ _ s3.gr s3.st.le s3.st.bx (.of rv)
        | brk => exact out.elim
        | cnt => exact out.elim
end

/-! ### built-in functions -/
def rBi (K : PySem.W.Frag) (b : Bi) : List V → Hp → VK → Prop := fun vs H Q => ∃ Hs ρ B ds d, Le Hs H ∧ BOk K Hs ρ H B ∧ Paired (RP K Hs ρ H) ds vs ∧ opBi b ds = some d ∧ Yld K false Hs ρ H B d Q
/-- .. that make a new thing -/
def rBiN (K : PySem.W.Frag) (b : Bi) : List V → Hp → VK → Prop := fun vs H Q => ∃ Hs ρ B ds d, Le Hs H ∧ BOk K Hs ρ H B ∧ Paired (RP K Hs ρ H) ds vs ∧ opBi b ds = some d ∧ YldN K Hs ρ H B d Q
section
variable {X : Cx} {Φ : Fn} {W : WX} {e : Expr} {es : List Expr} {ies : Es} {p pos : Pos} {x : Str} {b : Bi} {id T : String}
theorem bi_core {σV : L2.St} {H : Hp} {Q : VK} {p : Bool} (h : rdE X.K Φ W p (.bi b ies) σV H Q) : tCB (rBi X.K b) (rdA X.K Φ W true ies) σV H Q := by
  obtain ⟨Hs, ρ, σ, B, st, out⟩ := h
  refine ⟨Hs, ρ, σ, B, st, Out.bindL (p := p) (Q := Q) out fun ds B1 vs H1 Hs1 ρ1 g1 l1 b1 r1 out => ?_⟩
  obtain ⟨d, hd, out⟩ := Out.of out
  exact ⟨Hs1, ρ1, B1, _, d, l1, b1, rp_of r1 b1, hd, Yld.f (p := p) out⟩
theorem biN_core {R : Hp → List Addr → Hp → D × List D → Prop} (hR : Shf R) (hq : ∀ Hs ρ H x, R Hs ρ H x → YldN X.K Hs ρ H x.2 x.1 Q) {σV : L2.St} {H : Hp} {p : Bool}
    (h : ∃ Hs ρ σ B, Stt X.K Hs ρ H σV σ B ∧ OutG X.K (fun c d h => W c d σV h) Hs ρ H (ev Φ p (.bi b ies) σ B) (R Hs ρ H)) : tCB (rBiN X.K b) (rdA X.K Φ W true ies) σV H Q := by
  obtain ⟨Hs, ρ, σ, B, st, out⟩ := h
  refine ⟨Hs, ρ, σ, B, st, OutG.bindL hR out fun ds B1 vs H1 Hs1 ρ1 g1 l1 b1 r1 out => ?_⟩
  obtain ⟨d, hd, out⟩ := OutG.of out
  exact ⟨Hs1, ρ1, B1, _, d, l1, b1, rp_of r1 b1, hd, hq _ _ _ (d, B1) out⟩
theorem e_biB (hc : CallR X (.builtin id) (rBi X.K b)) (hg : Gl X x) (hm : X.mg x = none) (hv : bootBuiltins x = some (.builtin id)) (ha : AOk X Φ W (e :: es) ies) (hn : x ≠ "__name__" := by decide) (hdb : (x == ("__debug__" : Str)) = false := by decide)
    (he : starEach (e :: es) X.env = (false, eval e X.env) :: starEach es X.env := by rfl) (hpl : (backTo pos (starEach es X.env)).any (·.1) = false := by rfl) : EOk X Φ W (.Call (.Name x p) (e :: es) [] pos) (.bi b ies) :=
  ⟨fun p => (pe_callB hc hg hm hv (ha.run true) hn hdb he hpl).weaken fun σV H Q h => bi_core h⟩
theorem e_biT (hc : CallR X (.type T) (rBi X.K b)) (hg : Gl X x) (hm : X.mg x = none) (hv : bootBuiltins x = some (.type T)) (ha : AOk X Φ W (e :: es) ies) (hn : x ≠ "__name__" := by decide) (hdb : (x == ("__debug__" : Str)) = false := by decide)
    (he : starEach (e :: es) X.env = (false, eval e X.env) :: starEach es X.env := by rfl) (hpl : (backTo pos (starEach es X.env)).any (·.1) = false := by rfl) : EOk X Φ W (.Call (.Name x p) (e :: es) [] pos) (.bi b ies) :=
  ⟨fun p => (pe_callTy hc hg hm hv (ha.run true) hn hdb he hpl).weaken fun σV H Q h => bi_core h⟩
theorem e_biNB (hc : CallR X (.builtin id) (rBiN X.K b)) (hg : Gl X x) (hm : X.mg x = none) (hv : bootBuiltins x = some (.builtin id)) (ha : AOk X Φ W (e :: es) ies) (hn : x ≠ "__name__" := by decide) (hdb : (x == ("__debug__" : Str)) = false := by decide)
    (he : starEach (e :: es) X.env = (false, eval e X.env) :: starEach es X.env := by rfl) (hpl : (backTo pos (starEach es X.env)).any (·.1) = false := by rfl) : EOk X Φ W (.Call (.Name x p) (e :: es) [] pos) (.bi b ies) :=
  ⟨fun p => (pe_callB hc hg hm hv (ha.run true) hn hdb he hpl).weaken fun σV H Q h => biN_core Yld.shf (fun _ _ _ _ h => .of h) h⟩
theorem f_biNB (hc : CallR X (.builtin id) (rBiN X.K b)) (hg : Gl X x) (hm : X.mg x = none) (hv : bootBuiltins x = some (.builtin id)) (ha : AOk X Φ W (e :: es) ies) (hn : x ≠ "__name__" := by decide) (hdb : (x == ("__debug__" : Str)) = false := by decide)
    (he : starEach (e :: es) X.env = (false, eval e X.env) :: starEach es X.env := by rfl) (hpl : (backTo pos (starEach es X.env)).any (·.1) = false := by rfl) : FOk X Φ W (.Call (.Name x p) (e :: es) [] pos) (.bi b ies) :=
  ⟨(pe_callB hc hg hm hv (ha.run true) hn hdb he hpl).weaken fun σV H Q h => biN_core YldF.shf (fun _ _ _ _ h => .ofF h) h⟩
theorem e_biNT (hc : CallR X (.type T) (rBiN X.K b)) (hg : Gl X x) (hm : X.mg x = none) (hv : bootBuiltins x = some (.type T)) (ha : AOk X Φ W (e :: es) ies) (hn : x ≠ "__name__" := by decide) (hdb : (x == ("__debug__" : Str)) = false := by decide)
    (he : starEach (e :: es) X.env = (false, eval e X.env) :: starEach es X.env := by rfl) (hpl : (backTo pos (starEach es X.env)).any (·.1) = false := by rfl) : EOk X Φ W (.Call (.Name x p) (e :: es) [] pos) (.bi b ies) :=
  ⟨fun p => (pe_callTy hc hg hm hv (ha.run true) hn hdb he hpl).weaken fun σV H Q h => biN_core Yld.shf (fun _ _ _ _ h => .of h) h⟩
theorem f_biNT (hc : CallR X (.type T) (rBiN X.K b)) (hg : Gl X x) (hm : X.mg x = none) (hv : bootBuiltins x = some (.type T)) (ha : AOk X Φ W (e :: es) ies) (hn : x ≠ "__name__" := by decide) (hdb : (x == ("__debug__" : Str)) = false := by decide)
    (he : starEach (e :: es) X.env = (false, eval e X.env) :: starEach es X.env := by rfl) (hpl : (backTo pos (starEach es X.env)).any (·.1) = false := by rfl) : FOk X Φ W (.Call (.Name x p) (e :: es) [] pos) (.bi b ies) :=
  ⟨(pe_callTy hc hg hm hv (ha.run true) hn hdb he hpl).weaken fun σV H Q h => biN_core YldF.shf (fun _ _ _ _ h => .ofF h) h⟩
end
end Pz
end
section
set_option Elab.async false
set_option linter.all false
set_option maxRecDepth 100000
namespace Pz
open PySem PySem.Spec PyProof.Rows L2

/-! ### isinstance -/
def Ty.nm : Ty → String
  | .int => "int"
  | .bool => "bool"
  | .str => "str"
  | .tup => "tuple"
  | .lst => "list"
  | .dic => "dict"
  | .none => "NoneType"
section
variable {X : Cx} {Φ : Fn} {W : WX} {a : Expr} {ia : E} {p q pos : Pos} {y : Str}
theorem isi_val {t : Ty} {d : D} {b : Bool} {K : PySem.W.Frag} {Hs H : Hp} {ρ : List Addr} {x : V} (le : Le Hs H) (r : RP K Hs ρ H d x) (e : isiD t d = some b) : ∃ T, TyX K H x T ∧ PySem.W.kitOne K T (.type t.nm) = some b := by
  cases d with
  | non => cases r.non; refine ⟨_, .base .non, ?_⟩; cases t <;> first | (cases e; done) | (cases e; rfl) | (cases e; kernel_rfl)
  | bl k => cases r.bl; refine ⟨_, .base (.bl k), ?_⟩; cases t <;> first | (cases e; done) | (cases e; rfl) | (cases e; kernel_rfl)
  | int k => cases r.int; refine ⟨_, .base (.int k), ?_⟩; cases t <;> first | (cases e; done) | (cases e; rfl) | (cases e; kernel_rfl)
  | str k => cases r.str.1; refine ⟨_, .base (.str _), ?_⟩; cases t <;> first | (cases e; done) | (cases e; rfl) | (cases e; kernel_rfl)
  | tup k =>
    obtain ⟨a, xs, rfl, h, _⟩ := r.tup le
    refine ⟨_, .base (.tup h), ?_⟩; cases t <;> first | (cases e; done) | (cases e; rfl) | (cases e; kernel_rfl)
  | lst k =>
    obtain ⟨a, xs, rfl, h, _⟩ := r.lst le
    refine ⟨_, .base (.lst h), ?_⟩; cases t <;> first | (cases e; done) | (cases e; rfl) | (cases e; kernel_rfl)
  | _ => cases t <;> cases e
def rIsiD (K : PySem.W.Frag) (t : Ty) : List V → Hp → VK → Prop := fun vs H Q => ∃ Hs ρ B d b x, vs = [x, .ty t.nm] ∧ Le Hs H ∧ BOk K Hs ρ H B ∧ RP K Hs ρ H d x ∧ isiD t d = some b ∧ Yld K false Hs ρ H B (.bl b) Q
theorem isi_ok {t : Ty} : CallR X (.builtin "isinstance") (rIsiD X.K t) := by
  rintro pins s σ H vs us Q I r ⟨Hs, ρ, B, d, b, x, rfl, le, bx, rd, e, h⟩
  obtain ⟨T, h1, h2⟩ := isi_val le rd e
  exact call_isi pins s σ H _ us Q I r ⟨x, .ty t.nm, T, .type t.nm, b, rfl, .ty _, h1, h2, h.bl le bx⟩
theorem e_isi {t : Ty} (ha : EOk X Φ W a ia) (hg : Gl X "isinstance") (hm : X.mg "isinstance" = none) (hg2 : Gl X y) (hm2 : X.mg y = none) (hv : bootBuiltins y = some (.type t.nm)) (hn : y ≠ "__name__" := by decide) (hd : (y == ("__debug__" : Str)) = false := by decide)
    (he : starEach [a, .Name y q] X.env = (false, eval a X.env) :: starEach [.Name y q] X.env := by rfl) (he2 : starEach [.Name y q] X.env = (false, eval (.Name y q) X.env) :: starEach [] X.env := by rfl) (hpl : (backTo pos (starEach [.Name y q] X.env)).any (·.1) = false := by rfl) :
    EOk X Φ W (.Call (.Name "isinstance" p) [a, .Name y q] [] pos) (.isi ia t) :=
  ⟨fun p => (pe_callB (isi_ok (t := t)) hg hm boot_isinstance (pa_cons (ha.run true) (pa_cons (pe_bltn hg2 hm2 hv (v := .ty t.nm) rfl hn hd) pa_nil he2) he) (by decide) (by decide) he hpl).weaken fun σV H Q ⟨Hs, ρ, σ, B, st, out⟩ => by
    refine ⟨Hs, ρ, σ, B, st, Out.bind (p := p) (Q := Q) out fun x B1 v H1 Hs1 ρ1 g1 l1 b1 r1 out => ?_⟩
    obtain ⟨b, hb, out⟩ := Out.of out
    exact ⟨Hs1, ρ1, B1, _, b, v, rfl, l1, b1, drf_ok r1 b1, hb, Yld.f (p := p) out⟩⟩
end

/-! ### the built-in functions -/
section
variable {K : PySem.W.Frag} {Hs H : Hp} {ρ : List Addr}
theorem intL_rep : ∀ {l : List D} {xs : List V} {ns : List Int}, RepL K Hs ρ l xs → intL l = some ns → xs = ns.map V.int
  | [], _, _, r, e => by cases r; cases e; rfl
  | d :: l, _, ns, .cons h r, e => by
    cases d with
    | int i =>
      obtain ⟨ms, e1, rfl⟩ := Option.map_eq_some_iff.mp (show (intL l).map (i :: ·) = some ns from e)
      cases h
      rw [List.map_cons, intL_rep r e1]
    | _ => cases e
theorem blL_rep : ∀ {l : List D} {xs : List V} {ns : List Bool}, RepL K Hs ρ l xs → blL l = some ns → xs = ns.map V.bl
  | [], _, _, r, e => by cases r; cases e; rfl
  | d :: l, _, ns, .cons h r, e => by
    cases d with
    | bl i =>
      obtain ⟨ms, e1, rfl⟩ := Option.map_eq_some_iff.mp (show (blL l).map (i :: ·) = some ns from e)
      cases h
      rw [List.map_cons, blL_rep r e1]
    | _ => cases e
theorem strL_rep : ∀ {l : List D} {xs : List V} {ns : List (List Nat)}, RepL K Hs ρ l xs → strL l = some ns → xs = (ns.map mk).map V.str ∧ ∀ x ∈ ns, SOk x
  | [], _, _, r, e => by cases r; cases e; exact ⟨rfl, fun _ h => by cases h⟩
  | d :: l, _, ns, .cons h r, e => by
    cases d with
    | str i =>
      obtain ⟨ms, e1, rfl⟩ := Option.map_eq_some_iff.mp (show (strL l).map (i :: ·) = some ns from e)
      obtain ⟨e2, h2⟩ := strL_rep r e1
      cases h with
      | str hi =>
        rw [List.map_cons, List.map_cons, e2]
        exact ⟨rfl, fun x hx => (List.mem_cons.mp hx).elim (fun z => by rw [z]; exact hi) (h2 x)⟩
    | _ => cases e
end
theorem one_of {K : PySem.W.Frag} {Hs H : Hp} {ρ : List Addr} {d : D} {vs : List V} (r : Paired (RP K Hs ρ H) [d] vs) : ∃ x, vs = [x] ∧ RP K Hs ρ H d x := by
  cases r with
  | cons h t => cases t; exact ⟨_, rfl, h⟩
theorem two_of {K : PySem.W.Frag} {Hs H : Hp} {ρ : List Addr} {d e : D} {vs : List V} (r : Paired (RP K Hs ρ H) [d, e] vs) : ∃ x y, vs = [x, y] ∧ RP K Hs ρ H d x ∧ RP K Hs ρ H e y := by
  cases r with
  | cons h t => cases t with
    | cons g t => cases t; exact ⟨_, _, rfl, h, g⟩
section
variable {X : Cx}
theorem bi_len_ok : CallR X (.builtin "len") (rBi X.K .len) := by
  rintro pins s σ H vs us Q I rv ⟨Hs, ρ, B, ds, d, le, bx, r, e, h⟩
  have e : bi_len ds = some d := e
  unfold bi_len at e
  split at e <;> first | cases e | skip
  · rename_i l
    obtain ⟨x, rfl, rx⟩ := one_of r
    obtain ⟨a, xs, rfl, ha, rr⟩ := rx.lst le
    rw [rr.length] at h
    exact call_len_seq pins s σ H _ us Q I rv ⟨a, xs, rfl, .inl (SqL.of ha), h.int le bx⟩
  · rename_i l
    obtain ⟨x, rfl, rx⟩ := one_of r
    obtain ⟨a, xs, rfl, ha, rr⟩ := rx.tup le
    rw [rr.length] at h
    exact call_len_seq pins s σ H _ us Q I rv ⟨a, xs, rfl, .inr (SqT.of ha), h.int le bx⟩
  · rename_i l
    obtain ⟨x, rfl, rx⟩ := one_of r
    obtain ⟨rfl, hl⟩ := rx.str
    rw [← mk_len] at h
    exact call_len_str pins s σ H _ us Q I rv ⟨mk l, rfl, by rw [mk_len, ln_eq]; exact hl.2, h.int le bx⟩
  · rename_i t l
    obtain ⟨x, rfl, rx⟩ := one_of r
    cases t with
    | false =>
      obtain ⟨a, kvs, rfl, ha, rr⟩ := rx.dK le
      obtain ⟨u, rfl, ru⟩ := vals1 rv
      cases ru
      rw [rr.length] at h
      exact d_len I ha fun t s' I' => ⟨.int _, H, I', ⟨t, rfl⟩, h.int le bx⟩
    | true =>
      obtain ⟨a, kvs, rfl, ha, rr⟩ := rx.dT le
      obtain ⟨u, rfl, ru⟩ := vals1 rv
      cases ru
      obtain ⟨z, hd, ys, rel, dd⟩ := dt_rd I.hok ha
      have hl : kvs.length = ys.length := Paired.length rel
      rw [rr.length, hl] at h
      refine PySem.call_len_dictH hd dd ?_ ⟨.int _, H, I.tok _, ⟨_, rfl⟩, h.int le bx⟩
      have := line63
      omega
theorem bi_abs_ok : CallR X (.builtin "abs") (rBi X.K .abs) := by
  rintro pins s σ H vs us Q I rv ⟨Hs, ρ, B, ds, d, le, bx, r, e, h⟩
  have e : bi_abs ds = some d := e
  unfold bi_abs at e
  split at e <;> cases e
  obtain ⟨x, rfl, rx⟩ := one_of r
  cases rx.int
  exact call_abs pins s σ H _ us Q I rv ⟨_, rfl, h.int le bx⟩
theorem bi_int_ok : CallR X (.type "int") (rBi X.K .int) := by
  rintro pins s σ H vs us Q I rv ⟨Hs, ρ, B, ds, d, le, bx, r, e, h⟩
  have e : bi_int ds = some d := e
  unfold bi_int at e
  split at e <;> cases e
  obtain ⟨x, rfl, rx⟩ := one_of r
  cases rx.int
  exact call_int1 pins s σ H _ us Q I rv (.inl ⟨_, rfl, h.int le bx⟩)
theorem bi_str_ok : CallR X (.type "str") (rBi X.K .str) := by
  rintro pins s σ H vs us Q I rv ⟨Hs, ρ, B, ds, d, le, bx, r, e, h⟩
  have e : bi_str ds = some d := e
  unfold bi_str at e
  split at e
  · cases e
    obtain ⟨x, rfl, rx⟩ := one_of r
    obtain ⟨rfl, hl⟩ := rx.str
    exact SkE.call_str_str pins s σ H _ us Q I rv ⟨_, rfl, h.str le bx hl⟩
  · rename_i i _
    obtain ⟨x, rfl, rx⟩ := one_of r
    cases rx.int
    obtain ⟨hc, rfl⟩ := cons_ite e
    rw [Bool.and_eq_true, decide_eq_true_eq, decide_eq_true_eq] at hc
    have hlog : i.natAbs.log2 < 1920 := by
      have h1 : i.natAbs < 2 ^ 30 := by omega
      by_cases h0 : i.natAbs = 0
      · rw [h0]; decide
      · have := (Nat.log2_lt h0).mpr h1
        omega
    refine call_str_int pins s σ H _ us Q I rv ⟨i, rfl, hlog, ?_⟩
    have en : i = ((i.toNat : Nat) : Int) := by omega
    have et : Str.ofString (toString i) = mk (natS i.toNat) := by
      rw [en]
      have := TL.tl_num i.toNat
      refine TL.ext_tl ?_
      rw [this]
      rfl
    show Q (.str (Str.ofString (toString i))) H
    rw [et]
    refine h.str le bx ⟨fun c hc => ?_, ?_⟩
    · have := TL.numL_digits i.toNat
      exact by
        have hd := this c hc
        omega
    · have := TL.numL_len (n := i.toNat) (k := 9) (by decide) (by omega)
      exact Nat.le_trans this (by decide)
  · cases e
theorem bi_sum_ok (hc : X.calm = true) : CallR X (.builtin "sum") (rBi X.K .sum) := by
  rintro pins s σ H vs us Q I rv ⟨Hs, ρ, B, ds, d, le, bx, r, e, h⟩
  have e : bi_sum ds = some d := e
  unfold bi_sum at e
  split at e
  · obtain ⟨x, rfl, rx⟩ := one_of r
    obtain ⟨a, xs, rfl, ha, rr⟩ := rx.lst le
    obtain ⟨ns, e1, rfl⟩ := Option.map_eq_some_iff.mp e
    have := intL_rep rr e1
    subst this
    exact cr_sum hc pins s σ H _ us Q I rv ⟨a, ns, rfl, SqL.of ha, h.int le bx⟩
  · cases e
theorem bi_mn_ok (hc : X.calm = true) : CallR X (.builtin "min") (rBi X.K .mn) := by
  rintro pins s σ H vs us Q I rv ⟨Hs, ρ, B, ds, d, le, bx, r, e, h⟩
  have e : bi_mn ds = some d := e
  unfold bi_mn at e
  split at e
  · obtain ⟨x, rfl, rx⟩ := one_of r
    obtain ⟨a, xs, rfl, ha, rr⟩ := rx.lst le
    obtain ⟨ns, e1, e2⟩ := Option.bind_eq_some_iff.mp e
    obtain ⟨m, e3, rfl⟩ := Option.map_eq_some_iff.mp e2
    have := intL_rep rr e1
    subst this
    obtain ⟨m1, m2⟩ := List.min?_eq_some_iff.mp e3
    refine cr_min hc pins s σ H _ us Q I rv ⟨a, ns, rfl, SqL.of ha, List.length_pos_of_mem m1, fun k h1 h2 => ?_⟩
    have := Int.le_antisymm (h2 m m1) (m2 k h1)
    subst this
    exact h.int le bx
  · cases e
theorem bi_mx_ok (hc : X.calm = true) : CallR X (.builtin "max") (rBi X.K .mx) := by
  rintro pins s σ H vs us Q I rv ⟨Hs, ρ, B, ds, d, le, bx, r, e, h⟩
  have e : bi_mx ds = some d := e
  unfold bi_mx at e
  split at e
  · obtain ⟨x, rfl, rx⟩ := one_of r
    obtain ⟨a, xs, rfl, ha, rr⟩ := rx.lst le
    obtain ⟨ns, e1, e2⟩ := Option.bind_eq_some_iff.mp e
    obtain ⟨m, e3, rfl⟩ := Option.map_eq_some_iff.mp e2
    have := intL_rep rr e1
    subst this
    obtain ⟨m1, m2⟩ := List.max?_eq_some_iff.mp e3
    refine cr_max hc pins s σ H _ us Q I rv ⟨a, ns, rfl, SqL.of ha, List.length_pos_of_mem m1, fun k h1 h2 => ?_⟩
    have := Int.le_antisymm (m2 k h1) (h2 m m1)
    subst this
    exact h.int le bx
  · cases e
theorem bi_mn2_ok (hc : X.calm = true) : CallR X (.builtin "min") (rBi X.K .mn2) := by
  rintro pins s σ H vs us Q I rv ⟨Hs, ρ, B, ds, d, le, bx, r, e, h⟩
  have e : bi_mn2 ds = some d := e
  unfold bi_mn2 at e
  split at e <;> cases e
  obtain ⟨x, y, rfl, rx, ry⟩ := two_of r
  cases rx.int
  cases ry.int
  exact call_min2 hc pins s σ H _ us Q I rv ⟨_, _, rfl, h.int le bx⟩
theorem bi_mx2_ok (hc : X.calm = true) : CallR X (.builtin "max") (rBi X.K .mx2) := by
  rintro pins s σ H vs us Q I rv ⟨Hs, ρ, B, ds, d, le, bx, r, e, h⟩
  have e : bi_mx2 ds = some d := e
  unfold bi_mx2 at e
  split at e <;> cases e
  obtain ⟨x, y, rfl, rx, ry⟩ := two_of r
  cases rx.int
  cases ry.int
  exact call_max2 hc pins s σ H _ us Q I rv ⟨_, _, rfl, h.int le bx⟩
theorem bi_all_ok (hc : X.calm = true) : CallR X (.builtin "all") (rBi X.K .all) := by
  rintro pins s σ H vs us Q I rv ⟨Hs, ρ, B, ds, d, le, bx, r, e, h⟩
  have e : bi_all ds = some d := e
  unfold bi_all at e
  split at e
  · obtain ⟨x, rfl, rx⟩ := one_of r
    obtain ⟨a, xs, rfl, ha, rr⟩ := rx.lst le
    obtain ⟨ns, e1, rfl⟩ := Option.map_eq_some_iff.mp e
    have := blL_rep rr e1
    subst this
    exact cr_all hc pins s σ H _ us Q I rv ⟨a, ns, rfl, SqL.of ha, h.bl le bx⟩
  · cases e
theorem bi_any_ok (hc : X.calm = true) : CallR X (.builtin "any") (rBi X.K .any) := by
  rintro pins s σ H vs us Q I rv ⟨Hs, ρ, B, ds, d, le, bx, r, e, h⟩
  have e : bi_any ds = some d := e
  unfold bi_any at e
  split at e
  · obtain ⟨x, rfl, rx⟩ := one_of r
    obtain ⟨a, xs, rfl, ha, rr⟩ := rx.lst le
    obtain ⟨ns, e1, rfl⟩ := Option.map_eq_some_iff.mp e
    have := blL_rep rr e1
    subst this
    exact cr_any hc pins s σ H _ us Q I rv ⟨a, ns, rfl, SqL.of ha, h.bl le bx⟩
  · cases e
theorem bi_tuple_ok : CallR X (.type "tuple") (rBi X.K .tuple) := by
  rintro pins s σ H vs us Q I rv ⟨Hs, ρ, B, ds, d, le, bx, r, e, h⟩
  have e : bi_tuple ds = some d := e
  unfold bi_tuple at e
  split at e <;> cases e
  · obtain ⟨x, rfl, rx⟩ := one_of r
    obtain ⟨a, xs, rfl, ha, rr⟩ := rx.lst le
    exact call_tuple_of pins s σ H _ us Q I rv ⟨a, xs, rfl, .inl ⟨SqL.of ha, Yld.tup h le bx rr⟩⟩
  · obtain ⟨x, rfl, rx⟩ := one_of r
    have rt := rx.rep_tup
    obtain ⟨a, xs, rfl, ha, rr⟩ := rx.tup le
    exact call_tuple_of pins s σ H _ us Q I rv ⟨a, xs, rfl, .inr ⟨SqT.of ha, h.here le bx rt⟩⟩
theorem bi_list_ok : CallR X (.type "list") (rBiN X.K .list) := by
  rintro pins s σ H vs us Q I rv ⟨Hs, ρ, B, ds, d, le, bx, r, e, h⟩
  have e : bi_list ds = some d := e
  unfold bi_list at e
  split at e <;> cases e
  · obtain ⟨x, rfl, rx⟩ := one_of r
    obtain ⟨a, xs, rfl, ha, rr⟩ := rx.scr le
    exact call_list_of pins s σ H _ us Q I rv ⟨a, xs, rfl, .inl ha, YldF.lst h le bx rr⟩
  · obtain ⟨x, rfl, rx⟩ := one_of r
    obtain ⟨a, xs, rfl, ha, rr⟩ := rx.lst le
    exact call_list_of pins s σ H _ us Q I rv ⟨a, xs, rfl, .inl (SqL.of ha), YldF.lst h le bx rr⟩
  · obtain ⟨x, rfl, rx⟩ := one_of r
    obtain ⟨a, xs, rfl, ha, rr⟩ := rx.tup le
    exact call_list_of pins s σ H _ us Q I rv ⟨a, xs, rfl, .inr (SqT.of ha), YldF.lst h le bx rr⟩
end
end Pz
end
section
set_option Elab.async false
set_option linter.all false
set_option maxRecDepth 100000
namespace Pz
open PySem PySem.Spec PyProof.Rows L2

section
variable {X : Cx} {Φ : Fn} {W : WX} {elt tp it : Expr} {ifs : List Expr} {scope : Scope} {own : List (Str × Nat)} {cpos spos py : Pos} {tg : Tg} {iit ic ie : E} {i : Nat} {y : Str}
theorem fresh_core {K : PySem.W.Frag} {W : XK} {E : En} {D_ : Ends} {Hs H : Hp} {ρ : List Addr} {σV : L2.St} {σ : Sg} {B : List D} {x : D × List D} (s : SSt K E Hs ρ H σV σ B)
    (out : OutS K W E D_ ((if isLD x.1 then Rs.ok (Sl.own x.1, x.2) else .bad).bind fun x => (asg Φ (.nm i) x.1 σ x.2).bind fun y => .ok (.next, y.1, y.2))) :
    isLD x.1 = true ∧ YldF K Hs ρ H x.2 x.1 fun v H' => D_.nx (σV.set i (some v)) H' := by
  have hl : isLD x.1 = true := by
    cases z : isLD x.1 with
    | true => rfl
    | false =>
      rw [z, if_neg Bool.false_ne_true] at out
      exact out.elim
  rw [if_pos hl] at out
  have out : OutS K W E D_ ((if i < σ.length then Rs.ok (σ.set i (.own x.1), x.2) else .bad).bind fun y => .ok (.next, y.1, y.2)) := out
  have hi : i < σ.length := by
    by_cases z : i < σ.length
    · exact z
    · rw [if_neg z] at out; exact out.elim
  rw [if_pos hi] at out
  refine ⟨hl, fun a H' Hs' ρ' g l b r n nr hn => out _ H' Hs' ρ' ((s.grow g l b).setO hi r n nr (s.gr.none_ hn) fun j f h1 h2 => ?_)⟩
  obtain ⟨a', e1, h3, _⟩ := s.st.slotV h1
  rw [h2] at e1
  cases e1
  obtain ⟨u, hu⟩ := h3.some_
  rw [hn] at hu; cases hu
/-- name = [..] on one line -/
theorem s_setLc (hc : X.calm = true) (hN : X.N.Nodup) (hy : X.N[i]? = some y) (hyl : X.env.scope.names.lookup y = some .local)
    (hsw : swapsWith (.ListComp elt [⟨tp, it, ifs, 0⟩] scope cpos) (some (.Name y py)) spos.line X.env = pure true) (hi : IOk X Φ WX0 true tp it iit) (ok : BlkOk X.N X.env.scope scope own) (hv : own.map (·.2) = tg.names)
    (hg : ∀ (s : Shared) (H : Hp) (C : Addr) (cl : List (Str × Addr)) (fp : List Addr), GOk (X.blk s H scope (compEnvC scope cl C X.env) fp) tp tg)
    (ht : ∀ (s : Shared) (H : Hp) (C : Addr) (cl : List (Str × Addr)) (fp : List Addr), TsOk (X.blk s H scope (compEnvC scope cl C X.env) fp) Φ WX0 ifs ic)
    (he : ∀ (s : Shared) (H : Hp) (C : Addr) (cl : List (Str × Addr)) (fp : List Addr), EOk (X.blk s H scope (compEnvC scope cl C X.env) fp) Φ WX0 elt ie)
    (hs : ∀ x, foldedSetIterable it X.env x = pure x := by intro _; rfl) : StOk X Φ (.Assign [.Name y py] (.ListComp elt [⟨tp, it, ifs, 0⟩] scope cpos) spos) (.asg (.nm i) (.lc tg iit ic ie)) :=
  ⟨fun W E => (ps_setLc (own := own) hc hN hy hyl hsw hi.run ok (fun s H C cl fp => (hg s H C cl fp).run) (fun s H C cl fp => (ht s H C cl fp).run) (fun s H C cl fp => (he s H C cl fp).run false) hs).weaken fun D_ σV H ⟨Hs, ρ, σ, B, s, out⟩ => by
    rw [hv]
    refine lc_core (ic := ic) (ie := ie) (p := false) Yld.shf (fun _ _ _ _ h => .of (p := false) h) ⟨Hs, ρ, σ, B, s.st, ?_⟩
    have out : OutS X.K W E D_ ((ev Φ false (.lc tg iit ic ie) σ B).bind fun x => (asg Φ (.nm i) (.val x.1) σ x.2).bind fun y => .ok (.next, y.1, y.2)) := by
      have out : OutS X.K W E D_ ((evX Φ (.lc tg iit ic ie) σ B).bind fun x => (asg Φ (.nm i) x.1 σ x.2).bind fun y => .ok (.next, y.1, y.2)) := out
      rw [evX_val (by nofun), Rs.bind_bind] at out
      exact out
    cases q : ev Φ false (.lc tg iit ic ie) σ B with
    | bad => rw [q] at out; exact out
    | ex c ps B => exact exx_any
    | ok x =>
      rw [q] at out
      obtain ⟨hi, out⟩ := asg_if out
      exact fun v H' Hs' ρ' g l b r => out _ H' Hs' ρ' ((s.grow g l b).setV hi r.val)⟩
theorem s_setLcF (hc : X.calm = true) (hN : X.N.Nodup) (hy : X.N[i]? = some y) (hyl : X.env.scope.names.lookup y = some .local)
    (hsw : swapsWith (.ListComp elt [⟨tp, it, ifs, 0⟩] scope cpos) (some (.Name y py)) spos.line X.env = pure true) (hi : IOk X Φ WX0 true tp it iit) (ok : BlkOk X.N X.env.scope scope own) (hv : own.map (·.2) = tg.names)
    (hg : ∀ (s : Shared) (H : Hp) (C : Addr) (cl : List (Str × Addr)) (fp : List Addr), GOk (X.blk s H scope (compEnvC scope cl C X.env) fp) tp tg)
    (ht : ∀ (s : Shared) (H : Hp) (C : Addr) (cl : List (Str × Addr)) (fp : List Addr), TsOk (X.blk s H scope (compEnvC scope cl C X.env) fp) Φ WX0 ifs ic)
    (he : ∀ (s : Shared) (H : Hp) (C : Addr) (cl : List (Str × Addr)) (fp : List Addr), EOk (X.blk s H scope (compEnvC scope cl C X.env) fp) Φ WX0 elt ie)
    (hs : ∀ x, foldedSetIterable it X.env x = pure x := by intro _; rfl) : StOk X Φ (.Assign [.Name y py] (.ListComp elt [⟨tp, it, ifs, 0⟩] scope cpos) spos) (.asg (.nm i) (.fresh (.lc tg iit ic ie))) :=
  ⟨fun W E => (ps_setLc (own := own) hc hN hy hyl hsw hi.run ok (fun s H C cl fp => (hg s H C cl fp).run) (fun s H C cl fp => (ht s H C cl fp).run) (fun s H C cl fp => (he s H C cl fp).run false) hs).weaken fun D_ σV H ⟨Hs, ρ, σ, B, s, out⟩ => by
    rw [hv]
    refine lc_core (ic := ic) (ie := ie) (p := false) YldF.shf (fun _ _ _ _ h => .ofF h) ⟨Hs, ρ, σ, B, s.st, ?_⟩
    have out : OutS X.K W E D_ (((ev Φ false (.lc tg iit ic ie) σ B).bind fun x => if isLD x.1 then .ok (.own x.1, x.2) else .bad).bind fun x => (asg Φ (.nm i) x.1 σ x.2).bind fun y => .ok (.next, y.1, y.2)) := out
    cases q : ev Φ false (.lc tg iit ic ie) σ B with
    | bad => rw [q] at out; exact out
    | ex c ps B => exact exx_any
    | ok x =>
      rw [q] at out
      exact fresh_core s out⟩
end
/-! ### a, b = x, y -/
/-- a value on its way to a name -/
def SlV (K : PySem.W.Frag) (Hs : Hp) (ρ : List Addr) (H H0 : Hp) (sl : Sl) (v : V) : Prop :=
  match sl with
  | .val d => Rep K Hs ρ d v
  | .own d => ∃ a, v = .ref a ∧ OwnAt K Hs ρ H a d ∧ Hs a = none ∧ a ∉ ρ ∧ H0 a = none
  | .no => False
section
variable {K : PySem.W.Frag} {Hs Hs' H H' H0 : Hp} {ρ ρ' : List Addr} {sl : Sl} {v : V}
theorem SlV.grow (h : SlV K Hs ρ H H0 sl v) (g : Gr Hs H ρ Hs' H' ρ') : SlV K Hs' ρ' H' H0 sl v := by
  cases sl with
  | val d => exact g.rep h
  | own d =>
    obtain ⟨a, e, o, n, nr, h0⟩ := h
    obtain ⟨o', n', nr'⟩ := g.own o n nr
    exact ⟨a, e, o', n', nr', h0⟩
  | no => exact h
theorem SSt.setX {E : En} {σV : L2.St} {σ : Sg} {B : List D} {i : Nat} (s : SSt K E Hs ρ H σV σ B) (hi : i < σ.length) (h : SlV K Hs ρ H H0 sl v) (h0 : ∀ a, H0 a = none → E.H a = none)
    (nd : ∀ (j : Nat) (a : Addr) (e : D), σ[j]? = some (.own e) → σV[j]? = some (some (.ref a)) → H0 a ≠ none) : SSt K E Hs ρ H (σV.set i (some v)) (σ.set i sl) B := by
  cases sl with
  | val d => exact s.setV hi h
  | own d =>
    obtain ⟨a, rfl, o, n, nr, hz⟩ := h
    exact s.setO hi o n nr (h0 a hz) fun j e h1 h2 => nd j a e h1 h2 hz
  | no => exact h.elim
end
def YldX (K : PySem.W.Frag) (Hs : Hp) (ρ : List Addr) (H : Hp) (B : List D) (sl : Sl) (Q : VK) : Prop :=
  ∀ v H' Hs' ρ', Gr Hs H ρ Hs' H' ρ' → Le Hs' H' → BOk K Hs' ρ' H' B → SlV K Hs' ρ' H' H sl v → Q v H'
def rdX (K : PySem.W.Frag) (Φ : Fn) (W : WX) (e : E) : TE := fun σV H Q => ∃ Hs ρ σ B, Stt K Hs ρ H σV σ B ∧ OutG K (fun c d h => W c d σV h) Hs ρ H (evX Φ e σ B) fun x => YldX K Hs ρ H x.2 x.1 Q
structure XOk (X : Cx) (Φ : Fn) (W : WX) (pe : Expr) (ie : E) : Prop where
  run : PE X pe (rdX X.K Φ W ie)
section
variable {X : Cx} {Φ : Fn} {W : WX} {e e1 e2 e3 : Expr} {ie ie1 ie2 ie3 : E}
theorem x_val (h : EOk X Φ W e ie) (hn : ∀ f, ie ≠ .fresh f) : XOk X Φ W e ie := ⟨(h.run false).weaken fun σV H Q ⟨Hs, ρ, σ, B, st, out⟩ => by
  rw [evX_val hn] at out
  refine ⟨Hs, ρ, σ, B, st, ?_⟩
  cases q : ev Φ false ie σ B with
  | bad => rw [q] at out; exact out
  | ex c ps B => exact exx_any
  | ok x =>
    rw [q] at out
    exact fun v H' Hs' ρ' g l b r => (show YldX X.K Hs ρ H x.2 (.val x.1) Q from out) v H' Hs' ρ' g l b r.val⟩
theorem x_fr (h : FOk X Φ W e ie) : XOk X Φ W e (.fresh ie) := ⟨h.run.weaken fun σV H Q ⟨Hs, ρ, σ, B, st, out⟩ => by
  have out : OutG X.K (fun c d h => W c d σV h) Hs ρ H ((ev Φ false ie σ B).bind fun x => if isLD x.1 then .ok (.own x.1, x.2) else .bad) (fun x => YldX X.K Hs ρ H x.2 x.1 Q) := out
  refine ⟨Hs, ρ, σ, B, st, ?_⟩
  cases q : ev Φ false ie σ B with
  | bad => rw [q] at out; exact out
  | ex c ps B => exact exx_any
  | ok x =>
    rw [q] at out
    obtain ⟨hl, out⟩ := OutG.ite (show OutG X.K (fun c d h => W c d σV h) Hs ρ H (if isLD x.1 = true then Rs.ok (Sl.own x.1, x.2) else .bad) (fun x => YldX X.K Hs ρ H x.2 x.1 Q) from out)
    exact ⟨hl, fun a H' Hs' ρ' g l b o n nr hn => (show YldX X.K Hs ρ H x.2 (.own x.1) Q from out) _ H' Hs' ρ' g l b ⟨a, rfl, o, n, nr, hn⟩⟩⟩
theorem own_some {K : PySem.W.Frag} {E : En} {Hs H : Hp} {ρ : List Addr} {σV : L2.St} {σ : Sg} {B : List D} (s : SSt K E Hs ρ H σV σ B) (j : Nat) (a : Addr) (e : D) (h1 : σ[j]? = some (.own e)) (h2 : σV[j]? = some (some (.ref a))) : H a ≠ none := by
  obtain ⟨a', e1, h3, _⟩ := s.st.slotV h1
  rw [h2] at e1
  cases e1
  obtain ⟨u, hu⟩ := h3.some_
  rw [hu]; simp
/-- one more value evaluated ahead of the stores -/
theorem OutS.bindX {K : PySem.W.Frag} {W' : XK} {W0 : XK} {E : En} {D_ : Ends} {Hs H : Hp} {ρ : List Addr} {r : Rs (Sl × List D)} {f : Sl × List D → Rq} {Q : VK} (h : OutS K W0 E D_ (r.bind f))
    (k : ∀ sl B' v H' Hs' ρ', Gr Hs H ρ Hs' H' ρ' → Le Hs' H' → BOk K Hs' ρ' H' B' → SlV K Hs' ρ' H' H sl v → OutS K W0 E D_ (f (sl, B')) → Q v H') : OutG K W' Hs ρ H r fun x => YldX K Hs ρ H x.2 x.1 Q := by
  cases r with
  | ok x => exact fun v H' Hs' ρ' g l b r => k x.1 x.2 v H' Hs' ρ' g l b r h
  | ex c ps B => exact exx_any
  | bad => exact h
theorem s_par2 {i j : Nat} {x y : Str} {px py pt pos : Pos} {kt k2 pt2} (hc : X.calm = true) (hN : X.N.Nodup) (hi : X.N[i]? = some x) (hj : X.N[j]? = some y) (hij : i ≠ j)
    (hx : X.env.scope.names.lookup x = some .local) (hy : X.env.scope.names.lookup y = some .local) (h1 : XOk X Φ WX0 e1 ie1) (h2 : XOk X Φ WX0 e2 ie2)
    (hw : swappedStores [.Tuple [.Name x px, .Name y py] kt pt] (.Tuple [e1, e2] k2 pt2) X.env = pure (some [x, y]))
    (hs : swapsWithSole [.Tuple [.Name x px, .Name y py] kt pt] (.Tuple [e1, e2] k2 pt2) pos.line X.env = pure false := by rfl)
    (ha1 : starEach [e1, e2] X.env = (false, eval e1 X.env) :: starEach [e2] X.env := by rfl) (ha2 : starEach [e2] X.env = (false, eval e2 X.env) :: starEach [] X.env := by rfl) :
    StOk X Φ (.Assign [.Tuple [.Name x px, .Name y py] kt pt] (.Tuple [e1, e2] k2 pt2) pos) (.par [i, j] (.cons ie1 (.cons ie2 .nil))) :=
  ⟨fun W E => (ps_par hc hN hi hj hij hx hy (pa_cons h1.run (pa_cons h2.run pa_nil ha2) ha1) hw hs).weaken fun D_ σV H ⟨Hs, ρ, σ, B, s, out⟩ => by
    have out : OutS X.K W E D_ (((evX Φ ie1 σ B).bind fun x => ((evX Φ ie2 σ x.2).bind fun y => (Rs.ok ([], y.2)).bind fun z => Rs.ok (y.1 :: z.1, z.2)).bind fun y => Rs.ok (x.1 :: y.1, y.2)).bind fun x => (Rs.of (setAll [i, j] x.1 σ)).bind fun σ' => .ok (.next, σ', x.2)) := out
    rw [Rs.bind_bind] at out
    refine ⟨Hs, ρ, σ, B, s.st, OutS.bindX out fun sl1 B1 v1 H1 Hs1 ρ1 g1 l1 b1 r1 out => ?_⟩
    have s1 := s.grow g1 l1 b1
    rw [Rs.bind_bind, Rs.bind_bind] at out
    refine ⟨Hs1, ρ1, σ, B1, s1.st, OutS.bindX out fun sl2 B2 v2 H2 Hs2 ρ2 g2 l2 b2 r2 out => ⟨v1, v2, rfl, ?_⟩⟩
    have s2 := s1.grow g2 l2 b2
    have out : OutS X.K W E D_ ((Rs.of (if i < σ.length then (if j < (σ.set i sl1).length then some ((σ.set i sl1).set j sl2) else none) else none)).bind fun σ' => .ok (.next, σ', B2)) := out
    obtain ⟨σ', hset, out⟩ := OutS.of out
    obtain ⟨hi', hset⟩ := cons_ite' hset
    obtain ⟨hj', rfl⟩ := cons_ite hset
    have s3 := s2.setX hi' (r1.grow g2) (fun a h => s.gr.none_ h) (fun j a e h1 h2 => own_some s j a e h1 h2)
    refine out _ _ _ _ (s3.setX hj' r2 (fun a h => s1.gr.none_ h) fun k a e h1 h2 => ?_)
    rcases set_at h1 with ⟨q, rfl⟩ | ⟨q, h1⟩
    · subst q
      rw [List.getElem?_set_self (by rw [s.st.len]; exact hi')] at h2
      cases h2
      obtain ⟨a', e', o, _⟩ := r1
      cases e'
      obtain ⟨u, hu⟩ := o.some_
      rw [hu]; simp
    · rw [List.getElem?_set_ne q] at h2
      exact own_some s1 k a e h1 h2⟩
/-- a new thing that calls may change -/
theorem e_mkbox (h : FOk X Φ W e ie) : EOk X Φ W e (.mkbox ie) := ⟨fun p => h.run.weaken fun σV H Q ⟨Hs, ρ, σ, B, st, out⟩ => by
  have out : OutG X.K (fun c d h => W c d σV h) Hs ρ H ((ev Φ false ie σ B).bind fun x => if isLD x.1 then Rs.ok (Pz.D.box x.2.length, x.2 ++ [x.1]) else .bad) (fun x => Yld X.K p Hs ρ H x.2 x.1 Q) := out
  refine ⟨Hs, ρ, σ, B, st, ?_⟩
  cases q : ev Φ false ie σ B with
  | bad => rw [q] at out; exact out
  | ex c ps B => exact exx_any
  | ok x =>
    rw [q] at out
    obtain ⟨hl, out⟩ := OutG.ite (show OutG X.K (fun c d h => W c d σV h) Hs ρ H (if isLD x.1 = true then Rs.ok (Pz.D.box x.2.length, x.2 ++ [x.1]) else .bad) (fun x => Yld X.K p Hs ρ H x.2 x.1 Q) from out)
    have y : Yld X.K p Hs ρ H (x.2 ++ [x.1]) (.box x.2.length) Q := out
    refine ⟨hl, fun a H' Hs' ρ' g l b o n nr hn => y (.ref a) H' Hs' (ρ' ++ [a]) ⟨g.hs, g.fr, g.kp, g.th, g.rp.trans (List.prefix_append _ _), fun c hc => ?_⟩ l ⟨?_, ?_, fun m c d e1 e2 => ?_⟩ (.of (.box ?_))⟩
    · rcases List.mem_append.mp hc with hc | hc
      · exact g.rn c hc
      · cases List.mem_singleton.mp hc
        exact .inr hn
    · rw [List.length_append, List.length_append, b.len]; rfl
    · rw [List.nodup_append]
      refine ⟨b.nd, by simp, fun c hc d hd z => ?_⟩
      cases List.mem_singleton.mp hd
      subst z
      exact nr hc
    · by_cases hm : m < ρ'.length
      · rw [List.getElem?_append_left hm] at e1
        rw [List.getElem?_append_left (by rw [← b.len]; exact hm)] at e2
        obtain ⟨o1, n1⟩ := b.at_ m c d e1 e2
        exact ⟨o1.mono (Le.refl _) (List.prefix_append _ _) rfl, n1⟩
      · rw [List.getElem?_append_right (by omega)] at e1
        rw [List.getElem?_append_right (by rw [← b.len]; omega), ← b.len] at e2
        cases hk : m - ρ'.length with
        | zero =>
          rw [hk] at e1 e2
          cases e1
          cases e2
          exact ⟨o.mono (Le.refl _) (List.prefix_append _ _) rfl, n⟩
        | succ k => rw [hk] at e1; cases e1
    · rw [← b.len, List.getElem?_append_right (Nat.le_refl _), Nat.sub_self]; rfl⟩
/-- reading module constants -/
theorem e_globS' {X : Cx} {Φ : Fn} {W : WX} {pos : Pos} {x z : Str} {l : List Nat} (hg : Gl X x) (hm : ∃ t, X.mg x = some (.str z t)) (h : z = mk l) (hl : sOk l = true) (hd : (x == ("__debug__" : Str)) = false := by decide) : EOk X Φ W (.Name x pos) (.cst (.str l)) := by
  obtain ⟨t, hm⟩ := hm
  exact e_globS hg hm h hl hd
theorem e_globI' {X : Cx} {Φ : Fn} {W : WX} {pos : Pos} {x : Str} {i : Int} (hg : Gl X x) (hm : ∃ t, X.mg x = some (.int i t)) (hd : (x == ("__debug__" : Str)) = false := by decide) : EOk X Φ W (.Name x pos) (.cst (.int i)) := by
  obtain ⟨t, hm⟩ := hm
  exact e_globI hg hm hd
end
/-! ### sep.join(list) -/
def rJoin (K : PySem.W.Frag) : V → List V → Hp → VK → Prop := fun x vs H Q => ∃ Hs ρ B d ds r, Le Hs H ∧ BOk K Hs ρ H B ∧ RP K Hs ρ H d x ∧ Paired (RP K Hs ρ H) ds vs ∧ bi_join (d :: ds) = some r ∧ Yld K false Hs ρ H B r Q
theorem join_mk (s : List Nat) : ∀ xs : List (List Nat), Txt.join (mk s) (xs.map mk) = mk (joinS s xs) := fun xs => by
  rw [TL.join_eq]
  refine TL.ext_tl ?_
  rw [TL.tl_join]
  show TL.joinL s ((xs.map mk).map TL.tl) = joinS s xs
  rw [List.map_map]
  have : (xs.map (TL.tl ∘ mk)) = xs := by
    conv => rhs; rw [← List.map_id xs]
    exact List.map_congr_left fun _ _ => rfl
  rw [this]
  induction xs with
  | nil => rfl
  | cons a l ih =>
    cases l with
    | nil => rfl
    | cons b l =>
      show a ++ (s ++ TL.joinL s (b :: l)) = a ++ (s ++ joinS s (b :: l))
      rw [ih]
      conv => rhs; rw [← List.map_id (b :: l)]
      exact List.map_congr_left fun _ _ => rfl
theorem joinS_len (s : List Nat) : ∀ xs : List (List Nat), (joinS s xs).length ≤ (xs.map (·.length)).sum + xs.length * s.length
  | [] => by simp [joinS]
  | [a] => by simp [joinS]
  | a :: b :: l => by
    have ih := joinS_len s (b :: l)
    show (a ++ (s ++ joinS s (b :: l))).length ≤ _
    rw [List.length_append, List.length_append, List.map_cons, List.sum_cons, List.length_cons, Nat.succ_mul]
    omega
theorem joinS_mem {s : List Nat} {c : Nat} : ∀ {xs : List (List Nat)}, c ∈ joinS s xs → c ∈ s ∨ ∃ x ∈ xs, c ∈ x
  | [], h => by simp [joinS] at h
  | [a], h => .inr ⟨a, List.mem_singleton.mpr rfl, h⟩
  | a :: b :: l, h => by
    have h : c ∈ a ++ (s ++ joinS s (b :: l)) := h
    rcases List.mem_append.mp h with h | h
    · exact .inr ⟨a, List.mem_cons_self, h⟩
    · rcases List.mem_append.mp h with h | h
      · exact .inl h
      · rcases joinS_mem h with h | ⟨x, hx, h⟩
        · exact .inl h
        · exact .inr ⟨x, List.mem_cons_of_mem _ hx, h⟩
section
variable {X : Cx} {Φ : Fn} {W : WX} {a b : Expr} {ia ib : E} {apos cpos : Pos}
theorem join_ok : MtR X "str.join" (rJoin X.K) := by
  rintro pins s σ H x vs v us Q I rx rv ⟨Hs, ρ, B, d, ds, r, le, bx, rd, rs, e, h⟩
  unfold bi_join at e
  split at e
  · rename_i sp l heq
    cases heq
    obtain ⟨rfl, hs⟩ := rd.str
    obtain ⟨y, rfl, ry⟩ := one_of rs
    obtain ⟨p, xs, rfl, hp, rr⟩ := ry.lst le
    obtain ⟨ns, e1, e2⟩ := Option.bind_eq_some_iff.mp e
    obtain ⟨hl, rfl⟩ := cons_ite e2
    obtain ⟨hxs, hok⟩ := strL_rep rr e1
    subst hxs
    have hlen := joinS_len sp ns
    refine mt_join pins s σ H _ _ v us Q I rx rv ⟨mk sp, p, ns.map mk, rfl, rfl, .inl (SqL.of hp), ?_, ?_⟩
    · rw [List.map_map, List.length_map, mk_len]
      have : ns.map ((fun x : Str => x.length) ∘ mk) = ns.map (·.length) := List.map_congr_left fun x _ => mk_len x
      rw [this]
      omega
    · rw [join_mk]
      refine h.str le bx ⟨fun c hc => ?_, ?_⟩
      · rcases joinS_mem hc with hc | ⟨x, hx, hc⟩
        · exact hs.1 c hc
        · exact (hok x hx).1 c hc
      · show _ ≤ 16777216
        omega
  · rename_i sp l heq
    cases heq
    obtain ⟨rfl, hs⟩ := rd.str
    obtain ⟨y, rfl, ry⟩ := one_of rs
    obtain ⟨p, xs, rfl, hp, rr⟩ := ry.tup le
    obtain ⟨ns, e1, e2⟩ := Option.bind_eq_some_iff.mp e
    obtain ⟨hl, rfl⟩ := cons_ite e2
    obtain ⟨hxs, hok⟩ := strL_rep rr e1
    subst hxs
    have hlen := joinS_len sp ns
    refine mt_join pins s σ H _ _ v us Q I rx rv ⟨mk sp, p, ns.map mk, rfl, rfl, .inr (SqT.of hp), ?_, ?_⟩
    · rw [List.map_map, List.length_map, mk_len]
      have : ns.map ((fun x : Str => x.length) ∘ mk) = ns.map (·.length) := List.map_congr_left fun x _ => mk_len x
      rw [this]
      omega
    · rw [join_mk]
      refine h.str le bx ⟨fun c hc => ?_, ?_⟩
      · rcases joinS_mem hc with hc | ⟨x, hx, hc⟩
        · exact hs.1 c hc
        · exact (hok x hx).1 c hc
      · show _ ≤ 16777216
        omega
  · cases e
theorem e_join (ha : EOk X Φ W a ia) (hb : EOk X Φ W b ib)
    (hbase : attributeBase a "join" X.env (eval a X.env) = eval a X.env := by rfl)
    (hfew : ((backTo cpos (starEach [b] X.env)).all (fun x => !x.1) && (backToKw cpos (keywordEach [] X.env)).all (fun x => x.1.isSome)
      && decide ([b].length + ([] : List Keyword).length + (if ([] : List Keyword).isEmpty then 0 else 1) < 30)) = true := by rfl)
    (hline : (apos.endLine == cpos.line) = true := by rfl) (hst : starEach [b] X.env = (false, eval b X.env) :: starEach [] X.env := by rfl) :
    EOk X Φ W (.Call (.Attribute a "join" apos) [b] [] cpos) (.mt .join ia (.cons ib .nil)) :=
  ⟨fun p => (pe_bm PySem.F.plainAttrs_str PySem.F.slot_str_join PySem.F.type_str_join join_ok (ha.run true) ((a_cons hb a_nil hst).run true) hbase hfew hline hst).weaken fun σV H Q ⟨Hs, ρ, σ, B, st, out⟩ => by
    refine ⟨Hs, ρ, σ, B, st, Out.bind (p := p) (Q := Q) out fun x B1 v H1 Hs1 ρ1 g1 l1 b1 r1 out => ?_⟩
    obtain ⟨hr, out⟩ := OutG.ite (show OutG X.K _ Hs1 ρ1 H1 (if recv .join (drf B1 x) = true then (evs Φ true (.cons ib .nil) σ B1).bind fun y => (Rs.of (opBi .join ((x :: y.1).map (drf y.2)))).bind fun d => Rs.ok (d, y.2) else .bad) _ from out)
    have rx := drf_ok r1 b1
    have hv : ∃ s, v = .str s := by
      cases q : drf B1 x with
      | str s => rw [q] at rx; exact ⟨_, rx.str.1⟩
      | _ => rw [q] at hr; cases hr
    obtain ⟨s, rfl⟩ := hv
    refine ⟨rfl, Hs1, ρ1, σ, B1, st.grow g1 l1 b1, OutG.bindL Yld.shf out fun ds B2 vs H2 Hs2 ρ2 g2 l2 b2 r2 out => ?_⟩
    obtain ⟨d, hd, out⟩ := Out.of (p := p) (Q := Q) out
    exact ⟨Hs2, ρ2, B2, _, _, d, l2, b2, drf_ok (r1.grow g2) b2, rp_of r2 b2, hd, Yld.f (p := p) out⟩⟩
end
end Pz
end
section
set_option Elab.async false
set_option linter.all false
set_option maxRecDepth 100000
namespace Pz
open PySem PySem.Spec PyProof.Rows L2

/-! ### a dict is walked -/
section
variable {K : PySem.W.Frag} {Hs Hs' H H' : Hp} {ρ ρ' : List Addr} {a : Addr} {od : Obj} {u : HO} {B : List D}
theorem gr_unlock (hu : H a = some u) (g : Gr Hs (upd H a (.frz od u)) ρ Hs' H' ρ') : Gr Hs H ρ Hs' (upd H' a u) ρ' where
  hs := g.hs
  fr := fun b o h => by
    rcases g.fr b o h with q | q
    · exact .inl q
    · by_cases z : b = a
      · subst z; rw [upd_same] at q; cases q
      · rw [upd_ne z] at q; exact .inr q
  kp := fun b o h n => by
    by_cases z : b = a
    · subst z
      rw [upd_same, ← hu, h]
    · rw [upd_ne z]
      exact g.kp b o (by rw [upd_ne z]; exact h) n
  th := fun b o h => by
    by_cases z : b = a
    · subst z; exact ⟨_, upd_same⟩
    · rw [upd_ne z]
      exact g.th b o (by rw [upd_ne z]; exact h)
  rp := g.rp
  rn := fun b h => by
    rcases g.rn b h with q | q
    · exact .inl q
    · by_cases z : b = a
      · subst z; rw [upd_same] at q; cases q
      · rw [upd_ne z] at q; exact .inr q
theorem le_unlock (l : Le Hs' H') (hs : ∀ o, Hs' a = some o → o = u) : Le Hs' (upd H' a u) := fun b o h => by
  by_cases z : b = a
  · subst z
    rw [upd_same, hs o h]
    exact .inl rfl
  · rw [upd_ne z]
    exact l b o h
theorem bok_but (b : BOk K Hs ρ H B) (n : a ∉ ρ) {o : HO} : BOk K Hs ρ (upd H a o) B := by
  refine ⟨b.len, b.nd, fun m c d e1 e2 => ?_⟩
  obtain ⟨h, hn⟩ := b.at_ m c d e1 e2
  exact ⟨h.mono (Le.refl _) (List.prefix_refl _) (upd_ne fun z => n (by rw [← z]; exact List.mem_of_getElem? e1)), hn⟩
theorem repK_at : ∀ {l : List (D × D)} {kvs : List (Key × V)} {i : Nat} {d : D}, RepK K Hs ρ l kvs → (l.map (·.1))[i]? = some d → ∃ k v, kvs[i]? = some (k, v) ∧ KeyR d k
  | [], _, i, d, r, e => by cases r; simp at e
  | (k, x) :: l, kvs, i, d, r, e => by
    obtain ⟨kk, v, s, rfl, hk, _, hr⟩ := r.cons_inv
    cases i with
    | zero => simp at e; subst e; exact ⟨kk, v, rfl, hk⟩
    | succ i =>
      obtain ⟨k2, v2, h1, h2⟩ := repK_at (i := i) hr (by simpa using e)
      exact ⟨k2, v2, by simpa using h1, h2⟩
theorem KeyR.rep {d : D} {k : Key} (h : KeyR d k) : Rep K Hs ρ d (kV k) := by
  cases h with
  | int i => exact .int i
  | str h => exact .str h
/-- the keys of a locked dict -/
theorem itR_keys {l : List (D × D)} {kvs : List (Key × V)} (hH : H a = some (.frz od (.dK kvs))) (nr : a ∉ ρ) (r : RepK K Hs ρ l kvs) : ItR K true (Itk a od kvs) Hs ρ H (l.map (·.1)) := by
  have hk : ∀ Hs' H' ρ', Cnd true Hs H ρ Hs' H' ρ' → H' a = some (.frz od (.dK kvs)) := fun Hs' H' ρ' c => (c.2.2 rfl).kp a _ hH nr
  refine .same (fun i Hs' H' ρ' c le hi => ⟨hk _ _ _ c, by rw [List.length_map, r.length] at hi; exact hi⟩) (fun i Hs' H' ρ' c le hi => ⟨hk _ _ _ c, by rw [List.length_map, r.length] at hi; exact hi⟩) fun i Hs' H' ρ' x H2 d c le e y => ?_
  obtain ⟨e1, k, v, e2, rfl⟩ := y
  obtain ⟨k2, v2, e3, hk2⟩ := repK_at r e
  rw [e2] at e3
  cases e3
  exact ⟨e1, hk2.rep⟩
end
theorem _root_.L2.PE.or {X : Cx} {e : Expr} {t t' : TE} (h : PE X e t) (h' : PE X e t') : PE X e (fun σ H Q => t σ H Q ∨ t' σ H Q) := ⟨fun pins s σ H Q I q => q.elim (h.run pins s σ H Q I) (h'.run pins s σ H Q I)⟩
section
variable {X : Cx} {Φ : Fn} {W : WX} {pos : Pos} {elt tp : Expr} {ifs : List Expr} {scope : Scope} {own : List (Str × Nat)} {cpos : Pos} {tg : Tg} {iit ic ie : E} {i : Nat} {x : Str}
theorem lcd_core {R : Hp → List Addr → Hp → D × List D → Prop} {σV : L2.St} {H : Hp} {Q : VK} {p : Bool} (hd : iit = .own i ∨ iit = .var i)
    (hq : ∀ Hs ρ H x, R Hs ρ H x → YldN X.K Hs ρ H x.2 x.1 Q) (h : ∃ Hs ρ σ B, Stt X.K Hs ρ H σV σ B ∧ OutG X.K (fun c d h => W c d σV h) Hs ρ H (ev Φ p (.lcd 0 iit tg ic ie) σ B) (R Hs ρ H)) :
    tLc (iKeys (tVar i)) (rdP X.K tg) (rdT X.K Φ WX0 ic) (rdE X.K Φ WX0 false ie) tg.names σV H Q ∨ tLockE (tLc (iKeys (tVar i)) (rdP X.K tg) (rdT X.K Φ WX0 ic) (rdE X.K Φ WX0 false ie) tg.names) σV H Q := by
  obtain ⟨Hs, ρ, σ, B, st, out⟩ := h
  have out : OutG X.K (fun c d h => W c d σV h) Hs ρ H ((ev Φ true iit σ B).bind fun x => (Rs.of (itemsD 0 x.1)).bind fun ds => if ds.length ≤ ln then (lcLoop (lcF Φ tg ic ie (wv iit σ)) ds x.2).bind fun r => .ok (.lst r.1, r.2) else .bad) (R Hs ρ H) := out
  cases q : ev Φ true iit σ B with
  | bad => rw [q] at out; exact out.elim
  | ex c ps B' =>
    rcases hd with rfl | rfl <;> (unfold ev at q; split at q <;> cases q)
  | ok y =>
    rw [q] at out
    obtain ⟨ds, hds, out⟩ := OutG.of (show OutG X.K _ Hs ρ H ((Rs.of (itemsD 0 y.1)).bind fun ds => if ds.length ≤ ln then (lcLoop (lcF Φ tg ic ie (wv iit σ)) ds y.2).bind fun r => Rs.ok (.lst r.1, r.2) else .bad) (R Hs ρ H) from out)
    obtain ⟨hl, out⟩ := OutG.ite out
    obtain ⟨l, hy, rfl⟩ : ∃ l, y.1 = .dic false l ∧ ds = l.map (·.1) := by
      generalize y.1 = d at hds
      cases d with
      | dic t l =>
        cases t with
        | false => exact ⟨l, rfl, (Option.some.inj hds).symm⟩
        | true => cases hds
      | _ => cases hds
    -- where the dict stands
    have key : ∃ a kvs, σV[i]? = some (some (.ref a)) ∧ a ∉ ρ ∧ RepK X.K Hs ρ l kvs ∧ y.2 = B ∧
        ((H a = some (.dK kvs) ∧ (∀ o, Hs a = some o → o = .dK kvs) ∧ ∀ od, Stt X.K Hs ρ (upd H a (.frz od (.dK kvs))) σV (wv iit σ) B) ∨ ∃ od, H a = some (.frz od (.dK kvs)) ∧ Stt X.K Hs ρ H σV (wv iit σ) B) := by
      rcases hd with rfl | rfl
      · obtain ⟨d, hsl, hy2⟩ : ∃ d, σ[i]? = some (.own d) ∧ y = (d, B) := by
          unfold ev at q
          split at q
          · cases q; exact ⟨_, by assumption, rfl⟩
          · cases q
        subst hy2
        obtain rfl : d = .dic false l := hy
        obtain ⟨a, ea, ⟨kvs, hk, r⟩, n, nr⟩ := st.slotV hsl
        refine ⟨a, kvs, ea, nr, r, rfl, .inl ⟨hk, fun o h => (by rw [n] at h; cases h), fun od => ?_⟩⟩
        have st1 : Stt X.K Hs ρ H σV (σ.set i .no) B := by
          have := st.setN (i := i) (o := (some (.ref a)))
          have e2 : σV.set i (some (.ref a)) = σV := by
            refine List.ext_getElem? fun j => ?_
            by_cases z : i = j
            · subst z
              rw [ea, List.getElem?_set_self (List.getElem?_eq_some_iff.mp ea).1]
            · rw [List.getElem?_set_ne z]
          rw [e2] at this
          exact this
        refine ⟨fun b o h => ?_, bok_but st.bx nr, st1.len, fun j s h => ?_, st1.di⟩
        · rw [upd_ne (ne_of_none h n)]
          exact st.le b o h
        · have hs := st1.sl j s h
          cases s with
          | no => trivial
          | val f => exact hs
          | own f =>
            obtain ⟨b, eb, o, nb⟩ := st1.slotV h
            rw [eb]
            refine ⟨b, rfl, o.mono (Le.refl _) (List.prefix_refl _) (upd_ne fun z => ?_), nb⟩
            subst z
            rcases set_at h with ⟨_, z⟩ | ⟨z, h⟩
            · cases z
            · exact z (st.di i j b _ f hsl h ea eb)
      · obtain ⟨d, hsl, hy2⟩ : ∃ d, σ[i]? = some (.val d) ∧ y = (d, B) := by
          unfold ev at q
          split at q
          · cases q; exact ⟨_, by assumption, rfl⟩
          · cases q
        subst hy2
        obtain rfl : d = .dic false l := hy
        obtain ⟨v, e1, r⟩ := st.sl i _ hsl
        have ev_ : σV[i]? = some (some v) := by
          cases z : σV[i]? with
          | none => rw [z] at e1; cases e1
          | some o => rw [z] at e1; exact congrArg some e1
        cases r with
        | @dK _ a kvs hr rk =>
          have hsome : ∃ o, Hs a = some o := by
            rcases hr with h | ⟨o, h⟩
            · exact ⟨_, h⟩
            · exact ⟨_, h⟩
          have nr : a ∉ ρ := fun z => by
            obtain ⟨m, em⟩ := List.getElem?_of_mem z
            have hm : m < B.length := by rw [← st.bx.len]; exact (List.getElem?_eq_some_iff.mp em).1
            obtain ⟨_, hn⟩ := st.bx.at_ m a _ em (List.getElem?_eq_getElem hm)
            obtain ⟨o, ho⟩ := hsome
            rw [hn] at ho; cases ho
          refine ⟨a, kvs, ev_, nr, rk, rfl, ?_⟩
          rcases hr with h | ⟨o, h⟩
          · rcases st.le a _ h with h2 | ⟨_, od, h2⟩
            · refine .inl ⟨h2, fun o ho => (by rw [h] at ho; exact (Option.some.inj ho).symm), fun od => ⟨fun b o hb => ?_, bok_but st.bx nr, st.len, fun j s hj => ?_, st.di⟩⟩
              · by_cases z : b = a
                · subst z
                  rw [h] at hb; cases hb
                  exact .inr ⟨trivial, od, upd_same⟩
                · rw [upd_ne z]
                  exact st.le b o hb
              · have hs := st.sl j s hj
                cases s with
                | no => trivial
                | val f => exact hs
                | own f =>
                  obtain ⟨b, eb, o, nb⟩ := hs
                  exact ⟨b, eb, o.mono (Le.refl _) (List.prefix_refl _) (upd_ne fun z => by subst z; rw [h] at nb; cases nb.1), nb⟩
            · exact .inr ⟨od, h2, st⟩
          · exact .inr ⟨o, by
              rcases st.le a _ h with h2 | ⟨m, _⟩
              · exact h2
              · exact m.elim, st⟩
    obtain ⟨a, kvs, ea, nr, rk, hB, hh⟩ := key
    rw [hB] at out
    rcases hh with ⟨hH, hsu, hst⟩ | ⟨od, hH, hst⟩
    · refine .inr ⟨a, .dK kvs, hH, trivial, fun od => ⟨.ref a, ea, a, od, rfl, .inl ⟨kvs, upd_same, fun D hD => ?_⟩⟩⟩
      have hDa : D ≠ a := fun z => by subst z; rw [upd_same] at hD; cases hD
      refine lc_turns (Wi := WX0) (Q := fun v H' => H' a = some (.frz od (.dK kvs)) ∧ Q v (upd H' a (.dK kvs))) (hst od) (itR_keys upd_same nr rk) hl out hD fun l' B' H' Hs' ρ' r g l_ b o n nr' => ?_
      have hHa : H' a = some (.frz od (.dK kvs)) := g.kp a _ upd_same nr
      have nra : a ∉ ρ' := g.rhoN upd_same nr
      refine ⟨hHa, ?_⟩
      have y : YldF X.K Hs ρ H B' (.lst l') Q := hq _ _ _ _ r
      refine y D _ Hs' ρ' (gr_unlock hH g) (le_unlock l_ fun o ho => ?_) (bok_but b nra) (o.mono (Le.refl _) (List.prefix_refl _) (upd_ne hDa)) n nr' (by rw [upd_ne hDa] at hD; exact hD)
      rcases g.fr a o ho with ⟨w, hw⟩ | z
      · have := g.hs a w hw
        rw [ho] at this
        cases this
        exact hsu _ hw
      · rw [upd_same] at z; cases z
    · refine .inl ⟨.ref a, ea, a, od, rfl, .inl ⟨kvs, hH, fun D hD => ?_⟩⟩
      refine lc_turns (Wi := WX0) (Q := Q) hst (itR_keys hH nr rk) hl out hD fun l' B' H' Hs' ρ' r g l_ b o n nr' => ?_
      have y : YldF X.K Hs ρ H B' (.lst l') Q := hq _ _ _ _ r
      exact y D _ Hs' ρ' g l_ b o n nr' hD
theorem e_lcdK (hc : X.calm = true) (hN : X.N.Nodup) (hd : iit = .own i ∨ iit = .var i) (hx : X.N[i]? = some x) (ok : BlkOk X.N X.env.scope scope own) (hv : own.map (·.2) = tg.names)
    (hg : ∀ (s : Shared) (H : Hp) (C : Addr) (cl : List (Str × Addr)) (fp : List Addr), GOk (X.blk s H scope (compEnvC scope cl C X.env) fp) tp tg)
    (ht : ∀ (s : Shared) (H : Hp) (C : Addr) (cl : List (Str × Addr)) (fp : List Addr), TsOk (X.blk s H scope (compEnvC scope cl C X.env) fp) Φ WX0 ifs ic)
    (he : ∀ (s : Shared) (H : Hp) (C : Addr) (cl : List (Str × Addr)) (fp : List Addr), EOk (X.blk s H scope (compEnvC scope cl C X.env) fp) Φ WX0 elt ie)
    (hs : ∀ v, foldedSetIterable (.Name x pos) X.env v = pure v := by intro _; rfl) (hvs : Vis X.env.scope x := by first | exact .inl rfl | exact .inr (.inl rfl) | exact .inr (.inr rfl))
    (hdb : (x == ("__debug__" : Str)) = false := by decide) (hcd : (x == ("__classdict__" : Str)) = false := by decide) : EOk X Φ W (.ListComp elt [⟨tp, .Name x pos, ifs, 0⟩] scope cpos) (.lcd 0 iit tg ic ie) :=
  have h0 := pe_lc (own := own) (pos := cpos) hc hN (pi_keys (tg := tp) (pe_var (pos := pos) hx hvs hdb hcd)) ok (fun s H C cl fp => (hg s H C cl fp).run) (fun s H C cl fp => (ht s H C cl fp).run) (fun s H C cl fp => (he s H C cl fp).run false) hs
  ⟨fun p => (h0.or (pe_lock h0)).weaken fun σV H Q h => by
    rw [hv]
    exact lcd_core hd (fun _ _ _ _ h => .of (p := p) h) h⟩
end
end Pz
end
section
set_option Elab.async false
set_option linter.all false
set_option maxRecDepth 100000
namespace Pz

/-! ### the order of plain data -/
mutual
theorem eqv_ord : ∀ {a b : D}, a.ord = true → b.ord = true → (D.eqv a b = true ↔ a = b)
  | .int i, .int j, _, _ => by simp [D.eqv]
  | .int _, .str _, _, _ => by simp [D.eqv]
  | .int _, .tup _, _, _ => by simp [D.eqv]
  | .int _, .lst _, _, _ => by simp [D.eqv]
  | .str _, .int _, _, _ => by simp [D.eqv]
  | .str _, .str _, _, _ => by simp [D.eqv]
  | .str _, .tup _, _, _ => by simp [D.eqv]
  | .str _, .lst _, _, _ => by simp [D.eqv]
  | .tup _, .int _, _, _ => by simp [D.eqv]
  | .tup _, .str _, _, _ => by simp [D.eqv]
  | .tup x, .tup y, h, k => by
    have := eqv_ordL (x := x) (y := y) (by simpa [D.ord] using h) (by simpa [D.ord] using k)
    simp [D.eqv, this]
  | .tup _, .lst _, _, _ => by simp [D.eqv]
  | .lst _, .int _, _, _ => by simp [D.eqv]
  | .lst _, .str _, _, _ => by simp [D.eqv]
  | .lst _, .tup _, _, _ => by simp [D.eqv]
  | .lst x, .lst y, h, k => by
    have := eqv_ordL (x := x) (y := y) (by simpa [D.ord] using h) (by simpa [D.ord] using k)
    simp [D.eqv, this]
theorem eqv_ordL : ∀ {x y : List D}, D.ordL x = true → D.ordL y = true → (D.eqvL x y = true ↔ x = y)
  | [], [], _, _ => by simp [D.eqvL]
  | [], _ :: _, _, _ => by simp [D.eqvL]
  | _ :: _, [], _, _ => by simp [D.eqvL]
  | a :: x, b :: y, h, k => by
    have h : a.ord = true ∧ D.ordL x = true := by simpa [D.ordL] using h
    have k : b.ord = true ∧ D.ordL y = true := by simpa [D.ordL] using k
    have h1 := eqv_ord h.1 k.1
    have h2 := eqv_ordL h.2 k.2
    simp [D.eqvL, h1, h2]
end
theorem ltS_irr : ∀ x : List Nat, ltS x x = false
  | [] => rfl
  | a :: x => by simp [ltS, ltS_irr x]
theorem ltS_asym : ∀ x y : List Nat, ltS x y = true → ltS y x = false
  | [], [], h => by simp [ltS] at h
  | [], _ :: _, _ => rfl
  | _ :: _, [], h => by simp [ltS] at h
  | a :: x, b :: y, h => by
    simp only [ltS] at h ⊢
    by_cases e : a = b
    · subst e
      simp at h ⊢
      exact ltS_asym x y h
    · rw [if_neg e] at h
      rw [if_neg (fun z => e z.symm)]
      simp at h ⊢
      omega
theorem ltS_ntr : ∀ x y z : List Nat, ltS y x = false → ltS z y = false → ltS z x = false
  | x, y, [], h1, h2 => by
    cases y with
    | nil => exact h1
    | cons b y => simp [ltS] at h2
  | x, [], c :: z, h1, h2 => by
    cases x with
    | nil => rfl
    | cons a x => simp [ltS] at h1
  | [], b :: y, c :: z, h1, h2 => rfl
  | a :: x, b :: y, c :: z, h1, h2 => by
    simp only [ltS] at h1 h2 ⊢
    by_cases e1 : b = a
    · subst e1
      by_cases e2 : c = b
      · subst e2
        simp at h1 h2 ⊢
        exact ltS_ntr x y z h1 h2
      · rw [if_neg e2] at h2 ⊢
        exact h2
    · rw [if_neg e1] at h1
      by_cases e2 : c = b
      · subst e2
        rw [if_neg e1]
        exact h1
      · rw [if_neg e2] at h2
        have h1 : ¬ b < a := of_decide_eq_false h1
        have h2 : ¬ c < b := of_decide_eq_false h2
        rw [if_neg (by omega)]
        exact decide_eq_false (by omega)
theorem ltS_anti : ∀ x y : List Nat, ltS x y = false → ltS y x = false → x = y
  | [], [], _, _ => rfl
  | [], _ :: _, h, _ => by simp [ltS] at h
  | _ :: _, [], _, h => by simp [ltS] at h
  | a :: x, b :: y, h1, h2 => by
    simp only [ltS] at h1 h2
    by_cases e : a = b
    · subst e
      simp at h1 h2
      rw [ltS_anti x y h1 h2]
    · rw [if_neg e] at h1
      rw [if_neg (fun z => e z.symm)] at h2
      have h1 : ¬ a < b := of_decide_eq_false h1
      have h2 : ¬ b < a := of_decide_eq_false h2
      omega
mutual
theorem ltb_asym : ∀ (a b : D), a.ord = true → b.ord = true → D.ltb a b = true → D.ltb b a = false
  | .int i, b, _, _, h => by
    cases b with
    | int j => simp only [D.ltb] at h ⊢; have := of_decide_eq_true h; exact decide_eq_false (by omega)
    | _ => simp [D.ltb] at h
  | .str i, b, _, _, h => by
    cases b with
    | str j => simp only [D.ltb] at h ⊢; exact ltS_asym i j h
    | _ => simp [D.ltb] at h
  | .tup x, b, h1, h2, h => by
    cases b with
    | tup y => simp only [D.ltb] at h ⊢; exact ltbL_asym x y (by simpa [D.ord] using h1) (by simpa [D.ord] using h2) h
    | _ => simp [D.ltb] at h
  | .lst _, b, _, _, h => by simp [D.ltb] at h
theorem ltbL_asym : ∀ (x y : List D), D.ordL x = true → D.ordL y = true → D.ltbL x y = true → D.ltbL y x = false
  | [], [], _, _, h => by simp [D.ltbL] at h
  | [], _ :: _, _, _, _ => by simp [D.ltbL]
  | _ :: _, [], _, _, h => by simp [D.ltbL] at h
  | a :: x, b :: y, h1, h2, h => by
    have h1 : a.ord = true ∧ D.ordL x = true := by simpa [D.ordL] using h1
    have h2 : b.ord = true ∧ D.ordL y = true := by simpa [D.ordL] using h2
    simp only [D.ltbL] at h ⊢
    by_cases e : D.eqv a b = true
    · have e2 : D.eqv b a = true := (eqv_ord h2.1 h1.1).mpr ((eqv_ord h1.1 h2.1).mp e).symm
      rw [if_pos e] at h
      rw [if_pos e2]
      exact ltbL_asym x y h1.2 h2.2 h
    · have e2 : ¬ D.eqv b a = true := fun z => e ((eqv_ord h1.1 h2.1).mpr ((eqv_ord h2.1 h1.1).mp z).symm)
      rw [if_neg e] at h
      rw [if_neg e2]
      exact ltb_asym a b h1.1 h2.1 h
end
mutual
theorem ltb_anti : ∀ (a b : D), a.ord = true → b.ord = true → D.cmp a b = true → D.ltb a b = false → D.ltb b a = false → a = b
  | .int i, b, _, _, c, h, k => by
    cases b with
    | int j => simp only [D.ltb] at h k; have := of_decide_eq_false h; have := of_decide_eq_false k; congr 1; omega
    | _ => simp [D.cmp] at c
  | .str i, b, _, _, c, h, k => by
    cases b with
    | str j => simp only [D.ltb] at h k; rw [ltS_anti i j h k]
    | _ => simp [D.cmp] at c
  | .tup x, b, h1, h2, c, h, k => by
    cases b with
    | tup y => simp only [D.ltb] at h k; rw [ltbL_anti x y (by simpa [D.ord] using h1) (by simpa [D.ord] using h2) (by simpa [D.cmp] using c) h k]
    | _ => simp [D.cmp] at c
  | .lst _, b, _, _, c, _, _ => by simp [D.cmp] at c
theorem ltbL_anti : ∀ (x y : List D), D.ordL x = true → D.ordL y = true → D.cmpL x y = true → D.ltbL x y = false → D.ltbL y x = false → x = y
  | [], [], _, _, _, _, _ => rfl
  | [], _ :: _, _, _, _, h, _ => by simp [D.ltbL] at h
  | _ :: _, [], _, _, _, _, h => by simp [D.ltbL] at h
  | a :: x, b :: y, h1, h2, c, h, k => by
    have h1 : a.ord = true ∧ D.ordL x = true := by simpa [D.ordL] using h1
    have h2 : b.ord = true ∧ D.ordL y = true := by simpa [D.ordL] using h2
    have c : (D.eqv a b = true ∨ D.cmp a b = true) ∧ D.cmpL x y = true := by simpa [D.cmpL] using c
    simp only [D.ltbL] at h k
    by_cases e : D.eqv a b = true
    · have e3 := (eqv_ord h1.1 h2.1).mp e
      subst e3
      rw [if_pos e] at h k
      rw [ltbL_anti x y h1.2 h2.2 c.2 h k]
    · have e2 : ¬ D.eqv b a = true := fun z => e ((eqv_ord h1.1 h2.1).mpr ((eqv_ord h2.1 h1.1).mp z).symm)
      rw [if_neg e] at h
      rw [if_neg e2] at k
      exact absurd ((eqv_ord h1.1 h2.1).mpr (ltb_anti a b h1.1 h2.1 (c.1.resolve_left e) h k)) e
end
mutual
theorem ltb_ntr : ∀ (a b c : D), a.ord = true → b.ord = true → c.ord = true → D.cmp b a = true → D.cmp c b = true → D.cmp c a = true → D.ltb b a = false → D.ltb c b = false → D.ltb c a = false
  | a, b, .int k, _, _, _, c1, c2, c3, h, h2 => by
    cases b with
    | int j =>
      cases a with
      | int i => simp only [D.ltb] at h h2 ⊢; have := of_decide_eq_false h; have := of_decide_eq_false h2; exact decide_eq_false (by omega)
      | _ => simp [D.cmp] at c3
    | _ => simp [D.cmp] at c2
  | a, b, .str k, _, _, _, c1, c2, c3, h, h2 => by
    cases b with
    | str j =>
      cases a with
      | str i => simp only [D.ltb] at h h2 ⊢; exact ltS_ntr i j k h h2
      | _ => simp [D.cmp] at c3
    | _ => simp [D.cmp] at c2
  | a, b, .tup z, o1, o2, o3, c1, c2, c3, h, h2 => by
    cases b with
    | tup y =>
      cases a with
      | tup x =>
        simp only [D.ltb] at h h2 ⊢
        exact ltbL_ntr x y z (by simpa [D.ord] using o1) (by simpa [D.ord] using o2) (by simpa [D.ord] using o3) (by simpa [D.cmp] using c1) (by simpa [D.cmp] using c2) (by simpa [D.cmp] using c3) h h2
      | _ => simp [D.cmp] at c3
    | _ => simp [D.cmp] at c2
  | a, b, .lst _, _, _, _, _, c2, _, _, _ => by simp [D.cmp] at c2
theorem ltbL_ntr : ∀ (x y z : List D), D.ordL x = true → D.ordL y = true → D.ordL z = true → D.cmpL y x = true → D.cmpL z y = true → D.cmpL z x = true → D.ltbL y x = false → D.ltbL z y = false → D.ltbL z x = false
  | x, y, [], _, _, _, _, _, _, h1, h2 => by
    cases y with
    | nil => exact h1
    | cons b y => simp [D.ltbL] at h2
  | x, [], c :: z, _, _, _, _, _, _, h1, h2 => by
    cases x with
    | nil => simp [D.ltbL]
    | cons a x => simp [D.ltbL] at h1
  | [], b :: y, c :: z, _, _, _, _, _, _, h1, h2 => by simp [D.ltbL]
  | a :: x, b :: y, c :: z, o1, o2, o3, c1, c2, c3, h1, h2 => by
    have o1 : a.ord = true ∧ D.ordL x = true := by simpa [D.ordL] using o1
    have o2 : b.ord = true ∧ D.ordL y = true := by simpa [D.ordL] using o2
    have o3 : c.ord = true ∧ D.ordL z = true := by simpa [D.ordL] using o3
    have c1 : (D.eqv b a = true ∨ D.cmp b a = true) ∧ D.cmpL y x = true := by simpa [D.cmpL] using c1
    have c2 : (D.eqv c b = true ∨ D.cmp c b = true) ∧ D.cmpL z y = true := by simpa [D.cmpL] using c2
    have c3 : (D.eqv c a = true ∨ D.cmp c a = true) ∧ D.cmpL z x = true := by simpa [D.cmpL] using c3
    simp only [D.ltbL] at h1 h2 ⊢
    by_cases e1 : D.eqv b a = true
    · have q := (eqv_ord o2.1 o1.1).mp e1
      subst q
      rw [if_pos e1] at h1
      by_cases e2 : D.eqv c b = true
      · rw [if_pos e2] at h2 ⊢
        exact ltbL_ntr x y z o1.2 o2.2 o3.2 c1.2 c2.2 c3.2 h1 h2
      · rw [if_neg e2] at h2 ⊢
        exact h2
    · rw [if_neg e1] at h1
      by_cases e2 : D.eqv c b = true
      · have q := (eqv_ord o3.1 o2.1).mp e2
        subst q
        rw [if_neg e1]
        exact h1
      · rw [if_neg e2] at h2
        by_cases e3 : D.eqv c a = true
        · have q := (eqv_ord o3.1 o1.1).mp e3
          subst q
          exact absurd ((eqv_ord o2.1 o3.1).mpr (ltb_anti b c o2.1 o3.1 (c1.1.resolve_left e1) h1 h2)) e1
        · rw [if_neg e3]
          exact ltb_ntr a b c o1.1 o2.1 o3.1 (c1.1.resolve_left e1) (c2.1.resolve_left e2) (c3.1.resolve_left e3) h1 h2
end
/-! ### insertion sort -/
theorem insD_perm (x : D) : ∀ l : List D, (insD x l).Perm (x :: l)
  | [] => List.Perm.refl _
  | y :: l => by
    unfold insD
    split
    · exact ((insD_perm x l).cons y).trans (List.Perm.swap x y l)
    · exact List.Perm.refl _
theorem isort_perm : ∀ l : List D, (isort l).Perm l
  | [] => List.Perm.refl _
  | x :: l => (insD_perm x (isort l)).trans ((isort_perm l).cons x)
/-- all of a list may be ordered -/
structure OrdAll (l : List D) : Prop where
  ord : ∀ a ∈ l, a.ord = true
  cmp : ∀ a ∈ l, ∀ b ∈ l, D.cmp a b = true
theorem ordL_mem : ∀ {l : List D}, D.ordL l = true → ∀ a ∈ l, a.ord = true
  | _ :: l, h, a, ha => by
    have h := by simpa [D.ordL] using h
    rcases List.mem_cons.mp ha with rfl | ha
    · exact h.1
    · exact ordL_mem h.2 a ha
theorem OrdAll.of {l : List D} (h1 : D.ordL l = true) (h2 : cmpAll l = true) : OrdAll l :=
  ⟨ordL_mem h1, fun a ha b hb => List.all_eq_true.mp (List.all_eq_true.mp h2 a ha) b hb⟩
theorem OrdAll.sub {l m : List D} (h : OrdAll l) (s : ∀ a ∈ m, a ∈ l) : OrdAll m := ⟨fun a ha => h.ord a (s a ha), fun a ha b hb => h.cmp a (s a ha) b (s b hb)⟩
theorem insD_sorted {x : D} : ∀ {l : List D}, OrdAll (x :: l) → l.Pairwise (fun a b => D.ltb b a = false) → (insD x l).Pairwise (fun a b => D.ltb b a = false)
  | [], _, _ => by simp [insD]
  | y :: l, o, h => by
    rw [List.pairwise_cons] at h
    unfold insD
    split
    · rename_i hy
      rw [List.pairwise_cons]
      refine ⟨fun z hz => ?_, insD_sorted (o.sub fun a ha => ?_) h.2⟩
      · have hz := (insD_perm x l).mem_iff.mp hz
        rcases List.mem_cons.mp hz with rfl | hz
        · exact ltb_asym y z (o.ord y (by simp)) (o.ord z (by simp)) hy
        · exact h.1 z hz
      · rcases List.mem_cons.mp ha with rfl | ha
        · simp
        · exact List.mem_cons_of_mem _ (List.mem_cons_of_mem _ ha)
    · rename_i hy
      have hy : D.ltb y x = false := by simpa using hy
      rw [List.pairwise_cons]
      refine ⟨fun z hz => ?_, List.pairwise_cons.mpr h⟩
      rcases List.mem_cons.mp hz with rfl | hz
      · exact hy
      · have mx : x ∈ x :: y :: l := by simp
        have my : y ∈ x :: y :: l := by simp
        have mz : z ∈ x :: y :: l := List.mem_cons_of_mem _ (List.mem_cons_of_mem _ hz)
        exact ltb_ntr x y z (o.ord x mx) (o.ord y my) (o.ord z mz) (o.cmp y my x mx) (o.cmp z mz y my) (o.cmp z mz x mx) hy (h.1 z hz)
theorem isort_sorted : ∀ {l : List D}, OrdAll l → (isort l).Pairwise (fun a b => D.ltb b a = false)
  | [], _ => List.Pairwise.nil
  | x :: l, o => insD_sorted (o.sub fun a ha => by
      rcases List.mem_cons.mp ha with rfl | ha
      · simp
      · exact List.mem_cons_of_mem _ ((isort_perm l).mem_iff.mp ha)) (isort_sorted (o.sub fun a ha => List.mem_cons_of_mem _ ha))
theorem isort_uniq {l m : List D} (o : OrdAll l) (p : m.Perm l) (s : m.Pairwise (fun a b => D.ltb b a = false)) : m = isort l :=
  List.Perm.eq_of_pairwise (fun a b ha hb h1 h2 => by
    have ha := p.mem_iff.mp ha
    have hb := (isort_perm l).mem_iff.mp hb
    exact ltb_anti a b (o.ord a ha) (o.ord b hb) (o.cmp a ha b hb) h2 h1) s (isort_sorted o) (p.trans (isort_perm l).symm)
end Pz
end
section
set_option Elab.async false
set_option linter.all false
set_option maxRecDepth 100000
namespace Pz
open PySem PySem.Spec PyProof.Rows L2

/-! ### sorted -/
section
variable {K : PySem.W.Frag} {Hs : Hp} {ρ : List Addr}
mutual
theorem Rep.uniq : ∀ {d e : D} {x : V}, d.ord = true → e.ord = true → Rep K Hs ρ d x → Rep K Hs ρ e x → d = e
  | .int i, e, _, _, h, .int _, r => by
    cases e with
    | int j => cases r; rfl
    | str _ => cases r
    | tup _ => cases r
    | lst _ => cases r
    | _ => cases h
  | .str i, e, _, _, h, .str hi, r => by
    cases e with
    | str j =>
      generalize hz : V.str (mk i) = z at r
      cases r with
      | str hj => rw [mk_inj (V.str.inj hz)]
    | int _ => cases r
    | tup _ => cases r
    | lst _ => cases r
    | _ => cases h
  | .tup l, e, _, h1, h, .tup ha r1, r => by
    cases e with
    | tup m =>
      cases r with
      | tup hb r2 =>
        rw [ha] at hb
        cases hb
        rw [RepL.uniq (by simpa [D.ord] using h1) (by simpa [D.ord] using h) r1 r2]
    | lst m =>
      cases r with
      | lst hb r2 => rw [ha] at hb; cases hb
    | int _ => cases r
    | str _ => cases r
    | _ => cases h
  | .lst l, e, _, h1, h, .lst ha r1, r => by
    cases e with
    | lst m =>
      cases r with
      | lst hb r2 =>
        rw [ha] at hb
        cases hb
        rw [RepL.uniq (by simpa [D.ord] using h1) (by simpa [D.ord] using h) r1 r2]
    | tup m =>
      cases r with
      | tup hb r2 => rw [ha] at hb; cases hb
    | int _ => cases r
    | str _ => cases r
    | _ => cases h
theorem RepL.uniq : ∀ {d e : List D} {x : List V}, D.ordL d = true → D.ordL e = true → RepL K Hs ρ d x → RepL K Hs ρ e x → d = e
  | _, _, _, _, _, .nil, r => by cases r; rfl
  | _, _, _, h1, h2, .cons h t, r => by
    cases r with
    | cons h' t' =>
      have h1 := by simpa [D.ordL] using h1
      have h2 := by simpa [D.ordL] using h2
      rw [Rep.uniq h1.1 h2.1 h h', RepL.uniq h1.2 h2.2 t t']
end
open Classical in
noncomputable def pick (K : PySem.W.Frag) (Hs : Hp) (ρ : List Addr) (ds : List D) (v : Value) : D :=
  if h : ∃ d, d ∈ ds ∧ ∃ x, RelV x v ∧ Rep K Hs ρ d x then Classical.choose h else ds.headD .non
theorem pick_mem {ds : List D} (hne : ds ≠ []) (v : Value) : pick K Hs ρ ds v ∈ ds := by
  unfold pick
  split
  · rename_i h; exact (Classical.choose_spec h).1
  · cases ds with
    | nil => exact absurd rfl hne
    | cons a l => exact List.mem_cons_self
theorem pick_eq {ds : List D} (o : OrdAll ds) {d : D} {x : V} {v : Value} (hd : d ∈ ds) (rv : RelV x v) (r : Rep K Hs ρ d x) : pick K Hs ρ ds v = d := by
  have h : ∃ d, d ∈ ds ∧ ∃ x, RelV x v ∧ Rep K Hs ρ d x := ⟨d, hd, x, rv, r⟩
  unfold pick
  rw [dif_pos h]
  obtain ⟨h1, y, h2, h3⟩ := Classical.choose_spec h
  cases h2.inj rv
  exact Rep.uniq (o.ord _ h1) (o.ord d hd) h3 r
end
/-- the items of a tracked list, value by value -/
theorem at_of_mem {K : PySem.W.Frag} {Hs : Hp} {ρ : List Addr} {ds : List D} {xs : List V} {vs : List Value} (r : RepL K Hs ρ ds xs) (rv : Vals xs vs) {v : Value} (hv : v ∈ vs) : ∃ d x, d ∈ ds ∧ x ∈ xs ∧ RelV x v ∧ Rep K Hs ρ d x := by
  obtain ⟨i, hi⟩ := List.getElem?_of_mem hv
  have hil : i < xs.length := by rw [rv.length]; exact (List.getElem?_eq_some_iff.mp hi).1
  obtain ⟨u, hu, ru⟩ := rv.get (List.getElem?_eq_getElem hil)
  rw [hi] at hu; cases hu
  obtain ⟨d, hd, rd⟩ := r.get' (List.getElem?_eq_getElem hil)
  exact ⟨d, _, List.mem_of_getElem? hd, List.getElem_mem hil, ru, rd⟩
theorem depL_mem : ∀ {l : List D} {n : Nat}, D.depL l ≤ n → ∀ a ∈ l, a.dep ≤ n
  | _ :: l, n, h, a, ha => by
    simp only [D.depL] at h
    rcases List.mem_cons.mp ha with rfl | ha
    · omega
    · exact depL_mem (by omega : D.depL l ≤ n) a ha
section
variable {X : Cx} {pins : List (Addr × Obj)} {σ : L2.St} {H Hs : Hp} {s : Shared} {ρ : List Addr} {A : Around}
theorem one_lt (I : Inv X pins σ H s) (le : Le Hs H) {b : Bool} {d e : D} {x y : V} {v u : Value} {Q : Bool → Shared → Prop} {E : Value → Shared → Prop} (rd : Rep X.K Hs ρ d x) (re : Rep X.K Hs ρ e y) (rx : RelV x v) (ry : RelV y u) (hd : d.dep ≤ 64) (he : e.dep ≤ 64) (hu : A.units + d.dep + 1 < cLine)
    (hc : D.cmp d e = true) (hb : b = true → ∀ l, d ≠ .tup l) (h : Q (D.ltb d e) s) : wpAny (model X.prog X.w) A (oneLt' b v u) Q E s := by
  cases b with
  | false => exact PySem.W.kat_one _ _ (rc_lt I le true d e A x y v u rd re rx ry hd he hu hc X.prog X.w _ _ h)
  | true =>
    cases d with
    | int i =>
      cases e with
      | int j =>
        cases rd; cases re
        obtain ⟨t, rfl⟩ := rx
        obtain ⟨t', rfl⟩ := ry
        simp only [D.ltb] at h
        exact PyProof.Rows.oneLt_int h
      | _ => simp [D.cmp] at hc
    | str i =>
      cases e with
      | str j =>
        cases rd; cases re
        obtain ⟨t, rfl⟩ := rx
        obtain ⟨t', rfl⟩ := ry
        simp only [D.ltb] at h
        rw [ltS_lex] at h
        exact PyProof.Rows.oneLt_str (by simpa using h)
      | _ => simp [D.cmp] at hc
    | tup l => exact absurd rfl (hb rfl l)
    | _ => simp [D.cmp] at hc
theorem ltbL_fin : ∀ (l m : List D) (b : Bool), (∃ a x c y, l = a :: x ∧ m = c :: y) ∨ (D.ltbL l m = decide (l.length < m.length))
  | [], [], b => .inr (by simp [D.ltbL])
  | [], _ :: _, b => .inr (by simp [D.ltbL])
  | _ :: _, [], b => .inr (by simp [D.ltbL])
  | a :: x, c :: y, b => .inl ⟨a, x, c, y, rfl, rfl⟩
theorem kat_ok (I : Inv X pins σ H s) (le : Le Hs H) {b fin : Bool} {Q : Bool → Shared → Prop} : ∀ (l m : List D) (xs ys : List V) (its its2 : List Value) (i : Nat), RepL X.K Hs ρ l xs → RepL X.K Hs ρ m ys → Vals xs its → Vals ys its2 → D.depL l ≤ 62 → D.depL m ≤ 62 → A.units + D.depL l + 1 < cLine → D.cmpL l m = true →
    fin = decide (l.length < m.length) → ((b && i == 0) = true → ∀ a ∈ l.head?, ∀ q, a ≠ .tup q) → Q (D.ltbL l m) s → PySem.W.KatLex X.prog X.w A b fin Q (its.zip its2) i s
  | [], m, _, ys, its, its2, i, .nil, r2, v1, v2, _, _, _, _, hf, _, h => by
    cases v1
    rw [List.zip_nil_left]
    refine PySem.W.kat_nil ?_
    rcases ltbL_fin [] m b with ⟨_, _, _, _, z, _⟩ | z
    · cases z
    · rw [hf, ← z]; exact h
  | a :: l, [], _, _, its, its2, i, r1, .nil, v1, v2, _, _, _, _, hf, _, h => by
    cases v2
    rw [List.zip_nil_right]
    refine PySem.W.kat_nil ?_
    rcases ltbL_fin (a :: l) [] b with ⟨_, _, _, _, _, z⟩ | z
    · cases z
    · rw [hf, ← z]; exact h
  | a :: l, c :: m, _, _, _, _, i, .cons ra r1, .cons rc r2, v1, v2, h1, h2, hu, hc, hf, hb, h => by
    cases v1 with
    | cons va v1 =>
      cases v2 with
      | cons vc v2 =>
        rw [List.zip_cons_cons]
        have d1 : a.dep ≤ 62 ∧ D.depL l ≤ 62 ∧ a.dep ≤ D.depL (a :: l) ∧ D.depL l ≤ D.depL (a :: l) := by simp only [D.depL] at h1 ⊢; omega
        have d2 : c.dep ≤ 62 ∧ D.depL m ≤ 62 := by simp only [D.depL] at h2; omega
        have hc : (D.eqv a c = true ∨ D.cmp a c = true) ∧ D.cmpL l m = true := by simpa [D.cmpL] using hc
        refine PySem.W.kat_cons (rep_eqAt I le ra rc va vc (by omega) (by omega) (by omega) X.prog X.w _ _ ?_)
        refine PySem.W.kat_go (fun e => ?_) (fun e => ?_)
        · refine PySem.W.kat_yes (kat_ok I le l m _ _ _ _ (i + 1) r1 r2 v1 v2 d1.2.1 d2.2 (by omega) hc.2 ?_ (fun z => ?_) ?_)
          · rw [hf]; simp
          · rw [Bool.and_eq_true] at z
            exact absurd z.2 (by simp)
          · have h : Q (if D.eqv a c then D.ltbL l m else D.ltb a c) s := h
            rw [if_pos e] at h
            exact h
        · refine PySem.W.kat_no (one_lt I le ra rc va vc (by omega) (by omega) (by omega) (hc.1.resolve_left (by rw [e]; simp)) (fun z => hb z a rfl) ?_)
          have h : Q (if D.eqv a c then D.ltbL l m else D.ltb a c) s := h
          rw [e, if_neg Bool.false_ne_true] at h
          exact h
/-- the name of a value's type -/
def tyNm : D → String
  | .int _ => "int"
  | .str _ => "str"
  | .tup _ => "tuple"
  | .lst _ => "list"
  | _ => ""
theorem tyNm_same {a b : D} (h1 : a.ord = true) (h2 : b.ord = true) (h : D.eqv a b = true ∨ D.cmp a b = true) : tyNm a = tyNm b := by
  rcases h with h | h
  · rw [(eqv_ord h1 h2).mp h]
  · cases a <;> cases b <;> first | rfl | simp [D.cmp] at h
theorem looks_ty (I : Inv X pins σ H s) (le : Le Hs H) {a : D} {x : V} {v : Value} (h : a.ord = true) (r : Rep X.K Hs ρ a x) (rv : RelV x v) : PySem.W.Looks (model X.prog X.w) s.heap (typeOf v) (.type (tyNm a)) := by
  cases a with
  | int i => cases r; obtain ⟨t, rfl⟩ := rv; exact .now
  | str i => cases r; obtain ⟨t, rfl⟩ := rv; exact .now
  | tup l =>
    cases r with
    | tup ha _ =>
      cases rv
      obtain ⟨_, its, _, o, h1, h2, _⟩ := I.hok _ _ (le.tup ha)
      show PySem.W.Looks _ _ (typeOf (.ref _)) (.type "tuple")
      rw [← h2]
      exact (PySem.W.Looks.ld h1).andThen .now
  | lst l =>
    cases r with
    | lst ha _ =>
      cases rv
      obtain ⟨_, its, n, _, h1⟩ := I.hok _ _ (le.lst ha)
      show PySem.W.Looks _ _ (typeOf (.ref _)) (.type "list")
      exact (PySem.W.Looks.ld h1).andThen .now
  | _ => cases h
theorem tups_of (I : Inv X pins σ H s) (le : Le Hs H) : ∀ {ds : List D} {xs : List V} {vs : List Value}, RepL X.K Hs ρ ds xs → Vals xs vs → (∀ d ∈ ds, ∃ a l, d = .tup (a :: l)) →
    ∃ fs, PySem.W.KatTups s.heap vs fs ∧ fs.length = vs.length ∧ ∀ f ∈ fs, ∃ a x l, D.tup (a :: l) ∈ ds ∧ RelV x f ∧ Rep X.K Hs ρ a x
  | _, _, _, .nil, .nil, _ => ⟨[], .nil, rfl, fun _ h => by cases h⟩
  | d :: ds, _, _, .cons r rr, .cons v vv, h => by
    obtain ⟨a, l, rfl⟩ := h d List.mem_cons_self
    obtain ⟨fs, h1, h2, h3⟩ := tups_of I le rr vv fun d hd => h d (List.mem_cons_of_mem _ hd)
    cases r with
    | tup ha ri =>
      cases ri with
      | @cons _ x0 _ xs0 ra _ =>
        cases v
        obtain ⟨_, its, rv, o, g1, g2, n, g3⟩ := I.hok _ _ (le.tup ha)
        cases rv with
        | @cons _ f _ its0 rf _ =>
          refine ⟨f :: fs, .cons g1 g2 g3 rfl h1, congrArg Nat.succ h2, fun g hg => ?_⟩
          rcases List.mem_cons.mp hg with rfl | hg
          · exact ⟨a, x0, l, List.mem_cons_self, rf, ra⟩
          · obtain ⟨a', x', l', m, q⟩ := h3 g hg
            exact ⟨a', x', l', List.mem_cons_of_mem _ m, q⟩
theorem sortable_ok (I : Inv X pins σ H s) (le : Le Hs H) {ds : List D} {xs : List V} {vs : List Value} (r : RepL X.K Hs ρ ds xs) (rv : Vals xs vs) (o : OrdAll ds) (hd : D.depL ds ≤ 60) (hn : ds.all neT = true) (h2 : 2 ≤ vs.length) (hu : A.units + 63 < cLine)
    {h₁ : Heap} {a : Addr} (kk : ∀ b ob, s.heap.get? b = some ob → b ≠ a ∧ h₁.get? b = some ob) : SrtO.SortableO X.prog X.w A { s with heap := h₁ } a vs fun v u => D.ltb (pick X.K Hs ρ ds v) (pick X.K Hs ρ ds u) := by
  intro h' keep
  have I' : Inv X pins σ H { s with heap := h' } := I.kept (t' := s.toks) fun b u e => keep b u (kk b u e).1 (kk b u e).2
  have hl : ds.length = vs.length := r.length.trans rv.length
  obtain ⟨d0, dr, rfl⟩ : ∃ d0 dr, ds = d0 :: dr := by
    cases ds with
    | nil => simp at hl; omega
    | cons a b => exact ⟨a, b, rfl⟩
  have m0 : d0 ∈ d0 :: dr := List.mem_cons_self
  have o0 := o.ord d0 m0
  have same : ∀ d ∈ d0 :: dr, tyNm d = tyNm d0 := fun d hm => tyNm_same (o.ord d hm) o0 (.inr (o.cmp d hm d0 m0))
  -- items that are no tuples
  have plain : (∀ l, d0 ≠ .tup l) → ∃ κ, (∀ (Q : SortKind → Shared → Prop) (E : Value → Shared → Prop), Q κ { s with heap := h' } → wpAny (model X.prog X.w) A (keyKind' vs.toArray) Q E { s with heap := h' }) ∧
      SrtO.Cmp X.prog X.w A { s with heap := h' } κ (fun p => p.1 ∈ vs) (SrtO.lt2 fun v u => D.ltb (pick X.K Hs ρ (d0 :: dr) v) (pick X.K Hs ρ (d0 :: dr) u)) := fun hnt => by
    have hT : (Value.type (tyNm d0) != Value.type "tuple") = true := by
      cases d0 with
      | int _ => exact (by decide : (Value.type "int" != Value.type "tuple") = true)
      | str _ => exact (by decide : (Value.type "str" != Value.type "tuple") = true)
      | lst _ => exact (by decide : (Value.type "list" != Value.type "tuple") = true)
      | tup l => exact absurd rfl (hnt l)
      | _ => cases o0
    have hT2 : (Value.type (tyNm d0) == Value.type (tyNm d0)) = true := by simp
    refine ⟨oneType', fun Q E q => PySem.W.kas_kind (T := .type (tyNm d0)) h2 (fun v hv => ?_) hT hT2 q, fun p q hp hq => ?_⟩
    · obtain ⟨d, x, hm, hx, r1, r2⟩ := at_of_mem r rv hv
      rw [← same d hm]
      exact looks_ty I' le (o.ord d hm) r2 r1
    · obtain ⟨d, x, hm, hx, r1, r2⟩ := at_of_mem r rv hp
      obtain ⟨e, y, hm2, hy, r3, r4⟩ := at_of_mem r rv hq
      have dm := depL_mem hd d hm
      have em := depL_mem hd e hm2
      show wpAny (model X.prog X.w) A (keyLt' oneType' p.1 q.1) (fun r s' => s' = _ ∧ r = D.ltb (pick X.K Hs ρ (d0 :: dr) p.1) (pick X.K Hs ρ (d0 :: dr) q.1)) (fun _ _ => False) _
      rw [keyLt'_oneType, pick_eq o hm r1 r2, pick_eq o hm2 r3 r4]
      refine one_lt I' le r2 r4 r1 r3 (by omega) (by omega) (by omega) (o.cmp d hm e hm2) (fun _ l z => ?_) ⟨rfl, rfl⟩
      subst z
      have := same _ hm
      cases d0 with
      | tup l => exact hnt l rfl
      | int _ => exact absurd (show ("tuple" : String) = "int" from this) (by decide)
      | str _ => exact absurd (show ("tuple" : String) = "str" from this) (by decide)
      | lst _ => exact absurd (show ("tuple" : String) = "list" from this) (by decide)
      | _ => cases o0
  cases d0 with
  | tup l0 =>
    have tup_all : ∀ d ∈ D.tup l0 :: dr, ∃ a l, d = .tup (a :: l) := fun d hm => by
      have h1 := same d hm
      have h3 := List.all_eq_true.mp hn d hm
      cases d with
      | tup l =>
        cases l with
        | nil => cases h3
        | cons a l => exact ⟨a, l, rfl⟩
      | int _ => exact absurd (show ("int" : String) = "tuple" from h1) (by decide)
      | str _ => exact absurd (show ("str" : String) = "tuple" from h1) (by decide)
      | lst _ => exact absurd (show ("list" : String) = "tuple" from h1) (by decide)
      | _ => exact absurd (o.ord _ hm) (by simp [D.ord])
    obtain ⟨a0, l1, e0⟩ := tup_all _ m0
    cases e0
    obtain ⟨fs, k1, k2, k3⟩ := tups_of I' le r rv tup_all
    have sameF : ∀ {a : D} {l : List D}, D.tup (a :: l) ∈ D.tup (a0 :: l1) :: dr → a.ord = true ∧ tyNm a = tyNm a0 := fun {a l} hm => by
      have c : D.cmp (.tup (a :: l)) (.tup (a0 :: l1)) = true := o.cmp _ hm _ m0
      have oa : D.ord (.tup (a :: l)) = true := o.ord _ hm
      have c : (D.eqv a a0 = true ∨ D.cmp a a0 = true) ∧ D.cmpL l l1 = true := by simpa [D.cmp, D.cmpL] using c
      have oa : a.ord = true ∧ D.ordL l = true := by simpa [D.ord, D.ordL] using oa
      have ob : a0.ord = true ∧ D.ordL l1 = true := by simpa [D.ord, D.ordL] using o0
      exact ⟨oa.1, tyNm_same oa.1 ob.1 c.1⟩
    refine ⟨tuples' (Value.type (tyNm a0) != Value.type "tuple"), fun Q E q => PySem.W.kat_kind (T := .type (tyNm a0)) k1 (by omega) (fun f hf => ?_) (by simp) q, fun p q hp hq => ?_⟩
    · obtain ⟨a, x, l, hm, r1, r2⟩ := k3 f hf
      obtain ⟨g1, g2⟩ := sameF hm
      rw [← g2]
      exact looks_ty I' le g1 r2 r1
    · obtain ⟨d, x, hm, hx, r1, r2⟩ := at_of_mem r rv hp
      obtain ⟨e, y, hm2, hy, r3, r4⟩ := at_of_mem r rv hq
      have dm := depL_mem hd d hm
      have em := depL_mem hd e hm2
      show wpAny (model X.prog X.w) A (keyLt' _ p.1 q.1) (fun r s' => s' = _ ∧ r = D.ltb (pick X.K Hs ρ (D.tup (a0 :: l1) :: dr) p.1) (pick X.K Hs ρ (D.tup (a0 :: l1) :: dr) q.1)) (fun _ _ => False) _
      rw [pick_eq o hm r1 r2, pick_eq o hm2 r3 r4]
      obtain ⟨a, l, rfl⟩ := tup_all d hm
      obtain ⟨b, m, rfl⟩ := tup_all e hm2
      have hcmp := o.cmp _ hm _ hm2
      generalize hp1 : p.1 = v1 at r1 ⊢
      generalize hq1 : q.1 = v2 at r3 ⊢
      cases r2 with
      | tup h1 i1 =>
        cases r4 with
        | tup h2' i2 =>
          cases r1
          cases r3
          obtain ⟨_, its, w1, o1, g1, g2, n1, g3⟩ := I'.hok _ _ (le.tup h1)
          obtain ⟨_, its2, w2, o2, g4, g5, n2, g6⟩ := I'.hok _ _ (le.tup h2')
          simp only [D.dep] at dm em
          refine PySem.W.kat_lt g1 g3 g4 g6 (kat_ok I' le (a :: l) (b :: m) _ _ its its2 0 i1 i2 w1 w2 (by omega) (by omega) (by omega) (by simpa [D.cmp] using hcmp) ?_ (fun z c hc q hq => ?_) ⟨rfl, rfl⟩)
          · rw [List.size_toArray, List.size_toArray, ← w1.length, ← w2.length, ← i1.length, ← i2.length]
          · have : c = a := by simpa using hc.symm
            subst this
            subst hq
            have := (sameF hm).2
            rw [← this] at z
            exact absurd (show (Value.type "tuple" != Value.type "tuple" && (0 : Nat) == 0) = true from z) (by decide)
  | int _ => exact plain fun l z => by cases z
  | str _ => exact plain fun l z => by cases z
  | lst _ => exact plain fun l z => by cases z
  | _ => cases o0
/-- the sorted values, as data -/
theorem sorted_back {ds : List D} {xs : List V} {vs out : List Value} (r : RepL X.K Hs ρ ds xs) (rv : Vals xs vs) (o : OrdAll ds) (hp : out.Perm vs) (hs : SrtO.Srtd (fun v u => D.ltb (pick X.K Hs ρ ds v) (pick X.K Hs ρ ds u)) out) :
    ∃ ys, Vals ys out ∧ RepL X.K Hs ρ (isort ds) ys := by
  have e : out.map (pick X.K Hs ρ ds) = isort ds := by
    refine isort_uniq o ?_ (List.pairwise_map.mpr hs)
    have h1 := hp.map (pick X.K Hs ρ ds)
    have h2 : vs.map (pick X.K Hs ρ ds) = ds := by
      refine List.ext_getElem? fun i => ?_
      rw [List.getElem?_map]
      cases q : vs[i]? with
      | none =>
        have : ds.length ≤ i := by rw [r.length, rv.length]; exact List.getElem?_eq_none_iff.mp q
        rw [List.getElem?_eq_none this]
        rfl
      | some v =>
        have hil : i < xs.length := by rw [rv.length]; exact (List.getElem?_eq_some_iff.mp q).1
        obtain ⟨u, hu, ru⟩ := rv.get (List.getElem?_eq_getElem hil)
        rw [q] at hu; cases hu
        obtain ⟨d, hd, rd⟩ := r.get' (List.getElem?_eq_getElem hil)
        rw [hd]
        exact congrArg some (pick_eq o (List.mem_of_getElem? hd) ru rd)
    rw [h2] at h1
    exact h1
  rw [← e]
  have mem : ∀ v ∈ out, v ∈ vs := fun v hv => hp.mem_iff.mp hv
  clear e hp hs
  induction out with
  | nil => exact ⟨[], .nil, .nil⟩
  | cons v out ih =>
    obtain ⟨ys, h1, h2⟩ := ih fun u hu => mem u (List.mem_cons_of_mem _ hu)
    obtain ⟨d, x, hm, hx, r1, r2⟩ := at_of_mem r rv (mem v List.mem_cons_self)
    refine ⟨x :: ys, .cons r1 h1, ?_⟩
    rw [List.map_cons, pick_eq o hm r1 r2]
    exact .cons r2 h2
theorem pick_swo {K : PySem.W.Frag} {ds : List D} (o : OrdAll ds) : SrtO.Swo fun v u => D.ltb (pick K Hs ρ ds v) (pick K Hs ρ ds u) := by
  by_cases hne : ds = []
  · subst hne
    have : ∀ v : Value, pick K Hs ρ [] v = .non := fun v => by
      unfold pick
      rw [dif_neg]
      · rfl
      · rintro ⟨d, h, _⟩
        cases h
    refine ⟨fun x y h => ?_, fun x y z h1 h2 => ?_⟩
    · rw [this, this] at h; cases h
    · rw [this, this]; rfl
  · have m : ∀ v, pick K Hs ρ ds v ∈ ds := pick_mem hne
    exact ⟨fun x y h => ltb_asym _ _ (o.ord _ (m x)) (o.ord _ (m y)) h, fun x y z h1 h2 => ltb_ntr _ _ _ (o.ord _ (m x)) (o.ord _ (m y)) (o.ord _ (m z)) (o.cmp _ (m y) _ (m x)) (o.cmp _ (m z) _ (m y)) (o.cmp _ (m z) _ (m x)) h1 h2⟩
theorem sortD_some {l : List D} {d : D} (h : sortD l = some d) : d = .lst (isort l) ∧ OrdAll l ∧ D.depL l ≤ 60 ∧ l.all neT = true := by
  unfold sortD at h
  obtain ⟨hc, rfl⟩ := cons_ite h
  rw [Bool.and_eq_true, Bool.and_eq_true, Bool.and_eq_true, decide_eq_true_eq] at hc
  exact ⟨rfl, OrdAll.of hc.1.1.1 hc.1.1.2, hc.1.2, hc.2⟩
end
theorem bi_sorted_ok {X : Cx} (hu : X.A.units + 70 < cLine) : CallR X (.builtin "sorted") (rBiN X.K .sorted) := by
  rintro pins s σ H vs us Q I rv ⟨Hs, ρ, B, ds, d, le, bx, r, e, h⟩
  have e : bi_sorted ds = some d := e
  unfold bi_sorted at e
  split at e
  · obtain ⟨x, rfl, rx⟩ := one_of r
    rename_i l _
    obtain ⟨a, xs, rfl, ha, rr⟩ := rx.lst le
    obtain ⟨rfl, o, hd, hn⟩ := sortD_some e
    obtain ⟨its, rvv, hl, hz⟩ := I.list (SqL.of ha)
    rw [Vals.ref1 rv]
    refine SrtO.sorted_ord (pick_swo (K := X.K) (Hs := Hs) (ρ := ρ) o) hl.isList (by rw [← rvv.length]; exact hz) (fun h2 h₁ a' _ kk => sortable_ok I le rr rvv o hd hn h2 (by rw [in1_units, in1_units]; omega) kk) fun out h1 h2 => ?_
    obtain ⟨ys, w1, w2⟩ := sorted_back rr rvv o h2.perm h1
    obtain ⟨ep, he'⟩ := PyProof.Rows.sortedAll_at s.heap its out.toArray
    have hlen : ys.length ≤ sizeLine := by
      rw [← w2.length, (isort_perm l).length_eq, rr.length]
      exact hz
    exact ⟨.ref _, upd H (s.heap.objs.size + 1) (.lst ys), I.laid (t' := s.toks) (fun _ _ => PyProof.Rows.sortedAll_old) (Nat.le_succ _) ⟨hlen, out, ep, w1, he'⟩, rfl, YldF.lst h le bx w2 _ (I.hok.fresh (Nat.le_succ _))⟩
  · cases e
end Pz
end
section
set_option Elab.async false
set_option linter.all false
set_option maxRecDepth 100000
namespace Pz
open PySem PySem.Spec PyProof.Rows L2

/-! ### a set of ints and texts -/
def ke (e : Int × Value) : Key := match e.2 with
  | .int k _ => .inl k
  | .str x _ => .inr x
  | _ => .inl 0
def OkE (w : World) (e : Int × Value) : Prop := keyIs (ke e) e.2 = true ∧ e.1 = keyH w (ke e)
/-- the set at a: S its members -/
def MSet (w : World) (h : Heap) (a : Addr) (S : Key → Prop) : Prop :=
  ∃ o es ep t, h.get? a = some o ∧ o.ExactSet ∧ o.data = .set es ep t ∧ (∀ e ∈ es.toList, OkE w e) ∧ (es.toList.map ke).Nodup ∧ (∀ k, S k ↔ k ∈ es.toList.map ke) ∧
    es.size < scanBound ∧ t.fits es.size = true ∧ Ris t.place.toList ∧ (w.params.followText "set-order" = true ∨ t.led = true)
def MSetN (w : World) (h : Heap) (a : Addr) (S : Key → Prop) (n : Nat) : Prop :=
  ∃ o es ep t, h.get? a = some o ∧ o.ExactSet ∧ o.data = .set es ep t ∧ (∀ e ∈ es.toList, OkE w e) ∧ (es.toList.map ke).Nodup ∧ (∀ k, S k ↔ k ∈ es.toList.map ke) ∧
    es.size < scanBound ∧ t.fits es.size = true ∧ Ris t.place.toList ∧ (w.params.followText "set-order" = true ∨ t.led = true) ∧ es.size ≤ n
theorem MSetN.m {w : World} {h : Heap} {a : Addr} {S : Key → Prop} {n : Nat} (x : MSetN w h a S n) : MSet w h a S := by
  obtain ⟨o, es, ep, t, h1, h2, h3, h4, h5, h6, h7, h8, h9, h10, _⟩ := x
  exact ⟨o, es, ep, t, h1, h2, h3, h4, h5, h6, h7, h8, h9, h10⟩
theorem MSetN.at_ {w : World} {h h' : Heap} {a : Addr} {S : Key → Prop} {n : Nat} (x : MSetN w h a S n) (k : ∀ o, h.get? a = some o → h'.get? a = some o) : MSetN w h' a S n := by
  obtain ⟨o, es, ep, t, h1, r⟩ := x
  exact ⟨o, es, ep, t, k o h1, r⟩
section
variable {P : Program} {w : World} {A : Around} {E : Value → Shared → Prop} {s : Shared} {a : Addr} {S : Key → Prop}
theorem ok_is {e : Int × Value} (g : OkE w e) (k : Key) : (mixKind P w).is k e.2 = true ↔ ke e = k := by
  constructor
  · intro h
    exact (mixKind P w).inj e.2 _ _ g.1 h
  · rintro rfl
    exact g.1
theorem ok_scan {v : Value} {k : Key} (h : keyIs k v = true) : v.scannable = true := by
  rcases keyIs_shape h with ⟨i, t, rfl, rfl⟩ | ⟨x, t, rfl, rfl⟩ <;> rfl
theorem ok_elems {l : List (Int × Value)} (g : ∀ e ∈ l, OkE w e) : ElemsOf (mixKind P w) l := fun e he => ⟨⟨ke e, (g e he).1, (g e he).2⟩, ok_scan (g e he).1⟩
theorem ke_of {v : Value} {k : Key} {i : Int} (h : keyIs k v = true) : ke (i, v) = k := by
  rcases keyIs_shape h with ⟨i, t, rfl, rfl⟩ | ⟨x, t, rfl, rfl⟩ <;> rfl
theorem mset_tail {g : Bool → Sem Unit} (hg : ∀ (b : Bool) (s₁ : Shared) (Q' : Unit → Shared → Prop), Q' () s₁ → wpAny (model P w) A (g b) Q' E s₁)
    {o : Obj} {es : Array (Int × Value)} {ep : Nat} {t : SetTable} (ho : s.heap.get? a = some o) (hex : o.ExactSet) (hd : o.data = .set es ep t)
    {es1 : Array (Int × Value)} {t2 : SetTable} {S' : Key → Prop} {n : Nat} (g1 : ∀ e ∈ es1.toList, OkE w e) (nd1 : (es1.toList.map ke).Nodup) (m1 : ∀ k, S' k ↔ k ∈ es1.toList.map ke)
    (hb1 : es1.size < scanBound) (hf2 : t2.fits es1.size = true) (hr : Ris t2.place.toList) (hl : w.params.followText "set-order" = true ∨ t2.led = true) (hn : es1.size ≤ n) {wasDummy : Bool} {R : Option Bool → Shared → Prop}
    (hR : ∀ h', Heap.SameBut a s.heap h' → MSetN w h' a S' n → R (some true) { s with heap := h' }) :
    wpAny (model P w) A (do
        storeSet a es1 t2
        if (!wasDummy && t2.tooFull) = true then do
            g (relayAll t2 es1 (SetTable.grown es1.size)).2.2
            storeSet a (relayAll t2 es1 (SetTable.grown es1.size)).1 (relayAll t2 es1 (SetTable.grown es1.size)).2.1
            pure (some true)
          else pure (some true)) R E s := by
  refine wpAny_bind (wpAny_storeSet_of ho hd ?_ (fits_of_scanBound hb1))
  have ho1 := store_at (es' := es1) (t' := t2) ho hd
  have sb1 := Heap.SameBut.update s.heap a (Obj.putSet es1 t2)
  split
  · have pm := relayAll_perm t2 es1 (SetTable.grown es1.size)
    have hf3 := relayAll_fits t2 es1 (SetTable.grown es1.size)
    have hr3 := relayAll_ris t2 es1 (SetTable.grown es1.size)
    have hl3 := relayAll_led t2 es1 (SetTable.grown es1.size)
    generalize relayAll t2 es1 (SetTable.grown es1.size) = Z at pm hf3 hr3 hl3 ⊢
    obtain ⟨es2, t3, gave⟩ := Z
    dsimp only at pm hf3 hr3 hl3 ⊢
    have hsz : es2.size = es1.size := by rw [← Array.length_toList, pm.length_eq, Array.length_toList]
    have hb2 : es2.size < scanBound := by rw [hsz]; exact hb1
    refine wpAny_bind (hg _ _ _ ?_)
    refine wpAny_bind (wpAny_storeSet_of ho1 rfl ?_ (fits_of_scanBound hb2))
    have ho2 := store_at (es' := es2) (t' := t3) ho1 rfl
    refine wpAny_pure (hR _ (sb1.trans (Heap.SameBut.update _ a _)) ?_)
    exact ⟨_, es2, _, t3, ho2, hex, rfl, fun e he => g1 e (pm.mem_iff.mp he), (pm.map ke).nodup_iff.mpr nd1, fun k => (m1 k).trans (pm.map ke).mem_iff.symm, hb2, hf3, hr3,
      hl.imp id fun z => by rw [hl3]; exact z, by rw [hsz]; exact hn⟩
  · exact wpAny_pure (hR _ sb1 ⟨_, es1, _, t2, ho1, hex, rfl, g1, nd1, m1, hb1, hf2, hr, hl, hn⟩)
theorem mset_add {k : Key} {v : Value} {n : Nat} {Q : Bool → Shared → Prop} (R : MSetN w s.heap a S n) (hk : keyIs k v = true) (room : n + 1 < scanBound)
    (hQ : ∀ b h', Heap.SameBut a s.heap h' → MSetN w h' a (fun j => S j ∨ j = k) (n + 1) → Q b { s with heap := h' }) :
    wpAny (model P w) A (setAddHashed a v ((mixKind P w).hash k)) Q E s := by
  obtain ⟨o, es, ep, t, ho, hex, hd, g, nd, hm, hb, hf, hr, hl, hn⟩ := R
  have hkey : (mixKind P w).is k v = true := hk
  have hsc : v.scannable = true := ok_scan hk
  have hel : ElemsOf (mixKind P w) es.toList := ok_elems g
  unfold setAddHashed setAddHashedIn
  refine wpAny_holding (wpAny_bind (wpAny_setState_of ho hd hf ?_))
  dsimp only
  rw [byScan_of hsc hb hel]
  simp only [↓reduceIte]
  unfold setAddByScan
  refine wpAny_bind ?_
  refine wpAny_bind (wpAny_rule ?_)
  refine wpAny_bind (wpAny_setScan_of hkey ho hd hf hel ?_)
  cases hfi : List.findIdx? (fun e => (mixKind P w).is k e.2) es.toList with
  | some j =>
    dsimp only
    obtain ⟨hj, pj, _⟩ := List.findIdx?_eq_some_iff_getElem.mp hfi
    have hSk : S k := (hm k).2 (List.mem_map.mpr ⟨es.toList[j], List.getElem_mem hj, (ok_is (P := P) (g _ (List.getElem_mem hj)) k).mp pj⟩)
    refine wpAny_pure (wpAny_pure ?_)
    exact hQ _ s.heap (Heap.SameBut.refl a s.heap) ⟨o, es, ep, t, ho, hex, hd, g, nd, fun i => by
      rw [← hm i]
      exact ⟨fun z => z.elim id (fun e => e ▸ hSk), .inl⟩, hb, hf, hr, hl, Nat.le_succ_of_le hn⟩
  | none =>
    dsimp only
    have hnk : k ∉ es.toList.map ke := fun z => by
      obtain ⟨e, he, q⟩ := List.mem_map.mp z
      have c := List.findIdx?_eq_none_iff.mp hfi e he
      rw [(ok_is (P := P) (g e he) k).mpr q] at c
      cases c
    have hgw : ∀ (b : Bool) {s₁ : Shared} {Q' : Unit → Shared → Prop}, Q' () s₁ → wpAny (model P w) A (match b with | true => rule "set.scan.the-table-gave-way" | false => pure ()) Q' E s₁ :=
      fun b s₁ Q' q => by cases b <;> first | exact wpAny_pure q | exact wpAny_rule q
    have pm := layNew_perm t es ((mixKind P w).hash k) v
    have hf1 := layNew_fits t es ((mixKind P w).hash k) v
    have hr1 := layNew_ris t es ((mixKind P w).hash k) v hr
    have hl1 := layNew_led t es ((mixKind P w).hash k) v
    generalize layNew t es ((mixKind P w).hash k) v = Z at pm hf1 hr1 hl1 ⊢
    obtain ⟨es1, t1, wasDummy, gave⟩ := Z
    dsimp only at pm hf1 hr1 hl1 ⊢
    rw [Array.toList_push] at pm
    have pc : es1.toList.Perm (((mixKind P w).hash k, v) :: es.toList) := pm.trans (List.perm_append_singleton _ _)
    have ek : ke ((mixKind P w).hash k, v) = k := ke_of hk
    have pk : (es1.toList.map ke).Perm (k :: es.toList.map ke) := by
      have := pc.map ke
      rw [List.map_cons, ek] at this
      exact this
    have g1 : ∀ e ∈ es1.toList, OkE w e := fun e he => by
      rcases List.mem_cons.mp (pc.mem_iff.mp he) with z | z
      · rw [z]
        refine ⟨?_, ?_⟩
        · rw [ek]; exact hk
        · rw [ek]; rfl
      · exact g e z
    have nd1 : (es1.toList.map ke).Nodup := pk.nodup_iff.mpr (List.nodup_cons.mpr ⟨hnk, nd⟩)
    have m1 : ∀ i, (S i ∨ i = k) ↔ i ∈ es1.toList.map ke := fun i => by
      rw [hm i, pk.mem_iff, List.mem_cons]
      exact Or.comm
    have hsz : es1.size = es.size + 1 := by rw [← Array.length_toList, pc.length_eq, List.length_cons, Array.length_toList]
    have hb1 : es1.size < scanBound := by rw [hsz]; omega
    have hled : w.params.followText "set-order" = true ∨ t1.led = true := hl.imp id fun z => by rw [hl1]; exact z
    have hn1 : es1.size ≤ n + 1 := by omega
    refine wpAny_bind (hgw _ ?_)
    split
    · refine wpAny_bind ?_
      rw [hashByValue_scannable 8 hsc]
      refine wpAny_pure ?_
      refine mset_tail (n := n + 1) ?_ ho hex hd g1 nd1 m1 hb1 ?_ ?_ ?_ hn1 ?_
      · intro b s₁ Q' q; cases b <;> first | exact wpAny_pure q | exact wpAny_rule q
      · first | (split <;> first | exact hf1 | exact SetTable.fits_plain_off hf1) | exact hf1
      · first | (split <;> exact hr1) | exact hr1
      · first | (split <;> exact hled) | exact hled
      · intro h' sb r; dsimp only; exact wpAny_pure (hQ _ h' sb r)
    · refine wpAny_bind (wpAny_pure ?_)
      simp only [↓reduceIte]
      refine mset_tail (n := n + 1) ?_ ho hex hd g1 nd1 m1 hb1 hf1 hr1 hled hn1 ?_
      · intro b s₁ Q' q; cases b <;> first | exact wpAny_pure q | exact wpAny_rule q
      · intro h' sb r; dsimp only; exact wpAny_pure (hQ _ h' sb r)
theorem mset_fresh {h : Heap} {a : Addr} (ho : h.get? a = some { cls := .type "set", dict := none, data := .set #[] 0 (.fresh 0 0 (!w.params.followText "set-order")) }) : MSetN w h a (fun _ => False) 0 :=
  ⟨_, #[], 0, _, ho, ⟨rfl, rfl, rfl⟩, rfl, (fun e he => by simp at he), (by simp), (fun k => by simp), (by decide), (by rfl), List.Pairwise.nil, (by
    show _ ∨ (!w.params.followText "set-order") = true
    cases w.params.followText "set-order"
    · exact .inr rfl
    · exact .inl rfl), Nat.le_refl _⟩
/-- set.update's loop -/
theorem mset_loop {I : Addr} {fp wr : List Addr} {G : Array GenState → Array GenState → Prop} {n : Nat} {Pv : Nat → Value → Prop} {St : Nat → Shared → Prop} {R : Result → Shared → Prop}
    (W : WalksS P w A.in1 I fp wr G n Pv St) (S0 : Addr) (hSf : S0 ∉ fp) (ks : List Key) (hn : n = ks.length) (hfew : ks.length + 1 < scanBound) (hval : ∀ i v, Pv i v → ∃ k, ks[i]? = some k ∧ keyIs k v = true)
    (h0 : Heap) (hS0 : h0.get? S0 = none) (hw0 : ∀ b ∈ wr, h0.get? b = none) :
    ∀ (k i : Nat) (s : Shared), n - i = k → i ≤ n → St i s → (∀ b o, h0.get? b = some o → s.heap.get? b = some o) → MSetN w s.heap S0 (fun k => k ∈ ks.take i) i →
      (∀ s', Moved (S0 :: wr) G s s' → MSetN w s'.heap S0 (fun k => k ∈ ks) n → (∀ b o, h0.get? b = some o → s'.heap.get? b = some o) → R (.ok (.ret .none)) s') →
      codeAny (model P w) A (.builtin "set.update.loop" ⟨[.ref S0, .ref I], []⟩) R s := by
  have hSw : S0 ∉ wr := fun h => hSf (W.sub _ h)
  have hsub : ∀ b ∈ wr, b ∈ S0 :: wr := fun b hb => List.mem_cons_of_mem _ hb
  have keepM : ∀ {s s' : Shared}, Moved wr G s s' → (∀ b o, h0.get? b = some o → s.heap.get? b = some o) → ∀ b o, h0.get? b = some o → s'.heap.get? b = some o := fun hm hkp b o e =>
    hm.heap b o (fun hb => by rw [hw0 b hb] at e; cases e) (hkp b o e)
  intro k
  induction k with
  | zero =>
    intro i s hk' hi hst hkp hS hR
    have hin : i = n := by omega
    subst hin
    refine codeAny_builtin F.entry_set_update_loop ?_
    rw [Around.under_plainId F.plain_set_update_loop _]
    show wpAny _ A.in1 (pyNext (.ref I) >>= _) _ _ s
    refine wpAny_bind (W.done s _ _ hst fun s' hm => ?_)
    show wpAny _ A.in1 (ret Value.none) _ _ s'
    have hkp' := keepM hm hkp
    rw [hn, List.take_length] at hS
    rw [hn] at hR
    exact wpAny_pure (hR s' (hm.mono hsub) (hS.at_ fun o e => hm.heap S0 o hSw e) hkp')
  | succ k ih =>
    intro i s hk' hi hst hkp hS hR
    have hlt : i < n := by omega
    refine codeAny_builtin F.entry_set_update_loop ?_
    rw [Around.under_plainId F.plain_set_update_loop _]
    show wpAny _ A.in1 (pyNext (.ref I) >>= _) _ _ s
    refine wpAny_bind (W.item i s _ _ hlt hst fun v s' hP hst' hm => ?_)
    obtain ⟨key, hp, hkv⟩ := hval i v hP
    have hkp' := keepM hm hkp
    have hS' := hS.at_ (h' := s'.heap) fun o e => hm.heap S0 o hSw e
    show wpAny _ A.in1 (holding [v] (setAdd S0 v) >>= _) _ _ s'
    refine wpAny_bind (wpAny_holding ?_)
    unfold setAdd
    refine wpAny_holding ?_
    refine wpAny_bind ((mixKind P w).pyHash (k := key) hkv ?_)
    refine mset_add (s := { s' with toks := s'.toks + 1 }) hS' hkv (by omega) fun b h' hsb hS2 => ?_
    have hkp2 : ∀ b o, h0.get? b = some o → h'.get? b = some o := fun b o e => (hsb.2 b (fun z => by rw [z, hS0] at e; cases e)).trans (hkp' b o e)
    have hS3 : MSetN w h' S0 (fun k => k ∈ ks.take (i + 1)) (i + 1) := by
      obtain ⟨o, es, ep, t, h1, h2, h3, h4, h5, h6, r⟩ := hS2
      refine ⟨o, es, ep, t, h1, h2, h3, h4, h5, fun j => ?_, r⟩
      have q : (j ∈ ks.take (i + 1)) ↔ (j ∈ ks.take i ∨ j = key) := by
        rw [List.take_add_one, hp]
        simp
      exact q.trans (h6 j)
    refine wpAny_pure ⟨plainId_quiet F.plain_set_update_loop _, ih (i + 1) _ (by omega) hlt (W.frame _ s' _ _ hst' (Nat.le_succ _) fun b hb o e => ?_) hkp2 hS3 fun s'' hm'' hS'' hkp'' => ?_⟩
    · rw [hsb.2 b (fun h : b = S0 => hSf (by rw [← h]; exact hb))]; exact e
    · refine hR s'' (Moved.trans W.gtrans ((hm.mono hsub).then_heap (Nat.le_succ _) fun b o hb e => ?_) hm'') hS'' hkp''
      rw [hsb.2 b (fun h : b = S0 => hb (by rw [h]; exact List.mem_cons_self))]; exact e
set_option maxHeartbeats 3200000 in
/-- set(xs) -/
theorem call_mset {l : Addr} {items : Array Value} (ks : List Key) {Q : Value → Shared → Prop} (hh : A.handled = none) (hl : s.heap.IsList l items) (hit : ∀ (i : Nat) (v : Value), items[i]? = some v → ∃ k, ks[i]? = some k ∧ keyIs k v = true) (hisz : items.size = ks.length) (hfew : ks.length + 1 < scanBound)
    (h : ∀ (h' : Heap) (tk : Nat), MSetN w h' s.heap.objs.size (fun k => k ∈ ks) ks.length → (∀ b o, s.heap.get? b = some o → h'.get? b = some o) → Q (.ref s.heap.objs.size) { s with heap := h', toks := tk }) :
    wpAny (model P w) A (call (.type "set") [.ref l]) Q E s := by
  obtain ⟨c, tl, hmro⟩ := F.called_set.mro
  have hmade := F.called_set.made
  have hsub := F.called_set.sub
  refine wpAny_call (codeAny_of_tree ?_)
  show wpAny _ _ (callAny (.type "set") _) _ _ _
  refine wpAny_pure ⟨Code.quiet_builtin _ (by decide +kernel), codeAny_builtin F.entry_type_call ?_⟩
  rw [Around.under_plain (weight_type_call_type "set" [.ref l] []) rfl]
  have h1 := F.called_set.notType
  have h2 := F.called_set.canCreate
  have hct := F.typeCall_set_1 (.ref l)
  repeat (any_goals (first | assumption | wp_step))

  refine codeAny_mono (code_set_led1 (.ref l) (E := E) (Q₁ := fun obj s₁ => obj = .ref s.heap.objs.size ∧ s₁ = { s with heap := s.heap.push { cls := .type "set", dict := none, data := .set #[] 0 (.fresh 0 0 (!w.params.followText "set-order")) } }) ⟨rfl, rfl⟩) fun r s₁ hr => ?_
  cases r with
  | error e => exact hr
  | ok fl =>
    cases fl with
    | ret obj =>
      obtain ⟨rfl, rfl⟩ := hr
      have hS : (s.heap.push { cls := .type "set", dict := none, data := .set #[] 0 (.fresh 0 0 (!w.params.followText "set-order")) }).get? s.heap.objs.size = some { cls := .type "set", dict := none, data := .set #[] 0 (.fresh 0 0 (!w.params.followText "set-order")) } := Heap.get?_push_size _ rfl
      have hT : Shared.TypeIs { s with heap := s.heap.push { cls := .type "set", dict := none, data := .set #[] 0 (.fresh 0 0 (!w.params.followText "set-order")) } } (.ref s.heap.objs.size) "set" := ⟨_, hS, rfl⟩
      have hli := F.called_set.init.lookup
      have hbi := F.called_set.init.bind (.ref s.heap.objs.size)
      repeat (any_goals (first | assumption | wp_step))

      refine codeAny_mono (codeAny_call_builtin (R := wants (fun r s₂ => r = .none ∧ ∃ h' tk, s₂ = { s with heap := h', toks := tk } ∧ MSetN w h' s.heap.objs.size (fun k => k ∈ ks) ks.length ∧
          (∀ b o, s.heap.get? b = some o → h'.get? b = some o)) E) F.called_set.init.plain F.entry_set_init (check_set_init_1 hT ?_)) fun r₂ s₂ hr₂ => ?_
      · obtain ⟨ol, hol, hcl, nl, hdl⟩ := hl
        obtain ⟨ocls, odict, odata, oslots⟩ := ol
        simp only at hcl hdl
        subst hcl; subst hdl
        have hol' : (s.heap.push { cls := .type "set", dict := none, data := .set #[] 0 (.fresh 0 0 (!w.params.followText "set-order")) }).get? l = some { cls := .type "list", dict := odict, data := .seq items nl, slots := oslots } := Heap.get?_push_of_some _ hol
        have hsls := F.sub_list_set
        have hslf := F.sub_list_frozenset
        have hne : (Value.type "list" == Value.type "dict") = false := by decide
        have hl1 : (s.heap.push { cls := .type "set", dict := none, data := .set #[] 0 (.fresh 0 0 (!w.params.followText "set-order")) }).IsList l items := ⟨_, hol', rfl, nl, rfl⟩
        unfold Builtin.«set.__init__» noKeywords Builtin.Frozenset.updateFrom
        generalize hPI : pyIter = PI
        wp_walk
        subst hPI

        refine wpAny_pyIter_list hl1 ?_
        refine wpAny_bind (wpAny_runValue ?_)
        have hlS : l < s.heap.objs.size := Heap.lt_size hol
        have hh3 : A.in1.in1.in1.handled = none := by simp [hh]
        have hneI : l ≠ (s.heap.push { cls := .type "set", dict := none, data := .set #[] 0 (.fresh 0 0 (!w.params.followText "set-order")) }).objs.size := by
          rw [Heap.size_push]; exact Nat.ne_of_lt (Nat.lt_succ_of_lt hlS)
        have hSf : s.heap.objs.size ∉ [(s.heap.push { cls := .type "set", dict := none, data := .set #[] 0 (.fresh 0 0 (!w.params.followText "set-order")) }).objs.size, l] := by
          rw [Heap.size_push]; simp only [List.mem_cons, List.mem_singleton, List.not_mem_nil, or_false, not_or]
          exact ⟨Nat.ne_of_lt (Nat.lt_succ_self _), Nat.ne_of_gt hlS⟩
        have none_of : ∀ b, s.heap.objs.size ≤ b → s.heap.get? b = none := fun b hb => by
          cases q : s.heap.get? b with
          | none => rfl
          | some o => exact absurd (Nat.lt_of_lt_of_le (Heap.lt_size q) hb) (Nat.lt_irrefl _)
        refine mset_loop ((Walks.list hh3 _ l hneI items).toS) s.heap.objs.size
          hSf ks hisz hfew hit s.heap (none_of _ (Nat.le_refl _)) (fun b hb => none_of b (by
            rw [List.mem_singleton.mp hb, Heap.size_push]
            exact Nat.le_succ _)) (items.size - 0) 0 _ (by omega) (Nat.zero_le _)
          ⟨⟨_, Heap.get?_push_size _ rfl, rfl, rfl⟩, (hl1.push _)⟩ (fun b o e => Heap.get?_push_of_some _ (Heap.get?_push_of_some _ e)) ?hS0 ?hR
        case hS0 =>
          have hget : ((s.heap.push { cls := .type "set", dict := none, data := .set #[] 0 (.fresh 0 0 (!w.params.followText "set-order")) }).push { cls := .type "list_iterator", data := .fields #[.ref l, .int 0 0] }).get? s.heap.objs.size
              = some { cls := .type "set", dict := none, data := .set #[] 0 (.fresh 0 0 (!w.params.followText "set-order")) } := Heap.get?_push_of_some _ hS
          have hf := mset_fresh (w := w) hget
          obtain ⟨o, es, ep, t, q1, q2, q3, q4, q5, q6, r⟩ := hf
          exact ⟨o, es, ep, t, q1, q2, q3, q4, q5, fun k => by rw [← q6 k]; simp, r⟩
        case hR =>
          intro s' hm hS' hkp
          obtain ⟨h', g2, d', tk', os'⟩ := s'
          have eg : g2 = s.gens := hm.gens
          have ed : d' = s.drawn := hm.drawn
          have eo : os' = s.os := hm.os
          subst eg; subst ed; subst eo
          show wpAny _ _ _ _ _ _
          refine wpAny_pure ?_
          show wpAny _ _ (ret Value.none) _ _ _
          rw [hisz] at hS'
          exact wpAny_pure ⟨rfl, h', tk', rfl, hS', hkp⟩

      · cases r₂ with
        | error e => exact hr₂
        | ok fl₂ =>
          cases fl₂ with
          | ret r =>
            obtain ⟨rfl, h', tk, rfl, hS', hk'⟩ := hr₂
            repeat (any_goals (first | assumption | wp_step))
            exact h _ _ hS' hk'
          | _ => exact hr₂.elim
    | _ => exact hr.elim
end
end Pz
end
section
set_option Elab.async false
set_option linter.all false
set_option maxRecDepth 100000
namespace Pz
open PySem PySem.Spec PyProof.Rows L2

/-! ### sorted(set(xs)) -/
theorem dedup_mem : ∀ {l : List D}, (∀ a ∈ l, a.ord = true) → ∀ x, x ∈ dedup l ↔ x ∈ l
  | [], _, x => by simp [dedup]
  | a :: l, h, x => by
    have ih := dedup_mem (l := l) (fun b hb => h b (List.mem_cons_of_mem _ hb))
    unfold dedup
    split
    · rename_i hc
      obtain ⟨y, hy, e⟩ := List.any_eq_true.mp hc
      have hy' := (ih y).mp hy
      have := (eqv_ord (h y (List.mem_cons_of_mem _ hy')) (h a List.mem_cons_self)).mp e
      subst this
      rw [ih x]
      exact ⟨fun z => List.mem_cons_of_mem _ z, fun z => (List.mem_cons.mp z).elim (fun e => by rw [e]; exact hy') id⟩
    · rw [List.mem_cons, List.mem_cons, ih x]
theorem dedup_nodup : ∀ {l : List D}, (∀ a ∈ l, a.ord = true) → (dedup l).Nodup
  | [], _ => List.nodup_nil
  | a :: l, h => by
    have h' : ∀ b ∈ l, b.ord = true := fun b hb => h b (List.mem_cons_of_mem _ hb)
    unfold dedup
    split
    · exact dedup_nodup h'
    · rename_i hc
      refine List.nodup_cons.mpr ⟨fun z => hc ?_, dedup_nodup h'⟩
      exact List.any_eq_true.mpr ⟨a, z, (eqv_ord (h a List.mem_cons_self) (h a List.mem_cons_self)).mpr rfl⟩
theorem key1_ord {a : D} (h : D.key1 a = true) : a.ord = true := by cases a <;> first | rfl | cases h
def keyD : Key → D
  | .inl i => .int i
  | .inr x => .str x.cps.toList
theorem repKs_mem : ∀ {l : List D} {ks : List Key}, RepKs l ks → l = ks.map keyD ∧ ∀ k ∈ ks, KeyR (keyD k) k
  | _, _, .nil => ⟨rfl, fun _ h => by cases h⟩
  | _, _, .int r => by
    obtain ⟨h1, h2⟩ := repKs_mem r
    refine ⟨by rw [List.map_cons, ← h1]; rfl, fun k hk => ?_⟩
    rcases List.mem_cons.mp hk with rfl | hk
    · exact .int _
    · exact h2 k hk
  | _, _, .str hx r => by
    obtain ⟨h1, h2⟩ := repKs_mem r
    refine ⟨by rw [List.map_cons, ← h1]; rfl, fun k hk => ?_⟩
    rcases List.mem_cons.mp hk with rfl | hk
    · exact .str hx
    · exact h2 k hk
section
variable {X : Cx} {Φ : Fn} {W : WX} {a : Expr} {ia : E} {p q pos pos2 : Pos}
abbrev mext (w : World) (q : Addr) (ks : List Key) : HO := .ext fun h => MSet w h q (fun k => k ∈ ks)
def rMkSet (K : PySem.W.Frag) (w : World) : List V → Hp → VK → Prop := fun vs H Q => ∃ Hs ρ l x ks, vs = [x] ∧ Le Hs H ∧ RP K Hs ρ H (.lst l) x ∧ l.length < 4000 ∧ RepKs l ks ∧ ∀ q, H q = none → Q (.ref q) (upd H q (mext w q ks))
theorem set_ok_ (hc : X.calm = true) : CallR X (.type "set") (rMkSet X.K X.w) := by
  rintro pins s σ H vs us Q I rv ⟨Hs, ρ, l, x, ks, rfl, le, rx, hl, hk, h⟩
  obtain ⟨a, xs, rfl, ha, rr⟩ := rx.lst le
  obtain ⟨its, rvv, pl, hz⟩ := I.list (SqL.of ha)
  rw [Vals.ref1 rv]
  have hlen : its.length = ks.length := by
    rw [← rvv.length, ← rr.length, (repKs_mem hk).1, List.length_map]
  refine call_mset (w := X.w) ks (I.ok.hd hc) pl.isList (fun i v hv => ?_) (by rw [List.size_toArray]; exact hlen) ?_ fun h' tk hS hkp => ?_
  · have hv : its[i]? = some v := by simpa using hv
    have hil : i < xs.length := by rw [rvv.length]; exact (List.getElem?_eq_some_iff.mp hv).1
    obtain ⟨u, hu, ru⟩ := rvv.get (List.getElem?_eq_getElem hil)
    rw [hv] at hu; cases hu
    obtain ⟨d, hd, rd⟩ := rr.get' (List.getElem?_eq_getElem hil)
    obtain ⟨e1, e2⟩ := repKs_mem hk
    rw [e1, List.getElem?_map] at hd
    obtain ⟨k, hkk, rfl⟩ := Option.map_eq_some_iff.mp hd
    refine ⟨k, hkk, ?_⟩
    have : xs[i] = kV k := by
      have hkr := e2 k (List.mem_of_getElem? hkk)
      generalize xs[i] = z at rd
      cases k with
      | inl j => cases rd; rfl
      | inr z =>
        cases rd
        rfl
    rw [this] at ru
    exact kV_is (P := X.prog) (w := X.w) ru
  · have := (repKs_mem hk).1
    have : l.length = ks.length := by rw [this, List.length_map]
    show ks.length + 1 < 4096
    omega
  · have m := hS.m
    have I2 := I.laid (a := s.heap.objs.size) (o := mext X.w s.heap.objs.size ks) (t' := tk) hkp (Nat.le_refl _) ⟨m, (by obtain ⟨o, _, _, _, ho, _⟩ := m; exact ⟨o, ho⟩), fun h1 h2 m1 k => (by
      obtain ⟨o, es, ep, t, ho, r⟩ := m1
      exact ⟨o, es, ep, t, k o ho, r⟩)⟩
    exact ⟨.ref _, _, I2, rfl, h _ (I.hok.fresh (Nat.le_refl _))⟩
def rSrtSet (K : PySem.W.Frag) (w : World) : List V → Hp → VK → Prop := fun vs H Q => ∃ Hs ρ q l ks, vs = [.ref q] ∧ Le Hs H ∧ H q = some (mext w q ks) ∧ RepKs l ks ∧ OrdAll (dedup l) ∧ (∀ a ∈ l, D.key1 a = true) ∧ ∀ p ys, H p = none → RepL K Hs ρ (isort (dedup l)) ys → Q (.ref p) (upd H p (.lst ys))
theorem sset_ok (hc : X.calm = true) (hu : X.A.units + 70 < cLine) : CallR X (.builtin "sorted") (rSrtSet X.K X.w) := by
  rintro pins s σ H vs us Q I rv ⟨Hs, ρ, q, l, ks, rfl, le, hq, hk, o, hk1, h⟩
  rw [Vals.ref1 rv]
  obtain ⟨⟨ob, es, ep, t, ho, hex, hd, g, nd, hm, hb, hf, hr, hl⟩, _, _⟩ := (show ObjOk X.prog X.w H s.heap q (mext X.w q ks) from I.hok q _ hq)
  refine Calls.call_function_entry kind_sorted plain_sorted entry_sorted (args_sorted1 _) ?_
  unfold Builtin.«sorted»
  refine wpAny_bind (m := checkCount "sorted" 1 1 _) (wpAny_pure ?_)
  refine wpAny_bind (collect_set (A := X.A.in1) (I.ok.hd hc) ⟨ob, ho, hex.1, hd⟩ hf hb hr hl fun s1 vs k1 hz g1 o1 pm => ?_)
  have I1 : Inv X pins σ H s1 := I.call' (ch := []) o1 (Un.kept k1) (I.hok.kept k1) (by rw [g1]; exact I.bare) fun b hb => by cases hb
  obtain ⟨e1, e2⟩ := repKs_mem hk
  -- the values as data
  let kv : Value → Key := fun v => ke (0, v)
  have hv : ∀ v ∈ vs, kv v ∈ ks ∧ keyIs (kv v) v = true := fun v hv => by
    obtain ⟨e, he, q⟩ := List.mem_map.mp (pm.mem_iff.mp hv)
    have : kv v = ke e := by rw [← q]; rfl
    rw [this, ← q]
    exact ⟨(hm _).mpr (List.mem_map_of_mem he), (g e he).1⟩
  have hvals : Vals (vs.map fun v => kV (kv v)) vs := by
    clear pm
    induction vs with
    | nil => exact .nil
    | cons v vs ih => exact .cons (relV_key (hv v List.mem_cons_self).2) (ih fun u hu => hv u (List.mem_cons_of_mem _ hu))
  have hrep : RepL X.K Hs ρ (vs.map fun v => keyD (kv v)) (vs.map fun v => kV (kv v)) := by
    clear pm hvals
    induction vs with
    | nil => exact .nil
    | cons v vs ih => exact .cons (e2 _ (hv v List.mem_cons_self).1).rep (ih fun u hu => hv u (List.mem_cons_of_mem _ hu))
  have kd_inj : ∀ a b : Key, keyD a = keyD b → a = b := fun a b e => by
    cases a with
    | inl i =>
      cases b with
      | inl j => cases e; rfl
      | inr y => cases e
    | inr x =>
      cases b with
      | inl j => cases e
      | inr y =>
        have := D.str.inj e
        rw [TL.ext_tl this]
  have hord : ∀ a ∈ l, a.ord = true := fun a ha => key1_ord (hk1 a ha)
  have hperm : (vs.map fun v => keyD (kv v)).Perm (dedup l) := by
    have pk : (vs.map kv).Perm (es.toList.map ke) := by
      have := pm.map kv
      rw [List.map_map] at this
      exact this
    have nd2 : (vs.map kv).Nodup := pk.nodup_iff.mpr nd
    have nd3 : ((vs.map kv).map keyD).Nodup := by
      rw [List.Nodup, List.pairwise_map]
      exact nd2.imp fun h z => h (kd_inj _ _ z)
    rw [List.map_map] at nd3
    refine (List.perm_ext_iff_of_nodup nd3 (dedup_nodup hord)).mpr fun a => ?_
    rw [dedup_mem hord, e1, List.mem_map, List.mem_map]
    constructor
    · rintro ⟨v, hv', rfl⟩
      exact ⟨kv v, (hv v hv').1, rfl⟩
    · rintro ⟨k, hk', rfl⟩
      have : k ∈ vs.map kv := pk.mem_iff.mpr ((hm k).mp hk')
      obtain ⟨v, hv', rfl⟩ := List.mem_map.mp this
      exact ⟨v, hv', rfl⟩
  have o2 : OrdAll (vs.map fun v => keyD (kv v)) := o.sub fun a ha => hperm.mem_iff.mp ha
  have dep0 : ∀ m : List D, (∀ a ∈ m, D.key1 a = true) → D.depL m = 0 ∧ m.all neT = true := fun m => by
    induction m with
    | nil => intro _; exact ⟨rfl, rfl⟩
    | cons a m ih =>
      intro h
      obtain ⟨i1, i2⟩ := ih fun b hb => h b (List.mem_cons_of_mem _ hb)
      have ha := h a List.mem_cons_self
      cases a with
      | int i => exact ⟨by simp [D.depL, D.dep, i1], by simp [neT, i2]⟩
      | str i => exact ⟨by simp [D.depL, D.dep, i1], by simp [neT, i2]⟩
      | _ => cases ha
  have hkey : ∀ a ∈ vs.map (fun v => keyD (kv v)), D.key1 a = true := fun a ha => hk1 a ((dedup_mem hord a).mp (hperm.mem_iff.mp ha))
  obtain ⟨hdep, hne⟩ := dep0 _ hkey
  have hvl : vs.length ≤ sizeLine := by
    have q1 : vs.length = es.size := by rw [pm.length_eq, List.length_map, Array.length_toList]
    have q2 : es.size < 4096 := hb
    rw [sizeLine_eq, q1]
    omega
  refine wpAny_bind (wpAny_newList ?_ hvl)
  have hoL : (s1.heap.push (seqObj "list" vs.toArray 0)).get? s1.heap.objs.size = some (seqObj "list" vs.toArray 0) := Heap.get?_push_size _ rfl
  refine wpAny_bind (wpAny_holding (wpAny_call_entry slot_list_sort ⟨_, hoL, rfl⟩ entry_list_sort (SrtO.list_sort_ord (pick_swo (K := X.K) (Hs := Hs) (ρ := ρ) o2) hoL hvl (fun h2 => sortable_ok I1 le hrep hvals o2 (by omega) hne h2 (by rw [in1_units, in1_units]; omega) fun b ob e => ⟨Nat.ne_of_lt (Heap.lt_size e), Heap.get?_push_of_some _ e⟩) fun out h1 h2 => ⟨_, rfl, ?_⟩) (args_list_sort _)))
  obtain ⟨ys, w1, w2⟩ := sorted_back hrep hvals o2 h2.perm h1
  have eiso : isort (vs.map fun v => keyD (kv v)) = isort (dedup l) := isort_uniq o ((isort_perm _).trans hperm) (isort_sorted o2)
  rw [eiso] at w2
  obtain ⟨c, hcx⟩ := sortedHeap_at (vs := vs) (out := out.toArray) hoL
  have hlen : ys.length ≤ sizeLine := by rw [w1.length, h2.len]; exact hvl
  have keep : ∀ b u, s1.heap.get? b = some u → (sortedHeap (s1.heap.push (seqObj "list" vs.toArray 0)) s1.heap.objs.size vs out.toArray).get? b = some u := fun b u e => by
    have hlt := Heap.lt_size e
    rw [sortedHeap_old (Nat.ne_of_lt hlt) (by rw [size_push']; exact Nat.lt_succ_of_lt hlt)]
    exact Heap.get?_push_of_some _ e
  refine wpAny_pure ⟨_, rfl, .ref s1.heap.objs.size, upd H s1.heap.objs.size (.lst ys), I1.laid (t' := s1.toks) keep (Nat.le_refl _) ⟨hlen, out, c, w1, hcx⟩, rfl, h _ ys (I1.hok.fresh (Nat.le_refl _)) w2⟩
theorem e_sset (hc : X.calm = true) (hu : X.A.units + 70 < cLine) (hg : Gl X "sorted") (hm : X.mg "sorted" = none) (hg2 : Gl X "set") (hm2 : X.mg "set" = none) (ha : EOk X Φ W a ia)
    (he : starEach [a] X.env = (false, eval a X.env) :: starEach [] X.env := by rfl) (he2 : starEach [.Call (.Name "set" q) [a] [] pos] X.env = (false, eval (.Call (.Name "set" q) [a] [] pos) X.env) :: starEach [] X.env := by rfl) :
    EOk X Φ W (.Call (.Name "sorted" p) [.Call (.Name "set" q) [a] [] pos] [] pos2) (.bi .sset (.cons ia .nil)) :=
  ⟨fun p => (pe_callB (sset_ok hc hu) hg hm (by decide +kernel) (pa_cons (pe_callTy (set_ok_ hc) hg2 hm2 (by decide +kernel) ((a_cons ha a_nil he).run true) (by decide) (by decide) he) pa_nil he2) (by decide) (by decide) he2).weaken fun σV H Q ⟨Hs, ρ, σ, B, st, out⟩ => by
    refine ⟨Hs, ρ, σ, B, st, Out.bindL (p := p) (Q := Q) out fun ds B1 vs H1 Hs1 ρ1 g1 l1 b1 r1 out => ?_⟩
    obtain ⟨d, hd, out⟩ := Out.of (p := p) (Q := Q) out
    have rp := rp_of r1 b1
    have hd : bi_sset (ds.map (drf B1)) = some d := hd
    generalize ds.map (drf B1) = es at rp hd
    unfold bi_sset at hd
    split at hd
    · rename_i l
      obtain ⟨x, rfl, rx⟩ := one_of rp
      obtain ⟨hcnd, hd⟩ := cons_ite' hd
      rw [Bool.and_eq_true, decide_eq_true_eq] at hcnd
      obtain ⟨rfl, o, _, _⟩ := sortD_some hd
      obtain ⟨aa, xs, rfl, ha', rr⟩ := rx.lst l1
      obtain ⟨ks, hks, _⟩ := RepKs.of hcnd.1 rr
      refine ⟨Hs1, ρ1, l, _, ks, rfl, l1, rx, hcnd.2, hks, fun q hq => ⟨Hs1, ρ1, q, l, ks, rfl, le_new l1 hq, upd_same, hks, o, fun a ha => List.all_eq_true.mp hcnd.1 a ha, fun p' ys hp' hys => ?_⟩⟩
      have y : Yld X.K p Hs1 ρ1 H1 B1 (.lst (isort (dedup l))) Q := out
      have hp0 : H1 p' = none := by
        by_cases z : p' = q
        · subst z; exact hq
        · rw [upd_ne z] at hp'; exact hp'
      exact y.toF p' _ Hs1 ρ1 ((gr_new hq).trans (gr_new hp')) (le_new (le_new l1 hq) hp') (bok_new hp' (bok_new hq b1)) ⟨ys, upd_same, hys⟩ (l1.there hp0) (rho_new hp0 b1) hp0
    · cases hd⟩
end
end Pz
end
section
set_option Elab.async false
set_option linter.all false
set_option maxRecDepth 100000
namespace Pz
open PySem PySem.Spec PyProof.Rows L2
theorem law_sp {K : PySem.W.Frag} {H : Hp} {a : Addr} {ns : List Int} {φ : List D → List D → Rs (D × List D)} (h : ∃ B, φ [.scr (ns.map .int)] [] = .ok (.bl true, B)) (hs : SqL K H a (ns.map V.int)) :
    spD K φ [.ref a] H (fun v _ => v = .bl true) fun _ _ _ => False := by
  obtain ⟨B, h⟩ := h
  have hr : ∀ ns : List Int, RepL K H [] (ns.map D.int) (ns.map V.int) := fun ns => by
    induction ns with
    | nil => exact .nil
    | cons n ns ih => exact .cons (.int n) ih
  refine ⟨H, [], [], [.scr (ns.map .int)], Le.refl _, ⟨rfl, List.nodup_nil, fun n a d e => by cases n <;> cases e⟩, .cons (.scr hs (hr ns)) .nil, ?_⟩
  rw [h]
  intro v H' Hs' ρ' g l b r
  exact bl_of r
end Pz
end
section
set_option Elab.async false
set_option linter.all false
set_option maxRecDepth 100000
namespace L2
open PySem PySem.Spec PyProof.Rows
/-! ### enumerate of a tuple, of a text -/
theorem meets_enum1 {v : Value} {o : Obj} {H : Heap → Prop} (B : Begins v o H) :
    Meets (Builtin.«enumerate.__new__» ⟨[.type "enumerate", v], []⟩) (fun _ R s => H s.heap ∧
      R (.ok (.ret (.ref (s.heap.push o).objs.size))) { s with heap := (s.heap.push o).push { cls := .type "enumerate", data := .fields #[.none, .bool false, .ref s.heap.objs.size, rawInt 0, .none, .none] } }) :=
  .of_wp fun prog w A R s h => by
    obtain ⟨hp, g, d, tk, os⟩ := s; obtain ⟨h1, h⟩ := h
    have hsub := sub_enumerate
    have q1 : ∀ {A' : Around} {E : Value → Shared → Prop} {Q : Value → Shared → Prop}, Q (.ref hp.objs.size) ⟨hp.push o, g, d, tk, os⟩ → wpAny (model prog w) A' (pyIter v) Q E ⟨hp, g, d, tk, os⟩ :=
      fun q => B.iter prog w _ _ ⟨hp, g, d, tk, os⟩ _ h1 q
    wp_walk using q1
    refine wpAny_stack_any fun st => wpAny_pure ?_
    split
    · rename_i c _ _ _ _ _
      cases (c == Value.type "enumerate")
      · wp_walk using q1
        exact ⟨_, rfl, h⟩
      · wp_walk using q1
        exact ⟨_, rfl, h⟩
    · wp_walk using q1
      exact ⟨_, rfl, h⟩
theorem call_enum1 {prog : Program} {w : World} {A : Around} {E : Value → Shared → Prop} {s : Shared} {v : Value} {o : Obj} {H : Heap → Prop} {Q : Value → Shared → Prop} (B : Begins v o H) (h1 : H s.heap)
    (h : ∀ h', IsEnum h' (s.heap.objs.size + 1) s.heap.objs.size 0 .none → h'.get? s.heap.objs.size = some o → h'.objs.size = s.heap.objs.size + 2 →
      (∀ b o, s.heap.get? b = some o → h'.get? b = some o) → Q (.ref (s.heap.objs.size + 1)) { s with heap := h' }) :
    wpAny (model prog w) A (call (.type "enumerate") [v]) Q E s := by
  refine callType_new F.called_enumerate (by decide) (F.typeCall_enumerate_1 _) (F.newCall_enumerate_1 _) (fun obj => F.args_object_init_2 obj _) F.entry_enumerate_new
    (meets_enum1 B) ⟨h1, ?_⟩
  have hz : (s.heap.push o).objs.size = s.heap.objs.size + 1 := Heap.size_push ..
  show _ ∧ _
  rw [hz]
  have he : IsEnum ((s.heap.push o).push { cls := .type "enumerate", data := .fields #[.none, .bool false, .ref s.heap.objs.size, rawInt 0, .none, .none] }) (s.heap.objs.size + 1) s.heap.objs.size 0 .none := by
    have := Heap.get?_push_size (s.heap.push o) (o := { cls := .type "enumerate", data := .fields #[.none, .bool false, .ref s.heap.objs.size, rawInt 0, .none, .none] }) rfl
    rw [hz] at this; exact this
  refine ⟨⟨_, he, rfl⟩, h _ he (Heap.get?_push_of_some _ (Heap.get?_push_size _ B.free)) (by rw [Heap.size_push, hz]) fun b o x => Heap.get?_push_of_some _ (Heap.get?_push_of_some _ x)⟩
/-- the tuple at a (of n items): each item in a new pair -/
def IteT (K : PySem.W.Frag) (a : Addr) (n : Nat) : It :=
  ⟨fun i H => ∃ (xs : List V) (x : V), SqT K H a xs ∧ xs.length = n ∧ xs[i]? = some x, fun i H v H' => ∃ T x, v = .ref T ∧ H T = none ∧ H' = upd H T (.tup [.int (i : Nat), x]) ∧ ∀ xs, SqT K H a xs → xs[i]? = some x, fun i H => ∃ xs : List V, SqT K H a xs ∧ xs.length = n ∧ n ≤ i⟩
theorem turn_enumT {P : Program} {w : World} {K : PySem.W.Frag} {elts : List Expr} {kk : Nat} {tpos : Pos} (a e it : Addr) (n : Nat) (hai : a ≠ it) (hea : e ≠ a) :
    Turn P w K (.Tuple elts kk tpos) (IteT K a n) [e, it] e (fun i h => (∃ old, IsEnum h e it ((i : Nat) : Int) old) ∧ h.IsTupleIter it a i ∧ e ≠ it ∧ i ≤ n) where
  mem := by simp
  obj := fun i h st b hb => by
    obtain ⟨⟨old, he⟩, ⟨o, ho, hc, hd⟩, _⟩ := st
    have e' : b = e ∨ b = it := by simpa using hb
    rcases e' with z | z
    · rw [z]; exact ⟨_, he, fun v q => nomatch q⟩
    · rw [z]; exact ⟨o, ho, fun v q => by rw [hd] at q; cases q⟩
  keep := fun i h h' st k => let ⟨⟨old, he⟩, hi, hne, hin⟩ := st; ⟨⟨old, k e (by simp) _ he⟩, hi.at fun o q => k it (by simp) o q, hne, hin⟩
  item := by
    intro X hP hw hK hc i pins s σ H E I hf st hg
    subst hP hw hK
    obtain ⟨⟨old, he⟩, hit, hne, hin⟩ := st
    obtain ⟨xs, x, hq, hn, hx⟩ := hg
    obtain ⟨its, rv, p, hz⟩ := I.tuple hq
    obtain ⟨u, hu, ru⟩ := rv.get hx
    have hel : e < s.heap.objs.size := Heap.lt_size he
    have hil : it < s.heap.objs.size := by obtain ⟨_, q, _⟩ := hit; exact Heap.lt_size q
    have hlt : i < its.toArray.size := by
      have h1 := (List.getElem?_eq_some_iff.mp hx).1
      have h2 := rv.length
      simp; omega
    refine wpAny_pyNext_enum_itemD (Draws.tuple (A := X.A.in1) (show X.A.in1.handled = none from I.ok.hd hc) it a hai its.toArray) he ⟨hit, p⟩ hlt hne (by simp [hea, hne]) fun x' h' tk hP ho hst hT hsz hk => ?_
    have hxu : x' = u := by
      have h3 : its.toArray[i]? = some u := by simpa using hu
      rw [h3] at hP
      exact (Option.some.inj hP).symm
    subst hxu
    refine ⟨_, rfl, wpAny_letOwnedTupleGo_enum (s := { s with heap := h', toks := tk + 1 }) ho fun h'' he' sb => ?_⟩
    have hT2 : h''.get? s.heap.objs.size = some { cls := .type "tuple", data := .seq #[.int i tk, x'] } := (sb.2 _ (Nat.ne_of_gt hel)).trans hT
    have new : ObjOk X.prog X.w (upd H s.heap.objs.size (.tup [.int (i : Nat), x])) h'' s.heap.objs.size (.tup [.int (i : Nat), x]) :=
      ⟨by show 2 ≤ sizeLine; decide, [.int i tk, x'], .cons ⟨_, rfl⟩ (.cons ru .nil), ⟨_, hT2, rfl, _, rfl⟩⟩
    have I1 : Inv X pins σ (upd H s.heap.objs.size (.tup [.int (i : Nat), x])) { s with heap := h'', toks := tk + 1 } :=
      I.turnedNew (ch := [e, it]) (fun b ob hb q => (sb.2 b (fun z => hb (by simp [z]))).trans (hk b ob (fun z => hb (by simp [z])) (fun z => hb (by simp [z])) q)) hf (Nat.le_refl _) new
    refine ⟨.ref s.heap.objs.size, _, I1, rfl, ⟨_, x, rfl, I.hok.fresh (Nat.le_refl _), rfl, fun ys hy => by rw [I.tuple_inj hy hq]; exact hx⟩, ⟨⟨x', ?_⟩, hst.1.at fun o q => (sb.2 it (Ne.symm hne)).trans q, hne, by
      have h1 := (List.getElem?_eq_some_iff.mp hx).1
      omega⟩, fun b hb => ?_⟩
    · have e1 : ((i + 1 : Nat) : Int) = (i : Int) + 1 := by omega
      rw [e1]; exact he'
    · have hb' : b < s.heap.objs.size := by
        have e' : b = e ∨ b = it := by simpa using hb
        rcases e' with z | z
        · rw [z]; exact hel
        · rw [z]; exact hil
      rw [upd_ne (Nat.ne_of_lt hb')]
      exact (hf b hb).1
  done := by
    intro X hP hw hK hc i pins s σ H E I hf st hg
    subst hP hw hK
    obtain ⟨⟨old, he⟩, hit, hne, hin⟩ := st
    obtain ⟨xs, hq, hn, hx⟩ := hg
    obtain ⟨its, rv, p, hz⟩ := I.tuple hq
    obtain ⟨f0, f1, f2, f3, f4, f5⟩ := hf it (by simp)
    have hl := rv.length
    have hi : i = its.toArray.size := by simp; omega
    subst hi
    exact wpAny_pyNext_enum_endD (Draws.tuple (A := X.A.in1) (show X.A.in1.handled = none from I.ok.hd hc) it a hai its.toArray) he ⟨hit, p⟩ fun h' eb => ⟨rfl, I.turned (t' := s.toks) (fun b o hb q => eb b o hb q) f0 f1 f3 f4 f5⟩
  self := fun A i s Q E st h => let ⟨⟨_, he⟩, _⟩ := st; wpAny_pyIter_enum he h
/-- a text: each sign in a new pair -/
def IteS (x : Str) : It :=
  ⟨fun i _ => i < x.cps.size, fun i H v H' => ∃ T c, v = .ref T ∧ H T = none ∧ H' = upd H T (.tup [.int (i : Nat), .str ⟨#[c]⟩]) ∧ x.cps[i]? = some c, fun i _ => x.cps.size ≤ i⟩
theorem turn_enumS {P : Program} {w : World} {K : PySem.W.Frag} {elts : List Expr} {kk : Nat} {tpos : Pos} (e it : Addr) (x : Str) (t : Tok) :
    Turn P w K (.Tuple elts kk tpos) (IteS x) [e, it] e (fun i h => (∃ old, IsEnum h e it ((i : Nat) : Int) old) ∧ h.IsStrIter it (strIterType x) x t i ∧ e ≠ it ∧ i ≤ x.cps.size) where
  mem := by simp
  obj := fun i h st b hb => by
    obtain ⟨⟨old, he⟩, ⟨o, ho, hc, hd⟩, _⟩ := st
    have e' : b = e ∨ b = it := by simpa using hb
    rcases e' with z | z
    · rw [z]; exact ⟨_, he, fun v q => nomatch q⟩
    · rw [z]; exact ⟨o, ho, fun v q => by rw [hd] at q; cases q⟩
  keep := fun i h h' st k => let ⟨⟨old, he⟩, ⟨o, ho, r⟩, hne, hin⟩ := st; ⟨⟨old, k e (by simp) _ he⟩, ⟨o, k it (by simp) o ho, r⟩, hne, hin⟩
  item := by
    intro X hP hw hK hc i pins s σ H E I hf st hg
    subst hP hw hK
    obtain ⟨⟨old, he⟩, hit, hne, hin⟩ := st
    have hel : e < s.heap.objs.size := Heap.lt_size he
    have hil : it < s.heap.objs.size := by obtain ⟨_, q, _⟩ := hit; exact Heap.lt_size q
    refine wpAny_pyNext_enum_itemD (Draws.text (A := X.A.in1) (show X.A.in1.handled = none from I.ok.hd hc) it x t) he hit hg hne (by simp [hne]) fun x' h' tk hP ho hst hT hsz hk => ?_
    obtain ⟨c, u, hcx, rfl⟩ := hP
    refine ⟨_, rfl, wpAny_letOwnedTupleGo_enum (s := { s with heap := h', toks := tk + 1 }) ho fun h'' he' sb => ?_⟩
    have hT2 : h''.get? s.heap.objs.size = some { cls := .type "tuple", data := .seq #[.int i tk, .str ⟨#[c]⟩ u] } := (sb.2 _ (Nat.ne_of_gt hel)).trans hT
    have new : ObjOk X.prog X.w (upd H s.heap.objs.size (.tup [.int (i : Nat), .str ⟨#[c]⟩])) h'' s.heap.objs.size (.tup [.int (i : Nat), .str ⟨#[c]⟩]) :=
      ⟨by show 2 ≤ sizeLine; decide, [.int i tk, .str ⟨#[c]⟩ u], .cons ⟨_, rfl⟩ (.cons ⟨_, rfl⟩ .nil), ⟨_, hT2, rfl, _, rfl⟩⟩
    have I1 : Inv X pins σ (upd H s.heap.objs.size (.tup [.int (i : Nat), .str ⟨#[c]⟩])) { s with heap := h'', toks := tk + 1 } :=
      I.turnedNew (ch := [e, it]) (fun b ob hb q => (sb.2 b (fun z => hb (by simp [z]))).trans (hk b ob (fun z => hb (by simp [z])) (fun z => hb (by simp [z])) q)) hf (Nat.le_refl _) new
    refine ⟨.ref s.heap.objs.size, _, I1, rfl, ⟨_, c, rfl, I.hok.fresh (Nat.le_refl _), rfl, hcx⟩, ⟨⟨.str ⟨#[c]⟩ u, ?_⟩, ?_, hne, hg⟩, fun b hb => ?_⟩
    · have e1 : ((i + 1 : Nat) : Int) = (i : Int) + 1 := by omega
      rw [e1]; exact he'
    · obtain ⟨o, ho, r⟩ := hst
      exact ⟨o, (sb.2 it (Ne.symm hne)).trans ho, r⟩
    · have hb' : b < s.heap.objs.size := by
        have e' : b = e ∨ b = it := by simpa using hb
        rcases e' with z | z
        · rw [z]; exact hel
        · rw [z]; exact hil
      rw [upd_ne (Nat.ne_of_lt hb')]
      exact (hf b hb).1
  done := by
    intro X hP hw hK hc i pins s σ H E I hf st hg
    subst hP hw hK
    obtain ⟨⟨old, he⟩, hit, hne, hin⟩ := st
    obtain ⟨f0, f1, f2, f3, f4, f5⟩ := hf it (by simp)
    have hg : x.cps.size ≤ i := hg
    have hi : i = x.cps.size := by omega
    subst hi
    exact wpAny_pyNext_enum_endD (Draws.text (A := X.A.in1) (show X.A.in1.handled = none from I.ok.hd hc) it x t) he hit fun h' eb => ⟨rfl, I.turned (t' := s.toks) (fun b o hb q => eb b o hb q) f0 f1 f3 f4 f5⟩
  self := fun A i s Q E st h => let ⟨⟨_, he⟩, _⟩ := st; wpAny_pyIter_enum he h
def iEnumV (K : PySem.W.Frag) (R : It → Hp → Prop) (v : V) (H1 : Hp) : Prop := (∃ a xs, v = .ref a ∧ SqL K H1 a xs ∧ R (Ite K a) H1) ∨ (∃ a xs, v = .ref a ∧ SqT K H1 a xs ∧ R (IteT K a xs.length) H1) ∨ ∃ x, v = .str x ∧ R (IteS x) H1
def iEnumA (K : PySem.W.Frag) (te : TE) : TI := fun σ H R => te σ H (iEnumV K R)
theorem pi_enumA {X : Cx} {e : Expr} {te : TE} {p pos tpos : Pos} {elts : List Expr} {kk : Nat} (hg : Gl X "enumerate") (hm : X.mg "enumerate" = none) (he : PE X e te) (hs : starEach [e] X.env = [(false, eval e X.env)] := by rfl) :
    PI X (.Tuple elts kk tpos) (.Call (.Name "enumerate" p) [e] [] pos) (iEnumA X.K te) := by
  refine ⟨fun pins s σ H R I h => ?_⟩
  refine Call_ (ld_blt I hg hm boot_enumerate (PyProof.Rows.callWith_type1 (thn ((pa_cons he pa_nil hs).run pos pins s σ H (fun vs H1 => match vs with | [v] => iEnumV X.K R v H1 | _ => False) I h) fun us s1 ⟨vs, H1, I1, r1, q1⟩ => ?_) hs rfl))
  match vs, r1, q1 with
  | [v], r1, q1 =>
    cases r1 with
    | cons r rr =>
      cases rr
      have fresh2 : ∀ b, b ∈ [s1.heap.objs.size + 1, s1.heap.objs.size] → FpOk X pins H1 b := fun b hb => by
        have e' : b = s1.heap.objs.size + 1 ∨ b = s1.heap.objs.size := by simpa using hb
        have hle : s1.heap.objs.size ≤ b := by
          rcases e' with z | z
          · rw [z]; exact Nat.le_add_right _ _
          · rw [z]; exact Nat.le_refl _
        exact I1.fpOk hle (I1.hok.fresh hle)
      rcases q1 with ⟨a, xs, ex, hq, q⟩ | ⟨a, xs, ex, hq, q⟩ | ⟨x, ex, q⟩
      · subst ex
        cases r
        obtain ⟨its, rv, p', hz⟩ := I1.list hq
        refine call_enumerate_list p'.isList fun h' he hit hsz hk => wpAny_pyIter_enum he ?_
        have I2 : Inv X pins σ H1 { s1 with heap := h' } := I1.kept (t' := s1.toks) hk
        exact ⟨s1.heap.objs.size + 1, [s1.heap.objs.size + 1, s1.heap.objs.size], _, _, H1, rfl, I2, turn_enum a (s1.heap.objs.size + 1) s1.heap.objs.size, ⟨⟨.none, he⟩, hit, Nat.succ_ne_self _⟩, fresh2, q⟩
      · subst ex
        cases r
        obtain ⟨its, rv, p', hz⟩ := I1.tuple hq
        have la : a < s1.heap.objs.size := by obtain ⟨o, ho, _⟩ := p'; exact Heap.lt_size ho
        refine call_enum1 (begins_tuple a its.toArray) (show Heap.IsTuple s1.heap a its.toArray from p') fun h' he hit hsz hk => wpAny_pyIter_enum he ?_
        have I2 : Inv X pins σ H1 { s1 with heap := h' } := I1.kept (t' := s1.toks) hk
        exact ⟨s1.heap.objs.size + 1, [s1.heap.objs.size + 1, s1.heap.objs.size], _, _, H1, rfl, I2, turn_enumT a (s1.heap.objs.size + 1) s1.heap.objs.size xs.length (Nat.ne_of_lt la) (Nat.ne_of_gt (Nat.lt_succ_of_lt la)), ⟨⟨.none, he⟩, ⟨_, hit, rfl, rfl⟩, Nat.succ_ne_self _, Nat.zero_le _⟩, fresh2, q⟩
      · subst ex
        obtain ⟨t, rfl⟩ := r
        refine call_enum1 (begins_text x t) trivial fun h' he hit hsz hk => wpAny_pyIter_enum he ?_
        have I2 : Inv X pins σ H1 { s1 with heap := h' } := I1.kept (t' := s1.toks) hk
        exact ⟨s1.heap.objs.size + 1, [s1.heap.objs.size + 1, s1.heap.objs.size], _, _, H1, rfl, I2, turn_enumS (s1.heap.objs.size + 1) s1.heap.objs.size x t, ⟨⟨.none, he⟩, ⟨_, hit, rfl, rfl⟩, Nat.succ_ne_self _, Nat.zero_le _⟩, fresh2, q⟩
end L2

namespace Pz
open PySem PySem.Spec PyProof.Rows L2
section
variable {K : PySem.W.Frag} {p : Bool} {Hs H : Hp} {ρ : List Addr}
theorem enm_at {l : List D} {i : Nat} {d : D} (h : (enmL l)[i]? = some d) : ∃ x, l[i]? = some x ∧ d = .tup [.int (i : Nat), x] := by
  unfold enmL at h
  rw [List.getElem?_map, List.getElem?_zipIdx] at h
  cases e : l[i]? with
  | none => rw [e] at h; cases h
  | some x => rw [e] at h; cases h; exact ⟨x, rfl, by simp⟩
theorem enm_len (l : List D) : (enmL l).length = l.length := by simp [enmL]
theorem zip_at {l m : List D} {i : Nat} {d : D} (h : (zipL l m)[i]? = some d) : ∃ x y, l[i]? = some x ∧ m[i]? = some y ∧ d = .tup [x, y] := by
  unfold zipL at h
  rw [List.getElem?_map] at h
  cases e : (l.zip m)[i]? with
  | none => rw [e] at h; cases h
  | some q =>
    rw [e] at h; cases h
    have := List.getElem?_zip_eq_some.1 e
    exact ⟨q.1, q.2, this.1, this.2, rfl⟩
theorem zip_len (l m : List D) : (zipL l m).length = min l.length m.length := by simp [zipL]
/-- a new pair -/
theorem pair_new {Hs' H' : Hp} {ρ' : List Addr} {B : List D} {T : Addr} {ds : List D} {xs : List V} (le : Le Hs' H') (b : BOk K Hs' ρ' H' B) (n : H' T = none) (r : RepL K Hs' ρ' ds xs) :
    ∃ Hs2, Gr Hs' H' ρ' Hs2 (upd H' T (.tup xs)) ρ' ∧ Le Hs2 (upd H' T (.tup xs)) ∧ BOk K Hs2 ρ' (upd H' T (.tup xs)) B ∧ Rep K Hs2 ρ' (.tup ds) (.ref T) :=
  have g : Gr Hs' H' ρ' (upd Hs' T (.tup xs)) (upd H' T (.tup xs)) ρ' := gr_upd le n
  ⟨_, g, upd_le le n, bok_upd le n b, .tup upd_same (g.repL r)⟩
/-- a list that stands still -/
theorem lst_keep {l : List D} {a : Addr} (r : Rep K Hs ρ (.lst l) (.ref a)) : ∃ xs, RepL K Hs ρ l xs ∧ ∀ Hs' H' ρ', Cnd p Hs H ρ Hs' H' ρ' → Le Hs' H' → H' a = some (.lst xs) := by
  cases r with
  | @lst _ _ xs h r => exact ⟨xs, r, fun Hs' H' ρ' c le => le.lst (c.1 _ _ h)⟩
theorem tup_keep {l : List D} {a : Addr} (r : Rep K Hs ρ (.tup l) (.ref a)) : ∃ xs, RepL K Hs ρ l xs ∧ ∀ Hs' H' ρ', Cnd p Hs H ρ Hs' H' ρ' → Le Hs' H' → H' a = some (.tup xs) := by
  cases r with
  | @tup _ _ xs h r => exact ⟨xs, r, fun Hs' H' ρ' c le => le.tup (c.1 _ _ h)⟩
theorem itR_enumL {l : List D} {a : Addr} (r : Rep K Hs ρ (.lst l) (.ref a)) : ItR K p (Ite K a) Hs ρ H (enmL l) := by
  obtain ⟨xs, r, hk⟩ := lst_keep (p := p) (H := H) r
  refine ⟨fun i Hs' H' ρ' c le hi => ?_, fun i Hs' H' ρ' c le hi => ⟨xs, SqL.of (hk _ _ _ c le), by rw [enm_len] at hi; rw [← r.length]; exact hi⟩, fun i Hs' H' ρ' B x H2 d c le b e y => ?_⟩
  · rw [enm_len] at hi
    obtain ⟨v, e, _⟩ := r.get (List.getElem?_eq_getElem hi)
    exact ⟨xs, v, SqL.of (hk _ _ _ c le), e⟩
  · obtain ⟨T, v, rfl, hn, rfl, hv⟩ := y
    obtain ⟨q, e1, rfl⟩ := enm_at e
    obtain ⟨w, ew, rw'⟩ := r.get e1
    have := hv xs (SqL.of (hk _ _ _ c le))
    rw [ew] at this; cases this
    exact pair_new le b hn (.cons (.int _) (.cons (rw'.mono (cnd_le c) c.2.1) .nil))
theorem itR_enumT {l : List D} {a : Addr} {ys : List V} (h0 : Hs a = some (.tup ys)) (r : RepL K Hs ρ l ys) : ItR K p (IteT K a ys.length) Hs ρ H (enmL l) := by
  have hk : ∀ Hs' H' ρ', Cnd p Hs H ρ Hs' H' ρ' → Le Hs' H' → H' a = some (.tup ys) := fun Hs' H' ρ' c le => le.tup (c.1 _ _ h0)
  refine ⟨fun i Hs' H' ρ' c le hi => ?_, fun i Hs' H' ρ' c le hi => ⟨ys, SqT.of (hk _ _ _ c le), rfl, by rw [enm_len] at hi; rw [← r.length]; exact hi⟩, fun i Hs' H' ρ' B x H2 d c le b e y => ?_⟩
  · rw [enm_len] at hi
    obtain ⟨v, e, _⟩ := r.get (List.getElem?_eq_getElem hi)
    exact ⟨ys, v, SqT.of (hk _ _ _ c le), rfl, e⟩
  · obtain ⟨T, v, rfl, hn, rfl, hv⟩ := y
    obtain ⟨q, e1, rfl⟩ := enm_at e
    obtain ⟨w, ew, rw'⟩ := r.get e1
    have := hv ys (SqT.of (hk _ _ _ c le))
    rw [ew] at this; cases this
    exact pair_new le b hn (.cons (.int _) (.cons (rw'.mono (cnd_le c) c.2.1) .nil))
theorem itR_enumS {l : List Nat} (h : SOk l) : ItR K p (IteS (mk l)) Hs ρ H (enmL (l.map fun c => .str [c])) := by
  refine ⟨fun i Hs' H' ρ' c le hi => ?_, fun i Hs' H' ρ' c le hi => ?_, fun i Hs' H' ρ' B x H2 d c le b e y => ?_⟩
  · show i < l.toArray.size
    rw [List.size_toArray]
    rw [enm_len] at hi
    simpa using hi
  · show l.toArray.size ≤ i
    rw [List.size_toArray]
    rw [enm_len] at hi
    simpa using hi
  · obtain ⟨T, z, rfl, hn, rfl, hz⟩ := y
    obtain ⟨q, e1, rfl⟩ := enm_at e
    have hz : l.toArray[i]? = some z := hz
    rw [List.getElem?_toArray] at hz
    rw [List.getElem?_map, hz] at e1
    cases e1
    exact pair_new le b hn (.cons (.int _) (.cons (.str ⟨fun k hk => by cases List.mem_singleton.mp hk; exact h.1 _ (List.mem_of_getElem? hz), Nat.le_trans (Nat.le_refl 1) (by decide : 1 ≤ ln)⟩) .nil))
theorem itR_zipL {l m : List D} {a b : Addr} (r : Rep K Hs ρ (.lst l) (.ref a)) (r2 : Rep K Hs ρ (.lst m) (.ref b)) : ItR K p (Itz K a b) Hs ρ H (zipL l m) := by
  obtain ⟨xs, r, hk⟩ := lst_keep (p := p) (H := H) r
  obtain ⟨ys, r2, hk2⟩ := lst_keep (p := p) (H := H) r2
  have l1 := r.length
  have l2 := r2.length
  refine ⟨fun i Hs' H' ρ' c le hi => ?_, fun i Hs' H' ρ' c le hi => ⟨xs, ys, SqL.of (hk _ _ _ c le), SqL.of (hk2 _ _ _ c le), by rw [zip_len] at hi; omega⟩, fun i Hs' H' ρ' B x H2 d c le b e y => ?_⟩
  · rw [zip_len] at hi
    obtain ⟨v, e, _⟩ := r.get (List.getElem?_eq_getElem (show i < l.length by omega))
    obtain ⟨v2, e2, _⟩ := r2.get (List.getElem?_eq_getElem (show i < m.length by omega))
    exact ⟨xs, ys, v, v2, SqL.of (hk _ _ _ c le), SqL.of (hk2 _ _ _ c le), e, e2⟩
  · obtain ⟨T, v, v2, rfl, hn, rfl, hv, hv2⟩ := y
    obtain ⟨q, q2, e1, e2, rfl⟩ := zip_at e
    obtain ⟨w, ew, rw'⟩ := r.get e1
    obtain ⟨w2, ew2, rw2⟩ := r2.get e2
    have h1 := hv xs (SqL.of (hk _ _ _ c le))
    have h2 := hv2 ys (SqL.of (hk2 _ _ _ c le))
    rw [ew] at h1; cases h1
    rw [ew2] at h2; cases h2
    exact pair_new le b hn (.cons (rw'.mono (cnd_le c) c.2.1) (.cons (rw2.mono (cnd_le c) c.2.1) .nil))
theorem itR_zipT {l m : List D} {a b : Addr} (r : Rep K Hs ρ (.tup l) (.ref a)) (r2 : Rep K Hs ρ (.tup m) (.ref b)) : ItR K p (RZ.ItzT K a b) Hs ρ H (zipL l m) := by
  obtain ⟨xs, r, hk⟩ := tup_keep (p := p) (H := H) r
  obtain ⟨ys, r2, hk2⟩ := tup_keep (p := p) (H := H) r2
  have l1 := r.length
  have l2 := r2.length
  refine ⟨fun i Hs' H' ρ' c le hi => ?_, fun i Hs' H' ρ' c le hi => ⟨xs, ys, SqT.of (hk _ _ _ c le), SqT.of (hk2 _ _ _ c le), by rw [zip_len] at hi; omega⟩, fun i Hs' H' ρ' B x H2 d c le b e y => ?_⟩
  · rw [zip_len] at hi
    obtain ⟨v, e, _⟩ := r.get (List.getElem?_eq_getElem (show i < l.length by omega))
    obtain ⟨v2, e2, _⟩ := r2.get (List.getElem?_eq_getElem (show i < m.length by omega))
    exact ⟨xs, ys, v, v2, SqT.of (hk _ _ _ c le), SqT.of (hk2 _ _ _ c le), e, e2⟩
  · obtain ⟨T, v, v2, rfl, hn, rfl, hv, hv2⟩ := y
    obtain ⟨q, q2, e1, e2, rfl⟩ := zip_at e
    obtain ⟨w, ew, rw'⟩ := r.get e1
    obtain ⟨w2, ew2, rw2⟩ := r2.get e2
    have h1 := hv xs (SqT.of (hk _ _ _ c le))
    have h2 := hv2 ys (SqT.of (hk2 _ _ _ c le))
    rw [ew] at h1; cases h1
    rw [ew2] at h2; cases h2
    exact pair_new le b hn (.cons (rw'.mono (cnd_le c) c.2.1) (.cons (rw2.mono (cnd_le c) c.2.1) .nil))
end
section
variable {X : Cx} {Φ : Fn} {W : WX} {a b : Expr} {ia ib : E} {p : Bool} {pp pos tpos : Pos} {elts : List Expr} {kk : Nat}
theorem i_enum (hg : Gl X "enumerate") (hm : X.mg "enumerate" = none) (ha : EOk X Φ W a ia) (hs : starEach [a] X.env = [(false, eval a X.env)] := by rfl) :
    IOk X Φ W p (.Tuple elts kk tpos) (.Call (.Name "enumerate" pp) [a] [] pos) (.enm ia) :=
  ⟨PI.weaken_ (pi_enumA hg hm (ha.run false) hs) fun σV H R ⟨Hs, ρ, σ, B, st, out⟩ => ⟨Hs, ρ, σ, B, st, by
    have out : OutG X.K (fun c d h => W c d σV h) Hs ρ H (((ev Φ false ia σ B).bind fun x => (Rs.of (itemsOf x.1)).bind fun l => .ok (.lst (enmL l), x.2)).bind fun x => (Rs.of (itemsOf x.1)).bind fun ds => .ok (ds, x.2)) (fun x => YldI X.K p Hs ρ H x.2 x.1 R) := out
    rw [Rs.bind_bind] at out
    refine OutG.bindE (q := false) YldI.shf out fun d B' v H' Hs' ρ' g l b r out => ?_
    rw [Rs.bind_bind] at out
    obtain ⟨ds, hd, out⟩ := OutG.of out
    have out : YldI X.K p Hs' ρ' H' B' (enmL ds) R := out
    have r := r.val
    cases d with
    | lst l' =>
      obtain rfl := Option.some.inj (show some l' = some ds from hd)
      have r0 := r
      cases r with
      | @lst _ a' xs h r => exact .inl ⟨a', xs, rfl, SqL.of (l.lst h), out _ _ _ _ .refl l b (itR_enumL r0)⟩
    | tup l' =>
      obtain rfl := Option.some.inj (show some l' = some ds from hd)
      have r0 := r
      cases r with
      | @tup _ a' xs h rr =>
        exact .inr (.inl ⟨a', xs, rfl, SqT.of (l.tup h), out _ _ _ _ .refl l b (itR_enumT h rr)⟩)
    | str l' =>
      obtain rfl := Option.some.inj (show some (l'.map fun c => D.str [c]) = some ds from hd)
      cases r with
      | str hl => exact .inr (.inr ⟨mk l', rfl, out _ _ _ _ .refl l b (itR_enumS hl)⟩)
    | _ => cases hd⟩⟩
theorem i_zip (hg : Gl X "zip") (hm : X.mg "zip" = none) (ha : EOk X Φ W a ia) (hb : EOk X Φ W b ib) (hs : starEach [a, b] X.env = (false, eval a X.env) :: starEach [b] X.env := by rfl) (hs2 : starEach [b] X.env = (false, eval b X.env) :: starEach [] X.env := by rfl) (hpl : (backTo pos (starEach [b] X.env)).any (·.1) = false := by rfl) :
    IOk X Φ W p (.Tuple elts kk tpos) (.Call (.Name "zip" pp) [a, b] [] pos) (.zip ia ib) :=
  ⟨PI.weaken_ (RZ.pi_zipA hg hm ((a_cons ha (a_cons hb a_nil hs2) hs : AOk X Φ W [a, b] (.cons ia (.cons ib .nil))).run false) hs hpl) fun σV H R ⟨Hs, ρ, σ, B, st, out⟩ => ⟨Hs, ρ, σ, B, st, by
    have out : OutG X.K (fun c d h => W c d σV h) Hs ρ H (((ev Φ false ia σ B).bind fun x => (ev Φ false ib σ x.2).bind fun y => (Rs.of (zipD x.1 y.1)).bind fun l => .ok (.lst l, y.2)).bind fun x => (Rs.of (itemsOf x.1)).bind fun ds => .ok (ds, x.2)) (fun x => YldI X.K p Hs ρ H x.2 x.1 R) := out
    show OutL X.K (fun c d h => W c d σV h) false Hs ρ H ((ev Φ false ia σ B).bind fun x => ((ev Φ false ib σ x.2).bind fun y => Rs.ok ([y.1], y.2)).bind fun y => .ok (x.1 :: y.1, y.2)) _
    rw [Rs.bind_bind] at out
    cases q : ev Φ false ia σ B with
    | bad => rw [q] at out; exact out
    | ex c ps B => rw [q] at out; exact out
    | ok x =>
      rw [q] at out
      simp only [Rs.bind_ok] at out ⊢
      rw [Rs.bind_bind] at out
      rw [Rs.bind_bind]
      cases q2 : ev Φ false ib σ x.2 with
      | bad => rw [q2] at out; exact out
      | ex c ps B => rw [q2] at out; exact out
      | ok y =>
        rw [q2] at out
        simp only [Rs.bind_ok] at out ⊢
        rw [Rs.bind_bind] at out
        obtain ⟨ds, hd, out⟩ := OutG.of out
        have out : YldI X.K p Hs ρ H y.2 ds R := out
        intro vs H' Hs' ρ' g l b r
        obtain ⟨v, v2, rfl, r1, r2⟩ : ∃ v v2, vs = [v, v2] ∧ Rep X.K Hs' ρ' x.1 v ∧ Rep X.K Hs' ρ' y.1 v2 := by
          cases r with
          | cons h t =>
            cases t with
            | cons h2 t => cases t; exact ⟨_, _, rfl, h.val, h2.val⟩
        obtain ⟨d1, B1⟩ := x
        obtain ⟨d2, B2⟩ := y
        cases d1 with
        | lst l1 =>
          cases d2 with
          | lst l2 =>
            obtain rfl := Option.some.inj (show some (zipL l1 l2) = some ds from hd)
            have r10 := r1
            have r20 := r2
            cases r1 with
            | @lst _ a1 xs h1 _ =>
              cases r2 with
              | @lst _ a2 ys h2 _ => exact ⟨a1, a2, xs, ys, rfl, .inl ⟨SqL.of (l.lst h1), SqL.of (l.lst h2), out _ _ _ _ g l b (itR_zipL r10 r20)⟩⟩
          | _ => cases hd
        | tup l1 =>
          cases d2 with
          | tup l2 =>
            obtain rfl := Option.some.inj (show some (zipL l1 l2) = some ds from hd)
            have r10 := r1
            have r20 := r2
            cases r1 with
            | @tup _ a1 xs h1 _ =>
              cases r2 with
              | @tup _ a2 ys h2 _ => exact ⟨a1, a2, xs, ys, rfl, .inr ⟨SqT.of (l.tup h1), SqT.of (l.tup h2), out _ _ _ _ g l b (itR_zipT r10 r20)⟩⟩
          | _ => cases hd
        | _ => cases hd⟩⟩
end
end Pz
end
section
set_option Elab.async false
set_option linter.all false
set_option maxRecDepth 100000
namespace Pz
open PySem PySem.Spec PyProof.Rows L2
/-! ### xs += ys of an owned list -/
def rAugL (K : PySem.W.Frag) : TIp := fun x y H Q => ∃ Hs ρ a l m, x = .ref a ∧ Le Hs H ∧ OwnAt K Hs ρ H a (.lst l) ∧ RP K Hs ρ H (.lst m) y ∧ l.length + m.length ≤ ln ∧ ∀ o, OwnAt K Hs ρ (upd H a o) a (.lst (l ++ m)) → Q (.ref a) (upd H a o)
section
variable {X : Cx} {Φ : Fn} {W : WX} {e : Expr} {ie : E} {pos : Pos}
theorem augL_ok : PIp X .Add (rAugL X.K) := by
  intro pins s σ H x y v u Q I rx ry ⟨Hs, ρ, a, l, m, ex, le, own, rb, hl, h⟩
  subst ex
  obtain ⟨xs, hx, rx2⟩ := own
  obtain ⟨b, ys, rfl, hy, ry2⟩ := rb.lst le
  exact iop_ext pins s σ H _ _ v u Q I rx ry ⟨a, b, xs, ys, rfl, rfl, hx, hy, by rw [← rx2.length, ← ry2.length, ln_eq]; exact hl, h _ ⟨_, upd_same, rx2.append ry2⟩⟩
theorem s_aug {i : Nat} {x : Str} {p1 : Pos} (hN : X.N.Nodup) (hi : X.N[i]? = some x) (hx : Loc X.env.scope x) (he : EOk X Φ WX0 e ie) (hf : X.fn x = true ∨ X.env.scope.names.lookup x = some .local) : StOk X Φ (.AugAssign (.Name x p1) .Add e pos) (.aug i ie) :=
  ⟨fun W E => (ps_aug hN hi hx (he.run true) augL_ok hf).weaken fun D_ σV H ⟨Hs, ρ, σ, B, s, out⟩ => by
    have out : OutS X.K W E D_ ((match σ[i]? with
      | some (.own c) => (ev Φ true ie σ B).bind fun x => (Rs.of (augD c (drf x.2 x.1))).bind fun d => .ok (.next, σ.set i (.own d), x.2)
      | _ => .bad)) := out
    have hsl : ∃ c, σ[i]? = some (.own c) := by
      cases q2 : σ[i]? with
      | none => rw [q2] at out; exact out.elim
      | some w =>
        cases w with
        | own c => exact ⟨c, rfl⟩
        | _ => rw [q2] at out; exact out.elim
    obtain ⟨c, hsl⟩ := hsl
    rw [hsl] at out
    have out : OutS X.K W E D_ ((ev Φ true ie σ B).bind fun x => (Rs.of (augD c (drf x.2 x.1))).bind fun d => .ok (.next, σ.set i (.own d), x.2)) := out
    obtain ⟨a, ea, _⟩ := s.st.slotV hsl
    refine ⟨.ref a, ea, Hs, ρ, σ, B, s.st, OutS.bindE out fun y B1 u H1 Hs1 ρ1 g1 l1 b1 r1 out => ?_⟩
    obtain ⟨d, hd, out⟩ := OutS.of out
    have s1 := s.grow g1 l1 b1
    obtain ⟨a', ea', hw, n, nr⟩ := s1.st.slotV hsl
    rw [ea] at ea'
    cases ea'
    have hr := drf_ok r1 b1
    revert hd hr
    cases c with
    | lst l =>
      cases drf B1 y with
      | lst m =>
        intro hd hr
        obtain ⟨hl, rfl⟩ := cons_ite (show (if l.length + m.length ≤ ln then some (D.lst (l ++ m)) else none) = some d from hd)
        refine ⟨Hs1, ρ1, a, l, m, rfl, l1, hw, hr, hl, fun o ho => ?_⟩
        have hset : σV.set i (some (.ref a)) = σV := by
          apply List.ext_getElem?
          intro j
          rw [List.getElem?_set]
          by_cases hj : i = j
          · subst hj
            rw [if_pos rfl, ea]
            have := (List.getElem?_eq_some_iff.mp ea).1
            rw [if_pos this]
          · rw [if_neg hj]
        show D_.nx (σV.set i (some (.ref a))) (upd H1 a o)
        rw [hset]
        exact out σV _ _ _ (s1.mut hsl ea ho)
      | _ => intro hd; cases hd
    | _ => intro hd; cases hd⟩
/-! ### d.update(e) of an owned dict -/
theorem putK_keys {κ : Type} [DecidableEq κ] (k : κ) (v : V) (kvs : List (κ × V)) : (kvs.map (·.1)).Nodup → ((putK kvs k v).map (·.1)).Nodup := by
  intro nd
  unfold putK
  by_cases h : (kvs.any fun kv => decide (kv.1 = k)) = true
  · rw [if_pos h]
    have : (kvs.map fun kv => if kv.1 = k then (kv.1, v) else kv).map (·.1) = kvs.map (·.1) := by
      rw [List.map_map]
      refine List.map_congr_left fun p _ => ?_
      by_cases e : p.1 = k <;> simp [e]
    first
      | rw [this]; exact nd
      | (have h2 := this; simp only [List.map_map] at h2 ⊢; rw [h2]; exact nd)
  · rw [if_neg h, List.map_append, List.nodup_append]
    refine ⟨nd, by simp, ?_⟩
    intro a ha b hb e
    have hb : b = k := by simpa using hb
    subst hb e
    obtain ⟨p, hp, rfl⟩ := List.mem_map.1 ha
    exact h (List.any_eq_true.2 ⟨p, hp, by simp⟩)
theorem RepK.merge {K : PySem.W.Frag} {Hs : Hp} {ρ : List Addr} : ∀ {m : List (D × D)} {more : List (Key × V)} {l : List (D × D)} {kvs : List (Key × V)}, RepK K Hs ρ m more → (kvs.map (·.1)).Nodup → RepK K Hs ρ l kvs →
    RepK K Hs ρ (m.foldl (fun acc p => kput p.1 p.2 acc) l) (mergeK kvs more)
  | [], _, l, kvs, r, nd, rl => by cases r; exact rl
  | (k, d) :: m, more, l, kvs, r, nd, rl => by
    obtain ⟨kk, v, s, rfl, hk, hd, hr⟩ := r.cons_inv
    exact RepK.merge (l := kput k d l) (kvs := putK kvs kk v) hr (putK_keys kk v kvs nd) (RepK.put hk hd nd rl)
def rUpdD (K : PySem.W.Frag) : V → List V → Hp → VK → Prop := fun x vs H Q => ∃ Hs ρ a l m v, x = .ref a ∧ vs = [v] ∧ Le Hs H ∧ OwnAt K Hs ρ H a (.dic false l) ∧ Hs a = none ∧ Rep K Hs ρ (.dic false m) v ∧ l.length + m.length ≤ ln ∧
  ∀ o, OwnAt K Hs ρ (upd H a o) a (.dic false (m.foldl (fun acc p => kput p.1 p.2 acc) l)) → Q .non (upd H a o)
theorem mt_updD : MtR X "dict.update" (rUpdD X.K) := by
  intro pins s σ H x vs v us Q I rx rv ⟨Hs, ρ, a, l, m, y, ex, ev', le, own, hn, rm, hl, q⟩
  subst ex ev'
  cases rx
  obtain ⟨u, rfl, ru⟩ := rv.one
  obtain ⟨kvs, hx, rk⟩ := own
  cases rm with
  | @dK _ b more hb rb =>
    cases ru
    have hne : a ≠ b := by
      rintro rfl
      rcases hb with h | ⟨o, h⟩ <;> rw [hn] at h <;> cases h
    obtain ⟨z, hd, ws, rel, dd⟩ := dk_of I.hok hx
    obtain ⟨z2, hd2, ws2, rel2, dd2⟩ := dk_rd I.hok (le.rd hb)
    have hz : kvs.length + more.length ≤ sizeLine := by rw [← rk.length, ← rb.length, ln_eq]; exact hl
    refine call_meetsIn PySem.F.slot_dict_update dd.typeIs PySem.F.entry_dict_update (PySem.F.args_dict_update_2 _ _) (meets_dict_update (mixKind X.prog X.w) a b hne hd2)
      ⟨ws, ws2, dd, dd2, (by rw [← rel.length, ← rel2.length]; exact hz), fun h' dd' _ hs => ?_⟩
    have he : ∃ q, h'.get? a = some q := let ⟨q, _, _, hq, _⟩ := dd'; ⟨q, hq⟩
    have hz2 : (mergeK kvs more).length ≤ sizeLine := Nat.le_trans (length_mergeK more kvs) hz
    refine ⟨.non, _, d_write I (by rw [hx]; exact True.intro) hs he (dk_new hz2 hd (rel2.merge rel) dd'), rfl, q _ ⟨_, upd_same, RepK.merge rb (dK_nodup I (.inl hx)) rk⟩⟩
theorem s_upd {i : Nat} {x : Str} {p1 apos cpos : Pos} (hN : X.N[i]? = some x) (hv : Vis X.env.scope x) (he : EOk X Φ WX0 e ie)
    (hbase : attributeBase (.Name x p1) "update" X.env (eval (.Name x p1) X.env) = eval (.Name x p1) X.env := by rfl)
    (hfew : ((backTo cpos (starEach [e] X.env)).all (fun x => !x.1) && (backToKw cpos (keywordEach [] X.env)).all (fun x => x.1.isSome)
      && decide (([e] : List Expr).length + ([] : List Keyword).length + (if ([] : List Keyword).isEmpty then 0 else 1) < 30)) = true := by rfl)
    (hline : (apos.endLine == cpos.line) = true := by rfl) (hst : starEach [e] X.env = (false, eval e X.env) :: starEach [] X.env := by rfl)
    (hsw : swapsWith (.Call (.Attribute (.Name x p1) "update" apos) [e] [] cpos) none pos.line X.env = pure false := by rfl)
    (hd : (x == ("__debug__" : Str)) = false := by decide) (hcd : (x == ("__classdict__" : Str)) = false := by decide) :
    StOk X Φ (.Expr (.Call (.Attribute (.Name x p1) "update" apos) [e] [] cpos) pos) (.upd i ie) :=
  ⟨fun W E => (ps_expr (pe_bm PySem.F.plainAttrs_dict PySem.F.slot_dict_update PySem.F.type_dict_update mt_updD (pe_var hN hv hd hcd) ((a_cons he a_nil hst).run false) hbase hfew hline hst) hsw).weaken fun D_ σV H ⟨Hs, ρ, σ, B, s, out⟩ => by
    have out : OutS X.K W E D_ ((match σ[i]? with
      | some (.own (.dic t l)) => (ev Φ false ie σ B).bind fun x => (Rs.of (updL (.dic t l) x.1)).bind fun d => .ok (.next, σ.set i (.own d), x.2)
      | _ => .bad)) := out
    have hsl : ∃ t l, σ[i]? = some (.own (.dic t l)) := by
      cases q2 : σ[i]? with
      | none => rw [q2] at out; exact out.elim
      | some w =>
        cases w with
        | own c =>
          cases c with
          | dic t l => exact ⟨t, l, rfl⟩
          | _ => rw [q2] at out; exact out.elim
        | _ => rw [q2] at out; exact out.elim
    obtain ⟨t, l, hsl⟩ := hsl
    rw [hsl] at out
    have out : OutS X.K W E D_ ((ev Φ false ie σ B).bind fun x => (Rs.of (updL (.dic t l) x.1)).bind fun d => .ok (.next, σ.set i (.own d), x.2)) := out
    obtain ⟨a, ea, hw, n, nr⟩ := s.st.slotV hsl
    have hty : tyV X.K "dict" (.ref a) H := by
      cases t with
      | false => obtain ⟨kvs, h, _⟩ := hw; exact .inr (.inr (.inl ⟨rfl, .inl ⟨kvs, h⟩⟩))
      | true => obtain ⟨kvs, h, _⟩ := hw; exact .inr (.inr (.inl ⟨rfl, .inr ⟨kvs, h⟩⟩))
    refine ⟨.ref a, ea, hty, Hs, ρ, σ, B, s.st, ?_⟩
    have out : OutS X.K W E D_ (((ev Φ false ie σ B).bind fun x => Rs.ok ([x.1], x.2)).bind fun x => match x.1 with
      | [y] => (Rs.of (updL (.dic t l) y)).bind fun d => .ok (.next, σ.set i (.own d), x.2)
      | _ => .bad) := by rw [Rs.bind_bind]; exact out
    show OutL X.K _ false Hs ρ H ((ev Φ false ie σ B).bind fun x => Rs.ok ([x.1], x.2)) _
    cases q : ev Φ false ie σ B with
    | bad => rw [q] at out; exact out
    | ex c ps B => exact exx_any
    | ok y =>
      rw [q] at out
      intro vs H1 Hs1 ρ1 g1 l1 b1 r1
      have s1 := s.grow g1 l1 b1
      cases r1 with
      | @cons _ v _ vs h t' =>
        cases t'
        obtain ⟨a', ea', hw', n', nr'⟩ := s1.st.slotV hsl
        rw [ea] at ea'
        cases ea'
        have out : OutS X.K W E D_ ((Rs.of (updL (.dic t l) y.1)).bind fun d => .ok (.next, σ.set i (.own d), y.2)) := out
        obtain ⟨d, hd, out⟩ := OutS.of out
        obtain ⟨y1, y2⟩ := y
        cases y1 with
        | dic u m =>
          cases t with
          | true => cases hd
          | false =>
            cases u with
            | true => cases hd
            | false =>
              obtain ⟨hl, rfl⟩ := cons_ite (show (if l.length + m.length ≤ ln then some (D.dic false (m.foldl (fun acc p => kput p.1 p.2 acc) l)) else none) = some d from hd)
              exact ⟨Hs1, ρ1, a, l, m, v, rfl, rfl, l1, hw', n', h.val, hl, fun o ho => out σV _ _ _ (s1.mut hsl ea ho)⟩
        | _ => (cases t <;> cases hd)⟩
/-! ### dict(pairs) -/
theorem pairs_rep {K : PySem.W.Frag} {Hs H : Hp} {ρ : List Addr} (le : Le Hs H) : ∀ {l : List D} {xs : List V} {prs : List (D × D)}, RepL K Hs ρ l xs → pairsOf l = some prs → (prs.all fun p => p.1.keyOk false) = true →
    ∃ (ps : List Addr) (kvs : List (Key × V)), xs = ps.map V.ref ∧ Paired (fun p kv => SqT K H p [kV kv.1, kv.2]) ps kvs ∧ RepK K Hs ρ prs kvs
  | [], xs, prs, r, e, h => by
    cases r
    cases e
    exact ⟨[], [], rfl, .nil, .nil⟩
  | d :: l, xs, prs, r, e, h => by
    cases r with
    | @cons _ v _ vs hd hr =>
      cases d with
      | tup ks =>
        match ks, e, hd with
        | [k, y], e, hd =>
          obtain ⟨prs', e', rfl⟩ := Option.map_eq_some_iff.mp (show (pairsOf l).map ((k, y) :: ·) = some prs from e)
          rw [List.all_cons, Bool.and_eq_true] at h
          obtain ⟨ps, kvs, rfl, hp, hk⟩ := pairs_rep le hr e' h.2
          cases hd with
          | @tup _ a zs hz rz =>
            obtain ⟨x1, x2, rfl, r1, r2⟩ := rz.two
            obtain ⟨kk, hkk, rfl⟩ := key_of (H := H) h.1 (.inl r1)
            exact ⟨a :: ps, (kk, x2) :: kvs, rfl, .cons (SqT.of (le.tup hz)) hp, RepK.cons_of hkk r2 hk⟩
      | _ => cases e
theorem bi_dict_ok (hc : X.calm = true) : CallR X (.type "dict") (rBiN X.K .dict) := by
  rintro pins s σ H vs us Q I rv ⟨Hs, ρ, B, ds, d, le, bx, r, e, h⟩
  have e : bi_dict ds = some d := e
  unfold bi_dict at e
  split at e
  · cases e
    obtain ⟨x, rfl, rx⟩ := one_of r
    obtain ⟨a, kvs, rfl, ha, rr⟩ := rx.dK le
    obtain ⟨u, eu, ru⟩ := vals1 rv
    subst eu
    cases ru
    exact d_copyOf I ha fun p s' hp I' => ⟨.ref p, _, I', rfl, YldF.dK h le bx rr p hp⟩
  · obtain ⟨x, rfl, rx⟩ := one_of r
    obtain ⟨a, xs, rfl, ha, rr⟩ := rx.lst le
    obtain ⟨prs, e1, e2⟩ := Option.bind_eq_some_iff.mp e
    obtain ⟨hk, rfl⟩ := cons_ite (show (if (prs.all fun p => p.1.keyOk false) = true then some (D.dic false (mkDic prs)) else none) = some d from e2)
    obtain ⟨ps, kvs, rfl, hp, hr⟩ := pairs_rep le rr e1 hk
    exact call_dictP hc pins s σ H _ us Q I rv ⟨a, ps, kvs, rfl, SqL.of ha, hp, YldF.dK h le bx (RepK.merge hr List.nodup_nil .nil)⟩
  · cases e
end
end Pz
end
section
set_option Elab.async false
set_option linter.all false
set_option maxRecDepth 100000
namespace Pz
open PySem PySem.Spec PyProof.Rows L2
/-! ### a dict's keys, sorted -/
theorem repK_keys {K : PySem.W.Frag} {Hs : Hp} {ρ : List Addr} : ∀ {l : List (D × D)} {kvs : List (Key × V)}, RepK K Hs ρ l kvs → Paired KeyR (l.map (·.1)) (kvs.map (·.1))
  | [], _, r => by cases r; exact .nil
  | (k, d) :: l, _, r => by
    obtain ⟨kk, v, s, rfl, hk, _, hr⟩ := r.cons_inv
    exact .cons hk (repK_keys hr)
theorem keys_str : ∀ {l : List D} {ks : List Key} {ss : List (List Nat)}, Paired KeyR l ks → strL l = some ss → ks = (ss.map mk).map Sum.inr ∧ l = ss.map .str ∧ ∀ x ∈ ss, SOk x
  | [], _, ss, r, e => by cases r; cases e; exact ⟨rfl, rfl, by simp⟩
  | d :: l, _, ss, r, e => by
    cases r with
    | cons h t =>
      cases h with
      | int i => cases e
      | @str x hx =>
        obtain ⟨ss', e', rfl⟩ := Option.map_eq_some_iff.mp (show (strL l).map (x :: ·) = some ss from e)
        obtain ⟨rfl, rfl, h3⟩ := keys_str t e'
        refine ⟨rfl, rfl, fun y hy => ?_⟩
        rcases List.mem_cons.1 hy with rfl | hy
        · exact hx
        · exact h3 y hy
theorem keys_int : ∀ {l : List D} {ks : List Key} {ss : List Int}, Paired KeyR l ks → intL l = some ss → ks = ss.map Sum.inl ∧ l = ss.map .int
  | [], _, ss, r, e => by cases r; cases e; exact ⟨rfl, rfl⟩
  | d :: l, _, ss, r, e => by
    cases r with
    | cons h t =>
      cases h with
      | @str x hx => cases e
      | int i =>
        obtain ⟨ss', e', rfl⟩ := Option.map_eq_some_iff.mp (show (intL l).map (i :: ·) = some ss from e)
        obtain ⟨rfl, rfl⟩ := keys_int t e'
        exact ⟨rfl, rfl⟩
theorem ordL_strs : ∀ l : List (List Nat), D.ordL (l.map .str) = true
  | [] => rfl
  | _ :: l => ordL_strs l
theorem ordL_ints : ∀ l : List Int, D.ordL (l.map .int) = true
  | [] => rfl
  | _ :: l => ordL_ints l
theorem repL_strs {K : PySem.W.Frag} {Hs : Hp} {ρ : List Addr} : ∀ l : List (List Nat), (∀ x ∈ l, SOk x) → RepL K Hs ρ (l.map .str) ((l.map mk).map V.str)
  | [], _ => .nil
  | a :: l, h => .cons (.str (h a List.mem_cons_self)) (repL_strs l fun x hx => h x (List.mem_cons_of_mem _ hx))
theorem repL_ints {K : PySem.W.Frag} {Hs : Hp} {ρ : List Addr} : ∀ l : List Int, RepL K Hs ρ (l.map .int) (l.map V.int)
  | [] => .nil
  | a :: l => .cons (.int a) (repL_ints l)
theorem lt_cps (x y : List Nat) : ltCps x y = ltS x y := by
  rw [ltS_lex]; exact PyProof.Rows.ltCps_eq x y
theorem rising_pw : ∀ (l : List Str) (p : Str), PyProof.Rows.risingS p l = true → (p :: l).Pairwise (fun a b => ltS b.cps.toList a.cps.toList = false)
  | [], p, _ => by simp
  | x :: l, p, h => by
    have h : (!ltCps x.cps.toList p.cps.toList && PyProof.Rows.risingS x l) = true := h
    rw [Bool.and_eq_true, Bool.not_eq_true', lt_cps] at h
    have ih := rising_pw l x h.2
    refine List.pairwise_cons.2 ⟨fun y hy => ?_, ih⟩
    rcases List.mem_cons.1 hy with rfl | hy
    · exact h.1
    · exact ltS_ntr _ _ _ h.1 ((List.pairwise_cons.1 ih).1 y hy)
theorem sortedS_pw : ∀ (l : List Str), PyProof.Rows.sortedS l = true → l.Pairwise (fun a b => ltS b.cps.toList a.cps.toList = false)
  | [], _ => List.Pairwise.nil
  | x :: l, h => rising_pw l x h
theorem bi_sortd_ok {X : Cx} (hc : X.calm = true) : CallR X (.builtin "sorted") (rBiN X.K .sortd) := by
  rintro pins s σ H vs us Q I rv ⟨Hs, ρ, B, ds, d, le, bx, r, e, h⟩
  have e : bi_sortd ds = some d := e
  unfold bi_sortd at e
  split at e
  · rename_i l _
    obtain ⟨x, rfl, rx⟩ := one_of r
    obtain ⟨a, kvs, rfl, ha, rr⟩ := rx.dK le
    obtain ⟨hh, rfl⟩ := cons_ite e
    rw [Bool.and_eq_true, decide_eq_true_eq, Bool.or_eq_true] at hh
    have hk := repK_keys rr
    have hl := rr.length
    rcases hh.2 with q | q
    · obtain ⟨ss, e1⟩ := Option.isSome_iff_exists.1 q
      obtain ⟨h1, h2, h3⟩ := keys_str hk e1
      have hsl : ss.length = l.length := by have := congrArg List.length h2; simpa using this.symm
      refine call_sortedD hc pins s σ H _ us Q I rv ⟨a, kvs, ss.map mk, rfl, ha, h1, by rw [List.length_map]; omega, fun ys p hp hs hn => ?_⟩
      have hy : ys = (ys.map fun z => z.cps.toList).map mk := by
        rw [List.map_map]
        conv => lhs; rw [← List.map_id ys]
        rfl
      have hp2 : (ys.map fun z => z.cps.toList).Perm ss := by
        have := hp.map fun z : Str => z.cps.toList
        rw [List.map_map] at this
        have e : ss.map ((fun z : Str => z.cps.toList) ∘ mk) = ss := by
          conv => rhs; rw [← List.map_id ss]
          rfl
        rwa [e] at this
      have e4 : isort (l.map (·.1)) = (ys.map fun z => z.cps.toList).map .str := by
        rw [h2]
        symm
        refine isort_uniq (OrdAll.of ?_ ?_) (hp2.map D.str) ?_
        · exact ordL_strs ss
        · unfold cmpAll; simp [D.cmp]
        · rw [List.pairwise_map, List.pairwise_map]
          refine (sortedS_pw ys hs).imp fun {x y} hxy => ?_
          show ltS _ _ = false
          exact hxy
      rw [e4] at h
      have hok : ∀ x ∈ ys.map fun z => z.cps.toList, SOk x := fun x hx => h3 x (hp2.mem_iff.1 hx)
      rw [hy]
      generalize (ys.map fun z => z.cps.toList) = zs at h hok
      exact YldF.lst h le bx (repL_strs zs hok) p hn
    · obtain ⟨ss, e1⟩ := Option.isSome_iff_exists.1 q
      obtain ⟨h1, h2⟩ := keys_int hk e1
      have hsl : ss.length = l.length := by have := congrArg List.length h2; simpa using this.symm
      refine call_sortedDI hc pins s σ H _ us Q I rv ⟨a, kvs, ss, rfl, ha, h1, by omega, fun ys p hp hs hn => ?_⟩
      have e4 : isort (l.map (·.1)) = ys.map .int := by
        rw [h2]
        symm
        refine isort_uniq (OrdAll.of ?_ ?_) (hp.map D.int) ?_
        · exact ordL_ints ss
        · unfold cmpAll; simp [D.cmp]
        · rw [List.pairwise_map]
          refine hs.imp fun {x y} hxy => ?_
          simp [D.ltb]; omega
      rw [e4] at h
      exact YldF.lst h le bx (repL_ints ys) p hn
  · cases e
end Pz
end
section
set_option Elab.async false
set_option linter.all false
set_option maxRecDepth 100000
namespace Pz
open PySem PySem.Spec PyProof.Rows L2
open PySem.W (alike alikeAll dataLt dataLt_int dataLt_str dataLt_tuple dataLt_all_yes dataLt_all_no eqv_refl_alike keyToksAll keyToks lex_atom)
/-! ### least and greatest of ordered data -/
theorem pyL_map : ∀ l : List D, D.pyL l = l.map D.py
  | [] => rfl
  | d :: l => by rw [D.pyL, pyL_map l]; rfl
section
variable {X : Cx} {pins : List (Addr × Obj)} {σ : L2.St} {H Hs : Hp} {s : Shared} {ρ : List Addr}
mutual
theorem reads_of (I : Inv X pins σ H s) (le : Le Hs H) : ∀ (d : D) (x : V) (v : Value), d.ord = true → Rep X.K Hs ρ d x → RelV x v → ∃ as, Reads s.heap v d.py as
  | .int i => fun x v ho r rv => by
    cases r
    obtain ⟨t, rfl⟩ := rv
    exact ⟨_, .int i t⟩
  | .str l => fun x v ho r rv => by
    cases r
    obtain ⟨t, rfl⟩ := rv
    exact ⟨_, .str _ t⟩
  | .tup l => fun x v ho r rv => by
    cases r with
    | @tup _ a xs h rr =>
      cases rv
      obtain ⟨its, rvv, ⟨o, ho', hc, n, hd⟩, _⟩ := I.tuple (SqT.of (le.tup h))
      obtain ⟨as, ha⟩ := readsL_of I le l xs its (by simpa [D.ord] using ho) rr rvv
      exact ⟨as, by rw [D.py]; exact .tuple ho' hc hd (by simpa using ha)⟩
  | .lst l => fun x v ho r rv => by
    cases r with
    | @lst _ a xs h rr =>
      cases rv
      obtain ⟨its, rvv, p, _⟩ := I.list (SqL.of (le.lst h))
      obtain ⟨o, ho', hc, n, hd⟩ := p.isList
      obtain ⟨as, ha⟩ := readsL_of I le l xs its (by simpa [D.ord] using ho) rr rvv
      exact ⟨_, by rw [D.py]; exact .list ho' hc hd (by simpa using ha)⟩
  | .non => fun x v ho r rv => by simp [D.ord] at ho
  | .bl _ => fun x v ho r rv => by simp [D.ord] at ho
  | .dic _ _ => fun x v ho r rv => by simp [D.ord] at ho
  | .box _ => fun x v ho r rv => by simp [D.ord] at ho
  | .fn _ => fun x v ho r rv => by simp [D.ord] at ho
  | .scr _ => fun x v ho r rv => by simp [D.ord] at ho
theorem readsL_of (I : Inv X pins σ H s) (le : Le Hs H) : ∀ (l : List D) (xs : List V) (vs : List Value), D.ordL l = true → RepL X.K Hs ρ l xs → Vals xs vs → ∃ as, ReadsAll s.heap vs (D.pyL l) as
  | [] => fun xs vs ho r rv => by
    cases r
    cases rv
    exact ⟨_, .nil⟩
  | d :: l => fun xs vs ho r rv => by
    cases r with
    | cons rd rl =>
      cases rv with
      | cons vd vl =>
        rw [D.ordL, Bool.and_eq_true] at ho
        obtain ⟨as, h1⟩ := reads_of I le d _ _ ho.1 rd vd
        obtain ⟨bs, h2⟩ := readsL_of I le l _ _ ho.2 rl vl
        exact ⟨_, .cons h1 h2⟩
end
end
mutual
theorem alike_self : ∀ d : D, d.ord = true → alike d.py d.py = true
  | .int _, _ => by simp [D.py, alike]
  | .str _, _ => by simp [D.py, alike]
  | .tup l, h => by rw [D.py, alike]; exact alikeL_self l (by simpa [D.ord] using h)
  | .lst l, h => by rw [D.py, alike]; exact alikeL_self l (by simpa [D.ord] using h)
  | .non, h => by simp [D.ord] at h
  | .bl _, h => by simp [D.ord] at h
  | .dic _ _, h => by simp [D.ord] at h
  | .box _, h => by simp [D.ord] at h
  | .fn _, h => by simp [D.ord] at h
  | .scr _, h => by simp [D.ord] at h
theorem alikeL_self : ∀ l : List D, D.ordL l = true → alikeAll (D.pyL l) (D.pyL l) = true
  | [], _ => by simp [D.pyL, alikeAll]
  | d :: l, h => by
    rw [D.ordL, Bool.and_eq_true] at h
    rw [D.pyL, alikeAll, alike_self d h.1, alikeL_self l h.2]; rfl
end
mutual
theorem alike_of : ∀ a b : D, a.ord = true → b.ord = true → D.cmp a b = true → alike a.py b.py = true
  | .int _, b, ha, hb, h => by cases b <;> simp [D.cmp] at h; simp [D.py, alike]
  | .str _, b, ha, hb, h => by cases b <;> simp [D.cmp] at h; simp [D.py, alike]
  | .tup l, b, ha, hb, h => by
    cases b with
    | tup m =>
      rw [D.py, D.py, alike]
      exact alikeL_of l m (by simpa [D.ord] using ha) (by simpa [D.ord] using hb) (by simpa [D.cmp] using h)
    | _ => simp [D.cmp] at h
  | .lst l, b, ha, hb, h => by cases b <;> simp [D.cmp] at h
  | .non, b, ha, hb, h => by simp [D.ord] at ha
  | .bl _, b, ha, hb, h => by simp [D.ord] at ha
  | .dic _ _, b, ha, hb, h => by simp [D.ord] at ha
  | .box _, b, ha, hb, h => by simp [D.ord] at ha
  | .fn _, b, ha, hb, h => by simp [D.ord] at ha
  | .scr _, b, ha, hb, h => by simp [D.ord] at ha
theorem alikeL_of : ∀ l m : List D, D.ordL l = true → D.ordL m = true → D.cmpL l m = true → alikeAll (D.pyL l) (D.pyL m) = true
  | [], m, ha, hb, h => by cases m <;> simp [D.pyL, alikeAll]
  | a :: l, [], ha, hb, h => by simp [D.pyL, alikeAll]
  | a :: l, b :: m, ha, hb, h => by
    rw [D.ordL, Bool.and_eq_true] at ha hb
    rw [D.cmpL, Bool.and_eq_true, Bool.or_eq_true] at h
    rw [D.pyL, D.pyL, alikeAll, Bool.and_eq_true]
    refine ⟨?_, alikeL_of l m ha.2 hb.2 h.2⟩
    rcases h.1 with q | q
    · have := (eqv_ord ha.1 hb.1).1 q
      subst this
      exact alike_self a ha.1
    · exact alike_of a b ha.1 hb.1 q
end
mutual
theorem eqv_py : ∀ a b : D, a.ord = true → b.ord = true → PyData.eqv a.py b.py = D.eqv a b
  | .int _, b, ha, hb => by cases b <;> simp [D.ord] at hb <;> simp [D.py, PyData.eqv, D.eqv]
  | .str x, b, ha, hb => by
    cases b <;> simp [D.ord] at hb <;> simp [D.py, PyData.eqv, D.eqv]
    rename_i y
    by_cases h : x = y
    · subst h; rw [beq_self_eq_true, beq_self_eq_true]
    · have : ¬ mk x = mk y := fun e => h (mk_inj e)
      rw [beq_eq_false_iff_ne.2 h, beq_eq_false_iff_ne.2 this]
  | .tup l, b, ha, hb => by
    cases b <;> simp [D.ord] at hb <;> simp [D.py, PyData.eqv, D.eqv]
    exact eqvL_py l _ (by simpa [D.ord] using ha) hb
  | .lst l, b, ha, hb => by
    cases b <;> simp [D.ord] at hb <;> simp [D.py, PyData.eqv, D.eqv]
    exact eqvL_py l _ (by simpa [D.ord] using ha) hb
  | .non, b, ha, hb => by simp [D.ord] at ha
  | .bl _, b, ha, hb => by simp [D.ord] at ha
  | .dic _ _, b, ha, hb => by simp [D.ord] at ha
  | .box _, b, ha, hb => by simp [D.ord] at ha
  | .fn _, b, ha, hb => by simp [D.ord] at ha
  | .scr _, b, ha, hb => by simp [D.ord] at ha
theorem eqvL_py : ∀ l m : List D, D.ordL l = true → D.ordL m = true → PyData.eqvAll (D.pyL l) (D.pyL m) = D.eqvL l m
  | [], m, ha, hb => by cases m <;> simp [D.pyL, PyData.eqvAll, D.eqvL]
  | a :: l, [], ha, hb => by simp [D.pyL, PyData.eqvAll, D.eqvL]
  | a :: l, b :: m, ha, hb => by
    rw [D.ordL, Bool.and_eq_true] at ha hb
    rw [D.pyL, D.pyL, PyData.eqvAll, D.eqvL, eqv_py a b ha.1 hb.1, eqvL_py l m ha.2 hb.2]
end
mutual
theorem lt_py : ∀ a b : D, a.ord = true → b.ord = true → D.cmp a b = true → dataLt a.py b.py = D.ltb a b
  | .int _, b, ha, hb, h => by cases b <;> simp [D.cmp] at h; simp only [D.py, D.ltb]; exact dataLt_int _ _
  | .str _, b, ha, hb, h => by cases b <;> simp [D.cmp] at h; simp only [D.py, D.ltb]; rw [ltS_lex]; exact dataLt_str _ _
  | .tup l, b, ha, hb, h => by
    cases b with
    | tup m =>
      rw [D.py, D.py, dataLt_tuple, D.ltb]
      exact ltL_py l m (by simpa [D.ord] using ha) (by simpa [D.ord] using hb) (by simpa [D.cmp] using h)
    | _ => simp [D.cmp] at h
  | .lst l, b, ha, hb, h => by cases b <;> simp [D.cmp] at h
  | .non, b, ha, hb, h => by simp [D.ord] at ha
  | .bl _, b, ha, hb, h => by simp [D.ord] at ha
  | .dic _ _, b, ha, hb, h => by simp [D.ord] at ha
  | .box _, b, ha, hb, h => by simp [D.ord] at ha
  | .fn _, b, ha, hb, h => by simp [D.ord] at ha
  | .scr _, b, ha, hb, h => by simp [D.ord] at ha
theorem ltL_py : ∀ l m : List D, D.ordL l = true → D.ordL m = true → D.cmpL l m = true → PyProof.Rows.lexLt itemOrd (keyToksAll (D.pyL l)) (keyToksAll (D.pyL m)) = D.ltbL l m
  | [], [], ha, hb, h => by
    rw [D.pyL, D.ltbL]
    decide +kernel
  | [], b :: m, ha, hb, h => by
    rw [D.pyL, D.pyL, D.ltbL, keyToksAll, keyToksAll]
    rw [lex_atom (by simp)]
    decide +kernel
  | a :: l, [], ha, hb, h => by
    rw [D.pyL, D.pyL, D.ltbL, keyToksAll, keyToksAll]
    rw [lex_atom (by simp)]
    decide +kernel
  | a :: l, b :: m, ha, hb, h => by
    rw [D.ordL, Bool.and_eq_true] at ha hb
    rw [D.cmpL, Bool.and_eq_true, Bool.or_eq_true] at h
    rw [D.pyL, D.pyL, D.ltbL]
    have he := eqv_py a b ha.1 hb.1
    by_cases g : D.eqv a b = true
    · rw [if_pos g]
      have := (eqv_ord ha.1 hb.1).1 g
      subst this
      rw [dataLt_all_yes (alike_self a ha.1) (he.trans g)]
      exact ltL_py l m ha.2 hb.2 h.2
    · rw [if_neg g]
      have hc : D.cmp a b = true := h.1.resolve_left g
      rw [dataLt_all_no (alike_of a b ha.1 hb.1 hc) (he.trans (by simpa using g))]
      exact lt_py a b ha.1 hb.1 hc
end
mutual
theorem py_dep : ∀ d : D, d.ord = true → d.py.depth ≤ d.dep
  | .int _, _ => by simp [D.py, PyData.depth]
  | .str _, _ => by simp [D.py, PyData.depth]
  | .tup l, h => by
    have := pyL_dep l (by simpa [D.ord] using h)
    rw [D.py, PyData.depth, D.dep]; omega
  | .lst l, h => by
    have := pyL_dep l (by simpa [D.ord] using h)
    rw [D.py, PyData.depth, D.dep]; omega
  | .non, h => by simp [D.ord] at h
  | .bl _, h => by simp [D.ord] at h
  | .dic _ _, h => by simp [D.ord] at h
  | .box _, h => by simp [D.ord] at h
  | .fn _, h => by simp [D.ord] at h
  | .scr _, h => by simp [D.ord] at h
theorem pyL_dep : ∀ l : List D, D.ordL l = true → PyData.depthAll (D.pyL l) ≤ D.depL l
  | [], _ => by simp [D.pyL, PyData.depthAll]
  | d :: l, h => by
    rw [D.ordL, Bool.and_eq_true] at h
    have h1 := py_dep d h.1
    have h2 := pyL_dep l h.2
    rw [D.pyL, PyData.depthAll, D.depL]; omega
end
theorem py_inj {a b : D} (ha : a.ord = true) (hb : b.ord = true) (h : a.py = b.py) : a = b := by
  have h1 := eqv_py a b ha hb
  rw [h] at h1
  have h2 : PyData.eqv b.py b.py = true := eqv_refl_alike _ (alike_self b hb)
  rw [h2] at h1
  exact (eqv_ord ha hb).1 h1.symm
theorem py_none {d : D} (h : d.ord = true) : d.py ≠ .none := by
  cases d <;> simp [D.ord] at h <;> simp [D.py]
theorem fold_mem {l : List D} (f : D → D → D) (hf : ∀ m x, f m x = m ∨ f m x = x) : ∀ (d : D), l.foldl f d = d ∨ l.foldl f d ∈ l := by
  induction l with
  | nil => intro d; exact .inl rfl
  | cons a l ih =>
    intro d
    rw [List.foldl_cons]
    rcases ih (f d a) with h | h
    · rcases hf d a with q | q
      · exact .inl (by rw [h, q])
      · exact .inr (by rw [h, q]; exact List.mem_cons_self)
    · exact .inr (List.mem_cons_of_mem _ h)
theorem mnF_or (m x : D) : mnF m x = m ∨ mnF m x = x := by unfold mnF; split <;> simp
theorem mxF_or (m x : D) : mxF m x = m ∨ mxF m x = x := by unfold mxF; split <;> simp
theorem minD_py : ∀ (l : List D) (d : D), OrdAll (d :: l) → PySem.W.minD d.py (D.pyL l) = (l.foldl mnF d).py
  | [], d, o => rfl
  | a :: l, d, o => by
    have hd := o.ord d (by simp)
    have ha := o.ord a (by simp)
    have hc := o.cmp a (by simp) d (by simp)
    have e : (if dataLt a.py d.py then a.py else d.py) = (mnF d a).py := by
      rw [lt_py a d ha hd hc]
      unfold mnF
      split <;> rfl
    show PySem.W.minD (if dataLt a.py d.py then a.py else d.py) (D.pyL l) = ((l.foldl mnF (mnF d a))).py
    rw [e]
    refine minD_py l (mnF d a) (o.sub fun x hx => ?_)
    rcases List.mem_cons.1 hx with rfl | hx
    · rcases mnF_or d a with q | q <;> rw [q] <;> simp
    · simp [hx]
theorem maxD_py : ∀ (l : List D) (d : D), OrdAll (d :: l) → PySem.W.maxD d.py (D.pyL l) = (l.foldl mxF d).py
  | [], d, o => rfl
  | a :: l, d, o => by
    have hd := o.ord d (by simp)
    have ha := o.ord a (by simp)
    have hc := o.cmp d (by simp) a (by simp)
    have e : (if dataLt d.py a.py then a.py else d.py) = (mxF d a).py := by
      rw [lt_py d a hd ha hc]
      unfold mxF
      split <;> rfl
    show PySem.W.maxD (if dataLt d.py a.py then a.py else d.py) (D.pyL l) = ((l.foldl mxF (mxF d a))).py
    rw [e]
    refine maxD_py l (mxF d a) (o.sub fun x hx => ?_)
    rcases List.mem_cons.1 hx with rfl | hx
    · rcases mxF_or d a with q | q <;> rw [q] <;> simp
    · simp [hx]
theorem ordOk_of {l : List D} (h : ordOk l = true) : OrdAll l ∧ D.ordL l = true ∧ D.depL l ≤ 60 := by
  unfold ordOk at h
  rw [Bool.and_eq_true, Bool.and_eq_true, decide_eq_true_eq] at h
  exact ⟨OrdAll.of h.1.1 h.1.2, h.1.1, h.2⟩
theorem alikeAll_of {l : List D} (o : OrdAll l) : PySem.W.AlikeAll (D.pyL l) := by
  rw [pyL_map]
  refine ⟨fun x hx y hy => ?_, fun x hx => ?_⟩
  · obtain ⟨a, ha, rfl⟩ := List.mem_map.1 hx
    obtain ⟨b, hb, rfl⟩ := List.mem_map.1 hy
    exact alike_of a b (o.ord a ha) (o.ord b hb) (o.cmp a ha b hb)
  · obtain ⟨a, ha, rfl⟩ := List.mem_map.1 hx
    exact py_none (o.ord a ha)
section
open PySem.W
variable {prog : Program} {w : World} {A : Around} {E : Value → Shared → Prop} {s : Shared}
theorem min2H {a b : Value} {Q : Value → Shared → Prop}
    (h : wpAny (model prog w) A.in1 (pyIter (.ref s.heap.objs.size)) (fun it s₂ => ∃ I fp wr G n P St H bt, it = .ref I ∧ WalksS prog w A.in1 I fp wr G n P St ∧ St 0 s₂ ∧ (∀ b ∈ fp, b < s₂.heap.objs.size) ∧ 0 < n ∧
      (∀ b o, H.get? b = some o → b ∉ wr) ∧ (∀ b o, H.get? b = some o → s₂.heap.get? b = some o) ∧ CmpIn prog w A.in1 .Lt H P bt ∧ ∀ v s', P (argBest bt (n - 1)) v → Moved wr G s₂ s' → Q v s') E { s with heap := s.heap.push { cls := .type "tuple", data := .seq #[a, b] } }) :
    wpAny (model prog w) A (call (.builtin "min") [a, b]) Q E s := by
  have hname : (toString "min" ++ toString ".loop" : String) = "min.loop" := by decide
  refine call_function_tree F.kind_min F.plain_min F.entry_min (F.args_min2 _ _) ?_
  show wpAny _ A.in1 (Builtin.Builtins.bindParams "min" ["key", "default"] 0 ⟨[], []⟩ >>= _) _ _ s
  refine wpAny_bind (wpAny_of_eq (show Builtin.Builtins.bindParams "min" ["key", "default"] 0 ⟨[], []⟩ = pure [none, none] from rfl) ?_)
  show wpAny _ A.in1 (newTuple [a, b] >>= _) _ _ s
  refine wpAny_bind (wpAny_newObj_type ?_)
  refine wpAny_bind (wpAny_mono h (fun it s₂ h₂ => ?_) fun _ _ e => e)
  obtain ⟨I, fp, wr, G, n, P, St, H, bt, rfl, W, hst, hfp, hn, hw, hkeep, hcmp, hQ⟩ := h₂
  refine wpAny_bind (wpAny_newObj_type ?_)
  have hSf : s₂.heap.objs.size ∉ fp := fun hm => Nat.lt_irrefl _ (hfp _ hm)
  rw [hname]
  refine wpAny_pure ⟨plainId_quiet F.plain_min_loop _, codeAny_min_loop_firstH W H hw bt hcmp s₂.heap.objs.size hSf (fresh_in hkeep) _ hn (fun b o e => Heap.get?_push_of_some _ (hkeep b o e)) (W.frame 0 s₂ _ s₂.toks hst (Nat.le_refl _) fun b _ o e => Heap.get?_push_of_some _ e) (Heap.get?_push_size _ rfl) fun v s' hP hm => ?_⟩
  exact hQ v s' hP (Moved.drop_new (tk := s₂.toks) hm (Nat.le_refl _))
theorem max2H {a b : Value} {Q : Value → Shared → Prop}
    (h : wpAny (model prog w) A.in1 (pyIter (.ref s.heap.objs.size)) (fun it s₂ => ∃ I fp wr G n P St H bt, it = .ref I ∧ WalksS prog w A.in1 I fp wr G n P St ∧ St 0 s₂ ∧ (∀ b ∈ fp, b < s₂.heap.objs.size) ∧ 0 < n ∧
      (∀ b o, H.get? b = some o → b ∉ wr) ∧ (∀ b o, H.get? b = some o → s₂.heap.get? b = some o) ∧ CmpIn prog w A.in1 .Gt H P bt ∧ ∀ v s', P (argBest bt (n - 1)) v → Moved wr G s₂ s' → Q v s') E { s with heap := s.heap.push { cls := .type "tuple", data := .seq #[a, b] } }) :
    wpAny (model prog w) A (call (.builtin "max") [a, b]) Q E s := by
  have hname : (toString "max" ++ toString ".loop" : String) = "max.loop" := by decide
  refine call_function_tree F.kind_max F.plain_max F.entry_max (F.args_max2 _ _) ?_
  show wpAny _ A.in1 (Builtin.Builtins.bindParams "max" ["key", "default"] 0 ⟨[], []⟩ >>= _) _ _ s
  refine wpAny_bind (wpAny_of_eq (show Builtin.Builtins.bindParams "max" ["key", "default"] 0 ⟨[], []⟩ = pure [none, none] from rfl) ?_)
  show wpAny _ A.in1 (newTuple [a, b] >>= _) _ _ s
  refine wpAny_bind (wpAny_newObj_type ?_)
  refine wpAny_bind (wpAny_mono h (fun it s₂ h₂ => ?_) fun _ _ e => e)
  obtain ⟨I, fp, wr, G, n, P, St, H, bt, rfl, W, hst, hfp, hn, hw, hkeep, hcmp, hQ⟩ := h₂
  refine wpAny_bind (wpAny_newObj_type ?_)
  have hSf : s₂.heap.objs.size ∉ fp := fun hm => Nat.lt_irrefl _ (hfp _ hm)
  rw [hname]
  refine wpAny_pure ⟨plainId_quiet F.plain_max_loop _, codeAny_max_loop_firstH W H hw bt hcmp s₂.heap.objs.size hSf (fresh_in hkeep) _ hn (fun b o e => Heap.get?_push_of_some _ (hkeep b o e)) (W.frame 0 s₂ _ s₂.toks hst (Nat.le_refl _) fun b _ o e => Heap.get?_push_of_some _ e) (Heap.get?_push_size _ rfl) fun v s' hP hm => ?_⟩
  exact hQ v s' hP (Moved.drop_new (tk := s₂.toks) hm (Nat.le_refl _))
theorem min2_data {a b : Value} {x y : PyData} {as : List Addr} {Q : Value → Shared → Prop} (hh : A.handled = none) (hr : ReadsAll s.heap [a, b] [x, y] as) (ha : AlikeAll [x, y]) (hu : A.units + 1 + PyData.depthAll [x, y] < cLine)
    (h : ∀ (i : Nat) v h' tk bs, [a, b][i]? = some v → Reads h' v (minD x [y]) bs → (∀ b o, s.heap.get? b = some o → h'.get? b = some o) → Q v { s with heap := h', toks := tk }) :
    wpAny (model prog w) A (call (.builtin "min") [a, b]) Q E s := by
  have k0 : ∀ c o, s.heap.get? c = some o → (s.heap.push { cls := .type "tuple", data := .seq #[a, b] }).get? c = some o := fun c o e => Heap.get?_push_of_some _ e
  have hr1 : ReadsAll (s.heap.push { cls := .type "tuple", data := .seq #[a, b] }) [a, b] [x, y] as := ReadsAll.keeps k0 hr
  have hl : Heap.IsTuple (s.heap.push { cls := .type "tuple", data := .seq #[a, b] }) s.heap.objs.size #[a, b] := ⟨_, Heap.get?_push_size _ rfl, rfl, 0, rfl⟩
  refine min2H (iter_tupleW (A := A.in1) (s := { s with heap := s.heap.push { cls := .type "tuple", data := .seq #[a, b] } }) hh hl fun s₂ e W st hfp hw hk => ?_)
  refine ⟨_, _, _, _, _, _, _, s.heap.push { cls := .type "tuple", data := .seq #[a, b] }, _, rfl, W, st, hfp, by simp, hw, hk, cmpIn_lt (A := A.in1) (s := { s with heap := s.heap.push { cls := .type "tuple", data := .seq #[a, b] } }) hr1 ha (by show A.units + 1 + _ < _; exact hu), fun v s' hP m => ?_⟩
  obtain ⟨h', tk, rfl, hk'⟩ := moved_old e rfl m
  obtain ⟨bs, r, _, _, _⟩ := readsAll_atA (vs := #[a, b]) hr1 _ v hP
  have e2 := (argBest_fold dataLt PyData.none x [y] [y].length (Nat.le_refl _)).2
  rw [List.take_length] at e2
  exact h _ v h' tk bs (by simpa using hP) (reads_keeps hk' (by unfold minD; rw [← e2]; exact r)) fun c o q => hk' c o (k0 c o q)
theorem max2_data {a b : Value} {x y : PyData} {as : List Addr} {Q : Value → Shared → Prop} (hh : A.handled = none) (hr : ReadsAll s.heap [a, b] [x, y] as) (ha : AlikeAll [x, y]) (hu : A.units + 1 + PyData.depthAll [x, y] < cLine)
    (h : ∀ (i : Nat) v h' tk bs, [a, b][i]? = some v → Reads h' v (maxD x [y]) bs → (∀ b o, s.heap.get? b = some o → h'.get? b = some o) → Q v { s with heap := h', toks := tk }) :
    wpAny (model prog w) A (call (.builtin "max") [a, b]) Q E s := by
  have k0 : ∀ c o, s.heap.get? c = some o → (s.heap.push { cls := .type "tuple", data := .seq #[a, b] }).get? c = some o := fun c o e => Heap.get?_push_of_some _ e
  have hr1 : ReadsAll (s.heap.push { cls := .type "tuple", data := .seq #[a, b] }) [a, b] [x, y] as := ReadsAll.keeps k0 hr
  have hl : Heap.IsTuple (s.heap.push { cls := .type "tuple", data := .seq #[a, b] }) s.heap.objs.size #[a, b] := ⟨_, Heap.get?_push_size _ rfl, rfl, 0, rfl⟩
  refine max2H (iter_tupleW (A := A.in1) (s := { s with heap := s.heap.push { cls := .type "tuple", data := .seq #[a, b] } }) hh hl fun s₂ e W st hfp hw hk => ?_)
  refine ⟨_, _, _, _, _, _, _, s.heap.push { cls := .type "tuple", data := .seq #[a, b] }, _, rfl, W, st, hfp, by simp, hw, hk, cmpIn_gt (A := A.in1) (s := { s with heap := s.heap.push { cls := .type "tuple", data := .seq #[a, b] } }) hr1 ha (by show A.units + 1 + _ < _; exact hu), fun v s' hP m => ?_⟩
  obtain ⟨h', tk, rfl, hk'⟩ := moved_old e rfl m
  obtain ⟨bs, r, _, _, _⟩ := readsAll_atA (vs := #[a, b]) hr1 _ v hP
  have e2 := (argBest_fold (fun p q => dataLt q p) PyData.none x [y] [y].length (Nat.le_refl _)).2
  rw [List.take_length] at e2
  exact h _ v h' tk bs (by simpa using hP) (reads_keeps hk' (by unfold maxD; rw [← e2]; exact r)) fun c o q => hk' c o (k0 c o q)
end
section
variable {X : Cx}
theorem pick_rep {pins : List (Addr × Obj)} {σ : L2.St} {H Hs : Hp} {s : Shared} {ρ : List Addr} {h' : Heap} {ds : List D} {xs : List V} {its : List Value} {i : Nat} {v : Value} {m : D} {bs : List Addr} (I : Inv X pins σ H s) (le : Le Hs H)
    (o : OrdAll ds) (rr : RepL X.K Hs ρ ds xs) (rv : Vals xs its) (hv : its[i]? = some v) (hm : m ∈ ds) (hr : Reads h' v m.py bs) (hk : ∀ b o, s.heap.get? b = some o → h'.get? b = some o) : ∃ x, RelV x v ∧ Rep X.K Hs ρ m x := by
  have hi : i < ds.length := by
    have h1 := (List.getElem?_eq_some_iff.mp hv).1
    have h2 := rv.length
    have h3 := rr.length
    omega
  obtain ⟨x, hx, rx⟩ := rr.get (List.getElem?_eq_getElem hi)
  obtain ⟨u, hu, ru⟩ := rv.get hx
  rw [hv] at hu
  cases hu
  obtain ⟨as, h4⟩ := reads_of I le ds[i] x v (o.ord _ (List.getElem_mem hi)) rx ru
  have h5 := PySem.W.reads_keeps hk h4
  have h6 := PySem.W.alike_unique _ _ _ _ _ (alike_of _ _ (o.ord _ (List.getElem_mem hi)) (o.ord _ hm) (o.cmp _ (List.getElem_mem hi) _ hm)) h5 hr
  have h7 := py_inj (o.ord _ (List.getElem_mem hi)) (o.ord _ hm) h6
  rw [h7] at rx
  exact ⟨x, ru, rx⟩
theorem bi_mng_ok (hu : X.A.units + 70 < cLine) (hc : X.calm = true) : CallR X (.builtin "min") (rBi X.K .mng) := by
  rintro pins s σ H vs us Q I rv ⟨Hs, ρ, B, ds, d, le, bx, r, e, h⟩
  have e : bi_mng ds = some d := e
  unfold bi_mng at e
  split at e
  · rename_i d0 l _
    obtain ⟨x, rfl, rx⟩ := one_of r
    obtain ⟨a, xs, rfl, ha, rr⟩ := rx.lst le
    obtain ⟨hok, rfl⟩ := cons_ite e
    obtain ⟨o, ho, hd⟩ := ordOk_of hok
    obtain ⟨its, rvv, hl, hz⟩ := I.list (SqL.of ha)
    rw [Vals.ref1 rv]
    obtain ⟨as, hr⟩ := readsL_of I le (d0 :: l) xs its ho rr rvv
    have hmem : l.foldl mnF d0 ∈ d0 :: l := by
      rcases fold_mem mnF mnF_or d0 with q | q
      · rw [q]; exact List.mem_cons_self
      · exact List.mem_cons_of_mem _ q
    refine PySem.W.min_list_data (I.ok.hd hc) hl.isList (x := d0.py) (xs := D.pyL l) (as := as) (by simpa [D.pyL] using hr) (by have := alikeAll_of o; rwa [D.pyL] at this) (by have := py_depthL (d0 :: l); rw [D.pyL] at this; omega) fun i v h' tk bs hv hrd hk => ?_
    rw [minD_py l d0 o] at hrd
    obtain ⟨y, ry, rep⟩ := pick_rep I le o rr rvv (by simpa using hv) hmem hrd hk
    exact ⟨y, H, I.kept (t' := tk) hk, ry, h.here le bx rep⟩
  · cases e
theorem bi_mxg_ok (hu : X.A.units + 70 < cLine) (hc : X.calm = true) : CallR X (.builtin "max") (rBi X.K .mxg) := by
  rintro pins s σ H vs us Q I rv ⟨Hs, ρ, B, ds, d, le, bx, r, e, h⟩
  have e : bi_mxg ds = some d := e
  unfold bi_mxg at e
  split at e
  · rename_i d0 l _
    obtain ⟨x, rfl, rx⟩ := one_of r
    obtain ⟨a, xs, rfl, ha, rr⟩ := rx.lst le
    obtain ⟨hok, rfl⟩ := cons_ite e
    obtain ⟨o, ho, hd⟩ := ordOk_of hok
    obtain ⟨its, rvv, hl, hz⟩ := I.list (SqL.of ha)
    rw [Vals.ref1 rv]
    obtain ⟨as, hr⟩ := readsL_of I le (d0 :: l) xs its ho rr rvv
    have hmem : l.foldl mxF d0 ∈ d0 :: l := by
      rcases fold_mem mxF mxF_or d0 with q | q
      · rw [q]; exact List.mem_cons_self
      · exact List.mem_cons_of_mem _ q
    refine PySem.W.max_list_data (I.ok.hd hc) hl.isList (x := d0.py) (xs := D.pyL l) (as := as) (by simpa [D.pyL] using hr) (by have := alikeAll_of o; rwa [D.pyL] at this) (by have := py_depthL (d0 :: l); rw [D.pyL] at this; omega) fun i v h' tk bs hv hrd hk => ?_
    rw [maxD_py l d0 o] at hrd
    obtain ⟨y, ry, rep⟩ := pick_rep I le o rr rvv (by simpa using hv) hmem hrd hk
    exact ⟨y, H, I.kept (t' := tk) hk, ry, h.here le bx rep⟩
  · cases e
theorem bi_mng2_ok (hu : X.A.units + 70 < cLine) (hc : X.calm = true) : CallR X (.builtin "min") (rBi X.K .mng2) := by
  rintro pins s σ H vs us Q I rv ⟨Hs, ρ, B, ds, d, le, bx, r, e, h⟩
  have e : bi_mng2 ds = some d := e
  unfold bi_mng2 at e
  split at e
  · rename_i d0 d1 _
    obtain ⟨x, y, rfl, rx, ry⟩ := two_of r
    obtain ⟨hok, rfl⟩ := cons_ite e
    obtain ⟨o, ho, hd⟩ := ordOk_of hok
    have rx := cmp_repL (o.cmp d0 (by simp) d0 (by simp)) rx
    have ry := cmp_repL (o.cmp d1 (by simp) d1 (by simp)) ry
    obtain ⟨u, w, rfl⟩ : ∃ u w, us = [u, w] := by
      have := rv.length
      match us, this with
      | [u, w], _ => exact ⟨u, w, rfl⟩
    obtain ⟨as, hr⟩ := readsL_of I le [d0, d1] [x, y] [u, w] ho (.cons rx (.cons ry .nil)) rv
    have hmem : mnF d0 d1 ∈ [d0, d1] := by rcases mnF_or d0 d1 with q | q <;> rw [q] <;> simp
    refine min2_data (I.ok.hd hc) (x := d0.py) (y := d1.py) (as := as) (by simpa [D.pyL] using hr) (by have := alikeAll_of o; simpa [D.pyL] using this) (by have := py_depthL [d0, d1]; simp only [D.pyL] at this; omega) fun i v h' tk bs hv hrd hk => ?_
    have e2 := minD_py [d1] d0 o
    simp only [D.pyL] at e2
    rw [e2] at hrd
    obtain ⟨z, rz, rep⟩ := pick_rep I le o (.cons rx (.cons ry .nil)) rv hv hmem hrd hk
    exact ⟨z, H, I.kept (t' := tk) hk, rz, h.here le bx rep⟩
  · cases e
theorem bi_mxg2_ok (hu : X.A.units + 70 < cLine) (hc : X.calm = true) : CallR X (.builtin "max") (rBi X.K .mxg2) := by
  rintro pins s σ H vs us Q I rv ⟨Hs, ρ, B, ds, d, le, bx, r, e, h⟩
  have e : bi_mxg2 ds = some d := e
  unfold bi_mxg2 at e
  split at e
  · rename_i d0 d1 _
    obtain ⟨x, y, rfl, rx, ry⟩ := two_of r
    obtain ⟨hok, rfl⟩ := cons_ite e
    obtain ⟨o, ho, hd⟩ := ordOk_of hok
    have rx := cmp_repL (o.cmp d0 (by simp) d0 (by simp)) rx
    have ry := cmp_repL (o.cmp d1 (by simp) d1 (by simp)) ry
    obtain ⟨u, w, rfl⟩ : ∃ u w, us = [u, w] := by
      have := rv.length
      match us, this with
      | [u, w], _ => exact ⟨u, w, rfl⟩
    obtain ⟨as, hr⟩ := readsL_of I le [d0, d1] [x, y] [u, w] ho (.cons rx (.cons ry .nil)) rv
    have hmem : mxF d0 d1 ∈ [d0, d1] := by rcases mxF_or d0 d1 with q | q <;> rw [q] <;> simp
    refine max2_data (I.ok.hd hc) (x := d0.py) (y := d1.py) (as := as) (by simpa [D.pyL] using hr) (by have := alikeAll_of o; simpa [D.pyL] using this) (by have := py_depthL [d0, d1]; simp only [D.pyL] at this; omega) fun i v h' tk bs hv hrd hk => ?_
    have e2 := maxD_py [d1] d0 o
    simp only [D.pyL] at e2
    rw [e2] at hrd
    obtain ⟨z, rz, rep⟩ := pick_rep I le o (.cons rx (.cons ry .nil)) rv hv hmem hrd hk
    exact ⟨z, H, I.kept (t' := tk) hk, rz, h.here le bx rep⟩
  · cases e
end
end Pz
end
section
set_option Elab.async false
set_option linter.all false
set_option maxRecDepth 100000
namespace Pz
open PySem PySem.Spec PyProof.Rows L2

/-! ### a comprehension of two clauses -/
def del (H : Hp) (D : Addr) : Hp := fun a => if a = D then none else H a
theorem del_ne {H : Hp} {D a : Addr} (h : a ≠ D) : del H D a = H a := if_neg h
theorem del_at {H : Hp} {D : Addr} : del H D D = none := if_pos rfl
theorem del_some {H : Hp} {D a : Addr} {o : HO} (h : del H D a = some o) : a ≠ D ∧ H a = some o := by
  by_cases e : a = D
  · subst e; rw [del_at] at h; cases h
  · rw [del_ne e] at h; exact ⟨e, h⟩
theorem del_none {H : Hp} {D a : Addr} (h : H a = none) : del H D a = none := by
  by_cases e : a = D
  · subst e; exact del_at
  · rw [del_ne e]; exact h
section
variable {K : PySem.W.Frag} {Hs Hs' H H' : Hp} {ρ ρ' : List Addr} {D : Addr}
theorem Gr.del2 (g : Gr Hs H ρ Hs' H' ρ') : Gr Hs (del H D) ρ Hs' (del H' D) ρ' where
  hs := g.hs
  fr := fun a o h => by
    rcases g.fr a o h with q | q
    · exact .inl q
    · exact .inr (del_none q)
  kp := fun a o h n => by
    obtain ⟨e, h⟩ := del_some h
    rw [del_ne e]; exact g.kp a o h n
  th := fun a o h => by
    obtain ⟨e, h⟩ := del_some h
    rw [del_ne e]; exact g.th a o h
  rp := g.rp
  rn := fun a h => by
    rcases g.rn a h with q | q
    · exact .inl q
    · exact .inr (del_none q)
theorem Gr.delR (g : Gr Hs H ρ Hs' H' ρ') (n : H D = none) : Gr Hs H ρ Hs' (del H' D) ρ' where
  hs := g.hs
  fr := g.fr
  kp := fun a o h k => by rw [del_ne (ne_of_none h n)]; exact g.kp a o h k
  th := fun a o h => by rw [del_ne (ne_of_none h n)]; exact g.th a o h
  rp := g.rp
  rn := g.rn
theorem gr_undel : Gr Hs (del H D) ρ Hs H ρ where
  hs := fun _ _ h => h
  fr := fun a o h => .inl ⟨_, h⟩
  kp := fun a o h _ => (del_some h).2
  th := fun a o h => ⟨_, (del_some h).2⟩
  rp := List.prefix_refl _
  rn := fun a h => .inl h
theorem le_del (l : Le Hs H) (n : Hs D = none) : Le Hs (del H D) := fun a o h => by
  rw [del_ne (ne_of_none h n)]
  exact l a o h
theorem bok_del {B : List Pz.D} (b : BOk K Hs ρ H B) (n : D ∉ ρ) : BOk K Hs ρ (del H D) B := by
  refine ⟨b.len, b.nd, fun m c d e1 e2 => ?_⟩
  obtain ⟨h, hn⟩ := b.at_ m c d e1 e2
  exact ⟨h.mono (Le.refl _) (List.prefix_refl _) (del_ne fun z => n (by rw [← z]; exact List.mem_of_getElem? e1)), hn⟩
theorem wipeS_own : ∀ {vs : List Nat} {σ : Sg} {i : Nat} {d : Pz.D}, (wipeS σ vs)[i]? = some (.own d) → σ[i]? = some (.own d) ∧ i ∉ vs
  | [], _, _, _, h => ⟨h, List.not_mem_nil⟩
  | v :: vs, σ, i, d, h => by
    have h : ((wipeS σ vs).set v .no)[i]? = some (.own d) := h
    rcases set_at h with ⟨_, z⟩ | ⟨z, h⟩
    · cases z
    · obtain ⟨h1, h2⟩ := wipeS_own h
      exact ⟨h1, fun m => (List.mem_cons.mp m).elim (fun e => z e.symm) h2⟩
/-- slots that do not own a place stand without it -/
theorem stt_del {σV : L2.St} {σ : Sg} {B : List Pz.D} (s : Stt K Hs ρ H σV σ B) (n : Hs D = none) (nr : D ∉ ρ) (h : ∀ (i : Nat) (d : Pz.D) (a : Addr), σ[i]? = some (.own d) → σV[i]? = some (some (.ref a)) → a ≠ D) : Stt K Hs ρ (del H D) σV σ B := by
  refine ⟨le_del s.le n, bok_del s.bx nr, s.len, fun i x e => ?_, s.di⟩
  have hx := s.sl i x e
  cases x with
  | no => trivial
  | val d => exact hx
  | own d =>
    obtain ⟨a, ea, o, nb⟩ := s.slotV e
    rw [ea]
    exact ⟨a, rfl, o.mono (Le.refl _) (List.prefix_refl _) (del_ne (h i d a e ea)), nb⟩
/-- the turns of a comprehension that goes on with a list -/
theorem lc_turnsG {α : Type} {Φ : Fn} {tg : Tg} {ic ie : E} {Wi : WX} {W0 : XK} {p : Bool} {J : It} {ds : List Pz.D} {Hs0 Hs1 H0 H1 Hb : Hp} {ρ0 ρ1 : List Addr} {σV : L2.St} {σ : Sg} {B1 : List Pz.D} {f : List Pz.D × List Pz.D → Rs α} {R : α → Prop} {Fin : Hp → Prop} {acc0 : List Pz.D} {accV0 : List V}
    (st : Stt K Hs1 ρ1 H1 σV σ B1) (hit : ItR K p J Hs1 ρ1 H1 ds) (hl : acc0.length + ds.length ≤ ln)
    (out : OutG K W0 Hs0 ρ0 H0 ((lcLoop (lcF Φ tg ic ie σ) ds B1).bind f) R) (hD : H1 D = none)
    (gb : Gr Hs1 H1 ρ1 Hs1 Hb ρ1) (lb : Le Hs1 Hb) (bb : BOk K Hs1 ρ1 Hb B1) (hb : Hb D = some (.lst accV0)) (rb : RepL K Hs1 ρ1 acc0 accV0)
    (fin : ∀ l B H Hs ρ, OutG K W0 Hs0 ρ0 H0 (f (l, B)) R → Gr Hs1 H1 ρ1 Hs H ρ → Le Hs H → BOk K Hs ρ H B → OwnAt K Hs ρ H D (.lst (acc0 ++ l)) → Hs D = none → D ∉ ρ → l.length ≤ ds.length → Fin H) :
    ∃ W : Nat → Nat → Hp → Prop, (∃ m, W 0 m Hb) ∧ ∀ i m H, W i m H →
      (J.stop i H ∧ Fin H) ∨ (J.go i H ∧ ∃ Nx : Hp → Prop, (∀ H', Nx H' → ∃ m', m' < m ∧ W (i + 1) m' H') ∧ ∀ x H', J.yld i H x H' → rdP K tg x (L2.wipe σV tg.names) H' fun σ2 H2 => L2.wipe σ2 tg.names = L2.wipe σV tg.names ∧ rdT K Φ Wi ic σ2 H2 fun b H3 =>
        if b = true then rdE K Φ Wi false ie σ2 H3 fun y H4 => ∃ acc, H4 D = some (.lst acc) ∧ acc.length < sizeLine ∧ Nx (upd H4 D (.lst (acc ++ [y]))) else Nx H3) := by
  have hs0 : Hs1 D = none := st.le.there hD
  have hr0 : D ∉ ρ1 := rho_new hD st.bx
  let Inv_ : Nat → Hp → Prop := fun i H => i ≤ ds.length ∧ ∃ Hs ρ B acc accV, Gr Hs1 H1 ρ1 Hs H ρ ∧ Le Hs H ∧ BOk K Hs ρ H B ∧ H D = some (.lst accV) ∧ Hs D = none ∧ D ∉ ρ ∧ RepL K Hs ρ (acc0 ++ acc) accV ∧ acc.length ≤ i ∧
    OutG K W0 Hs0 ρ0 H0 ((lcLoop (lcF Φ tg ic ie σ) (ds.drop i) B).bind fun r => f (acc ++ r.1, r.2)) R
  refine ⟨fun i m H => m = ds.length - i ∧ Inv_ i H, ⟨_, rfl, Nat.zero_le _, Hs1, ρ1, B1, [], accV0, gb, lb, bb, hb, hs0, hr0, by rw [List.append_nil]; exact rb, Nat.zero_le _, out⟩, ?_⟩
  rintro i m H ⟨rfl, hi, Hs, ρ, B, acc, accV, g, l, b, h1, h2, h3, h4, h5, out⟩
  by_cases he : i = ds.length
  · subst he
    rw [List.drop_length] at out
    have out : OutG K W0 Hs0 ρ0 H0 (f (acc ++ [], B)) R := out
    rw [List.append_nil] at out
    exact .inl ⟨hit.stop _ Hs H ρ (.of g) l (Nat.le_refl _), fin acc B H Hs ρ out g l b ⟨_, h1, h4⟩ h2 h3 h5⟩
  · have hlt : i < ds.length := by omega
    rw [List.drop_eq_getElem_cons hlt] at out
    refine .inr ⟨hit.go i Hs H ρ (.of g) l hlt, fun H' => Inv_ (i + 1) H', fun H' h => ⟨ds.length - (i + 1), by omega, rfl, h⟩, fun x H' hy => ?_⟩
    obtain ⟨Hs2, g2, l2, b2, r2⟩ := hit.yld i Hs H ρ B x H' _ (.of g) l b (List.getElem?_eq_getElem hlt) hy
    have out : OutG K W0 Hs0 ρ0 H0 (((lcF Φ tg ic ie σ ds[i] B).bind fun x => (lcLoop (lcF Φ tg ic ie σ) (ds.drop (i + 1)) x.2).bind fun r => .ok ((match x.1 with | some y => y :: r.1 | none => r.1), r.2)).bind fun r => f (acc ++ r.1, r.2)) R := out
    rw [Rs.bind_bind] at out
    have out : OutG K W0 Hs0 ρ0 H0 (((Rs.of (put tg ds[i] (wipeS σ tg.names))).bind fun σ' => (ev Φ false ic σ' B).bind fun y => Pz.isB y.1 fun k =>
      if k then (ev Φ false ie σ' y.2).bind fun z => .ok (some z.1, z.2) else .ok (none, y.2)).bind fun x => ((lcLoop (lcF Φ tg ic ie σ) (ds.drop (i + 1)) x.2).bind fun r => .ok ((match x.1 with | some y => y :: r.1 | none => r.1), r.2)).bind fun r => f (acc ++ r.1, r.2)) R := out
    rw [Rs.bind_bind] at out
    obtain ⟨σ', hput, out⟩ := OutG.of out
    have hown : OwnAt K Hs ρ H D (.lst (acc0 ++ acc)) := ⟨_, h1, h4⟩
    refine ⟨Hs2, ρ, wipeS σ tg.names, B, _, σ', ((st.grow g l b).grow g2 l2 b2).wipe_ _, r2, hput, fun σV' st' kp => ⟨?_, ?_⟩⟩
    · rw [wipe_set (L2.wipe σV tg.names) tg.names σV' kp.lv kp.v, wipe_wipe]
    rw [Rs.bind_bind] at out
    refine ⟨Hs2, ρ, σ', B, st', OutG.bindC out fun y B3 v H3 Hs3 ρ3 g3 l3 b3 r3 out => ?_⟩
    have hown3 := (g2.trans g3).own hown h2 h3
    have out : OutG K W0 Hs0 ρ0 H0 ((Pz.isB y fun k => if k then (ev Φ false ie σ' B3).bind fun z => Rs.ok (some z.1, z.2) else .ok (none, B3)).bind fun x => ((lcLoop (lcF Φ tg ic ie σ) (ds.drop (i + 1)) x.2).bind fun r => .ok ((match x.1 with | some y => y :: r.1 | none => r.1), r.2)).bind fun r => f (acc ++ r.1, r.2)) R := out
    have hy : ∃ k, y = .bl k := by
      cases y with
      | bl k => exact ⟨k, rfl⟩
      | _ => exact out.elim
    obtain ⟨k, rfl⟩ := hy
    refine ⟨k, bl_of r3, ?_⟩
    cases k with
    | false =>
      rw [if_neg Bool.false_ne_true]
      obtain ⟨⟨accV3, hd3, hr3⟩, hn3, hp3⟩ := hown3
      refine ⟨hlt, Hs3, ρ3, B3, acc, accV3, (g.trans g2).trans g3, l3, b3, hd3, hn3, hp3, hr3, by omega, ?_⟩
      have out : OutG K W0 Hs0 ρ0 H0 (((lcLoop (lcF Φ tg ic ie σ) (ds.drop (i + 1)) B3).bind fun r => Rs.ok (r.1, r.2)).bind fun r => f (acc ++ r.1, r.2)) R := out
      rw [Rs.bind_bind] at out
      exact out
    | true =>
      rw [if_pos rfl]
      have out : OutG K W0 Hs0 ρ0 H0 (((ev Φ false ie σ' B3).bind fun z => Rs.ok (some z.1, z.2)).bind fun x => ((lcLoop (lcF Φ tg ic ie σ) (ds.drop (i + 1)) x.2).bind fun r => .ok ((match x.1 with | some y => y :: r.1 | none => r.1), r.2)).bind fun r => f (acc ++ r.1, r.2)) R := out
      rw [Rs.bind_bind] at out
      refine ⟨Hs3, ρ3, σ', B3, st'.grow g3 l3 b3, OutG.bindC out fun z B4 w H4 Hs4 ρ4 g4 l4 b4 r4 out => ?_⟩
      obtain ⟨⟨accV4, hd4, hr4⟩, hn4, hp4⟩ := ((g2.trans g3).trans g4).own hown h2 h3
      have lenA : accV4.length < sizeLine := by
        rw [← hr4.length, ln_eq, List.length_append]
        omega
      refine ⟨accV4, hd4, lenA, hlt, Hs4, ρ4, B4, acc ++ [z], accV4 ++ [w], ?_, ?_, ?_, upd_same, hn4, hp4, by rw [← List.append_assoc]; exact hr4.append (.cons r4.val .nil), by rw [List.length_append, List.length_singleton]; omega, ?_⟩
      · have gg := ((g.trans g2).trans g3).trans g4
        refine ⟨gg.hs, gg.fr, fun a o q n => ?_, fun a o q => ?_, gg.rp, gg.rn⟩
        · rw [upd_ne (ne_of_none q hD)]
          exact gg.kp a o q n
        · rw [upd_ne (ne_of_none q hD)]
          exact gg.th a o q
      · intro a o q
        rw [upd_ne (ne_of_none q hn4)]
        exact l4 a o q
      · refine ⟨b4.len, b4.nd, fun n a d e1 e2 => ?_⟩
        obtain ⟨h, hn⟩ := b4.at_ n a d e1 e2
        exact ⟨h.mono (Le.refl _) (List.prefix_refl _) (upd_ne fun z => hp4 (by rw [← z]; exact List.mem_of_getElem? e1)), hn⟩
      · have out : OutG K W0 Hs0 ρ0 H0 (((lcLoop (lcF Φ tg ic ie σ) (ds.drop (i + 1)) B4).bind fun r => Rs.ok (z :: r.1, r.2)).bind fun r => f (acc ++ r.1, r.2)) R := out
        rw [Rs.bind_bind] at out
        have e : (fun r : List Pz.D × List Pz.D => (Rs.ok (z :: r.1, r.2)).bind fun r => f (acc ++ r.1, r.2)) = fun r => f (acc ++ [z] ++ r.1, r.2) := by
          funext r
          show f (acc ++ z :: r.1, r.2) = _
          rw [List.append_assoc, List.singleton_append]
        rw [e] at out
        exact out
end
abbrev lcF2 (Φ : Fn) (tg : Tg) (ic : E) (tg2 : Tg) (it2 ic2 ie : E) (σ : Sg) : D → List D → Rs (List D × List D) := fun d B => (Rs.of (put tg d (wipeS σ (tg.names ++ tg2.names)))).bind fun σ' => (ev Φ false ic σ' B).bind fun y => Pz.isB y.1 fun k =>
  if k then (ev Φ false it2 σ' y.2).bind fun z => (Rs.of (itemsOf z.1)).bind fun es => if es.length ≤ 4096 then lcLoop (lcF Φ tg2 ic2 ie σ') es z.2 else .bad
  else .ok ([], y.2)
theorem ItR.low {K : PySem.W.Frag} {J : It} {Hs H H' : Hp} {ρ : List Addr} {ds : List D} (h : ItR K false J Hs ρ H ds) : ItR K false J Hs ρ H' ds where
  go := fun i Hs2 H2 ρ2 c l hi => h.go i Hs2 H2 ρ2 ⟨c.1, c.2.1, fun z => by cases z⟩ l hi
  stop := fun i Hs2 H2 ρ2 c l hi => h.stop i Hs2 H2 ρ2 ⟨c.1, c.2.1, fun z => by cases z⟩ l hi
  yld := fun i Hs2 H2 ρ2 B x H3 d c l b e y => h.yld i Hs2 H2 ρ2 B x H3 d ⟨c.1, c.2.1, fun z => by cases z⟩ l b e y
theorem lc2_turns {K : PySem.W.Frag} {Φ : Fn} {tg tg2 : Tg} {ic it2 ic2 ie : E} {Wi : WX} {W0 : XK} {p : Bool} {J : It} {ds : List D} {Hs0 Hs1 H0 H1 : Hp} {ρ0 ρ1 : List Addr} {σV : L2.St} {σ : Sg} {B1 : List D} {R : D × List D → Prop} {Q : VK}
    (st : Stt K Hs1 ρ1 H1 σV σ B1) (hit : ItR K p J Hs1 ρ1 H1 ds) (hl : ds.length ≤ 4096)
    (out : OutG K W0 Hs0 ρ0 H0 ((lcLoop2 (lcF2 Φ tg ic tg2 it2 ic2 ie σ) ds B1).bind fun r => .ok (.lst r.1, r.2)) R) {D : Addr} (hD : H1 D = none)
    (fin : ∀ l B H Hs ρ, R (.lst l, B) → Gr Hs1 H1 ρ1 Hs H ρ → Le Hs H → BOk K Hs ρ H B → OwnAt K Hs ρ H D (.lst l) → Hs D = none → D ∉ ρ → Q (.ref D) H) :
    ∃ W : Nat → Nat → Hp → Prop, (∃ m, W 0 m (upd H1 D (.lst []))) ∧ ∀ i m H, W i m H →
      (J.stop i H ∧ Q (.ref D) H) ∨ (J.go i H ∧ ∃ Nx : Hp → Prop, (∀ H', Nx H' → ∃ m', m' < m ∧ W (i + 1) m' H') ∧ ∀ x H', J.yld i H x H' → rdP K tg x (L2.wipe σV (tg.names ++ tg2.names)) H' fun σ2 H2 => L2.wipe σ2 (tg.names ++ tg2.names) = L2.wipe σV (tg.names ++ tg2.names) ∧ rdT K Φ Wi ic σ2 H2 fun b H3 =>
        if b = true then rdI K Φ Wi false it2 σ2 H3 fun J1 H4 => ∃ W1 : Nat → Nat → Hp → Prop, (∃ m, W1 0 m H4) ∧ ∀ j k H, W1 j k H →
          (J1.stop j H ∧ Nx H) ∨ (J1.go j H ∧ ∃ Nx1 : Hp → Prop, (∀ H', Nx1 H' → ∃ k', k' < k ∧ W1 (j + 1) k' H') ∧ ∀ x H', J1.yld j H x H' → rdP K tg2 x (L2.wipe σ2 tg2.names) H' fun σ3 H5 => L2.wipe σ3 tg2.names = L2.wipe σ2 tg2.names ∧ rdT K Φ Wi ic2 σ3 H5 fun b H6 =>
            if b = true then rdE K Φ Wi false ie σ3 H6 fun y H7 => ∃ acc, H7 D = some (.lst acc) ∧ acc.length < sizeLine ∧ Nx1 (upd H7 D (.lst (acc ++ [y]))) else Nx1 H6)
        else Nx H3) := by
  have hs0 : Hs1 D = none := st.le.there hD
  have hr0 : D ∉ ρ1 := rho_new hD st.bx
  have hln : ln = 4096 * 4096 := rfl
  let Inv_ : Nat → Hp → Prop := fun i H => i ≤ ds.length ∧ ∃ Hs ρ B acc accV, Gr Hs1 H1 ρ1 Hs H ρ ∧ Le Hs H ∧ BOk K Hs ρ H B ∧ H D = some (.lst accV) ∧ Hs D = none ∧ D ∉ ρ ∧ RepL K Hs ρ acc accV ∧ acc.length ≤ i * 4096 ∧
    OutG K W0 Hs0 ρ0 H0 ((lcLoop2 (lcF2 Φ tg ic tg2 it2 ic2 ie σ) (ds.drop i) B).bind fun r => .ok (.lst (acc ++ r.1), r.2)) R
  refine ⟨fun i m H => m = ds.length - i ∧ Inv_ i H, ⟨_, rfl, Nat.zero_le _, Hs1, ρ1, B1, [], [], gr_new hD, le_new st.le hD, bok_new hD st.bx, upd_same, hs0, hr0, .nil, Nat.zero_le _, out⟩, ?_⟩
  rintro i m H ⟨rfl, hi, Hs, ρ, B, acc, accV, g, l, b, h1, h2, h3, h4, h5, out⟩
  by_cases he : i = ds.length
  · subst he
    rw [List.drop_length] at out
    have out : R (.lst (acc ++ []), B) := out
    rw [List.append_nil] at out
    exact .inl ⟨hit.stop _ Hs H ρ (.of g) l (Nat.le_refl _), fin acc B H Hs ρ out g l b ⟨_, h1, h4⟩ h2 h3⟩
  · have hlt : i < ds.length := by omega
    rw [List.drop_eq_getElem_cons hlt] at out
    refine .inr ⟨hit.go i Hs H ρ (.of g) l hlt, fun H' => Inv_ (i + 1) H', fun H' h => ⟨ds.length - (i + 1), by omega, rfl, h⟩, fun x H' hy => ?_⟩
    obtain ⟨Hs2, g2, l2, b2, r2⟩ := hit.yld i Hs H ρ B x H' _ (.of g) l b (List.getElem?_eq_getElem hlt) hy
    have out : OutG K W0 Hs0 ρ0 H0 (((lcF2 Φ tg ic tg2 it2 ic2 ie σ ds[i] B).bind fun x => (lcLoop2 (lcF2 Φ tg ic tg2 it2 ic2 ie σ) (ds.drop (i + 1)) x.2).bind fun r => .ok (x.1 ++ r.1, r.2)).bind fun r => .ok (.lst (acc ++ r.1), r.2)) R := out
    rw [Rs.bind_bind] at out
    have out : OutG K W0 Hs0 ρ0 H0 (((Rs.of (put tg ds[i] (wipeS σ (tg.names ++ tg2.names)))).bind fun σ' => (ev Φ false ic σ' B).bind fun y => Pz.isB y.1 fun k =>
      if k then (ev Φ false it2 σ' y.2).bind fun z => (Rs.of (itemsOf z.1)).bind fun es => if es.length ≤ 4096 then lcLoop (lcF Φ tg2 ic2 ie σ') es z.2 else .bad
      else .ok ([], y.2)).bind fun x => ((lcLoop2 (lcF2 Φ tg ic tg2 it2 ic2 ie σ) (ds.drop (i + 1)) x.2).bind fun r => .ok (x.1 ++ r.1, r.2)).bind fun r => .ok (.lst (acc ++ r.1), r.2)) R := out
    rw [Rs.bind_bind] at out
    obtain ⟨σ', hput, out⟩ := OutG.of out
    have hown : OwnAt K Hs ρ H D (.lst acc) := ⟨_, h1, h4⟩
    have stw := ((st.grow g l b).grow g2 l2 b2).wipe_ (tg.names ++ tg2.names)
    refine ⟨Hs2, ρ, wipeS σ (tg.names ++ tg2.names), B, _, σ', stw, r2, hput, fun σV' st' kp => ⟨?_, ?_⟩⟩
    · rw [wipe_set (L2.wipe σV (tg.names ++ tg2.names)) (tg.names ++ tg2.names) σV' kp.lv (fun i hi => kp.v i fun z => hi (List.mem_append_left _ z)), wipe_wipe]
    rw [Rs.bind_bind] at out
    refine ⟨Hs2, ρ, σ', B, st', OutG.bindC out fun y B3 v H3 Hs3 ρ3 g3 l3 b3 r3 out => ?_⟩
    have hown2 := g2.own hown h2 h3
    have hown3 := g3.own hown2.1 hown2.2.1 hown2.2.2
    have out : OutG K W0 Hs0 ρ0 H0 ((Pz.isB y fun k => if k then (ev Φ false it2 σ' B3).bind fun z => (Rs.of (itemsOf z.1)).bind fun es => if es.length ≤ 4096 then lcLoop (lcF Φ tg2 ic2 ie σ') es z.2 else .bad else .ok ([], B3)).bind fun x => ((lcLoop2 (lcF2 Φ tg ic tg2 it2 ic2 ie σ) (ds.drop (i + 1)) x.2).bind fun r => .ok (x.1 ++ r.1, r.2)).bind fun r => .ok (.lst (acc ++ r.1), r.2)) R := out
    have hy : ∃ k, y = .bl k := by
      cases y with
      | bl k => exact ⟨k, rfl⟩
      | _ => exact out.elim
    obtain ⟨k, rfl⟩ := hy
    refine ⟨k, bl_of r3, ?_⟩
    cases k with
    | false =>
      rw [if_neg Bool.false_ne_true]
      obtain ⟨⟨accV3, hd3, hr3⟩, hn3, hp3⟩ := hown3
      refine ⟨hlt, Hs3, ρ3, B3, acc, accV3, (g.trans g2).trans g3, l3, b3, hd3, hn3, hp3, hr3, by rw [Nat.succ_mul]; omega, ?_⟩
      have out : OutG K W0 Hs0 ρ0 H0 (((lcLoop2 (lcF2 Φ tg ic tg2 it2 ic2 ie σ) (ds.drop (i + 1)) B3).bind fun r => Rs.ok ([] ++ r.1, r.2)).bind fun r => .ok (.lst (acc ++ r.1), r.2)) R := out
      rw [Rs.bind_bind] at out
      exact out
    | true =>
      rw [if_pos rfl]
      have out : OutG K W0 Hs0 ρ0 H0 (((ev Φ false it2 σ' B3).bind fun z => (Rs.of (itemsOf z.1)).bind fun es => if es.length ≤ 4096 then lcLoop (lcF Φ tg2 ic2 ie σ') es z.2 else .bad).bind fun x => ((lcLoop2 (lcF2 Φ tg ic tg2 it2 ic2 ie σ) (ds.drop (i + 1)) x.2).bind fun r => .ok (x.1 ++ r.1, r.2)).bind fun r => .ok (.lst (acc ++ r.1), r.2)) R := out
      rw [Rs.bind_bind] at out
      -- the slots own no part of the new list
      have hno : ∀ (i : Nat) (d : Pz.D) (a : Addr), σ'[i]? = some (.own d) → σV'[i]? = some (some (.ref a)) → a ≠ D := fun j d a e1 e2 z => by
        subst z
        obtain ⟨e3, n3⟩ := kp.s j d e1
        obtain ⟨e4, n4⟩ := wipeS_own e3
        rw [kp.v j n3, wipe_out n4] at e2
        obtain ⟨a', e5, o, _⟩ := st.slotV e4
        rw [e2] at e5
        cases e5
        obtain ⟨u, hu⟩ := o.some_
        rw [hD] at hu; cases hu
      have stD3 : Stt K Hs3 ρ3 (del H3 D) σV' σ' B3 := stt_del (st'.grow g3 l3 b3) hown3.2.1 hown3.2.2 hno
      refine ⟨Hs3, ρ3, σ', B3, st'.grow g3 l3 b3, ?_⟩
      cases q : ev Φ false it2 σ' B3 with
      | bad => rw [q] at out; exact out
      | ex c ps B => exact exx_any
      | ok z =>
        rw [q] at out
        obtain ⟨es, hes, out⟩ := OutG.of (show OutG K W0 Hs0 ρ0 H0 ((Rs.of (itemsOf z.1)).bind fun es => (if es.length ≤ 4096 then lcLoop (lcF Φ tg2 ic2 ie σ') es z.2 else .bad).bind fun x => ((lcLoop2 (lcF2 Φ tg ic tg2 it2 ic2 ie σ) (ds.drop (i + 1)) x.2).bind fun r => .ok (x.1 ++ r.1, r.2)).bind fun r => .ok (.lst (acc ++ r.1), r.2)) R from by rw [← Rs.bind_bind]; exact out)
        by_cases hle : es.length ≤ 4096
        · rw [if_pos hle] at out
          show OutG K _ Hs3 ρ3 H3 ((Rs.of (itemsOf z.1)).bind fun ds => Rs.ok (ds, z.2)) _
          rw [hes]
          intro J1 H4 Hs4 ρ4 g4 l4 b4 hit1
          obtain ⟨⟨accV4, hd4, hr4⟩, hn4, hp4⟩ := g4.own hown3.1 hown3.2.1 hown3.2.2
          have stD4 : Stt K Hs4 ρ4 (del H4 D) σV' σ' z.2 := stD3.grow g4.del2 (le_del l4 hn4) (bok_del b4 hp4)
          have hacc : acc.length + es.length ≤ ln := by
            rw [hln]
            have := Nat.mul_le_mul_right 4096 (show i + 1 ≤ 4096 by omega)
            rw [Nat.succ_mul] at this
            omega
          refine lc_turnsG (Wi := Wi) stD4 hit1.low hacc out del_at gr_undel l4 b4 hd4 hr4 fun l' B' H' Hs' ρ' out' g' l_ b_ o n nr hlen => ?_
          have hlen : l'.length ≤ es.length := hlen
          obtain ⟨accV5, hd5, hr5⟩ := o
          refine ⟨hlt, Hs', ρ', B', acc ++ l', accV5, ((((g.trans g2).trans g3).trans g4).delR hD).trans g', l_, b_, hd5, n, nr, hr5, by rw [List.length_append, Nat.succ_mul]; omega, ?_⟩
          rw [Rs.bind_bind] at out'
          have e : (fun r : List Pz.D × List Pz.D => (Rs.ok (l' ++ r.1, r.2)).bind fun r => Rs.ok (Pz.D.lst (acc ++ r.1), r.2)) = fun r => Rs.ok (Pz.D.lst (acc ++ l' ++ r.1), r.2) := by
            funext r
            show Rs.ok (Pz.D.lst (acc ++ (l' ++ r.1)), r.2) = _
            rw [List.append_assoc]
          have out' : OutG K W0 Hs0 ρ0 H0 ((lcLoop2 (lcF2 Φ tg ic tg2 it2 ic2 ie σ) (ds.drop (i + 1)) B').bind fun r => (Rs.ok (l' ++ r.1, r.2)).bind fun r => Rs.ok (Pz.D.lst (acc ++ r.1), r.2)) R := out'
          rw [e] at out'
          exact out'
        · rw [if_neg hle] at out
          exact out.elim
section
variable {X : Cx} {Φ : Fn} {W : WX} {elt tp it tp2 itp2 : Expr} {ifs ifs2 : List Expr} {scope : Scope} {own : List (Str × Nat)} {cpos : Pos} {tg tg2 : Tg} {iit ic iit2 ic2 ie : E}
theorem lc2_core_ {R : Hp → List Addr → Hp → D × List D → Prop} (hR : Shf R) {σV : L2.St} {H : Hp} {Q : VK} {p : Bool}
    (hq : ∀ Hs ρ H x, R Hs ρ H x → YldN X.K Hs ρ H x.2 x.1 Q) (h : ∃ Hs ρ σ B, Stt X.K Hs ρ H σV σ B ∧ OutG X.K (fun c d h => W c d σV h) Hs ρ H (ev Φ p (.lc2 tg iit ic tg2 iit2 ic2 ie) σ B) (R Hs ρ H)) :
    tLc2 (rdI X.K Φ W true iit) (rdP X.K tg) (rdT X.K Φ WX0 ic) (rdI X.K Φ WX0 false iit2) (rdP X.K tg2) (rdT X.K Φ WX0 ic2) (rdE X.K Φ WX0 false ie) (tg.names ++ tg2.names) tg2.names σV H Q := by
  obtain ⟨Hs, ρ, σ, B, st, out⟩ := h
  refine ⟨Hs, ρ, σ, B, st, ?_⟩
  have out : OutG X.K (fun c d h => W c d σV h) Hs ρ H ((ev Φ true iit σ B).bind fun x => (Rs.of (itemsOf x.1)).bind fun ds => if ds.length ≤ 4096 then (lcLoop2 (lcF2 Φ tg ic tg2 iit2 ic2 ie σ) ds x.2).bind fun r => .ok (.lst r.1, r.2) else .bad) (R Hs ρ H) := out
  cases q : ev Φ true iit σ B with
  | bad => rw [q] at out; exact out
  | ex c ps B => exact exx_any
  | ok x =>
    rw [q] at out
    obtain ⟨ds, hds, out⟩ := OutG.of (show OutG X.K _ Hs ρ H ((Rs.of (itemsOf x.1)).bind fun ds => if ds.length ≤ 4096 then (lcLoop2 (lcF2 Φ tg ic tg2 iit2 ic2 ie σ) ds x.2).bind fun r => Rs.ok (.lst r.1, r.2) else .bad) (R Hs ρ H) from out)
    obtain ⟨hl, out⟩ := OutG.ite out
    show OutG X.K _ Hs ρ H ((Rs.of (itemsOf x.1)).bind fun ds => Rs.ok (ds, x.2)) _
    rw [hds]
    intro J H1 Hs1 ρ1 g1 l1 b1 hit D hD
    refine lc2_turns (st.grow g1 l1 b1) hit hl out hD fun l B H' Hs' ρ' r g l_ b own n nr => ?_
    have y : YldF X.K Hs ρ H B (.lst l) Q := hq _ _ _ _ r
    exact y D H' Hs' ρ' (g1.trans g) l_ b own n nr (g1.none_ hD)
theorem e_lc2 (hc : X.calm = true) (hN : X.N.Nodup) (hi : IOk X Φ W true tp it iit) (ok : BlkOk X.N X.env.scope scope own) (hv : own.map (·.2) = tg.names ++ tg2.names)
    (hg : ∀ (s : Shared) (H : Hp) (C : Addr) (cl : List (Str × Addr)) (fp : List Addr), GOk (X.blk s H scope (compEnvC scope cl C X.env) fp) tp tg)
    (ht : ∀ (s : Shared) (H : Hp) (C : Addr) (cl : List (Str × Addr)) (fp : List Addr), TsOk (X.blk s H scope (compEnvC scope cl C X.env) fp) Φ WX0 ifs ic)
    (hi2 : ∀ (s : Shared) (H : Hp) (C : Addr) (cl : List (Str × Addr)) (fp : List Addr), IOk (X.blk s H scope (compEnvC scope cl C X.env) fp) Φ WX0 false tp2 itp2 iit2)
    (hg2 : ∀ (s : Shared) (H : Hp) (C : Addr) (cl : List (Str × Addr)) (fp : List Addr), GOk (X.blk s H scope (compEnvC scope cl C X.env) fp) tp2 tg2)
    (ht2 : ∀ (s : Shared) (H : Hp) (C : Addr) (cl : List (Str × Addr)) (fp : List Addr), TsOk (X.blk s H scope (compEnvC scope cl C X.env) fp) Φ WX0 ifs2 ic2)
    (he : ∀ (s : Shared) (H : Hp) (C : Addr) (cl : List (Str × Addr)) (fp : List Addr), EOk (X.blk s H scope (compEnvC scope cl C X.env) fp) Φ WX0 elt ie)
    (hs : ∀ x, foldedSetIterable it X.env x = pure x := by intro _; rfl) (hs2 : ∀ env x, foldedSetIterable itp2 env x = pure x := by intro _ _; rfl) : EOk X Φ W (.ListComp elt [⟨tp, it, ifs, 0⟩, ⟨tp2, itp2, ifs2, 0⟩] scope cpos) (.lc2 tg iit ic tg2 iit2 ic2 ie) :=
  ⟨fun p => (pe_lc2 (own := own) (vs1 := tg2.names) hc hN hi.run ok (fun i hi => by rw [hv]; exact List.mem_append_right _ hi) (fun s H C cl fp => (hg s H C cl fp).run) (fun s H C cl fp => (ht s H C cl fp).run) (fun s H C cl fp => (hi2 s H C cl fp).run) (fun s H C cl fp => (hg2 s H C cl fp).run) (fun s H C cl fp => (ht2 s H C cl fp).run) (fun s H C cl fp => (he s H C cl fp).run false) hs hs2).weaken fun σV H Q h => by
    rw [hv]
    exact lc2_core_ Yld.shf (fun _ _ _ _ h => .of h) h⟩
end
end Pz
namespace Pz
open PySem PySem.Spec PyProof.Rows L2
/-- a block in a block, none of whose names is free -/
theorem blkOk_in {N : List Str} {sc scope : Scope} {own : List (Str × Nat)} (h : blkC N { kind := .function, names := [], isGenerator := false, isCoroutine := false } scope own = true) : BlkOk N sc scope own := by
  have b := blkOk_by h
  refine ⟨b.kind, b.uniq, b.ix, fun y hy e => ?_, b.own⟩
  rcases b.free y hy e with q | q <;> cases q
end Pz
namespace Pz
open PySem PySem.Spec PyProof.Rows L2
section
variable {X : Cx} {Φ : Fn} {W : WX} {p pos : Pos} {x : Str} {k id : Nat}
theorem e_call0 (C : Cl X.prog X.w X.K X.mg X.base k Φ x id) (hr : Room k X.A) (hg : Gl X x) (hdb : (x == ("__debug__" : Str)) = false := by decide) : EOk X Φ W (.Call (.Name x p) [] [] pos) (.call id .nil) := by
  obtain ⟨f, fd, ps, F, hm, hk, hb⟩ := C.ex
  refine ⟨fun p => (pe_call0 (E := fun _ _ _ => False) F hr hg hm hk hb .nil pass0 hdb).weaken fun σV H Q ⟨Hs, ρ, σ, B, st, out⟩ => ?_⟩
  refine ⟨Hs, ρ, B, [], st.le, st.bx, .nil, ?_⟩
  have out : Out X.K (fun c d h => W c d σV h) p Hs ρ H (Φ id [] B) Q := out
  show Out X.K _ false Hs ρ H (Φ id [] B) Q
  cases q : Φ id [] B with
  | ok x => rw [q] at out; exact Yld.f (p := p) out
  | ex c ps B => exact exx_any
  | bad => rw [q] at out; exact out
end
end Pz
end
section
set_option Elab.async false
set_option linter.all false
set_option maxRecDepth 100000
set_option maxHeartbeats 4000000
/-! slices of tuples by steps -/
namespace HT
open PySem PySem.Spec PyProof.Rows
/-- the items of xs[lo:hi:k] -/
def stepV {α : Type} (xs : List α) (lo hi : Option Int) (k : Int) : List α :=
  (List.range (Builtin.Slice.slicePlaces (Builtin.Slice.sliceAdjust lo hi k (xs.length : Int)).1 (Builtin.Slice.sliceAdjust lo hi k (xs.length : Int)).2 k)).filterMap fun (m : Nat) => xs[((Builtin.Slice.sliceAdjust lo hi k (xs.length : Int)).1 + (m : Int) * k).toNat]?
section
variable {prog : Program} {w : World} {A : Around} {E : Value → Shared → Prop} {s : Shared}
theorem sliceApplied_step {sl : Addr} {vl vu vs : Value} {lo hi : Option Int} {k n : Int} {Q : Int × Int × Nat → Shared → Prop} (hs : s.heap.IsSliceOf sl vl vu vs) (pl : IsPart vl lo) (pu : IsPart vu hi) (ps : IsPart vs (some k)) (h0 : k ≠ 0)
    (h : Q ((Builtin.Slice.sliceAdjust lo hi k n).1, k, Builtin.Slice.slicePlaces (Builtin.Slice.sliceAdjust lo hi k n).1 (Builtin.Slice.sliceAdjust lo hi k n).2 k) s) : wpAny (model prog w) A (Builtin.Slice.sliceApplied (.ref sl) (pure n)) Q E s := by
  obtain ⟨os, hos, hcs, hds⟩ := id hs
  unfold Builtin.Slice.sliceApplied Builtin.Slice.sliceFields
  refine wpAny_bind (wpAny_bind (wpAny_field hos hds (x := vl) rfl (wpAny_bind (wpAny_field hos hds (x := vu) rfl (wpAny_bind (wpAny_field hos hds (x := vs) rfl (wpAny_pure ?_)))))))
  refine wpAny_bind (slicePart_ ps ?_)
  have hk : ((k : Int) == 0) = false := by simpa using h0
  show wpAny _ _ (if (k == 0) = true then _ else _) _ _ s
  rw [hk, if_neg Bool.false_ne_true]
  refine wpAny_bind (slicePart_ pl (wpAny_bind (slicePart_ pu (wpAny_bind (wpAny_pure ?_)))))
  exact wpAny_pure h
theorem getItem_tuple_step {t sl : Addr} {items : Array Value} {vl vu vs : Value} {lo hi : Option Int} {k : Int} {Q : Value → Shared → Prop} (ht : IsTup s.heap t items) (hs : s.heap.IsSliceOf sl vl vu vs) (pl : IsPart vl lo) (pu : IsPart vu hi) (ps : IsPart vs (some k)) (h0 : k ≠ 0) (h1 : k ≠ 1)
    (h : Q (.ref s.heap.objs.size) { s with heap := s.heap.push { cls := .type "tuple", data := .seq (stepV items.toList lo hi k).toArray } })
    (hsz : (stepV items.toList lo hi k).length ≤ sizeLine) : wpAny (model prog w) A (getItem (.ref t) (.ref sl)) Q E s := by
  have htake : sizeOk (.seq (stepV items.toList lo hi k).toArray) := by
    show (stepV items.toList lo hi k).toArray.size ≤ sizeLine
    rw [List.size_toArray]
    exact hsz
  obtain ⟨os, hos, hcs, hds⟩ := id hs
  have hTs : s.TypeIs (.ref sl) "slice" := ⟨os, hos, hcs⟩
  unfold getItem
  try with_reducible refine wpAny_holding ?_
  first | refine wpAny_bind (wpAny_pure ?_) | skip
  refine wpAny_bind (wpAny_sequenceKey ht.typeIs (by decide) ?_)
  refine wpAny_bind (wpAny_callSpecial?_slot (name := Str.ofString "__getitem__") ht.typeIs PyProof.Rows.slot_tuple_getitem
    (wpAny_call_entry PyProof.Rows.slot_tuple_getitem ht.typeIs entry_tuple_getitem ?_ (args_tuple_getitem _ _)))
  show wpAny _ _ (Builtin.Tuple.tupleItemsOf (.ref t) >>= _) _ _ s
  refine wpAny_bind (tupleItemsOf_ ht ?_)
  refine wpAny_bind (wpAny_typeOf hTs ?_)
  rw [if_pos (by decide)]
  refine wpAny_bind (sliceApplied_step hs pl pu ps h0 ?_)
  have hno : ¬ (((Builtin.Slice.sliceAdjust lo hi k (items.size : Int)).1 == 0 && k == 1 && (Builtin.Slice.slicePlaces (Builtin.Slice.sliceAdjust lo hi k (items.size : Int)).1 (Builtin.Slice.sliceAdjust lo hi k (items.size : Int)).2 k) == items.size) = true) := by
    intro q
    rw [Bool.and_eq_true, Bool.and_eq_true] at q
    exact h1 (eq_of_beq q.1.2)
  show wpAny _ _ (if ((Builtin.Slice.sliceAdjust lo hi k (items.size : Int)).1 == 0 && k == 1 && (Builtin.Slice.slicePlaces (Builtin.Slice.sliceAdjust lo hi k (items.size : Int)).1 (Builtin.Slice.sliceAdjust lo hi k (items.size : Int)).2 k) == items.size) = true then _ else _) _ _ s
  rw [if_neg hno]
  have e : ((List.range (Builtin.Slice.slicePlaces (Builtin.Slice.sliceAdjust lo hi k (items.size : Int)).1 (Builtin.Slice.sliceAdjust lo hi k (items.size : Int)).2 k)).filterMap fun (m : Nat) => items[((Builtin.Slice.sliceAdjust lo hi k (items.size : Int)).1 + (m : Int) * k).toNat]?) = stepV items.toList lo hi k := by
    unfold stepV
    rw [Array.length_toList]
    simp only [Array.getElem?_toList]
  rw [e]
  first
    | exact wpAny_bind (m := Builtin.Tuple.tupleExact _) (wpAny_newObj_type (wpAny_pure ⟨_, rfl, wpAny_pure h⟩) htake)
    | exact wpAny_bind (m := Builtin.Tuple.tupleExact _) (wpAny_newObj_type (wpAny_bind (wpAny_pure (wpAny_pure ⟨_, rfl, wpAny_pure h⟩))) htake)
    | exact wpAny_bind (wpAny_bind (m := Builtin.Tuple.tupleExact _) (wpAny_newObj_type (wpAny_pure (wpAny_pure ⟨_, rfl, wpAny_pure h⟩)) htake))
    | exact wpAny_bind (wpAny_bind (m := Builtin.Tuple.tupleExact _) (wpAny_newObj_type (wpAny_pure ⟨_, rfl, wpAny_pure h⟩) htake))
end
theorem fm_congr {α β : Type} {f g : α → Option β} : ∀ {l : List α}, (∀ a ∈ l, f a = g a) → l.filterMap f = l.filterMap g
  | [], _ => rfl
  | a :: l, h => by rw [List.filterMap_cons, List.filterMap_cons, h a (by simp), fm_congr (l := l) fun b hb => h b (by simp [hb])]
theorem pickV {α : Type} (xs : List α) : (List.range xs.length).filterMap (fun m => xs[m]?) = xs := by
  have := PySem.W.krv_all xs.toArray
  rw [List.size_toArray] at this
  simpa using this
theorem stepV_rev {α : Type} (xs : List α) : stepV xs none none (-1) = xs.reverse := by
  have e1 : (Builtin.Slice.sliceAdjust none none (-1) (xs.length : Int)).1 = (xs.length : Int) - 1 := rfl
  have e2 : (Builtin.Slice.sliceAdjust none none (-1) (xs.length : Int)).2 = -1 := rfl
  have e3 : Builtin.Slice.slicePlaces ((xs.length : Int) - 1) (-1) (-1) = xs.length := by
    unfold Builtin.Slice.slicePlaces
    have h1 : ¬ ((-1 : Int) > 0) := by decide
    rw [if_neg h1, show (- -1 : Int) = 1 by decide, Int.ediv_one]
    split <;> omega
  unfold stepV
  rw [e1, e2, e3]
  have e4 : ((List.range xs.length).filterMap fun (m : Nat) => xs[((xs.length : Int) - 1 + (m : Int) * (-1)).toNat]?) = ((List.range xs.length).map fun m => xs.length - 1 - m).filterMap fun m => xs[m]? := by
    rw [List.filterMap_map]
    refine fm_congr fun m hm => ?_
    have := List.mem_range.1 hm
    show xs[((xs.length : Int) - 1 + (m : Int) * (-1)).toNat]? = xs[xs.length - 1 - m]?
    congr 1
    omega
  rw [e4, PySem.W.krv_range, List.filterMap_reverse, pickV]
theorem pick_evens {α : Type} : ∀ ys : List α, (List.range ((ys.length + 1) / 2)).filterMap (fun m => ys[2 * m]?) = Pz.evens ys
  | [] => by simp [Pz.evens]
  | [a] => by simp [Pz.evens, List.range_succ]
  | a :: b :: ys => by
    have e : (((a :: b :: ys).length + 1) / 2) = (ys.length + 1) / 2 + 1 := by simp only [List.length_cons]; omega
    rw [e, List.range_succ_eq_map, List.filterMap_cons]
    show a :: _ = a :: Pz.evens ys
    rw [← pick_evens ys, List.filterMap_map]
    congr 1
theorem stepV_evens {α : Type} (xs : List α) (lo : Option Int) (i : Nat) (hlo : (Builtin.Slice.sliceAdjust lo none 2 (xs.length : Int)).1 = ((min i xs.length : Nat) : Int)) : stepV xs lo none 2 = Pz.evens (xs.drop i) := by
  have e2 : (Builtin.Slice.sliceAdjust lo none 2 (xs.length : Int)).2 = xs.length := by unfold Builtin.Slice.sliceAdjust; rfl
  have e3 : Builtin.Slice.slicePlaces ((min i xs.length : Nat) : Int) (xs.length : Int) 2 = ((xs.drop i).length + 1) / 2 := by
    unfold Builtin.Slice.slicePlaces
    have h1 : (2 : Int) > 0 := by decide
    rw [if_pos h1, List.length_drop]
    split <;> omega
  unfold stepV
  rw [hlo, e2, e3, ← pick_evens (xs.drop i)]
  refine fm_congr fun m hm => ?_
  have hm := List.mem_range.1 hm
  rw [List.getElem?_drop, List.length_drop] at *
  congr 1
  omega
end HT
namespace L2
open PySem PySem.Spec PyProof.Rows
theorem Vals.picked {xs : List V} {us : List Value} (r : Vals xs us) (f : Nat → Nat) : ∀ ms : List Nat, Vals (ms.filterMap fun m => xs[f m]?) (ms.filterMap fun m => us[f m]?)
  | [] => .nil
  | m :: ms => by
    have ih := Vals.picked r f ms
    rw [List.filterMap_cons, List.filterMap_cons]
    cases e : xs[f m]? with
    | none =>
      have : us[f m]? = none := by
        rw [List.getElem?_eq_none_iff] at e ⊢
        rw [← r.length]; exact e
      rw [this]; exact ih
    | some x =>
      obtain ⟨u, e2, q⟩ := r.get e
      rw [e2]; exact .cons q ih
theorem stepV_length {α : Type} (xs : List α) (lo hi : Option Int) (k : Int) : (HT.stepV xs lo hi k).length ≤ Builtin.Slice.slicePlaces (Builtin.Slice.sliceAdjust lo hi k (xs.length : Int)).1 (Builtin.Slice.sliceAdjust lo hi k (xs.length : Int)).2 k := by
  unfold HT.stepV
  refine Nat.le_trans (List.length_filterMap_le _ _) ?_
  rw [List.length_range]
  exact Nat.le_refl _
section
variable {X : Cx} {e : Expr} {te : TE} {lo : Option Expr} {tl : TO} {pos p2 : Pos}
/-- t[lo::k] -/
def tStep (K : PySem.W.Frag) (te : TE) (tl : TO) (k : Int) : TE := fun σ H Q => te σ H fun x H1 => tl σ H1 fun l H2 => ∃ a xs, x = .ref a ∧ SqT K H2 a xs ∧ (HT.stepV xs l none k).length ≤ xs.length ∧ ∀ p, H2 p = none → Q (.ref p) (upd H2 p (.tup (HT.stepV xs l none k)))
theorem pe_tstep {st : Expr} {ts : TE} {k : Int} (he : PE X e te) (hl : PO X lo tl) (hst : PE X st ts) (hts : ∀ σ H Q, Q (.int k) H → ts σ H Q) (h0 : k ≠ 0) (h1 : k ≠ 1)
    (hs : ∀ (a sl : Addr), subscripted (.Slice lo none (some st) p2) false (.ref a) (.ref sl) = operate [.ref a, .ref sl] (getItem (.ref a) (.ref sl)))
    : PE X (.Subscript e (.Slice lo none (some st) p2) pos) (tStep X.K te tl k) := by
  refine ⟨fun pins s σ H Q I h => ?_⟩
  refine Subscript_ (thn (he.run pins s σ H _ I h) fun v s1 ⟨x, H1, I1, r1, q1⟩ => ?_)
  refine wpAny_Slice (thn (hl.run pins s1 σ H1 _ I1 q1) fun vl s2 ⟨l, H2, I2, pl, q2⟩ => ?_)
  obtain ⟨a, xs, ex, hx, hlen, q⟩ := q2
  subst ex
  cases r1
  refine thn (po_none.run pins s2 σ H2 (fun o H3 => o = none ∧ H3 = H2) I2 ⟨rfl, rfl⟩) fun vu s3 ⟨u, H3, I3, pu, eu, e3⟩ => ?_
  subst eu e3
  refine thn ((po_some hst).run pins s3 σ H3 (fun o H4 => o = some k ∧ H4 = H3) I3 (hts _ _ _ ⟨k, rfl, rfl, rfl⟩)) fun vs s4 ⟨o, H4, I4, ps, eo, e4⟩ => ?_
  subst eo e4
  have I5 : Inv X pins σ H4 { s4 with heap := s4.heap.push { cls := .type "slice", data := .fields #[vl, vu, vs] } } := I4.kept (t' := s4.toks) fun b ob q => Heap.get?_push_of_some _ q
  obtain ⟨its, r, ht, hz⟩ := I5.tuple hx
  have hl2 := r.length
  show wpAny (model X.prog X.w) X.A (subscriptTail e (.Slice lo none (some st) p2) (.ref a) (.ref s4.heap.objs.size)) (EP X pins σ Q) X.xe { s4 with heap := s4.heap.push { cls := .type "slice", data := .fields #[vl, vu, vs] } }
  refine tail_any (ops := [.ref a, .ref s4.heap.objs.size]) ht.typeIs PyProof.Rows.slot_tuple_getitem.lookup ?_ (hs _ _)
  have hv : Vals (HT.stepV xs l none k) (HT.stepV its l none k) := by
    unfold HT.stepV
    rw [hl2]
    exact Vals.picked r _ _
  have hvl := hv.length
  refine HT.getItem_tuple_step ht (Heap.IsSliceOf.new _ vl vu vs) pl pu ps h0 h1 ?_ ?_
  · refine ⟨.ref _, _, I5.laid (t' := s4.toks) (o := .tup (HT.stepV xs l none k)) (fun b ob q => Heap.get?_push_of_some _ q) (Nat.le_refl _) ?_, rfl, q _ (I5.hok.fresh (Nat.le_refl _))⟩
    exact ⟨Nat.le_trans hlen hz, _, hv, IsTup.new _ _⟩
  · show (HT.stepV its l none k).length ≤ sizeLine
    rw [← hvl]
    exact Nat.le_trans hlen hz
end
end L2
namespace Pz
open PySem PySem.Spec PyProof.Rows L2
section
variable {K : PySem.W.Frag} {Hs : Hp} {ρ : List Addr}
theorem RepL.rev_ : ∀ {l : List D} {xs : List V}, RepL K Hs ρ l xs → RepL K Hs ρ l.reverse xs.reverse
  | [], _, r => by cases r; exact .nil
  | d :: l, _, r => by
    cases r with
    | cons h r =>
      rw [List.reverse_cons, List.reverse_cons]
      exact (RepL.rev_ r).append (.cons h .nil)
theorem RepL.evens_ : ∀ {l : List D} {xs : List V}, RepL K Hs ρ l xs → RepL K Hs ρ (evens l) (evens xs)
  | [], _, r => by cases r; exact .nil
  | [d], _, r => by
    cases r with
    | cons h r => cases r; exact .cons h .nil
  | d :: e :: l, _, r => by
    cases r with
    | cons h r =>
      cases r with
      | cons h2 r => exact .cons h (RepL.evens_ r)
theorem RepL.drop_ : ∀ (k : Nat) {l : List D} {xs : List V}, RepL K Hs ρ l xs → RepL K Hs ρ (l.drop k) (xs.drop k)
  | 0, _, _, r => r
  | k + 1, [], _, r => by cases r; exact .nil
  | k + 1, d :: l, _, r => by
    cases r with
    | cons h r => exact RepL.drop_ k r
theorem evens_len {α : Type} : ∀ l : List α, (evens l).length ≤ l.length
  | [] => Nat.le_refl _
  | [a] => Nat.le_refl _
  | a :: b :: l => by
    have := evens_len l
    show (evens l).length + 1 ≤ l.length + 1 + 1
    omega
end
section
variable {X : Cx} {Φ : Fn} {W : WX} {a : Expr} {ia : E} {pos p2 : Pos}
theorem revD_inv {d e : D} (h : revD d = some e) : (∃ l, d = .tup l ∧ e = .tup l.reverse) ∨ ∃ l, d = .lst l ∧ e = .lst l.reverse := by
  cases d with
  | tup l => exact .inl ⟨l, rfl, (Option.some.inj h).symm⟩
  | lst l => exact .inr ⟨l, rfl, (Option.some.inj h).symm⟩
  | _ => cases h
theorem evnD_inv {k : Nat} {d e : D} (h : evnD k d = some e) : ∃ l, d = .tup l ∧ e = .tup (evens (l.drop k)) := by
  cases d with
  | tup l => exact ⟨l, rfl, (Option.some.inj h).symm⟩
  | _ => cases h
theorem e_rev {k : Nat} {p1 p3 p4 : Pos} (ha : EOk X Φ W a ia) : EOk X Φ W (.Subscript a (.Slice none none (some (.UnaryOp .USub (.Constant (.int 1) k p1) p3)) p4) pos) (.rev ia) :=
  ⟨fun p => ((pe_tstep (k := -1) (ha.run true) po_none (pe_un un_neg pe_int) (fun σ H Q q => ⟨1, rfl, q⟩) (by decide) (by decide) (fun _ _ => by with_unfolding_all rfl)).or (pe_revL (ha.run true))).weaken fun σV H Q ⟨Hs, ρ, σ, B, st, out⟩ => by
    have out : OutG X.K (fun c d h => W c d σV h) Hs ρ H ((ev Φ true ia σ B).bind fun x => (Rs.of (revD (drf x.2 x.1))).bind fun d => Rs.ok (d, x.2)) (fun x => Yld X.K p Hs ρ H x.2 x.1 Q) := out
    cases q : ev Φ true ia σ B with
    | bad => rw [q] at out; exact out.elim
    | ex c ps B' =>
      refine .inl ⟨Hs, ρ, σ, B, st, ?_⟩
      rw [q] at out ⊢
      exact out
    | ok x =>
      rw [q] at out
      obtain ⟨d, hd, out⟩ := OutG.of (show OutG X.K _ Hs ρ H ((Rs.of (revD (drf x.2 x.1))).bind fun d => Rs.ok (d, x.2)) _ from out)
      have out : Yld X.K p Hs ρ H x.2 d Q := out
      rcases revD_inv hd with ⟨l, hl, rfl⟩ | ⟨l, hl, rfl⟩
      · refine .inl ⟨Hs, ρ, σ, B, st, ?_⟩
        rw [q]
        intro v H1 Hs1 ρ1 g1 l1 b1 r1
        have out := Yld.shift out g1
        have ra := drf_ok r1 b1
        rw [hl] at ra
        obtain ⟨b, xs, rfl, hp, r⟩ := ra.tup l1
        refine ⟨b, xs, rfl, SqT.of hp, by rw [HT.stepV_rev, List.length_reverse]; exact Nat.le_refl _, ?_⟩
        rw [HT.stepV_rev]
        exact Yld.tup (p := p) out l1 b1 r.rev_
      · refine .inr ⟨Hs, ρ, σ, B, st, ?_⟩
        rw [q]
        intro v H1 Hs1 ρ1 g1 l1 b1 r1
        have out := Yld.shift out g1
        have ra := drf_ok r1 b1
        rw [hl] at ra
        obtain ⟨b, xs, rfl, hp, r⟩ := ra.lst l1
        exact ⟨b, xs, rfl, SqL.of hp, YldF.lst (YldN.of (p := p) out) l1 b1 r.rev_⟩⟩
theorem adj0 (n : Nat) : (Builtin.Slice.sliceAdjust none none 2 (n : Int)).1 = ((min 0 n : Nat) : Int) := by
  unfold Builtin.Slice.sliceAdjust
  simp
theorem adj1 (n : Nat) : (Builtin.Slice.sliceAdjust (some 1) none 2 (n : Int)).1 = ((min 1 n : Nat) : Int) := by
  unfold Builtin.Slice.sliceAdjust
  simp
  omega
theorem evn_core {tl : TO} {p : Bool} {o : Option Int} {k : Nat} {σV : L2.St} {H : Hp} {Q : VK} (htl : ∀ σ H (R : Option Int → Hp → Prop), R o H → tl σ H R)
    (hadj : ∀ n : Nat, (Builtin.Slice.sliceAdjust o none 2 (n : Int)).1 = ((min k n : Nat) : Int)) (h : rdE X.K Φ W p (.evn ia k) σV H Q) : tStep X.K (rdE X.K Φ W true ia) tl 2 σV H Q := by
  obtain ⟨Hs, ρ, σ, B, st, out⟩ := h
  have out : OutG X.K (fun c d h => W c d σV h) Hs ρ H ((ev Φ true ia σ B).bind fun x => (Rs.of (evnD k (drf x.2 x.1))).bind fun d => Rs.ok (d, x.2)) (fun x => Yld X.K p Hs ρ H x.2 x.1 Q) := out
  refine ⟨Hs, ρ, σ, B, st, ?_⟩
  cases q : ev Φ true ia σ B with
  | bad => rw [q] at out; exact out.elim
  | ex c ps B' =>
    rw [q] at out
    exact out
  | ok x =>
    rw [q] at out
    obtain ⟨d, hd, out⟩ := OutG.of (show OutG X.K _ Hs ρ H ((Rs.of (evnD k (drf x.2 x.1))).bind fun d => Rs.ok (d, x.2)) _ from out)
    have out : Yld X.K p Hs ρ H x.2 d Q := out
    obtain ⟨l, hl, rfl⟩ := evnD_inv hd
    intro v H1 Hs1 ρ1 g1 l1 b1 r1
    have out := Yld.shift out g1
    have ra := drf_ok r1 b1
    rw [hl] at ra
    obtain ⟨b, xs, rfl, hp, r⟩ := ra.tup l1
    have he := HT.stepV_evens xs o k (hadj _)
    refine htl _ _ _ ⟨b, xs, rfl, SqT.of hp, ?_, ?_⟩
    · rw [he]
      refine Nat.le_trans (evens_len _) ?_
      rw [List.length_drop]; omega
    · rw [he]
      exact Yld.tup (p := p) out l1 b1 (RepL.evens_ (RepL.drop_ k r))
theorem e_evn0 {k : Nat} {p1 p4 : Pos} (ha : EOk X Φ W a ia) : EOk X Φ W (.Subscript a (.Slice none none (some (.Constant (.int 2) k p1)) p4) pos) (.evn ia 0) :=
  ⟨fun p => (pe_tstep (k := 2) (ha.run true) po_none pe_int (fun σ H Q q => q) (by decide) (by decide) (fun _ _ => by with_unfolding_all rfl)).weaken fun σV H Q h => evn_core (o := none) (fun _ _ _ r => r) adj0 h⟩
theorem e_evn1 {k k2 : Nat} {p1 p3 p4 : Pos} (ha : EOk X Φ W a ia) : EOk X Φ W (.Subscript a (.Slice (some (.Constant (.int 1) k2 p3)) none (some (.Constant (.int 2) k p1)) p4) pos) (.evn ia 1) :=
  ⟨fun p => (pe_tstep (k := 2) (ha.run true) (po_some pe_int) pe_int (fun σ H Q q => q) (by decide) (by decide) (fun _ _ => by with_unfolding_all rfl)).weaken fun σV H Q h => evn_core (o := some 1) (fun _ _ _ r => ⟨1, rfl, r⟩) adj1 h⟩
end
end Pz
end
section
set_option Elab.async false
set_option linter.all false
namespace Pz
/-! ### evaluation, step by step: what is still to be done stands as data, so that a rewriting goes from left to right -/
section
variable (Φ : Fn) (p : Bool) (σ : Sg) (B : List D)
abbrev Re := Rs (D × List D)
abbrev Res := Rs (List D × List D)
def kVar (B : List D) : Option Sl → Re
  | some (.val d) => .ok (d, B)
  | _ => .bad
@[simp] theorem kVar_v (d : D) : kVar B (some (.val d)) = .ok (d, B) := rfl
def kOwn (B : List D) : Option Sl → Re
  | some (.own d) => .ok (d, B)
  | _ => .bad
@[simp] theorem kOwn_o (d : D) : kOwn B (some (.own d)) = .ok (d, B) := rfl
def kOf (B : List D) : Option D → Re
  | some d => .ok (d, B)
  | none => .bad
@[simp] theorem kOf_s (d : D) : kOf B (some d) = .ok (d, B) := rfl
theorem kOf_if {c : Prop} [Decidable c] (d : D) (h : c) : kOf B (if c then some d else none) = .ok (d, B) := by rw [if_pos h]; rfl
@[simp] theorem kOf_if' {c : Prop} [Decidable c] (d : D) : kOf B (if c then some d else none) = if c then .ok (d, B) else .bad := by by_cases h : c <;> simp [h, kOf]
def kOb (B : List D) : Option Bool → Re
  | some d => .ok (.bl d, B)
  | none => .bad
@[simp] theorem kOb_s (d : Bool) : kOb B (some d) = .ok (.bl d, B) := rfl
theorem kOf_eq (o : Option D) : kOf B o = (Rs.of o).bind fun d => .ok (d, B) := by cases o <;> rfl
theorem kOb_eq (o : Option Bool) : kOb B o = (Rs.of o).bind fun d => .ok (.bl d, B) := by cases o <;> rfl
@[simp] theorem ev_cst (d : D) : ev Φ p (.cst d) σ B = .ok (d, B) := rfl
@[simp] theorem ev_var (i : Nat) : ev Φ p (.var i) σ B = kVar B σ[i]? := rfl
@[simp] theorem ev_own (i : Nat) : ev Φ true (.own i) σ B = kOwn B σ[i]? := by
  unfold ev; cases h : σ[i]? with
  | none => rfl
  | some s => cases s <;> rfl
def kBin2 (o : Bop) (x : D) : Re → Re
  | .ok (y, B) => kOf B (opB o (drf B x) (drf B y))
  | .ex c p B => .ex c p B
  | .bad => .bad
@[simp] theorem kBin2_ok (o : Bop) (x y : D) : kBin2 o x (.ok (y, B)) = kOf B (opB o (drf B x) (drf B y)) := rfl
def kBin1 (o : Bop) (b : E) (m : Re) : Re := m.bind fun x => kBin2 o x.1 (ev Φ true b σ x.2)
@[simp] theorem kBin1_ok (o : Bop) (b : E) (x : D) : kBin1 Φ σ o b (.ok (x, B)) = kBin2 o x (ev Φ true b σ B) := rfl
@[simp] theorem ev_bin (o : Bop) (a b : E) : ev Φ p (.bin o a b) σ B = kBin1 Φ σ o b (ev Φ true a σ B) := by
  show ((ev Φ true a σ B).bind fun x => (ev Φ true b σ x.2).bind fun y => (Rs.of (opB o (drf y.2 x.1) (drf y.2 y.1))).bind fun d => .ok (d, y.2)) = _
  unfold kBin1
  congr 1; funext x
  cases ev Φ true b σ x.2 with
  | ok y => exact (kOf_eq _ _).symm
  | ex c p B => rfl
  | bad => rfl
def kCmp2 (o : Cop) (x : D) : Re → Re
  | .ok (y, B) => kOb B (opC o (drf B x) (drf B y))
  | .ex c p B => .ex c p B
  | .bad => .bad
@[simp] theorem kCmp2_ok (o : Cop) (x y : D) : kCmp2 o x (.ok (y, B)) = kOb B (opC o (drf B x) (drf B y)) := rfl
def kCmp1 (o : Cop) (b : E) (m : Re) : Re := m.bind fun x => kCmp2 o x.1 (ev Φ true b σ x.2)
@[simp] theorem kCmp1_ok (o : Cop) (b : E) (x : D) : kCmp1 Φ σ o b (.ok (x, B)) = kCmp2 o x (ev Φ true b σ B) := rfl
@[simp] theorem ev_cmp (o : Cop) (a b : E) : ev Φ p (.cmp o a b) σ B = kCmp1 Φ σ o b (ev Φ true a σ B) := by
  show ((ev Φ true a σ B).bind fun x => (ev Φ true b σ x.2).bind fun y => (Rs.of (opC o (drf y.2 x.1) (drf y.2 y.1))).bind fun d => .ok (D.bl d, y.2)) = _
  unfold kCmp1
  congr 1; funext x
  cases ev Φ true b σ x.2 with
  | ok y => exact (kOb_eq _ _).symm
  | ex c p B => rfl
  | bad => rfl
def kCh3 (q : Cop) (y : D) (m : Re) : Re := kCmp2 q y m
@[simp] theorem kCh3_ok (q : Cop) (y z : D) : kCh3 q y (.ok (z, B)) = kOb B (opC q (drf B y) (drf B z)) := rfl
def kCh2b (q : Cop) (y : D) (c : E) (B : List D) : Option Bool → Re
  | some true => kCh3 q y (ev Φ true c σ B)
  | some false => .ok (.bl false, B)
  | none => .bad
@[simp] theorem kCh2b_t (q : Cop) (y : D) (c : E) : kCh2b Φ σ q y c B (some true) = kCh3 q y (ev Φ true c σ B) := rfl
@[simp] theorem kCh2b_f (q : Cop) (y : D) (c : E) : kCh2b Φ σ q y c B (some false) = .ok (.bl false, B) := rfl
theorem kCh2b_b (q : Cop) (y : D) (c : E) (k : Bool) : kCh2b Φ σ q y c B (some k) = if k then kCh3 q y (ev Φ true c σ B) else .ok (.bl false, B) := by cases k <;> rfl
def kCh2 (o q : Cop) (x : D) (c : E) : Re → Re
  | .ok (y, B) => kCh2b Φ σ q y c B (opC o (drf B x) (drf B y))
  | .ex c p B => .ex c p B
  | .bad => .bad
@[simp] theorem kCh2_ok (o q : Cop) (x y : D) (c : E) : kCh2 Φ σ o q x c (.ok (y, B)) = kCh2b Φ σ q y c B (opC o (drf B x) (drf B y)) := rfl
def kCh1 (o q : Cop) (b c : E) (m : Re) : Re := m.bind fun x => kCh2 Φ σ o q x.1 c (ev Φ true b σ x.2)
@[simp] theorem kCh1_ok (o q : Cop) (b c : E) (x : D) : kCh1 Φ σ o q b c (.ok (x, B)) = kCh2 Φ σ o q x c (ev Φ true b σ B) := rfl
@[simp] theorem ev_chain (o q : Cop) (a b c : E) : ev Φ p (.chain o q a b c) σ B = kCh1 Φ σ o q b c (ev Φ true a σ B) := by
  show ((ev Φ true a σ B).bind fun x => (ev Φ true b σ x.2).bind fun y => (Rs.of (opC o (drf y.2 x.1) (drf y.2 y.1))).bind fun d =>
      if d then (ev Φ true c σ y.2).bind fun z => (Rs.of (opC q (drf z.2 y.1) (drf z.2 z.1))).bind fun e => .ok (D.bl e, z.2) else .ok (D.bl false, y.2)) = _
  unfold kCh1
  congr 1; funext x
  cases ev Φ true b σ x.2 with
  | ok y =>
    show _ = kCh2b _ _ _ _ _ _ _
    show ((Rs.of (opC o (drf y.2 x.1) (drf y.2 y.1))).bind _) = _
    cases opC o (drf y.2 x.1) (drf y.2 y.1) with
    | none => rfl
    | some d =>
      cases d with
      | false => rfl
      | true =>
        show ((ev Φ true c σ y.2).bind _) = kCh3 q y.1 (ev Φ true c σ y.2)
        cases ev Φ true c σ y.2 with
        | ok z => exact (kOb_eq _ _).symm
        | ex c p B => rfl
        | bad => rfl
  | ex c p B => rfl
  | bad => rfl
def kAnd (b : E) (m : Re) : Re := m.bind fun x => isB x.1 fun k => if k then ev Φ false b σ x.2 else .ok (.bl false, x.2)
@[simp] theorem kAnd_t (b : E) : kAnd Φ σ b (.ok (.bl true, B)) = ev Φ false b σ B := rfl
@[simp] theorem kAnd_f (b : E) : kAnd Φ σ b (.ok (.bl false, B)) = .ok (.bl false, B) := rfl
theorem kAnd_b (b : E) (k : Bool) : kAnd Φ σ b (.ok (.bl k, B)) = if k then ev Φ false b σ B else .ok (.bl false, B) := rfl
@[simp] theorem ev_and (a b : E) : ev Φ p (.and a b) σ B = kAnd Φ σ b (ev Φ false a σ B) := rfl
def kOr (b : E) (m : Re) : Re := m.bind fun x => isB x.1 fun k => if k then .ok (.bl true, x.2) else ev Φ false b σ x.2
@[simp] theorem kOr_t (b : E) : kOr Φ σ b (.ok (.bl true, B)) = .ok (.bl true, B) := rfl
@[simp] theorem kOr_f (b : E) : kOr Φ σ b (.ok (.bl false, B)) = ev Φ false b σ B := rfl
theorem kOr_b (b : E) (k : Bool) : kOr Φ σ b (.ok (.bl k, B)) = if k then .ok (.bl true, B) else ev Φ false b σ B := rfl
@[simp] theorem ev_or (a b : E) : ev Φ p (.or a b) σ B = kOr Φ σ b (ev Φ false a σ B) := rfl
def kNot (m : Re) : Re := m.bind fun x => isB x.1 fun k => .ok (.bl (!k), x.2)
@[simp] theorem kNot_b (k : Bool) : kNot (.ok (.bl k, B)) = .ok (.bl (!k), B) := rfl
@[simp] theorem ev_not (a : E) : ev Φ p (.not a) σ B = kNot (ev Φ false a σ B) := rfl
def kIte (a b : E) (m : Re) : Re := m.bind fun x => isB x.1 fun k => if k then ev Φ false a σ x.2 else ev Φ false b σ x.2
@[simp] theorem kIte_t (a b : E) : kIte Φ σ a b (.ok (.bl true, B)) = ev Φ false a σ B := rfl
@[simp] theorem kIte_f (a b : E) : kIte Φ σ a b (.ok (.bl false, B)) = ev Φ false b σ B := rfl
theorem kIte_b (a b : E) (k : Bool) : kIte Φ σ a b (.ok (.bl k, B)) = if k then ev Φ false a σ B else ev Φ false b σ B := rfl
@[simp] theorem ev_ite (c a b : E) : ev Φ p (.ite c a b) σ B = kIte Φ σ a b (ev Φ false c σ B) := rfl
def kNeg (m : Re) : Re := m.bind fun x => match x.1 with | .int i => .ok (.int (-i), x.2) | _ => .bad
@[simp] theorem kNeg_ok (i : Int) : kNeg (.ok (.int i, B)) = .ok (.int (-i), B) := rfl
@[simp] theorem ev_neg (a : E) : ev Φ p (.neg a) σ B = kNeg (ev Φ false a σ B) := rfl
def kSub2 (x : D) : Re → Re
  | .ok (y, B) => kOf B (subD (drf B x) (drf B y))
  | .ex c p B => .ex c p B
  | .bad => .bad
@[simp] theorem kSub2_ok (x y : D) : kSub2 x (.ok (y, B)) = kOf B (subD (drf B x) (drf B y)) := rfl
def kSub1 (b : E) (m : Re) : Re := m.bind fun x => kSub2 x.1 (ev Φ true b σ x.2)
@[simp] theorem kSub1_ok (b : E) (x : D) : kSub1 Φ σ b (.ok (x, B)) = kSub2 x (ev Φ true b σ B) := rfl
@[simp] theorem ev_sub (a b : E) : ev Φ p (.sub a b) σ B = kSub1 Φ σ b (ev Φ true a σ B) := by
  show ((ev Φ true a σ B).bind fun x => (ev Φ true b σ x.2).bind fun y => (Rs.of (subD (drf y.2 x.1) (drf y.2 y.1))).bind fun d => .ok (d, y.2)) = _
  unfold kSub1
  congr 1; funext x
  cases ev Φ true b σ x.2 with
  | ok y => exact (kOf_eq _ _).symm
  | ex c p B => rfl
  | bad => rfl
def kCut3 (hi : E) (x : D) (l : Option Int) (m : Re) : Re := m.bind fun z => (Rs.of (part hi z.1)).bind fun h => kOf z.2 (cutD (drf z.2 x) l h)
theorem kCut3_ok (hi : E) (x z : D) (l h : Option Int) (e : part hi z = some h) : kCut3 hi x l (.ok (z, B)) = kOf B (cutD (drf B x) l h) := by
  show ((Rs.of (part hi z)).bind _) = _
  rw [e]; rfl
@[simp] theorem kCut3_no (x : D) (l : Option Int) : kCut3 .nop x l (.ok (.non, B)) = kOf B (cutD (drf B x) l none) := rfl
@[simp] theorem kCut3_int (hi : E) (x : D) (l : Option Int) (i : Int) (h : hi ≠ .nop) : kCut3 hi x l (.ok (.int i, B)) = kOf B (cutD (drf B x) l (some i)) := by
  refine kCut3_ok _ _ _ _ _ _ ?_
  cases hi <;> first | rfl | exact absurd rfl h
def kCut2 (lo hi : E) (x : D) (m : Re) : Re := m.bind fun y => (Rs.of (part lo y.1)).bind fun l => kCut3 hi x l (ev Φ false hi σ y.2)
@[simp] theorem kCut2_no (hi : E) (x : D) : kCut2 Φ σ .nop hi x (.ok (.non, B)) = kCut3 hi x none (ev Φ false hi σ B) := rfl
@[simp] theorem kCut2_int (lo hi : E) (x : D) (i : Int) (h : lo ≠ .nop) : kCut2 Φ σ lo hi x (.ok (.int i, B)) = kCut3 hi x (some i) (ev Φ false hi σ B) := by
  show ((Rs.of (part lo (.int i))).bind _) = _
  have : part lo (.int i) = some (some i) := by cases lo <;> first | rfl | exact absurd rfl h
  rw [this]; rfl
def kCut1 (lo hi : E) (m : Re) : Re := m.bind fun x => kCut2 Φ σ lo hi x.1 (ev Φ false lo σ x.2)
@[simp] theorem kCut1_ok (lo hi : E) (x : D) : kCut1 Φ σ lo hi (.ok (x, B)) = kCut2 Φ σ lo hi x (ev Φ false lo σ B) := rfl
@[simp] theorem ev_cut (a lo hi : E) : ev Φ p (.cut a lo hi) σ B = kCut1 Φ σ lo hi (ev Φ true a σ B) := by
  show ((ev Φ true a σ B).bind fun x => (ev Φ false lo σ x.2).bind fun y => (Rs.of (part lo y.1)).bind fun l => (ev Φ false hi σ y.2).bind fun z =>
      (Rs.of (part hi z.1)).bind fun h => (Rs.of (cutD (drf z.2 x.1) l h)).bind fun d => .ok (d, z.2)) = _
  unfold kCut1 kCut2 kCut3
  simp only [kOf_eq]
@[simp] theorem ev_nop : ev Φ p .nop σ B = .ok (.non, B) := rfl
def kRev (m : Re) : Re := m.bind fun x => kOf x.2 (revD (drf x.2 x.1))
@[simp] theorem kRev_ok (x : D) : kRev (.ok (x, B)) = kOf B (revD (drf B x)) := rfl
@[simp] theorem ev_rev (a : E) : ev Φ p (.rev a) σ B = kRev (ev Φ true a σ B) := by
  show ((ev Φ true a σ B).bind fun x => (Rs.of (revD (drf x.2 x.1))).bind fun d => .ok (d, x.2)) = _
  unfold kRev; simp only [kOf_eq]
def kEvn (k : Nat) (m : Re) : Re := m.bind fun x => kOf x.2 (evnD k (drf x.2 x.1))
@[simp] theorem kEvn_ok (k : Nat) (x : D) : kEvn k (.ok (x, B)) = kOf B (evnD k (drf B x)) := rfl
@[simp] theorem ev_evn (a : E) (k : Nat) : ev Φ p (.evn a k) σ B = kEvn k (ev Φ true a σ B) := by
  show ((ev Φ true a σ B).bind fun x => (Rs.of (evnD k (drf x.2 x.1))).bind fun d => .ok (d, x.2)) = _
  unfold kEvn; simp only [kOf_eq]
def kTup (m : Res) : Re := m.bind fun x => if x.1.length ≤ ln then .ok (.tup x.1, x.2) else .bad
@[simp] theorem kTup_ok (x : List D) : kTup (.ok (x, B)) = if x.length ≤ ln then .ok (.tup x, B) else .bad := rfl
@[simp] theorem ev_tup (es : Es) : ev Φ p (.tup es) σ B = kTup (evs Φ false es σ B) := rfl
def kLst (m : Res) : Re := m.bind fun x => if x.1.length ≤ ln then .ok (.lst x.1, x.2) else .bad
@[simp] theorem kLst_ok (x : List D) : kLst (.ok (x, B)) = if x.length ≤ ln then .ok (.lst x, B) else .bad := rfl
@[simp] theorem ev_lst (es : Es) : ev Φ p (.lst es) σ B = kLst (evs Φ false es σ B) := rfl
@[simp] theorem ev_dnew (t : Bool) : ev Φ p (.dnew t) σ B = .ok (.dic t [], B) := rfl
def kCall (f : Nat) (m : Res) : Re := m.bind fun x => Φ f x.1 x.2
@[simp] theorem kCall_ok (f : Nat) (x : List D) : kCall Φ f (.ok (x, B)) = Φ f x B := rfl
@[simp] theorem ev_call (f : Nat) (es : Es) : ev Φ p (.call f es) σ B = kCall Φ f (evs Φ false es σ B) := rfl
def kBi (b : Bi) (m : Res) : Re := m.bind fun x => kOf x.2 (opBi b (x.1.map (drf x.2)))
@[simp] theorem kBi_ok (b : Bi) (x : List D) : kBi b (.ok (x, B)) = kOf B (opBi b (x.map (drf B))) := rfl
@[simp] theorem ev_bi (b : Bi) (es : Es) : ev Φ p (.bi b es) σ B = kBi b (evs Φ true es σ B) := by
  show ((evs Φ true es σ B).bind fun x => (Rs.of (opBi b (x.1.map (drf x.2)))).bind fun d => .ok (d, x.2)) = _
  unfold kBi; simp only [kOf_eq]
def kMt2 (b : Bi) (x : D) (m : Res) : Re := m.bind fun y => kOf y.2 (opBi b ((x :: y.1).map (drf y.2)))
@[simp] theorem kMt2_ok (b : Bi) (x : D) (y : List D) : kMt2 b x (.ok (y, B)) = kOf B (opBi b ((x :: y).map (drf B))) := rfl
def kMt1 (b : Bi) (es : Es) (m : Re) : Re := m.bind fun x => if recv b (drf x.2 x.1) then kMt2 b x.1 (evs Φ true es σ x.2) else .bad
@[simp] theorem kMt1_ok (b : Bi) (es : Es) (x : D) : kMt1 Φ σ b es (.ok (x, B)) = if recv b (drf B x) then kMt2 b x (evs Φ true es σ B) else .bad := rfl
@[simp] theorem ev_mt (b : Bi) (a : E) (es : Es) : ev Φ p (.mt b a es) σ B = kMt1 Φ σ b es (ev Φ true a σ B) := by
  show ((ev Φ true a σ B).bind fun x => if recv b (drf x.2 x.1) then (evs Φ true es σ x.2).bind fun y => (Rs.of (opBi b ((x.1 :: y.1).map (drf y.2)))).bind fun d => .ok (d, y.2) else .bad) = _
  unfold kMt1 kMt2; simp only [kOf_eq]
def kIsi (t : Ty) (m : Re) : Re := m.bind fun x => kOb x.2 (isiD t (drf x.2 x.1))
@[simp] theorem kIsi_ok (t : Ty) (x : D) : kIsi t (.ok (x, B)) = kOb B (isiD t (drf B x)) := rfl
@[simp] theorem ev_isi (a : E) (t : Ty) : ev Φ p (.isi a t) σ B = kIsi t (ev Φ true a σ B) := by
  show ((ev Φ true a σ B).bind fun x => (Rs.of (isiD t (drf x.2 x.1))).bind fun d => .ok (D.bl d, x.2)) = _
  unfold kIsi; simp only [kOb_eq]
def kBox (m : Re) : Re := m.bind fun x => if isLD x.1 then .ok (.box x.2.length, x.2 ++ [x.1]) else .bad
@[simp] theorem kBox_ok (x : D) : kBox (.ok (x, B)) = if isLD x then .ok (.box B.length, B ++ [x]) else .bad := rfl
def kEnm2 (B : List D) : Option (List D) → Re
  | some l => .ok (.lst (enmL l), B)
  | none => .bad
@[simp] theorem kEnm2_s (l : List D) : kEnm2 B (some l) = .ok (.lst (enmL l), B) := rfl
def kEnm (m : Re) : Re := m.bind fun x => kEnm2 x.2 (itemsOf x.1)
@[simp] theorem kEnm_ok (x : D) : kEnm (.ok (x, B)) = kEnm2 B (itemsOf x) := rfl
@[simp] theorem ev_enm (a : E) : ev Φ p (.enm a) σ B = kEnm (ev Φ false a σ B) := by
  show ((ev Φ false a σ B).bind fun x => (Rs.of (itemsOf x.1)).bind fun l => .ok (D.lst (enmL l), x.2)) = _
  unfold kEnm
  congr 1; funext x
  cases itemsOf x.1 <;> rfl
def kZip3 (B : List D) : Option (List D) → Re
  | some l => .ok (.lst l, B)
  | none => .bad
@[simp] theorem kZip3_s (l : List D) : kZip3 B (some l) = .ok (.lst l, B) := rfl
def kZip2 (x : D) (m : Re) : Re := m.bind fun y => kZip3 y.2 (zipD x y.1)
@[simp] theorem kZip2_ok (x y : D) : kZip2 x (.ok (y, B)) = kZip3 B (zipD x y) := rfl
def kZip1 (b : E) (m : Re) : Re := m.bind fun x => kZip2 x.1 (ev Φ false b σ x.2)
@[simp] theorem kZip1_ok (b : E) (x : D) : kZip1 Φ σ b (.ok (x, B)) = kZip2 x (ev Φ false b σ B) := rfl
@[simp] theorem ev_zip (a b : E) : ev Φ p (.zip a b) σ B = kZip1 Φ σ b (ev Φ false a σ B) := by
  show ((ev Φ false a σ B).bind fun x => (ev Φ false b σ x.2).bind fun y => (Rs.of (zipD x.1 y.1)).bind fun l => .ok (D.lst l, y.2)) = _
  unfold kZip1 kZip2
  congr 1; funext x
  congr 1; funext y
  cases zipD x.1 y.1 <;> rfl
@[simp] theorem zipD_lst (l m : List D) : zipD (.lst l) (.lst m) = some (zipL l m) := rfl
@[simp] theorem zipD_tup (l m : List D) : zipD (.tup l) (.tup m) = some (zipL l m) := rfl
@[simp] theorem ev_mkbox (e : E) : ev Φ p (.mkbox e) σ B = kBox (ev Φ false e σ B) := rfl
/-- a turn of a comprehension -/
def turn (tg : Tg) (c e : E) (d : D) : List D → Rs (Option D × List D) := fun B => (Rs.of (put tg d (wipeS σ tg.names))).bind fun σ' => (ev Φ false c σ' B).bind fun y => isB y.1 fun k =>
  if k then (ev Φ false e σ' y.2).bind fun z => .ok (some z.1, z.2) else .ok (none, y.2)
def kT3 (m : Re) : Rs (Option D × List D) := m.bind fun z => .ok (some z.1, z.2)
@[simp] theorem kT3_ok (z : D) : kT3 (.ok (z, B)) = .ok (some z, B) := rfl
def kT2 (e : E) (m : Re) : Rs (Option D × List D) := m.bind fun y => isB y.1 fun k => if k then kT3 (ev Φ false e σ y.2) else .ok (none, y.2)
@[simp] theorem kT2_t (e : E) : kT2 Φ σ e (.ok (.bl true, B)) = kT3 (ev Φ false e σ B) := rfl
@[simp] theorem kT2_f (e : E) : kT2 Φ σ e (.ok (.bl false, B)) = .ok (none, B) := rfl
theorem kT2_b (e : E) (k : Bool) : kT2 Φ σ e (.ok (.bl k, B)) = if k then kT3 (ev Φ false e σ B) else .ok (none, B) := rfl
def kT1 (c e : E) (B : List D) : Option Sg → Rs (Option D × List D)
  | some σ' => kT2 Φ σ' e (ev Φ false c σ' B)
  | none => .bad
@[simp] theorem kT1_s (c e : E) (σ' : Sg) : kT1 Φ c e B (some σ') = kT2 Φ σ' e (ev Φ false c σ' B) := rfl
theorem turn_eq (tg : Tg) (c e : E) (d : D) : turn Φ σ tg c e d B = kT1 Φ c e B (put tg d (wipeS σ tg.names)) := by
  unfold turn
  cases put tg d (wipeS σ tg.names) <;> rfl
def kLcE (m : Res) : Re := m.bind fun r => .ok (.lst r.1, r.2)
@[simp] theorem kLcE_ok (r : List D) : kLcE (.ok (r, B)) = .ok (.lst r, B) := rfl
def kLc2 (tg : Tg) (c e : E) (B : List D) : Option (List D) → Re
  | some ds => if ds.length ≤ ln then kLcE (lcLoop (turn Φ σ tg c e) ds B) else .bad
  | none => .bad
@[simp] theorem kLc2_s (tg : Tg) (c e : E) (ds : List D) : kLc2 Φ σ tg c e B (some ds) = if ds.length ≤ ln then kLcE (lcLoop (turn Φ σ tg c e) ds B) else .bad := rfl
def kLc1 (tg : Tg) (c e : E) (m : Re) : Re := m.bind fun x => kLc2 Φ σ tg c e x.2 (itemsOf x.1)
@[simp] theorem kLc1_ok (tg : Tg) (c e : E) (x : D) : kLc1 Φ σ tg c e (.ok (x, B)) = kLc2 Φ σ tg c e B (itemsOf x) := rfl
@[simp] theorem ev_lc (tg : Tg) (it c e : E) : ev Φ p (.lc tg it c e) σ B = kLc1 Φ σ tg c e (ev Φ true it σ B) := by
  show ((ev Φ true it σ B).bind fun x => (Rs.of (itemsOf x.1)).bind fun ds => if ds.length ≤ ln then (lcLoop (turn Φ σ tg c e) ds x.2).bind fun r => .ok (D.lst r.1, r.2) else .bad) = _
  unfold kLc1
  congr 1; funext x
  cases itemsOf x.1 <;> rfl
def kLcd1 (k : Nat) (tg : Tg) (c e : E) (m : Re) : Re := m.bind fun x => kLc2 Φ σ tg c e x.2 (itemsD k x.1)
@[simp] theorem kLcd1_ok (k : Nat) (tg : Tg) (c e : E) (x : D) : kLcd1 Φ σ k tg c e (.ok (x, B)) = kLc2 Φ σ tg c e B (itemsD k x) := rfl
@[simp] theorem ev_lcd (k : Nat) (tg : Tg) (it c e : E) : ev Φ p (.lcd k it tg c e) σ B = kLcd1 Φ (wv it σ) k tg c e (ev Φ true it σ B) := by
  show ((ev Φ true it σ B).bind fun x => (Rs.of (itemsD k x.1)).bind fun ds => if ds.length ≤ ln then (lcLoop (turn Φ (wv it σ) tg c e) ds x.2).bind fun r => .ok (D.lst r.1, r.2) else .bad) = _
  unfold kLcd1
  congr 1; funext x
  cases itemsD k x.1 <;> rfl
@[simp] theorem wv_own (i : Nat) : wv (.own i) σ = σ.set i .no := rfl
@[simp] theorem wv_var (i : Nat) : wv (.var i) σ = σ := rfl
@[simp] theorem evs_nil : evs Φ p .nil σ B = .ok ([], B) := rfl
def kCons2 (x : D) (m : Res) : Res := m.bind fun y => .ok (x :: y.1, y.2)
@[simp] theorem kCons2_ok (x : D) (y : List D) : kCons2 x (.ok (y, B)) = .ok (x :: y, B) := rfl
def kCons1 (es : Es) (m : Re) : Res := m.bind fun x => kCons2 x.1 (evs Φ p es σ x.2)
@[simp] theorem kCons1_ok (es : Es) (x : D) : kCons1 Φ p σ es (.ok (x, B)) = kCons2 x (evs Φ p es σ B) := rfl
@[simp] theorem evs_cons (e : E) (es : Es) : evs Φ p (.cons e es) σ B = kCons1 Φ p σ es (ev Φ p e σ B) := rfl
@[simp] theorem exs_nil : exs Φ .nil σ B = .ok (.next, σ, B) := rfl
def kSeq (ss : Ss) (m : Rq) : Rq := m.bind fun x => match x.1 with | .next => exs Φ ss x.2.1 x.2.2 | fl => .ok (fl, x.2.1, x.2.2)
@[simp] theorem kSeq_n (ss : Ss) : kSeq Φ ss (.ok (.next, σ, B)) = exs Φ ss σ B := rfl
@[simp] theorem kSeq_r (ss : Ss) (d : D) : kSeq Φ ss (.ok (.ret d, σ, B)) = .ok (.ret d, σ, B) := rfl
@[simp] theorem kSeq_b (ss : Ss) : kSeq Φ ss (.ok (.brk, σ, B)) = .ok (.brk, σ, B) := rfl
@[simp] theorem kSeq_c (ss : Ss) : kSeq Φ ss (.ok (.cnt, σ, B)) = .ok (.cnt, σ, B) := rfl
@[simp] theorem exs_cons (s : S) (ss : Ss) : exs Φ (.cons s ss) σ B = kSeq Φ ss (ex Φ s σ B) := rfl
def kRet (σ : Sg) (m : Re) : Rq := m.bind fun x => .ok (.ret x.1, σ, x.2)
@[simp] theorem kRet_ok (x : D) : kRet σ (.ok (x, B)) = .ok (.ret x, σ, B) := rfl
@[simp] theorem ex_ret (e : E) : ex Φ (.ret e) σ B = kRet (frzAll σ) (ev Φ false e (frzAll σ) B) := rfl
@[simp] theorem ex_retN : ex Φ .retN σ B = .ok (.ret .non, σ, B) := rfl
@[simp] theorem ex_brk : ex Φ .brk σ B = .ok (.brk, σ, B) := rfl
@[simp] theorem ex_cnt : ex Φ .cnt σ B = .ok (.cnt, σ, B) := rfl
@[simp] theorem ex_pass : ex Φ .pass σ B = .ok (.next, σ, B) := rfl
def kIf (a b : Ss) (m : Re) : Rq := m.bind fun x => isB x.1 fun k => if k then exs Φ a σ x.2 else exs Φ b σ x.2
@[simp] theorem kIf_t (a b : Ss) : kIf Φ σ a b (.ok (.bl true, B)) = exs Φ a σ B := rfl
@[simp] theorem kIf_f (a b : Ss) : kIf Φ σ a b (.ok (.bl false, B)) = exs Φ b σ B := rfl
theorem kIf_b (a b : Ss) (k : Bool) : kIf Φ σ a b (.ok (.bl k, B)) = if k then exs Φ a σ B else exs Φ b σ B := rfl
@[simp] theorem ex_if (c : E) (a b : Ss) : ex Φ (.ifs c a b) σ B = kIf Φ σ a b (ev Φ false c σ B) := rfl
@[simp] theorem ex_fz (is : List Nat) (s : S) : ex Φ (.fz is s) σ B = ex Φ s (frzAt is σ) B := rfl
def kExpr (σ : Sg) (m : Re) : Rq := m.bind fun x => .ok (.next, σ, x.2)
@[simp] theorem kExpr_ok (x : D) : kExpr σ (.ok (x, B)) = .ok (.next, σ, B) := rfl
@[simp] theorem ex_expr (e : E) : ex Φ (.expr e) σ B = kExpr σ (ev Φ false e σ B) := rfl
def kNx (m : Rs (Sg × List D)) : Rq := m.bind fun y => .ok (.next, y.1, y.2)
@[simp] theorem kNx_ok : kNx (.ok (σ, B)) = .ok (.next, σ, B) := rfl
def kAsg (tg : Tg) (m : Rs (Sl × List D)) : Rq := m.bind fun x => kNx (asg Φ tg x.1 σ x.2)
@[simp] theorem kAsg_ok (tg : Tg) (x : Sl) : kAsg Φ σ tg (.ok (x, B)) = kNx (asg Φ tg x σ B) := rfl
@[simp] theorem ex_asg (tg : Tg) (e : E) : ex Φ (.asg tg e) σ B = kAsg Φ σ tg (evX Φ e σ B) := rfl
/-- .. one turn of a for -/
def forB (tg : Tg) (b : Ss) (d : D) (σ : Sg) (B : List D) : Rq := (Rs.of (put tg d σ)).bind fun σ' => exs Φ b σ' B
def kPut (b : Ss) (B : List D) : Option Sg → Rq
  | some σ => exs Φ b σ B
  | none => .bad
@[simp] theorem kPut_s (b : Ss) : kPut Φ b B (some σ) = exs Φ b σ B := rfl
@[simp] theorem kPut_if {c : Prop} [Decidable c] (b : Ss) : kPut Φ b B (if c then some σ else none) = if c then exs Φ b σ B else .bad := by by_cases h : c <;> simp [h, kPut]
@[simp] theorem forB_eq (tg : Tg) (b : Ss) (d : D) : forB Φ tg b d σ B = kPut Φ b B (put tg d σ) := by
  unfold forB
  cases put tg d σ <;> rfl
def kFor2 (tg : Tg) (b : Ss) (B : List D) : Option (List D) → Rq
  | some ds => forLoop (forB Φ tg b) ds σ B
  | none => .bad
@[simp] theorem kFor2_s (tg : Tg) (b : Ss) (ds : List D) : kFor2 Φ σ tg b B (some ds) = forLoop (forB Φ tg b) ds σ B := rfl
def kFor1 (tg : Tg) (b : Ss) (m : Re) : Rq := m.bind fun x => kFor2 Φ σ tg b x.2 (itemsOf x.1)
@[simp] theorem kFor1_ok (tg : Tg) (b : Ss) (x : D) : kFor1 Φ σ tg b (.ok (x, B)) = kFor2 Φ σ tg b B (itemsOf x) := rfl
@[simp] theorem ex_for (tg : Tg) (it : E) (b : Ss) : ex Φ (.for tg it b) σ B = kFor1 Φ σ tg b (ev Φ false it σ B) := by
  show ((ev Φ false it σ B).bind fun x => (Rs.of (itemsOf x.1)).bind fun ds => forLoop (fun d σ B => (Rs.of (put tg d σ)).bind fun σ' => exs Φ b σ' B) ds σ x.2) = _
  unfold kFor1
  congr 1; funext x
  cases itemsOf x.1 <;> rfl
theorem ex_whl (c : E) (b : Ss) : ex Φ (.whl c b) σ B = whlLoop (fun σ B => ev Φ false c σ B) (fun σ B => exs Φ b σ B) fuel σ B := rfl
def kApp (i : Nat) (l : List D) (m : Re) : Rq := m.bind fun x => if l.length < ln then .ok (.next, σ.set i (.own (.lst (l ++ [x.1]))), x.2) else .bad
@[simp] theorem kApp_ok (i : Nat) (l : List D) (x : D) : kApp σ i l (.ok (x, B)) = if l.length < ln then .ok (.next, σ.set i (.own (.lst (l ++ [x]))), B) else .bad := rfl
def kApp0 (i : Nat) (e : E) (B : List D) : Option Sl → Rq
  | some (.own (.lst l)) => kApp σ i l (ev Φ false e σ B)
  | _ => .bad
@[simp] theorem kApp0_s (i : Nat) (e : E) (l : List D) : kApp0 Φ σ i e B (some (.own (.lst l))) = kApp σ i l (ev Φ false e σ B) := rfl
@[simp] theorem ex_app (i : Nat) (e : E) : ex Φ (.app i e) σ B = kApp0 Φ σ i e B σ[i]? := by
  unfold ex
  cases h : σ[i]? with
  | none => rfl
  | some s => cases s with
    | own d => cases d <;> rfl
    | _ => rfl
def kAugV (i : Nat) (c : D) (m : Re) : Rq := m.bind fun x => (Rs.of (addV c (drf x.2 x.1))).bind fun d => .ok (.next, σ.set i (.val d), x.2)
def kAugV2 (i : Nat) (B : List D) : Option D → Rq
  | some d => .ok (.next, σ.set i (.val d), B)
  | none => .bad
@[simp] theorem kAugV2_s (i : Nat) (d : D) : kAugV2 σ i B (some d) = .ok (.next, σ.set i (.val d), B) := rfl
@[simp] theorem kAugV2_if {c : Prop} [Decidable c] (i : Nat) (d : D) : kAugV2 σ i B (if c then some d else none) = if c then .ok (.next, σ.set i (.val d), B) else .bad := by by_cases h : c <;> simp [h, kAugV2]
@[simp] theorem kAugV_ok (i : Nat) (c x : D) : kAugV σ i c (.ok (x, B)) = kAugV2 σ i B (addV c (drf B x)) := by
  show ((Rs.of (addV c (drf B x))).bind _) = _
  cases addV c (drf B x) <;> rfl
def kAugV0 (i : Nat) (e : E) (B : List D) : Option Sl → Rq
  | some (.val c) => kAugV σ i c (ev Φ true e σ B)
  | _ => .bad
@[simp] theorem kAugV0_s (i : Nat) (e : E) (c : D) : kAugV0 Φ σ i e B (some (.val c)) = kAugV σ i c (ev Φ true e σ B) := rfl
@[simp] theorem ex_augV (i : Nat) (e : E) : ex Φ (.augV i e) σ B = kAugV0 Φ σ i e B σ[i]? := by
  unfold ex
  cases h : σ[i]? with
  | none => rfl
  | some s => cases s <;> rfl
def kAug2 (i : Nat) (B : List D) : Option D → Rq
  | some d => .ok (.next, σ.set i (.own d), B)
  | none => .bad
@[simp] theorem kAug2_s (i : Nat) (d : D) : kAug2 σ i B (some d) = .ok (.next, σ.set i (.own d), B) := rfl
@[simp] theorem kAug2_if {c : Prop} [Decidable c] (i : Nat) (d : D) : kAug2 σ i B (if c then some d else none) = if c then .ok (.next, σ.set i (.own d), B) else .bad := by by_cases h : c <;> simp [h, kAug2]
def kAug1 (i : Nat) (c : D) (m : Re) : Rq := m.bind fun x => kAug2 σ i x.2 (augD c (drf x.2 x.1))
@[simp] theorem kAug1_ok (i : Nat) (c x : D) : kAug1 σ i c (.ok (x, B)) = kAug2 σ i B (augD c (drf B x)) := rfl
def kAug0 (i : Nat) (e : E) (B : List D) : Option Sl → Rq
  | some (.own c) => kAug1 σ i c (ev Φ true e σ B)
  | _ => .bad
@[simp] theorem kAug0_s (i : Nat) (e : E) (c : D) : kAug0 Φ σ i e B (some (.own c)) = kAug1 σ i c (ev Φ true e σ B) := rfl
@[simp] theorem ex_aug (i : Nat) (e : E) : ex Φ (.aug i e) σ B = kAug0 Φ σ i e B σ[i]? := by
  show (match σ[i]? with
    | some (.own c) => (ev Φ true e σ B).bind fun x => (Rs.of (augD c (drf x.2 x.1))).bind fun d => .ok (Fl.next, σ.set i (.own d), x.2)
    | _ => .bad) = _
  cases h : σ[i]? with
  | none => rfl
  | some s => cases s with
    | own c =>
      show ((ev Φ true e σ B).bind _) = (ev Φ true e σ B).bind _
      congr 1; funext x
      show ((Rs.of (augD c (drf x.2 x.1))).bind _) = _
      cases augD c (drf x.2 x.1) <;> rfl
    | _ => rfl
@[simp] theorem augD_lst (l m : List D) : augD (.lst l) (.lst m) = if l.length + m.length ≤ ln then some (.lst (l ++ m)) else none := rfl
def kUpd1 (i : Nat) (c : D) (m : Re) : Rq := m.bind fun x => kAug2 σ i x.2 (updL c x.1)
@[simp] theorem kUpd1_ok (i : Nat) (c x : D) : kUpd1 σ i c (.ok (x, B)) = kAug2 σ i B (updL c x) := rfl
def kUpd0 (i : Nat) (e : E) (B : List D) : Option Sl → Rq
  | some (.own (.dic t l)) => kUpd1 σ i (.dic t l) (ev Φ false e σ B)
  | _ => .bad
@[simp] theorem kUpd0_s (i : Nat) (e : E) (t : Bool) (l : List (D × D)) : kUpd0 Φ σ i e B (some (.own (.dic t l))) = kUpd1 σ i (.dic t l) (ev Φ false e σ B) := rfl
@[simp] theorem ex_upd (i : Nat) (e : E) : ex Φ (.upd i e) σ B = kUpd0 Φ σ i e B σ[i]? := by
  show (match σ[i]? with
    | some (.own (.dic t l)) => (ev Φ false e σ B).bind fun x => (Rs.of (updL (.dic t l) x.1)).bind fun d => .ok (Fl.next, σ.set i (.own d), x.2)
    | _ => .bad) = _
  cases h : σ[i]? with
  | none => rfl
  | some s => cases s with
    | own c =>
      cases c with
      | dic t l =>
        show ((ev Φ false e σ B).bind _) = (ev Φ false e σ B).bind _
        congr 1; funext x
        show ((Rs.of (updL (.dic t l) x.1)).bind _) = _
        cases updL (.dic t l) x.1 <;> rfl
      | _ => rfl
    | _ => rfl
@[simp] theorem updL_f (l m : List (D × D)) : updL (.dic false l) (.dic false m) = if l.length + m.length ≤ ln then some (.dic false (m.foldl (fun acc p => kput p.1 p.2 acc) l)) else none := rfl
/-! names -/
def kV (m : Re) : Rs (Sl × List D) := m.bind fun x => .ok (.val x.1, x.2)
@[simp] theorem kV_ok (x : D) : kV (.ok (x, B)) = .ok (.val x, B) := rfl
def kO (m : Re) : Rs (Sl × List D) := m.bind fun x => if isLD x.1 then .ok (.own x.1, x.2) else .bad
@[simp] theorem kO_ok (x : D) : kO (.ok (x, B)) = if isLD x then .ok (.own x, B) else .bad := rfl
@[simp] theorem exF_var (e : E) : evX Φ (.fresh e) σ B = kO (ev Φ false e σ B) := rfl
@[simp] theorem evX_var (i : Nat) : evX Φ (.var i) σ B = kV (ev Φ false (.var i) σ B) := rfl
@[simp] theorem evX_own (i : Nat) : evX Φ (.own i) σ B = kV (ev Φ false (.own i) σ B) := rfl
@[simp] theorem evX_cst (d : D) : evX Φ (.cst d) σ B = kV (ev Φ false (.cst d) σ B) := rfl
@[simp] theorem evX_bin (o : Bop) (a b : E) : evX Φ (.bin o a b) σ B = kV (ev Φ false (.bin o a b) σ B) := rfl
@[simp] theorem evX_cmp (o : Cop) (a b : E) : evX Φ (.cmp o a b) σ B = kV (ev Φ false (.cmp o a b) σ B) := rfl
@[simp] theorem evX_chain (o q : Cop) (a b c : E) : evX Φ (.chain o q a b c) σ B = kV (ev Φ false (.chain o q a b c) σ B) := rfl
@[simp] theorem evX_and (a b : E) : evX Φ (.and a b) σ B = kV (ev Φ false (.and a b) σ B) := rfl
@[simp] theorem evX_or (a b : E) : evX Φ (.or a b) σ B = kV (ev Φ false (.or a b) σ B) := rfl
@[simp] theorem evX_not (a : E) : evX Φ (.not a) σ B = kV (ev Φ false (.not a) σ B) := rfl
@[simp] theorem evX_neg (a : E) : evX Φ (.neg a) σ B = kV (ev Φ false (.neg a) σ B) := rfl
@[simp] theorem evX_ite (c a b : E) : evX Φ (.ite c a b) σ B = kV (ev Φ false (.ite c a b) σ B) := rfl
@[simp] theorem evX_sub (a b : E) : evX Φ (.sub a b) σ B = kV (ev Φ false (.sub a b) σ B) := rfl
@[simp] theorem evX_cut (a lo hi : E) : evX Φ (.cut a lo hi) σ B = kV (ev Φ false (.cut a lo hi) σ B) := rfl
@[simp] theorem evX_rev (a : E) : evX Φ (.rev a) σ B = kV (ev Φ false (.rev a) σ B) := rfl
@[simp] theorem evX_evn (a : E) (k : Nat) : evX Φ (.evn a k) σ B = kV (ev Φ false (.evn a k) σ B) := rfl
@[simp] theorem evX_tup (es : Es) : evX Φ (.tup es) σ B = kV (ev Φ false (.tup es) σ B) := rfl
@[simp] theorem evX_lst (es : Es) : evX Φ (.lst es) σ B = kV (ev Φ false (.lst es) σ B) := rfl
@[simp] theorem evX_dnew (t : Bool) : evX Φ (.dnew t) σ B = kV (ev Φ false (.dnew t) σ B) := rfl
@[simp] theorem evX_ddis (t : Bool) (ks vs : Es) : evX Φ (.ddis t ks vs) σ B = kV (ev Φ false (.ddis t ks vs) σ B) := rfl
@[simp] theorem evX_call (f : Nat) (es : Es) : evX Φ (.call f es) σ B = kV (ev Φ false (.call f es) σ B) := rfl
@[simp] theorem evX_bi (b : Bi) (es : Es) : evX Φ (.bi b es) σ B = kV (ev Φ false (.bi b es) σ B) := rfl
@[simp] theorem evX_isi (a : E) (t : Ty) : evX Φ (.isi a t) σ B = kV (ev Φ false (.isi a t) σ B) := rfl
@[simp] theorem evX_lc (tg : Tg) (it c e : E) : evX Φ (.lc tg it c e) σ B = kV (ev Φ false (.lc tg it c e) σ B) := rfl
@[simp] theorem evX_lc2 (tg : Tg) (it c : E) (tg2 : Tg) (it2 c2 e : E) : evX Φ (.lc2 tg it c tg2 it2 c2 e) σ B = kV (ev Φ false (.lc2 tg it c tg2 it2 c2 e) σ B) := rfl
@[simp] theorem evX_dc (t : Bool) (tg : Tg) (it k v : E) : evX Φ (.dc t tg it k v) σ B = kV (ev Φ false (.dc t tg it k v) σ B) := rfl
@[simp] theorem evX_lcd (k : Nat) (it : E) (tg : Tg) (c e : E) : evX Φ (.lcd k it tg c e) σ B = kV (ev Φ false (.lcd k it tg c e) σ B) := rfl
@[simp] theorem evX_mkbox (e : E) : evX Φ (.mkbox e) σ B = kV (ev Φ false (.mkbox e) σ B) := rfl
@[simp] theorem evX_mt (b : Bi) (a : E) (es : Es) : evX Φ (.mt b a es) σ B = kV (ev Φ false (.mt b a es) σ B) := rfl
@[simp] theorem evX_enm (a : E) : evX Φ (.enm a) σ B = kV (ev Φ false (.enm a) σ B) := rfl
@[simp] theorem evX_zip (a b : E) : evX Φ (.zip a b) σ B = kV (ev Φ false (.zip a b) σ B) := rfl
@[simp] theorem evXs_nil : evXs Φ .nil σ B = .ok ([], B) := rfl
def kXs2 (x : Sl) (m : Rs (List Sl × List D)) : Rs (List Sl × List D) := m.bind fun y => .ok (x :: y.1, y.2)
@[simp] theorem kXs2_ok (x : Sl) (y : List Sl) : kXs2 x (.ok (y, B)) = .ok (x :: y, B) := rfl
def kXs1 (es : Es) (m : Rs (Sl × List D)) : Rs (List Sl × List D) := m.bind fun x => kXs2 x.1 (evXs Φ es σ x.2)
@[simp] theorem kXs1_ok (es : Es) (x : Sl) : kXs1 Φ σ es (.ok (x, B)) = kXs2 x (evXs Φ es σ B) := rfl
@[simp] theorem evXs_cons (e : E) (es : Es) : evXs Φ (.cons e es) σ B = kXs1 Φ σ es (evX Φ e σ B) := rfl
def kPar2 (B : List D) : Option Sg → Rq
  | some σ' => .ok (.next, σ', B)
  | none => .bad
@[simp] theorem kPar2_s : kPar2 B (some σ) = .ok (.next, σ, B) := rfl
def kPar (is : List Nat) (m : Rs (List Sl × List D)) : Rq := m.bind fun x => kPar2 x.2 (setAll is x.1 σ)
@[simp] theorem kPar_ok (is : List Nat) (x : List Sl) : kPar σ is (.ok (x, B)) = kPar2 B (setAll is x σ) := rfl
@[simp] theorem ex_par (is : List Nat) (es : Es) : ex Φ (.par is es) σ B = kPar σ is (evXs Φ es σ B) := by
  show ((evXs Φ es σ B).bind fun x => (Rs.of (setAll is x.1 σ)).bind fun σ' => .ok (Fl.next, σ', x.2)) = _
  unfold kPar
  congr 1; funext x
  cases setAll is x.1 σ <;> rfl
@[simp] theorem setAll_nil : setAll [] [] σ = some σ := rfl
@[simp] theorem setAll_cons (i : Nat) (is : List Nat) (v : Sl) (vs : List Sl) : setAll (i :: is) (v :: vs) σ = if i < σ.length then setAll is vs (σ.set i v) else none := rfl
@[simp] theorem asg_nm (i : Nat) (v : Sl) : asg Φ (.nm i) v σ B = if i < σ.length then .ok (σ.set i v, B) else .bad := rfl
def kTp (B : List D) : Option Sg → Rs (Sg × List D)
  | some σ => .ok (σ, B)
  | none => .bad
@[simp] theorem kTp_s : kTp B (some σ) = .ok (σ, B) := rfl
@[simp] theorem asg_tp (l : Tgs) (d : D) : asg Φ (.tp l) (.val d) σ B = kTp B (put (.tp l) d σ) := by
  show ((Rs.of (put (.tp l) d σ)).bind fun σ' => .ok (σ', B)) = _
  cases put (.tp l) d σ <;> rfl
def kIx2 (i : Nat) (B : List D) : Option D → Rs (Sg × List D)
  | some c => .ok (σ.set i (.own c), B)
  | none => .bad
@[simp] theorem kIx2_s (i : Nat) (c : D) : kIx2 σ i B (some c) = .ok (σ.set i (.own c), B) := rfl
@[simp] theorem kIx2_if {b : Prop} [Decidable b] (i : Nat) (c : D) : kIx2 σ i B (if b then some c else none) = if b then .ok (σ.set i (.own c), B) else .bad := by by_cases h : b <;> simp [h, kIx2]
def kIx1 (i : Nat) (c d : D) (m : Re) : Rs (Sg × List D) := m.bind fun x => kIx2 σ i x.2 (setD c x.1 d)
@[simp] theorem kIx1_ok (i : Nat) (c d x : D) : kIx1 σ i c d (.ok (x, B)) = kIx2 σ i B (setD c x d) := rfl
def kIx0 (i : Nat) (k : E) (d : D) (B : List D) : Option Sl → Rs (Sg × List D)
  | some (.own c) => kIx1 σ i c d (ev Φ false k σ B)
  | _ => .bad
@[simp] theorem kIx0_s (i : Nat) (k : E) (d c : D) : kIx0 Φ σ i k d B (some (.own c)) = kIx1 σ i c d (ev Φ false k σ B) := rfl
@[simp] theorem asg_ix (i : Nat) (k : E) (d : D) : asg Φ (.ix i k) (.val d) σ B = kIx0 Φ σ i k d B σ[i]? := by
  show (match σ[i]? with
    | some (.own c) => (ev Φ false k σ B).bind fun x => (Rs.of (setD c x.1 d)).bind fun c' => .ok (σ.set i (.own c'), x.2)
    | _ => .bad) = _
  cases h : σ[i]? with
  | none => rfl
  | some s => cases s with
    | own c =>
      show ((ev Φ false k σ B).bind _) = (ev Φ false k σ B).bind _
      congr 1; funext x
      show ((Rs.of (setD c x.1 d)).bind _) = _
      cases setD c x.1 d <;> rfl
    | _ => rfl
def kBx3 (n : Nat) (B : List D) : Option D → Rs (Sg × List D)
  | some c => .ok (σ, B.set n c)
  | none => .bad
@[simp] theorem kBx3_s (n : Nat) (c : D) : kBx3 σ n B (some c) = .ok (σ, B.set n c) := rfl
def kBx2 (n : Nat) (d y : D) (B : List D) : Option D → Rs (Sg × List D)
  | some c => kBx3 σ n B (setD c y d)
  | none => .bad
@[simp] theorem kBx2_s (n : Nat) (d y c : D) : kBx2 σ n d y B (some c) = kBx3 σ n B (setD c y d) := rfl
def kBx1 (x d : D) (m : Re) : Rs (Sg × List D) := m.bind fun y => match x with
    | .box n => kBx2 σ n d y.1 y.2 y.2[n]?
    | _ => .bad
@[simp] theorem kBx1_ok (n : Nat) (d y : D) : kBx1 σ (.box n) d (.ok (y, B)) = kBx2 σ n d y B B[n]? := rfl
def kBx0 (k : E) (d : D) (m : Re) : Rs (Sg × List D) := m.bind fun x => kBx1 σ x.1 d (ev Φ false k σ x.2)
@[simp] theorem kBx0_ok (k : E) (d x : D) : kBx0 Φ σ k d (.ok (x, B)) = kBx1 σ x d (ev Φ false k σ B) := rfl
@[simp] theorem asg_bx (b k : E) (d : D) : asg Φ (.bx b k) (.val d) σ B = kBx0 Φ σ k d (ev Φ false b σ B) := by
  show ((ev Φ false b σ B).bind fun x => (ev Φ false k σ x.2).bind fun y => match x.1 with
    | .box n => match y.2[n]? with
      | some c => (Rs.of (setD c y.1 d)).bind fun c' => .ok (σ, y.2.set n c')
      | none => .bad
    | _ => .bad) = _
  unfold kBx0 kBx1
  congr 1; funext x
  congr 1; funext y
  cases x.1 with
  | box n =>
    show (match y.2[n]? with
      | some c => (Rs.of (setD c y.1 d)).bind fun c' => .ok (σ, y.2.set n c')
      | none => .bad) = kBx2 σ n d y.1 y.2 y.2[n]?
    cases y.2[n]? with
    | none => rfl
    | some c =>
      show ((Rs.of (setD c y.1 d)).bind _) = kBx3 σ n y.2 (setD c y.1 d)
      cases setD c y.1 d <;> rfl
  | _ => rfl
end
def kRun (m : Rq) : Re := m.bind fun x => match x.1 with
      | .ret d => .ok (d, x.2.2)
      | .next => .ok (.non, x.2.2)
      | _ => .bad
@[simp] theorem kRun_r (d : D) (σ : Sg) (B : List D) : kRun (.ok (.ret d, σ, B)) = .ok (d, B) := rfl
@[simp] theorem kRun_n (σ : Sg) (B : List D) : kRun (.ok (.next, σ, B)) = .ok (.non, B) := rfl
theorem run_succ (tb : Nat → Option Fd) (n f : Nat) (args : List D) (B : List D) {np ns : Nat} {body : Ss} (h : tb f = some ⟨np, ns, body⟩) (hl : args.length = np) : run tb (n + 1) f args B = kRun (exs (run tb n) body (start ns args) B) := by
  show (match tb f with
    | some fd => if args.length = fd.np then (exs (run tb n) fd.body (start fd.ns args) B).bind fun x => match x.1 with
      | .ret d => .ok (d, x.2.2)
      | .next => .ok (.non, x.2.2)
      | _ => .bad
      else .bad
    | none => .bad) = _
  rw [h]
  exact if_pos hl
@[simp] theorem drf_int (B : List D) (i : Int) : drf B (.int i) = .int i := rfl
@[simp] theorem drf_bl (B : List D) (i : Bool) : drf B (.bl i) = .bl i := rfl
@[simp] theorem drf_non (B : List D) : drf B .non = .non := rfl
@[simp] theorem drf_str (B : List D) (i : List Nat) : drf B (.str i) = .str i := rfl
@[simp] theorem drf_tup (B : List D) (i : List D) : drf B (.tup i) = .tup i := rfl
@[simp] theorem drf_lst (B : List D) (i : List D) : drf B (.lst i) = .lst i := rfl
@[simp] theorem drf_dic (B : List D) (t : Bool) (i : List (D × D)) : drf B (.dic t i) = .dic t i := rfl
@[simp] theorem drf_scr (B : List D) (i : List D) : drf B (.scr i) = .scr i := rfl
/-- comprehensions whose turns change no box -/
theorem lcLoop_map {f : D → List D → Rs (Option D × List D)} {g : D → Option D} {B : List D} : ∀ {ds : List D}, (∀ d ∈ ds, f d B = .ok (g d, B)) → lcLoop f ds B = .ok (ds.filterMap g, B)
  | [], _ => rfl
  | d :: ds, h => by
    rw [lcLoop, h d List.mem_cons_self]
    show ((lcLoop f ds B).bind _) = _
    rw [lcLoop_map fun e he => h e (List.mem_cons_of_mem _ he)]
    show Rs.ok _ = _
    rw [List.filterMap_cons]
    cases g d <;> rfl
/-- .. over the image of a list, each turn giving one -/
theorem lcLoop_all {α : Type} {f : D → List D → Rs (Option D × List D)} {c g : α → D} {B : List D} : ∀ {l : List α}, (∀ a ∈ l, f (c a) B = .ok (some (g a), B)) → lcLoop f (l.map c) B = .ok (l.map g, B)
  | [], _ => rfl
  | a :: l, h => by
    rw [List.map_cons, lcLoop, h a List.mem_cons_self]
    show ((lcLoop f (l.map c) B).bind _) = _
    rw [lcLoop_all fun e he => h e (List.mem_cons_of_mem _ he)]
    rfl
/-- .. kept or not by a test -/
theorem lcLoop_some {α : Type} {f : D → List D → Rs (Option D × List D)} {c g : α → D} {t : α → Bool} {B : List D} : ∀ {l : List α}, (∀ a ∈ l, f (c a) B = .ok (if t a then some (g a) else none, B)) → lcLoop f (l.map c) B = .ok ((l.filter t).map g, B)
  | [], _ => rfl
  | a :: l, h => by
    rw [List.map_cons, lcLoop, h a List.mem_cons_self]
    show ((lcLoop f (l.map c) B).bind _) = _
    rw [lcLoop_some (t := t) (g := g) fun e he => h e (List.mem_cons_of_mem _ he)]
    rw [List.filter_cons]
    cases t a <;> rfl
theorem blL_map {α : Type} (f : α → Bool) : ∀ s : List α, blL (s.map fun c => .bl (f c)) = some (s.map f)
  | [] => rfl
  | c :: s => by
    show (blL (s.map fun c => D.bl (f c))).map (f c :: ·) = _
    rw [blL_map f s]
    rfl
theorem sIx_nat (n d a : Nat) : Pz.sIx n d (some ((a : Nat) : Int)) = min a n := by
  show (if ((a : Nat) : Int) < 0 then (((a : Nat) : Int) + n).toNat else min ((a : Nat) : Int).toNat n) = _
  rw [if_neg (by omega)]
  rfl
/-- k items from a -/
def sl {α : Type} (t : List α) (a k : Nat) : List α := (t.drop a).take k
theorem cut_sl {α : Type} (t : List α) (a k : Nat) : cutL t (some ((a : Nat) : Int)) (some ((a : Int) + (k : Nat))) = sl t a k := by
  have e : (a : Int) + (k : Nat) = ((a + k : Nat) : Int) := by omega
  unfold cutL sl
  rw [e, sIx_nat, sIx_nat]
  by_cases h : a ≤ t.length
  · rw [Nat.min_eq_left h]
    by_cases h2 : a + k ≤ t.length
    · rw [Nat.min_eq_left h2, Nat.add_sub_cancel_left]
    · rw [List.take_of_length_le (by rw [List.length_drop]; omega), List.take_of_length_le (by rw [List.length_drop]; omega)]
  · rw [List.drop_eq_nil_of_le (by omega), List.drop_eq_nil_of_le (by omega)]
    simp
/-- a loop that goes through, as a fold -/
theorem forLoop_fold {α β : Type} {f : D → Sg → List D → Rq} {c : α → D} {S : β → Sg → Prop} {step : β → α → β} {B : List D} : ∀ {l : List α} {b : β} {σ : Sg}, (∀ a ∈ l, ∀ b σ, S b σ → ∃ σ', f (c a) σ B = .ok (.next, σ', B) ∧ S (step b a) σ') → S b σ → ∃ σ', forLoop f (l.map c) σ B = .ok (.next, σ', B) ∧ S (l.foldl step b) σ'
  | [], b, σ, _, h => ⟨σ, rfl, h⟩
  | a :: l, b, σ, hf, h => by
    obtain ⟨σ', h1, h2⟩ := hf a List.mem_cons_self b σ h
    obtain ⟨σ2, h3, h4⟩ := forLoop_fold (l := l) (fun e he => hf e (List.mem_cons_of_mem _ he)) h2
    refine ⟨σ2, ?_, h4⟩
    rw [List.map_cons, forLoop, h1]
    exact h3
/-- the whole numbers as values -/
def nD (l : List Nat) : List D := l.map fun a => .int (a : Nat)
theorem nD_snoc (l : List Nat) (a : Nat) : nD l ++ [.int (a : Nat)] = nD (l ++ [a]) := by simp [nD]
theorem atI_last {l : List Nat} (h : l ≠ []) : atI (nD l) (-1) = some (.int (l.getLast h : Nat)) := by
  have hp : 0 < l.length := List.length_pos_iff.2 h
  have hn : (nD l).length = l.length := by simp [nD]
  have e : ((-1 : Int) + l.length).toNat = l.length - 1 := by omega
  unfold atI ixN
  rw [hn, if_neg (by omega), if_pos (by omega), e, List.getLast_eq_getElem]
  show (nD l)[l.length - 1]? = _
  unfold nD
  rw [List.getElem?_map, List.getElem?_eq_getElem (by omega)]
  rfl
theorem opC_ge (i j : Int) : opC .ge (.int i) (.int j) = some (decide (j ≤ i)) := rfl
theorem opC_le (i j : Int) : opC .le (.int i) (.int j) = some (decide (i ≤ j)) := rfl
theorem opC_gtI (i j : Int) : opC .gt (.int i) (.int j) = some (decide (j < i)) := rfl
theorem opC_ltI (i j : Int) : opC .lt (.int i) (.int j) = some (decide (i < j)) := rfl
theorem nD_dep : ∀ f : List Nat, D.depL (nD f) = 0
  | [] => rfl
  | a :: f => by
    show max (D.dep (.int (a : Nat))) (D.depL (nD f)) = 0
    rw [nD_dep f]; rfl
theorem opC_nil (f : List Nat) : opC .eq (.lst (nD f)) (.lst []) = some (decide (f = [])) := by
  show (if ok64 _ && ok64 _ then some _ else none) = _
  have h1 : ok64 (.lst (nD f)) = true := by
    simp [ok64, D.dep, nD_dep]
  have h2 : ok64 (.lst []) = true := rfl
  rw [h1, h2]
  cases f <;> rfl
/-! ### lists of texts, sorted -/
def sD (l : List (List Nat)) : List D := l.map D.str
def insT (x : List Nat) : List (List Nat) → List (List Nat)
  | [] => [x]
  | y :: l => if ltS y x then y :: insT x l else x :: y :: l
def srt : List (List Nat) → List (List Nat)
  | [] => []
  | x :: l => insT x (srt l)
def ddp : List (List Nat) → List (List Nat)
  | [] => []
  | x :: l => if x ∈ ddp l then ddp l else x :: ddp l
theorem insD_str (x : List Nat) : ∀ l, insD (.str x) (sD l) = sD (insT x l)
  | [] => rfl
  | y :: l => by
    show (if ltS y x then D.str y :: insD (.str x) (sD l) else D.str x :: D.str y :: sD l) = sD (if ltS y x then y :: insT x l else x :: y :: l)
    rw [insD_str x l]
    split <;> rfl
theorem isort_str : ∀ l, isort (sD l) = sD (srt l)
  | [] => rfl
  | x :: l => by
    show insD (.str x) (isort (sD l)) = sD (insT x (srt l))
    rw [isort_str l, insD_str]
theorem dedup_str : ∀ l, dedup (sD l) = sD (ddp l)
  | [] => rfl
  | x :: l => by
    show (if (dedup (sD l)).any (fun y => D.eqv y (.str x)) then dedup (sD l) else D.str x :: dedup (sD l)) = sD (if x ∈ ddp l then ddp l else x :: ddp l)
    rw [dedup_str l]
    have e : (sD (ddp l)).any (fun y => D.eqv y (.str x)) = decide (x ∈ ddp l) := by
      rw [Bool.eq_iff_iff, List.any_eq_true, decide_eq_true_iff]
      constructor
      · rintro ⟨y, hy, h⟩
        obtain ⟨z, hz, rfl⟩ := List.mem_map.1 hy
        have : z = x := by simpa [D.eqv] using h
        exact this ▸ hz
      · intro h
        exact ⟨.str x, List.mem_map.2 ⟨x, h, rfl⟩, by simp [D.eqv]⟩
    rw [e]
    by_cases h : x ∈ ddp l
    · rw [if_pos h, if_pos (by simpa using h)]
    · rw [if_neg h, if_neg (by simpa using h)]
      rfl
theorem sD_ordL : ∀ l, D.ordL (sD l) = true
  | [] => rfl
  | x :: l => sD_ordL l
theorem sD_depL : ∀ l, D.depL (sD l) = 0
  | [] => rfl
  | x :: l => by
    show max 0 (D.depL (sD l)) = 0
    rw [sD_depL l]; rfl
theorem sortD_str (l : List (List Nat)) : sortD (sD l) = some (.lst (sD (srt l))) := by
  have h1 : cmpAll (sD l) = true := by
    unfold cmpAll sD
    simp [D.cmp]
  have h2 : (sD l).all neT = true := by
    unfold sD
    simp [neT]
  unfold sortD
  rw [sD_ordL, h1, sD_depL, h2, isort_str]
  rfl
theorem sset_str (l : List (List Nat)) (h : l.length < 4000) : bi_sset [.lst (sD l)] = some (.lst (sD (srt (ddp l)))) := by
  have h1 : (sD l).all D.key1 = true := by
    unfold sD
    simp [D.key1]
  have h2 : (sD l).length = l.length := by simp [sD]
  show (if _ then _ else none) = _
  rw [h1, h2, dedup_str, sortD_str, if_pos (by simpa using h)]
/-- a loop that may give its answer early -/
theorem forLoop_find {α : Type} {f : D → Sg → List D → Rq} {c : α → D} {S : Sg → Prop} {t : α → Option D} {B : List D} : ∀ {l : List α} {σ : Sg}, (∀ a ∈ l, ∀ σ, S σ → ∃ σ', S σ' ∧ f (c a) σ B = match t a with | none => .ok (.next, σ', B) | some d => .ok (.ret d, σ', B)) → S σ → ∃ σ', S σ' ∧ forLoop f (l.map c) σ B = match l.findSome? t with | none => .ok (.next, σ', B) | some d => .ok (.ret d, σ', B)
  | [], σ, _, h => ⟨σ, h, rfl⟩
  | a :: l, σ, hf, h => by
    obtain ⟨σ', h1, h2⟩ := hf a List.mem_cons_self σ h
    cases e : t a with
    | none =>
      rw [e] at h2
      obtain ⟨σ2, h3, h4⟩ := forLoop_find (l := l) (fun e he => hf e (List.mem_cons_of_mem _ he)) h1
      refine ⟨σ2, h3, ?_⟩
      rw [List.map_cons, forLoop, h2, List.findSome?_cons, e]
      exact h4
    | some d =>
      rw [e] at h2
      refine ⟨σ', h1, ?_⟩
      rw [List.map_cons, forLoop, h2, List.findSome?_cons, e]
      rfl
theorem opC_neS (f : List (List Nat)) : opC .ne (.lst (sD f)) (.lst []) = some (!decide (f = [])) := by
  show (if ok64 _ && ok64 _ then some _ else none).map not = _
  have h1 : ok64 (.lst (sD f)) = true := by
    simp [ok64, D.dep, sD_depL]
  have h2 : ok64 (.lst []) = true := rfl
  rw [h1, h2]
  cases f <;> rfl
end Pz
end
section
set_option Elab.async false
set_option linter.all false
namespace Pz
/-! ### what must hold behind a run -/
theorem bind_congr_ {α β : Type} {m m' : Rs α} {f : α → Rs β} (h : m = m') : m.bind f = m'.bind f := by rw [h]
def Wp {α : Type} (m : Rs α) (Q : α → Prop) : Prop := ∃ a, m = .ok a ∧ Q a
theorem Wp_congr_ {α : Type} {m m' : Rs α} {Q : α → Prop} (h : m = m') : Wp m Q = Wp m' Q := by rw [h]
variable {α β : Type}
@[simp] theorem wp_ok (a : α) (Q : α → Prop) : Wp (.ok a) Q ↔ Q a := ⟨fun ⟨b, h, q⟩ => by cases h; exact q, fun q => ⟨a, rfl, q⟩⟩
@[simp] theorem wp_bind (m : Rs α) (f : α → Rs β) (Q : β → Prop) : Wp (m.bind f) Q ↔ Wp m fun a => Wp (f a) Q := by
  constructor
  · rintro ⟨b, h, q⟩
    cases m with
    | ok a => exact ⟨a, rfl, b, h, q⟩
    | ex c p B => cases h
    | bad => cases h
  · rintro ⟨a, rfl, b, h, q⟩
    exact ⟨b, h, q⟩
theorem Wp.mono {m : Rs α} {Q R : α → Prop} (h : Wp m Q) (k : ∀ a, Q a → R a) : Wp m R := by
  obtain ⟨a, e, q⟩ := h
  exact ⟨a, e, k a q⟩
theorem Wp.of {m : Rs α} {a : α} {Q : α → Prop} (e : m = .ok a) (q : Q a) : Wp m Q := ⟨a, e, q⟩
@[simp] theorem wp_some_if {c : Prop} [Decidable c] (a : α) (Q : α → Prop) : Wp (Rs.of (if c then some a else none)) Q ↔ c ∧ Q a := by
  by_cases h : c
  · rw [if_pos h]; simp [h]
  · rw [if_neg h]; simp only [h, false_and, iff_false]; rintro ⟨b, e, _⟩; cases e
@[simp] theorem wp_if_bad {c : Prop} [Decidable c] (m : Rs α) (Q : α → Prop) : Wp (if c then m else .bad) Q ↔ c ∧ Wp m Q := by
  by_cases h : c
  · rw [if_pos h]; simp [h]
  · rw [if_neg h]; simp only [h, false_and, iff_false]; rintro ⟨b, e, _⟩; cases e
theorem wp_ifs {c : Bool} {m n : Rs α} {Q : α → Prop} (h1 : c = true → Wp m Q) (h2 : c = false → Wp n Q) : Wp (if c then m else n) Q := by
  cases c
  · exact h2 rfl
  · exact h1 rfl
theorem wp_ift {c : Prop} [Decidable c] {m n : Rs α} {Q : α → Prop} (h1 : c → Wp m Q) (h2 : ¬c → Wp n Q) : Wp (if c then m else n) Q := by
  by_cases h : c
  · rw [if_pos h]; exact h1 h
  · rw [if_neg h]; exact h2 h
theorem wp_self {α : Type} (a : α) : Wp (.ok a) fun x => x = a := ⟨a, rfl, rfl⟩
/-- one statement, then the rest -/
theorem wp_seq {Φ : Fn} {s : S} {ss : Ss} {σ : Sg} {B : List D} {P Q : Fl × Sg × List D → Prop} (h : Wp (ex Φ s σ B) P)
    (k : ∀ x, P x → Wp (match x.1 with | .next => exs Φ ss x.2.1 x.2.2 | fl => .ok (fl, x.2.1, x.2.2)) Q) : Wp (exs Φ (.cons s ss) σ B) Q := by
  obtain ⟨a, e, p⟩ := h
  obtain ⟨b, e2, q⟩ := k a p
  exact ⟨b, by rw [exs_cons, e]; exact e2, q⟩
/-- .. one that goes on -/
theorem wp_next {Φ : Fn} {s : S} {ss : Ss} {σ σ' : Sg} {B B' : List D} {Q : Fl × Sg × List D → Prop} (h : ex Φ s σ B = .ok (.next, σ', B'))
    (k : Wp (exs Φ ss σ' B') Q) : Wp (exs Φ (.cons s ss) σ B) Q := by
  obtain ⟨b, e2, q⟩ := k
  exact ⟨b, by rw [exs_cons, h]; exact e2, q⟩
/-! loops -/
theorem wp_for {f : D → Sg → List D → Rq} {Q : Fl × Sg × List D → Prop} (ds : List D) (I : Nat → Sg → List D → Prop) {σ : Sg} {B : List D} (h0 : I 0 σ B)
    (hs : ∀ (i : Nat) (hi : i < ds.length) (σ : Sg) (B : List D), I i σ B → Wp (f ds[i] σ B) fun x => match x.1 with
      | .next => I (i + 1) x.2.1 x.2.2
      | .cnt => I (i + 1) x.2.1 x.2.2
      | .brk => Q (.next, x.2.1, x.2.2)
      | .ret d => Q (.ret d, x.2.1, x.2.2))
    (hQ : ∀ σ B, I ds.length σ B → Q (.next, σ, B)) : Wp (forLoop f ds σ B) Q := by
  have main : ∀ (k i : Nat), i + k = ds.length → ∀ σ B, I i σ B → Wp (forLoop f (ds.drop i) σ B) Q := by
    intro k
    induction k with
    | zero =>
      intro i hi σ B h
      rw [List.drop_eq_nil_of_le (by omega)]
      have : i = ds.length := by omega
      subst this
      exact ⟨_, rfl, hQ _ _ h⟩
    | succ k ih =>
      intro i hi σ B h
      have hi' : i < ds.length := by omega
      rw [List.drop_eq_getElem_cons hi']
      obtain ⟨⟨fl, σ', B'⟩, e, q⟩ := hs i hi' σ B h
      unfold forLoop
      rw [e, Rs.bind_ok]
      cases fl with
      | next => exact ih (i + 1) (by omega) _ _ q
      | cnt => exact ih (i + 1) (by omega) _ _ q
      | brk => exact ⟨_, rfl, q⟩
      | ret d => exact ⟨_, rfl, q⟩
  have := main ds.length 0 (by omega) σ B h0
  simpa using this
theorem wp_whl {c : Sg → List D → Rs (D × List D)} {f : Sg → List D → Rq} {Q : Fl × Sg × List D → Prop} (I : Nat → Sg → List D → Prop)
    (hs : ∀ (k : Nat) (σ : Sg) (B : List D), I k σ B → Wp (c σ B) fun x => Wp (isB x.1 fun b => if b then (f σ x.2) else .ok (.brk, σ, x.2)) fun x => match x.1 with
      | .next => ∃ j, j < k ∧ I j x.2.1 x.2.2
      | .cnt => ∃ j, j < k ∧ I j x.2.1 x.2.2
      | .brk => Q (.next, x.2.1, x.2.2)
      | .ret d => Q (.ret d, x.2.1, x.2.2)) :
    ∀ {n k : Nat} {σ : Sg} {B : List D}, k < n → I k σ B → Wp (whlLoop c f n σ B) Q
  | 0, k, σ, B, hk, h => absurd hk (by omega)
  | n + 1, k, σ, B, hk, h => by
    obtain ⟨⟨d, B1⟩, e, q⟩ := hs k σ B h
    unfold whlLoop
    rw [e, Rs.bind_ok]
    obtain ⟨⟨fl, σ', B'⟩, e2, q2⟩ := q
    cases d with
    | bl b =>
      cases b with
      | false =>
        cases e2
        exact ⟨_, rfl, q2⟩
      | true =>
        have e2 : f σ B1 = .ok (fl, σ', B') := e2
        show Wp ((f σ B1).bind _) Q
        rw [e2, Rs.bind_ok]
        cases fl with
        | next => obtain ⟨j, hj, q⟩ := q2; exact wp_whl I hs (by omega) q
        | cnt => obtain ⟨j, hj, q⟩ := q2; exact wp_whl I hs (by omega) q
        | brk => exact ⟨_, rfl, q2⟩
        | ret d => exact ⟨_, rfl, q2⟩
    | _ => cases e2
/-- a comprehension, item by item: what is known of the list so far -/
theorem wp_lc {f : D → List D → Rs (Option D × List D)} {Q : List D × List D → Prop} (ds : List D) (I : Nat → List D → List D → Prop) {B : List D} (h0 : I 0 [] B)
    (hs : ∀ (i : Nat) (hi : i < ds.length) (acc B : List D), I i acc B → Wp (f ds[i] B) fun x => I (i + 1) (match x.1 with | some y => acc ++ [y] | none => acc) x.2)
    (hQ : ∀ acc B, I ds.length acc B → Q (acc, B)) : Wp (lcLoop f ds B) Q := by
  have main : ∀ (k i : Nat), i + k = ds.length → ∀ acc B, I i acc B → Wp (lcLoop f (ds.drop i) B) fun r => Q (acc ++ r.1, r.2) := by
    intro k
    induction k with
    | zero =>
      intro i hi acc B h
      rw [List.drop_eq_nil_of_le (by omega)]
      have : i = ds.length := by omega
      subst this
      exact ⟨_, rfl, by simpa using hQ _ _ h⟩
    | succ k ih =>
      intro i hi acc B h
      have hi' : i < ds.length := by omega
      rw [List.drop_eq_getElem_cons hi']
      obtain ⟨⟨o, B'⟩, e, q⟩ := hs i hi' acc B h
      unfold lcLoop
      rw [e, Rs.bind_ok]
      cases o with
      | none =>
        obtain ⟨⟨r, B2⟩, e2, q2⟩ := ih (i + 1) (by omega) _ _ q
        show Wp ((lcLoop f (ds.drop (i + 1)) B').bind _) _
        rw [e2]
        exact ⟨_, rfl, q2⟩
      | some y =>
        obtain ⟨⟨r, B2⟩, e2, q2⟩ := ih (i + 1) (by omega) _ _ q
        show Wp ((lcLoop f (ds.drop (i + 1)) B').bind _) _
        rw [e2]
        refine ⟨_, rfl, ?_⟩
        simpa using q2
  have := main ds.length 0 (by omega) [] B h0
  simpa using this
/-- .. each turn gives one item, told by a list -/
theorem wp_lcmap {f : D → List D → Rs (Option D × List D)} {Q : List D × List D → Prop} {γ : Type} (l : List γ) (c g : γ → D) {B : List D}
    (hs : ∀ a ∈ l, f (c a) B = .ok (some (g a), B)) (hQ : Q (l.map g, B)) : Wp (lcLoop f (l.map c) B) Q :=
  ⟨_, lcLoop_all hs, hQ⟩
theorem wp_lcfil {f : D → List D → Rs (Option D × List D)} {Q : List D × List D → Prop} {γ : Type} (l : List γ) (c g : γ → D) (t : γ → Bool) {B : List D}
    (hs : ∀ a ∈ l, f (c a) B = .ok (if t a then some (g a) else none, B)) (hQ : Q ((l.filter t).map g, B)) : Wp (lcLoop f (l.map c) B) Q :=
  ⟨_, lcLoop_some hs, hQ⟩
/-- a loop that goes through -/
theorem for_inv {f : D → Sg → List D → Rq} (ds : List D) (I : Nat → Sg → List D → Prop) {σ : Sg} {B : List D} (h0 : I 0 σ B)
    (hs : ∀ (i : Nat) (hi : i < ds.length) (σ : Sg) (B : List D), I i σ B → ∃ σ' B', I (i + 1) σ' B' ∧ f ds[i] σ B = .ok (.next, σ', B')) : ∃ σ' B', I ds.length σ' B' ∧ forLoop f ds σ B = .ok (.next, σ', B') := by
  have h : Wp (forLoop f ds σ B) fun x => x.1 = .next ∧ I ds.length x.2.1 x.2.2 := by
    refine wp_for ds I h0 (fun i hi σ B h => ?_) (fun σ B h => ⟨rfl, h⟩)
    obtain ⟨σ', B', h1, h2⟩ := hs i hi σ B h
    exact ⟨_, h2, h1⟩
  obtain ⟨⟨fl, σ', B'⟩, e, h1, h2⟩ := h
  have h1 : fl = .next := h1
  subst h1
  exact ⟨σ', B', h2, e⟩
/-! names -/
/-! ints -/
theorem rngL_nat (n : Nat) : rngL 0 (n : Int) = (List.range n).map fun a => .int (a : Nat) := by
  unfold rngL
  rw [show ((n : Int) - 0).toNat = n by omega]
  simp
theorem rngL_len (a b : Int) : (rngL a b).length = (b - a).toNat := by simp [rngL]
theorem rngL_get (a b : Int) (i : Nat) (h : i < (rngL a b).length) : (rngL a b)[i] = .int (a + (i : Nat)) := by simp [rngL]
theorem bnd_of {i : Int} (h : -(2 ^ 62) ≤ i) (h2 : i < 2 ^ 62) : bnd i = true := by unfold bnd; simp only [Bool.and_eq_true, decide_eq_true_eq]; exact ⟨h, h2⟩
theorem small_of {i : Int} (h : -(2 ^ 64) < i) (h2 : i < 2 ^ 64) : small i = true := by unfold small; simp only [Bool.and_eq_true, decide_eq_true_eq]; exact ⟨h, h2⟩
/-! one run of a def -/
theorem wp_run {tb : Nat → Option Fd} {n f : Nat} {args : List D} {B : List D} {np ns : Nat} {body : Ss} {Q : D × List D → Prop} (h : tb f = some ⟨np, ns, body⟩) (hn : 1 ≤ n) (hl : args.length = np)
    (k : Wp (exs (run tb (n - 1)) body (start ns args) B) fun x => match x.1 with
      | .ret d => Q (d, x.2.2)
      | .next => Q (.non, x.2.2)
      | _ => False) : Wp (run tb n f args B) Q := by
  obtain ⟨m, rfl⟩ : ∃ m, n = m + 1 := ⟨n - 1, by omega⟩
  rw [run_succ (h := h) (hl := hl)]
  unfold kRun
  rw [wp_bind]
  obtain ⟨⟨fl, σ, B'⟩, e, q⟩ := k
  refine ⟨_, e, ?_⟩
  cases fl with
  | ret d => exact ⟨_, rfl, q⟩
  | next => exact ⟨_, rfl, q⟩
  | brk => exact q.elim
  | cnt => exact q.elim
/-! the operations, one by one -/
@[simp] theorem opBi_len (x : List D) : opBi .len x = bi_len x := rfl
@[simp] theorem opBi_abs (x : List D) : opBi .abs x = bi_abs x := rfl
@[simp] theorem opBi_int (x : List D) : opBi .int x = bi_int x := rfl
@[simp] theorem opBi_str (x : List D) : opBi .str x = bi_str x := rfl
@[simp] theorem opBi_sum (x : List D) : opBi .sum x = bi_sum x := rfl
@[simp] theorem opBi_mn (x : List D) : opBi .mn x = bi_mn x := rfl
@[simp] theorem opBi_mx (x : List D) : opBi .mx x = bi_mx x := rfl
@[simp] theorem opBi_mn2 (x : List D) : opBi .mn2 x = bi_mn2 x := rfl
@[simp] theorem opBi_mx2 (x : List D) : opBi .mx2 x = bi_mx2 x := rfl
@[simp] theorem opBi_all (x : List D) : opBi .all x = bi_all x := rfl
@[simp] theorem opBi_any (x : List D) : opBi .any x = bi_any x := rfl
@[simp] theorem opBi_sorted (x : List D) : opBi .sorted x = bi_sorted x := rfl
@[simp] theorem opBi_sset (x : List D) : opBi .sset x = bi_sset x := rfl
@[simp] theorem opBi_tuple (x : List D) : opBi .tuple x = bi_tuple x := rfl
@[simp] theorem opBi_list (x : List D) : opBi .list x = bi_list x := rfl
@[simp] theorem opBi_getd (x : List D) : opBi .getd x = bi_getd x := rfl
@[simp] theorem opBi_get1 (x : List D) : opBi .get1 x = bi_get1 x := rfl
@[simp] theorem opBi_items (x : List D) : opBi .items x = bi_items x := rfl
@[simp] theorem opBi_join (x : List D) : opBi .join x = bi_join x := rfl
@[simp] theorem opBi_split (x : List D) : opBi .split x = bi_split x := rfl
@[simp] theorem opBi_count (x : List D) : opBi .count x = bi_count x := rfl
@[simp] theorem opBi_index (x : List D) : opBi .index x = bi_index x := rfl
@[simp] theorem opBi_mng (x : List D) : opBi .mng x = bi_mng x := rfl
@[simp] theorem opBi_mxg (x : List D) : opBi .mxg x = bi_mxg x := rfl
@[simp] theorem opBi_mng2 (x : List D) : opBi .mng2 x = bi_mng2 x := rfl
@[simp] theorem opBi_mxg2 (x : List D) : opBi .mxg2 x = bi_mxg2 x := rfl
@[simp] theorem opBi_sortd (x : List D) : opBi .sortd x = bi_sortd x := rfl
@[simp] theorem opBi_dict (x : List D) : opBi .dict x = bi_dict x := rfl
@[simp] theorem bi_dict_lst (l : List D) : bi_dict [.lst l] = (pairsOf l).bind fun ps => if ps.all fun p => p.1.keyOk false then some (.dic false (mkDic ps)) else none := rfl
@[simp] theorem opBi_rng (x : List D) : opBi .rng x = (rngOf x).map .lst := rfl
@[simp] theorem opBi_enm (x : D) : opBi .enm [x] = (itemsOf x).map fun l => .lst ((l.zipIdx).map fun p => .tup [.int (p.2 : Nat), p.1]) := rfl
@[simp] theorem opBi_zip (x y : D) : opBi .zip [x, y] = (itemsOf x).bind fun l => (itemsOf y).map fun m => .lst ((l.zip m).map fun p => .tup [p.1, p.2]) := rfl
@[simp] theorem rngOf_1 (b : Int) : rngOf [.int b] = if bnd b then some (rngL 0 b) else none := rfl
@[simp] theorem rngOf_2 (a b : Int) : rngOf [.int a, .int b] = if bnd a && bnd b then some (rngL a b) else none := rfl
@[simp] theorem rngOf_3 (a b c : Int) : rngOf [.int a, .int b, .int c] = if bnd a && bnd b then (if c = -1 then some (rngDn a b) else if decide (0 < c) && decide (c < 100000) then some (rngUp a b c.toNat) else none) else none := rfl
@[simp] theorem itemsOf_lst (l : List D) : itemsOf (.lst l) = some l := rfl
@[simp] theorem itemsOf_tup (l : List D) : itemsOf (.tup l) = some l := rfl
@[simp] theorem itemsOf_str (l : List Nat) : itemsOf (.str l) = some (l.map fun c => .str [c]) := rfl
@[simp] theorem bi_len_lst (l : List D) : bi_len [.lst l] = some (.int l.length) := rfl
@[simp] theorem bi_len_tup (l : List D) : bi_len [.tup l] = some (.int l.length) := rfl
@[simp] theorem bi_len_str (l : List Nat) : bi_len [.str l] = some (.int l.length) := rfl
@[simp] theorem bi_len_dic (t : Bool) (l : List (D × D)) : bi_len [.dic t l] = some (.int l.length) := rfl
@[simp] theorem bi_int_int (i : Int) : bi_int [.int i] = some (.int i) := rfl
@[simp] theorem bi_str_str (i : List Nat) : bi_str [.str i] = some (.str i) := rfl
@[simp] theorem bi_abs_int (i : Int) : bi_abs [.int i] = some (.int (if i < 0 then -i else i)) := rfl
@[simp] theorem bi_sum_lst (l : List D) : bi_sum [.lst l] = (intL l).map fun ns => .int ns.sum := rfl
@[simp] theorem bi_mn_lst (l : List D) : bi_mn [.lst l] = (intL l).bind fun ns => ns.min?.map .int := rfl
@[simp] theorem bi_mx_lst (l : List D) : bi_mx [.lst l] = (intL l).bind fun ns => ns.max?.map .int := rfl
@[simp] theorem bi_mn2_int (i j : Int) : bi_mn2 [.int i, .int j] = some (.int (if j < i then j else i)) := rfl
@[simp] theorem bi_mx2_int (i j : Int) : bi_mx2 [.int i, .int j] = some (.int (if j > i then j else i)) := rfl
@[simp] theorem bi_all_lst (l : List D) : bi_all [.lst l] = (blL l).map fun bs => .bl (bs.all id) := rfl
@[simp] theorem bi_any_lst (l : List D) : bi_any [.lst l] = (blL l).map fun bs => .bl (bs.any id) := rfl
@[simp] theorem bi_sorted_lst (l : List D) : bi_sorted [.lst l] = sortD l := rfl
@[simp] theorem bi_sset_lst (l : List D) : bi_sset [.lst l] = if l.all D.key1 && decide (l.length < 4000) then sortD (dedup l) else none := rfl
@[simp] theorem bi_tuple_lst (l : List D) : bi_tuple [.lst l] = some (.tup l) := rfl
@[simp] theorem bi_tuple_tup (l : List D) : bi_tuple [.tup l] = some (.tup l) := rfl
@[simp] theorem bi_list_scr (l : List D) : bi_list [.scr l] = some (.lst l) := rfl
@[simp] theorem bi_list_lst (l : List D) : bi_list [.lst l] = some (.lst l) := rfl
@[simp] theorem bi_list_tup (l : List D) : bi_list [.tup l] = some (.lst l) := rfl
@[simp] theorem opB_addI (i j : Int) : opB .add (.int i) (.int j) = some (.int (i + j)) := rfl
@[simp] theorem opB_subI (i j : Int) : opB .sub (.int i) (.int j) = some (.int (i - j)) := rfl
@[simp] theorem opB_mulI (i j : Int) : opB .mul (.int i) (.int j) = if small i || small j then some (.int (i * j)) else none := rfl
@[simp] theorem opB_fdivI (i j : Int) : opB .fdiv (.int i) (.int j) = if decide (0 < j) && decide (j < 1073741824) then some (.int (i / j)) else none := rfl
@[simp] theorem opB_modI (i j : Int) : opB .mod (.int i) (.int j) = if 0 < j then some (.int (i % j)) else none := rfl
@[simp] theorem opB_powI (i j : Int) : opB .pow (.int i) (.int j) = if decide (0 ≤ j) && decide (j ≤ 1000) && decide (i.natAbs < 2 ^ 64) then some (.int (i ^ j.toNat)) else none := rfl
@[simp] theorem opB_addS (x y : List Nat) : opB .add (.str x) (.str y) = if x.length + y.length ≤ ln then some (.str (x ++ y)) else none := rfl
@[simp] theorem opB_addL (x y : List D) : opB .add (.lst x) (.lst y) = if x.length + y.length ≤ ln then some (.lst (x ++ y)) else none := rfl
@[simp] theorem opB_addT (x y : List D) : opB .add (.tup x) (.tup y) = if x.length + y.length ≤ ln then some (.tup (x ++ y)) else none := rfl
@[simp] theorem opB_mulS (x : List Nat) (k : Int) : opB .mul (.str x) (.int k) = if decide (-1000000 < k) && decide (k < 1000000) && decide (x.length * k.toNat ≤ ln) then some (.str (repS x k.toNat)) else none := rfl
@[simp] theorem opB_mulL (x : List D) (k : Int) : opB .mul (.lst x) (.int k) = if decide (-1000000 < k) && decide (k < 1000000) && decide (x.length * k.toNat ≤ ln) then some (.lst (rep x k.toNat)) else none := rfl
@[simp] theorem opB_mulT (x : List D) (k : Int) : opB .mul (.tup x) (.int k) = if decide (-1000000 < k) && decide (k < 1000000) && decide (x.length * k.toNat ≤ ln) then some (.tup (rep x k.toNat)) else none := rfl
@[simp] theorem opC_leI (i j : Int) : opC .le (.int i) (.int j) = some (decide (i ≤ j)) := rfl
@[simp] theorem opC_geI (i j : Int) : opC .ge (.int i) (.int j) = some (decide (j ≤ i)) := rfl
@[simp] theorem opC_gtI_ (i j : Int) : opC .gt (.int i) (.int j) = some (decide (j < i)) := rfl
@[simp] theorem opC_ltI_ (i j : Int) : opC .lt (.int i) (.int j) = some (decide (i < j)) := rfl
@[simp] theorem opC_eqI (i j : Int) : opC .eq (.int i) (.int j) = some (decide (i = j)) := rfl
@[simp] theorem opC_neI (i j : Int) : opC .ne (.int i) (.int j) = some (!decide (i = j)) := rfl
@[simp] theorem opC_eqS (i j : List Nat) : opC .eq (.str i) (.str j) = some (decide (i = j)) := by
  show some (i == j) = _
  congr 1
  by_cases h : i = j <;> simp [h]
@[simp] theorem opC_neS_ (i j : List Nat) : opC .ne (.str i) (.str j) = some (!decide (i = j)) := by
  show some (!(i == j)) = _
  congr 2
  by_cases h : i = j <;> simp [h]
theorem opC_eq (a b : D) : opC .eq a b = eqD a b := rfl
theorem opC_ne (a b : D) : opC .ne a b = (eqD a b).map not := rfl
@[simp] theorem opC_in (a b : D) : opC .isIn a b = inD a b := rfl
@[simp] theorem opC_notIn (a b : D) : opC .notIn a b = (inD a b).map not := rfl
@[simp] theorem opC_is (a b : D) : opC .is a b = isD a b := rfl
@[simp] theorem opC_isNot (a b : D) : opC .isNot a b = (isD a b).map not := rfl
theorem eqD_nilL (l : List D) (h : D.depL l ≤ 60) : eqD (.lst l) (.lst []) = some l.isEmpty := by
  have h1 : ok64 (.lst l) = true := by
    have : D.dep (.lst l) = D.depL l + 1 := rfl
    unfold ok64; rw [this]; simp; omega
  unfold eqD
  rw [h1]
  cases l <;> rfl
theorem eqD_nilT (l : List D) (h : D.depL l ≤ 60) : eqD (.tup l) (.tup []) = some l.isEmpty := by
  have h1 : ok64 (.tup l) = true := by
    have : D.dep (.tup l) = D.depL l + 1 := rfl
    unfold ok64; rw [this]; simp; omega
  unfold eqD
  rw [h1]
  cases l <;> rfl
@[simp] theorem part_nop : part .nop .non = some none := rfl
@[simp] theorem subD_lst (l : List D) (i : Int) : subD (.lst l) (.int i) = atI l i := rfl
@[simp] theorem subD_tup (l : List D) (i : Int) : subD (.tup l) (.int i) = atI l i := rfl
@[simp] theorem subD_str (l : List Nat) (i : Int) : subD (.str l) (.int i) = (atI l i).map fun c => .str [c] := rfl
theorem atI_nat {γ : Type} (l : List γ) (i : Nat) (h : i < l.length) : atI l (i : Int) = some l[i] := by
  have h2 : (i : Int) < l.length := by omega
  unfold atI ixN
  rw [if_pos (by omega), if_pos h2]
  simp [h]
theorem atI_int {γ : Type} (l : List γ) (i : Int) (h0 : 0 ≤ i) (h : i < l.length) : atI l i = some (l[i.toNat]'(by omega)) := by
  unfold atI ixN
  rw [if_pos h0, if_pos h]
  have : i.toNat < l.length := by omega
  simp [this]
@[simp] theorem cutD_lst (l : List D) (a b : Option Int) : cutD (.lst l) a b = some (.lst (cutL l a b)) := rfl
@[simp] theorem cutD_tup (l : List D) (a b : Option Int) : cutD (.tup l) a b = some (.tup (cutL l a b)) := rfl
@[simp] theorem cutD_str (l : List Nat) (a b : Option Int) : cutD (.str l) a b = some (.str (cutL l a b)) := rfl
@[simp] theorem part_int (e : E) (i : Int) (h : e ≠ .nop) : part e (.int i) = some (some i) := by
  cases e <;> first | rfl | exact absurd rfl h
theorem cutL_from {γ : Type} (l : List γ) (a : Nat) : cutL l (some (a : Int)) none = l.drop a := by
  unfold cutL
  rw [sIx_nat]
  show (l.drop (min a l.length)).take (l.length - min a l.length) = _
  by_cases h : a ≤ l.length
  · rw [Nat.min_eq_left h, List.take_of_length_le (by rw [List.length_drop]; omega)]
  · rw [Nat.min_eq_right (by omega), List.drop_eq_nil_of_le (Nat.le_refl _), List.drop_eq_nil_of_le (by omega)]; simp
theorem cutL_to {γ : Type} (l : List γ) (a : Nat) : cutL l none (some (a : Int)) = l.take a := by
  unfold cutL
  rw [sIx_nat]
  show (l.drop 0).take (min a l.length - 0) = _
  rw [List.drop_zero, Nat.sub_zero]
  by_cases h : a ≤ l.length
  · rw [Nat.min_eq_left h]
  · rw [Nat.min_eq_right (by omega), List.take_of_length_le (Nat.le_refl _), List.take_of_length_le (by omega)]
theorem cutL_nat {γ : Type} (l : List γ) (a b : Nat) : cutL l (some (a : Int)) (some (b : Int)) = (l.drop a).take (b - a) := by
  unfold cutL
  rw [sIx_nat, sIx_nat]
  by_cases h : a ≤ l.length
  · rw [Nat.min_eq_left h]
    by_cases h2 : b ≤ l.length
    · rw [Nat.min_eq_left h2]
    · rw [Nat.min_eq_right (by omega), List.take_of_length_le (by rw [List.length_drop]; omega), List.take_of_length_le (by rw [List.length_drop]; omega)]
  · rw [List.drop_eq_nil_of_le (by omega), List.drop_eq_nil_of_le (by omega)]; simp
@[simp] theorem isi_int_int (i : Int) : isiD .int (.int i) = some true := rfl
@[simp] theorem put_nm (i : Nat) (d : D) (σ : Sg) : put (.nm i) d σ = if i < σ.length then some (σ.set i (.val d)) else none := rfl
@[simp] theorem put_tp (l : Tgs) (ds : List D) (σ : Sg) : put (.tp l) (.tup ds) σ = puts l ds σ := rfl
@[simp] theorem puts_nil (σ : Sg) : puts .nil [] σ = some σ := rfl
@[simp] theorem puts_cons (t : Tg) (l : Tgs) (d : D) (ds : List D) (σ : Sg) : puts (.cons t l) (d :: ds) σ = (put t d σ).bind fun σ' => puts l ds σ' := rfl
@[simp] theorem isLD_lst (l : List D) : isLD (.lst l) = true := rfl
@[simp] theorem isLD_dic (t : Bool) (l : List (D × D)) : isLD (.dic t l) = true := rfl
/-! two clauses -/
def turn2 (Φ : Fn) (σ : Sg) (tg : Tg) (c : E) (tg2 : Tg) (it2 c2 e : E) (d : D) : List D → Rs (List D × List D) := fun B => (Rs.of (put tg d (wipeS σ (tg.names ++ tg2.names)))).bind fun σ' => (ev Φ false c σ' B).bind fun y => isB y.1 fun k =>
  if k then (ev Φ false it2 σ' y.2).bind fun z => (Rs.of (itemsOf z.1)).bind fun es => if es.length ≤ 4096 then lcLoop (turn Φ σ' tg2 c2 e) es z.2 else .bad
  else .ok ([], y.2)
def kN4 (Φ : Fn) (σ' : Sg) (tg2 : Tg) (c2 e : E) (B : List D) : Option (List D) → Rs (List D × List D)
  | some es => if es.length ≤ 4096 then lcLoop (turn Φ σ' tg2 c2 e) es B else .bad
  | none => .bad
@[simp] theorem kN4_s (Φ : Fn) (σ' : Sg) (tg2 : Tg) (c2 e : E) (B es : List D) : kN4 Φ σ' tg2 c2 e B (some es) = if es.length ≤ 4096 then lcLoop (turn Φ σ' tg2 c2 e) es B else .bad := rfl
def kN3 (Φ : Fn) (σ' : Sg) (tg2 : Tg) (c2 e : E) (m : Re) : Rs (List D × List D) := m.bind fun z => kN4 Φ σ' tg2 c2 e z.2 (itemsOf z.1)
@[simp] theorem kN3_ok (Φ : Fn) (σ' : Sg) (tg2 : Tg) (c2 e : E) (z : D) (B : List D) : kN3 Φ σ' tg2 c2 e (.ok (z, B)) = kN4 Φ σ' tg2 c2 e B (itemsOf z) := rfl
def kN2 (Φ : Fn) (σ' : Sg) (tg2 : Tg) (it2 c2 e : E) (m : Re) : Rs (List D × List D) := m.bind fun y => isB y.1 fun k => if k then kN3 Φ σ' tg2 c2 e (ev Φ false it2 σ' y.2) else .ok ([], y.2)
@[simp] theorem kN2_t (Φ : Fn) (σ' : Sg) (tg2 : Tg) (it2 c2 e : E) (B : List D) : kN2 Φ σ' tg2 it2 c2 e (.ok (.bl true, B)) = kN3 Φ σ' tg2 c2 e (ev Φ false it2 σ' B) := rfl
@[simp] theorem kN2_f (Φ : Fn) (σ' : Sg) (tg2 : Tg) (it2 c2 e : E) (B : List D) : kN2 Φ σ' tg2 it2 c2 e (.ok (.bl false, B)) = .ok ([], B) := rfl
def kN1 (Φ : Fn) (c : E) (tg2 : Tg) (it2 c2 e : E) (B : List D) : Option Sg → Rs (List D × List D)
  | some σ' => kN2 Φ σ' tg2 it2 c2 e (ev Φ false c σ' B)
  | none => .bad
@[simp] theorem kN1_s (Φ : Fn) (c : E) (tg2 : Tg) (it2 c2 e : E) (B : List D) (σ' : Sg) : kN1 Φ c tg2 it2 c2 e B (some σ') = kN2 Φ σ' tg2 it2 c2 e (ev Φ false c σ' B) := rfl
theorem turn2_eq (Φ : Fn) (σ : Sg) (tg : Tg) (c : E) (tg2 : Tg) (it2 c2 e : E) (d : D) (B : List D) : turn2 Φ σ tg c tg2 it2 c2 e d B = kN1 Φ c tg2 it2 c2 e B (put tg d (wipeS σ (tg.names ++ tg2.names))) := by
  unfold turn2
  cases put tg d (wipeS σ (tg.names ++ tg2.names)) with
  | none => rfl
  | some σ' =>
    show ((ev Φ false c σ' B).bind fun y => isB y.1 fun k => if k then (ev Φ false it2 σ' y.2).bind fun z => (Rs.of (itemsOf z.1)).bind fun es => if es.length ≤ 4096 then lcLoop (turn Φ σ' tg2 c2 e) es z.2 else .bad else .ok ([], y.2)) = (ev Φ false c σ' B).bind _
    congr 1; funext y
    congr 1; funext k
    cases k with
    | false => rfl
    | true =>
      show ((ev Φ false it2 σ' y.2).bind fun z => (Rs.of (itemsOf z.1)).bind fun es => if es.length ≤ 4096 then lcLoop (turn Φ σ' tg2 c2 e) es z.2 else .bad) = (ev Φ false it2 σ' y.2).bind _
      congr 1; funext z
      cases itemsOf z.1 <;> rfl
def kM2 (Φ : Fn) (σ : Sg) (tg : Tg) (c : E) (tg2 : Tg) (it2 c2 e : E) (B : List D) : Option (List D) → Re
  | some ds => if ds.length ≤ 4096 then kLcE (lcLoop2 (turn2 Φ σ tg c tg2 it2 c2 e) ds B) else .bad
  | none => .bad
@[simp] theorem kM2_s (Φ : Fn) (σ : Sg) (tg : Tg) (c : E) (tg2 : Tg) (it2 c2 e : E) (B ds : List D) : kM2 Φ σ tg c tg2 it2 c2 e B (some ds) = if ds.length ≤ 4096 then kLcE (lcLoop2 (turn2 Φ σ tg c tg2 it2 c2 e) ds B) else .bad := rfl
def kM1 (Φ : Fn) (σ : Sg) (tg : Tg) (c : E) (tg2 : Tg) (it2 c2 e : E) (m : Re) : Re := m.bind fun x => kM2 Φ σ tg c tg2 it2 c2 e x.2 (itemsOf x.1)
@[simp] theorem kM1_ok (Φ : Fn) (σ : Sg) (tg : Tg) (c : E) (tg2 : Tg) (it2 c2 e : E) (x : D) (B : List D) : kM1 Φ σ tg c tg2 it2 c2 e (.ok (x, B)) = kM2 Φ σ tg c tg2 it2 c2 e B (itemsOf x) := rfl
@[simp] theorem ev_lc2 (Φ : Fn) (p : Bool) (σ : Sg) (tg : Tg) (it c : E) (tg2 : Tg) (it2 c2 e : E) (B : List D) : ev Φ p (.lc2 tg it c tg2 it2 c2 e) σ B = kM1 Φ σ tg c tg2 it2 c2 e (ev Φ true it σ B) := by
  show ((ev Φ true it σ B).bind fun x => (Rs.of (itemsOf x.1)).bind fun ds => if ds.length ≤ 4096 then (lcLoop2 (turn2 Φ σ tg c tg2 it2 c2 e) ds x.2).bind fun r => .ok (D.lst r.1, r.2) else .bad) = _
  unfold kM1
  congr 1; funext x
  cases itemsOf x.1 <;> rfl
theorem lcLoop2_all {α : Type} {f : D → List D → Rs (List D × List D)} {c : α → D} {g : α → List D} {B : List D} : ∀ {l : List α}, (∀ a ∈ l, f (c a) B = .ok (g a, B)) → lcLoop2 f (l.map c) B = .ok (l.flatMap g, B)
  | [], _ => rfl
  | a :: l, h => by
    show (f (c a) B).bind _ = _
    rw [h a (by simp), Rs.bind_ok, lcLoop2_all (l := l) fun b hb => h b (by simp [hb])]
    rfl
/-! a while loop -/
theorem whl_inv {c : Sg → List D → Rs (D × List D)} {f : Sg → List D → Rq} (I : Nat → Sg → List D → Prop) (P : Sg → List D → Prop) {n k : Nat} {σ : Sg} {B : List D} (hk : k < n) (h0 : I k σ B)
    (hs : ∀ (k : Nat) (σ : Sg) (B : List D), I k σ B → (c σ B = .ok (.bl false, B) ∧ P σ B) ∨ (c σ B = .ok (.bl true, B) ∧ ∃ σ' B' j, j < k ∧ I j σ' B' ∧ f σ B = .ok (.next, σ', B'))) : ∃ σ' B', P σ' B' ∧ whlLoop c f n σ B = .ok (.next, σ', B') := by
  have h : Wp (whlLoop c f n σ B) fun x => x.1 = .next ∧ P x.2.1 x.2.2 := by
    refine wp_whl I (fun k σ B h => ?_) hk h0
    rcases hs k σ B h with ⟨e, q⟩ | ⟨e, σ', B', j, hj, q, e2⟩
    · exact ⟨_, e, _, rfl, rfl, q⟩
    · exact ⟨_, e, _, e2, j, hj, q⟩
  obtain ⟨⟨fl, σ', B'⟩, e, h1, h2⟩ := h
  have h1 : fl = .next := h1
  subst h1
  exact ⟨σ', B', h2, e⟩
/-- a while loop, closed -/
def whlW (Φ : Fn) (c : E) (b : Ss) (σ : Sg) (B : List D) : Rq := whlLoop (fun σ B => ev Φ false c σ B) (fun σ B => exs Φ b σ B) fuel σ B
@[simp] theorem ex_whlW (Φ : Fn) (c : E) (b : Ss) (σ : Sg) (B : List D) : ex Φ (.whl c b) σ B = whlW Φ c b σ B := rfl
theorem whlW_inv {Φ : Fn} {c : E} {b : Ss} (I : Nat → Sg → List D → Prop) (P : Sg → List D → Prop) {k : Nat} {σ : Sg} {B : List D} (hk : k < 100000) (h0 : I k σ B)
    (hs : ∀ (k : Nat) (σ : Sg) (B : List D), I k σ B → (ev Φ false c σ B = .ok (.bl false, B) ∧ P σ B) ∨ (ev Φ false c σ B = .ok (.bl true, B) ∧ ∃ σ' B' j, j < k ∧ I j σ' B' ∧ exs Φ b σ B = .ok (.next, σ', B'))) : ∃ σ' B', P σ' B' ∧ whlW Φ c b σ B = .ok (.next, σ', B') :=
  whl_inv I P (n := fuel) hk h0 hs
end Pz
end
section
set_option Elab.async false
set_option linter.all false
namespace Pz
/-! ### what all laws share: the cup, rolls, one of several, alike values -/
def b__law_some : Ss := .cons (.ret (.sub (.var 1) (.call 0 (.cons (.var 0) (.cons (.bi .len (.cons (.var 1) (.nil))) (.nil)))))) (.nil)
def b__law_same : Ss := .cons (.ifs (.isi (.var 1) .tup) (.cons (.ifs (.or (.not (.isi (.var 0) .tup)) (.cmp .ne (.bi .len (.cons (.var 0) (.nil))) (.bi .len (.cons (.var 1) (.nil))))) (.cons (.ret (.cst (.bl false))) (.nil)) (.nil)) (.cons (.ret (.bi .all (.cons (.lc (.nm 2) (.bi .rng (.cons (.bi .len (.cons (.var 1) (.nil))) (.nil))) (.cst (.bl true)) (.call 2 (.cons (.sub (.var 0) (.var 2)) (.cons (.sub (.var 1) (.var 2)) (.nil))))) (.nil)))) (.nil))) (.nil)) (.cons (.ifs (.cmp .is (.var 1) (.cst .non)) (.cons (.ret (.cmp .is (.var 0) (.cst .non))) (.nil)) (.nil)) (.cons (.ifs (.isi (.var 1) .bool) (.cons (.ret (.ite (.var 1) (.cmp .is (.var 0) (.cst (.bl true))) (.cmp .is (.var 0) (.cst (.bl false))))) (.nil)) (.nil)) (.cons (.ifs (.isi (.var 1) .int) (.cons (.ret (.and (.isi (.var 0) .int) (.and (.not (.isi (.var 0) .bool)) (.cmp .eq (.bi .int (.cons (.var 0) (.nil))) (.var 1))))) (.nil)) (.nil)) (.cons (.ret (.and (.isi (.var 0) .str) (.cmp .eq (.bi .str (.cons (.var 0) (.nil))) (.var 1)))) (.nil)))))
def rollIR (k1 k2 k3 k4 m1 m2 : Int) : Ss := .cons (.ifs (.cmp .gt (.sub (.var 0) (.cst (.int 0))) (.cst (.int 0))) (.cons (.asg (.nm 2) (.bin .mod (.bi .int (.cons (.sub (.var 0) (.cst (.int 0))) (.nil))) (.var 1))) (.cons (.asg (.bx (.var 0) (.cst (.int 0))) (.bin .fdiv (.sub (.var 0) (.cst (.int 0))) (.var 1))) (.cons (.ret (.var 2)) (.nil)))) (.nil)) (.cons (.asg (.bx (.var 0) (.cst (.int 1))) (.bin .mod (.bi .int (.cons (.bin .add (.bin .mul (.sub (.var 0) (.cst (.int 1))) (.cst (.int k1))) (.cst (.int k2))) (.nil))) (.cst (.int m1)))) (.cons (.asg (.nm 3) (.bin .mod (.bi .int (.cons (.bin .mul (.sub (.var 0) (.cst (.int 1))) (.bin .add (.sub (.var 0) (.cst (.int 1))) (.cst (.int k3)))) (.nil))) (.cst (.int m2)))) (.cons (.ret (.bin .mod (.bi .int (.cons (.bin .fdiv (.var 3) (.cst (.int k4))) (.nil))) (.var 1))) (.nil))))
def cupIR (k1 k2 k3 k4 m1 : Int) : Ss := .cons (.asg (.nm 1) (.bi .abs (.cons (.sub (.bin .add (.bi .list (.cons (.var 0) (.nil))) (.lst (.cons (.cst (.int 0)) (.nil)))) (.cst (.int 0))) (.nil)))) (.cons (.ret (.mkbox (.lst (.cons (.ite (.cmp .ge (.var 1) (.bin .pow (.cst (.int 10)) (.cst (.int 18)))) (.bin .fdiv (.var 1) (.cst (.int k1))) (.cst (.int 0))) (.cons (.bin .add (.bin .mod (.bi .int (.cons (.bin .add (.bin .mul (.var 1) (.cst (.int k2))) (.cst (.int k3))) (.nil))) (.cst (.int m1))) (.cst (.int k4))) (.nil)))))) (.nil))
/-- the roll's box -/
def cupD (a b : Int) : D := .lst [.int a, .int b]
def okB (B : List D) : Prop := ∃ a b : Int, 0 ≤ a ∧ 0 ≤ b ∧ b < 2 ^ 40 ∧ B = [cupD a b]
theorem gt_int (i j : Int) : opC .gt (.int i) (.int j) = some (decide (j < i)) := rfl
variable {tb : Nat → Option Fd}
/-- the promise of a roll -/
def Roll (tb : Nat → Option Fd) : Prop := ∀ (n : Nat) (B : List D) (m : Int), 1 ≤ n → 0 < m → m < 1073741824 → okB B → ∃ (v : Nat) (B' : List D), (v : Int) < m ∧ okB B' ∧ run tb n 0 [.box 0, .int m] B = .ok (.int v, B')
def rollK (k1 k2 k3 k4 m1 m2 : Int) : Bool := decide (0 < m1) && decide (m1 < 34359738368) && decide (0 < m2) && decide (0 ≤ k1) && decide (k1 < 1000000) && decide (0 ≤ k2) && decide (k2 < 1000000) && decide (0 ≤ k3) && decide (k3 < 1000000) && decide (0 < k4) && decide (k4 < 1000000)
theorem roll_of {b : Ss} {k1 k2 k3 k4 m1 m2 : Int} (h : tb 0 = some ⟨2, 4, b⟩) (hb : b = rollIR k1 k2 k3 k4 m1 m2) (hk : rollK k1 k2 k3 k4 m1 m2 = true) : Roll tb := by
  subst hb
  intro n B m hn h0 h1 hB
  unfold rollK at hk
  simp only [Bool.and_eq_true, decide_eq_true_eq] at hk
  obtain ⟨⟨⟨⟨⟨⟨⟨⟨⟨⟨r1, r2⟩, r3⟩, q1⟩, q2⟩, q3⟩, q4⟩, q5⟩, q6⟩, q7⟩, q8⟩ := hk
  obtain ⟨a, b, ha, hb, hb2, rfl⟩ := hB
  obtain ⟨n, rfl⟩ : ∃ m, n = m + 1 := ⟨n - 1, by omega⟩
  rw [run_succ (h := h) (hl := rfl)]
  have hm : m < 1073741824 := by omega
  by_cases g : 0 < a
  · refine ⟨(a % m).toNat, [cupD (a / m) b], ?_, ⟨a / m, b, Int.ediv_nonneg ha (by omega), hb, hb2, rfl⟩, ?_⟩
    · have := Int.emod_lt_of_pos a h0
      have := Int.emod_nonneg a (by omega : m ≠ 0)
      omega
    · have := Int.emod_nonneg a (by omega : m ≠ 0)
      simp -implicitDefEqProofs [rollIR, Pz.start, cupD, drf, subD, atI, ixN, g, h0, hm, setD, frzAll, frzS, Int.toNat_of_nonneg this]
  · have d1 : (0 : Int) < m1 := r1
    have hc := Int.emod_nonneg (b * k1 + k2) (by omega : m1 ≠ 0)
    have hc2 := Int.emod_lt_of_pos (b * k1 + k2) d1
    obtain ⟨c, hcc⟩ : ∃ c, (b * k1 + k2) % m1 = c := ⟨_, rfl⟩
    rw [hcc] at hc hc2
    refine ⟨(c * (c + k3) % m2 / k4 % m).toNat, [cupD a c], ?_, ⟨a, _, ha, hc, by omega, rfl⟩, ?_⟩
    · have := Int.emod_lt_of_pos (c * (c + k3) % m2 / k4) h0
      have := Int.emod_nonneg (c * (c + k3) % m2 / k4) (by omega : m ≠ 0)
      omega
    · have := Int.emod_nonneg (c * (c + k3) % m2 / k4) (by omega : m ≠ 0)
      have s1 : small b = true := small_of (by omega) (by omega)
      have s2 : small c = true := small_of (by omega) (by omega)
      have s3 : k4 < 1073741824 := by omega
      simp -implicitDefEqProofs [rollIR, Pz.start, cupD, drf, subD, atI, ixN, g, h0, hm, setD, frzAll, frzS, s1, s2, s3, q7, r1, r3, hcc, Int.toNat_of_nonneg this]
theorem cup_of {b : Ss} {k1 k2 k3 k4 m1 : Int} (h : tb 3 = some ⟨1, 2, b⟩) (hb : b = cupIR k1 k2 k3 k4 m1) (hk : rollK k2 k3 k4 k1 m1 1 = true) (n : Nat) (hn : 1 ≤ n) (ns : List Int) (hl : ns.length ≤ 63) : ∃ B, okB B ∧ run tb n 3 [.scr (ns.map .int)] [] = .ok (.box 0, B) := by
  subst hb
  unfold rollK at hk
  simp only [Bool.and_eq_true, decide_eq_true_eq] at hk
  obtain ⟨⟨⟨⟨⟨⟨⟨⟨⟨⟨r1, r2⟩, r3⟩, q1⟩, q2⟩, q3⟩, q4⟩, q5⟩, q6⟩, q7⟩, q8⟩ := hk
  obtain ⟨n, rfl⟩ : ∃ m, n = m + 1 := ⟨n - 1, by omega⟩
  rw [run_succ (h := h) (hl := rfl)]
  have hl1 : 1 ≤ ln := by show 1 ≤ 16777216; omega
  have hl2 : 2 ≤ ln := by show 2 ≤ 16777216; omega
  have s1 : small k2 = true := small_of (by omega) (by omega)
  have s3 : k1 < 1073741824 := by omega
  obtain ⟨a, w, l, e1, e2, e3⟩ : ∃ (a : Int) (w : D) (l : List D), ns.map D.int ++ [D.int 0] = w :: l ∧ w = .int a ∧ (w :: l).length ≤ 64 := by
    cases ns with
    | nil => exact ⟨0, .int 0, [], rfl, rfl, by simp⟩
    | cons a t => exact ⟨a, .int a, t.map D.int ++ [D.int 0], rfl, rfl, by simp at hl ⊢; omega⟩
  subst e2
  obtain ⟨v, hv, hv2⟩ : ∃ v : Int, 0 ≤ v ∧ (if a < 0 then -a else a) = v := ⟨if a < 0 then -a else a, by (by_cases q : a < 0 <;> simp [q] <;> omega), rfl⟩
  have e := Int.emod_nonneg (v * k2 + k3) (by omega : m1 ≠ 0)
  have e2 := Int.emod_lt_of_pos (v * k2 + k3) r1
  have hln : ns.length + 1 ≤ ln := by
    show _ ≤ 16777216
    omega
  have e5 : atI (D.int a :: l) 0 = some (D.int a) := by
    have : (0 : Int) < (l.length : Int) + 1 := by omega
    simp [atI, ixN, this]
  by_cases g : (1000000000000000000 : Int) ≤ v
  · refine ⟨[cupD (v / k1) ((v * k2 + k3) % m1 + k4)], ⟨_, _, Int.ediv_nonneg hv (by omega), by omega, by omega, rfl⟩, ?_⟩
    simp -implicitDefEqProofs [cupIR, Pz.start, hln, hl1, hl2, e1, subD, e5, frzAll, frzS, hv2, s1, g, cupD, q7, s3, r1]
  · refine ⟨[cupD 0 ((v * k2 + k3) % m1 + k4)], ⟨_, _, by decide, by omega, by omega, rfl⟩, ?_⟩
    simp -implicitDefEqProofs [cupIR, Pz.start, hln, hl1, hl2, e1, subD, e5, frzAll, frzS, hv2, s1, g, cupD, q7, s3, r1]
/-- a sign of a text, or a value of a list or tuple, drawn -/
theorem some_s (hs : tb 1 = some ⟨2, 2, b__law_some⟩) (R : Roll tb) (n : Nat) (hn : 2 ≤ n) (B : List D) (s : List Nat) (h0 : s ≠ []) (h1 : s.length < 1000000) (hB : okB B) : ∃ (c : Nat) (B' : List D), c ∈ s ∧ okB B' ∧ run tb n 1 [.box 0, .str s] B = .ok (.str [c], B') := by
  have hp : 0 < s.length := List.length_pos_iff.2 h0
  obtain ⟨n, rfl⟩ : ∃ m, n = m + 1 := ⟨n - 1, by omega⟩
  obtain ⟨v, B', hv, hB', e⟩ := R n B s.length (by omega) (by omega) (by omega) hB
  have hv' : v < s.length := by omega
  refine ⟨s[v], B', List.getElem_mem hv', hB', ?_⟩
  rw [run_succ (h := hs) (hl := rfl)]
  have e2 : subD (.str s) (.int (v : Nat)) = some (.str [s[v]]) := by
    simp [subD, atI, ixN, hv']
  simp -implicitDefEqProofs [b__law_some, Pz.start, frzAll, frzS, e, e2]
theorem some_l (hs : tb 1 = some ⟨2, 2, b__law_some⟩) (R : Roll tb) (n : Nat) (hn : 2 ≤ n) (B : List D) (s : List D) (h0 : s ≠ []) (h1 : s.length < 1000000) (hB : okB B) : ∃ (c : D) (B' : List D), c ∈ s ∧ okB B' ∧ run tb n 1 [.box 0, .lst s] B = .ok (c, B') := by
  have hp : 0 < s.length := List.length_pos_iff.2 h0
  obtain ⟨n, rfl⟩ : ∃ m, n = m + 1 := ⟨n - 1, by omega⟩
  obtain ⟨v, B', hv, hB', e⟩ := R n B s.length (by omega) (by omega) (by omega) hB
  have hv' : v < s.length := by omega
  refine ⟨s[v], B', List.getElem_mem hv', hB', ?_⟩
  rw [run_succ (h := hs) (hl := rfl)]
  have e2 : subD (.lst s) (.int (v : Nat)) = some s[v] := by
    simp [subD, atI, ixN, hv']
  simp -implicitDefEqProofs [b__law_some, Pz.start, frzAll, frzS, e, e2]
mutual
/-- None, truth values, ints, texts, and tuples of these -/
def D.plain : D → Bool
  | .non => true
  | .bl _ => true
  | .int _ => true
  | .str _ => true
  | .tup l => decide (l.length ≤ 1000000) && D.plainL l
  | _ => false
def D.plainL : List D → Bool
  | [] => true
  | d :: l => d.plain && D.plainL l
end
theorem plainL_mem : ∀ {l : List D}, D.plainL l = true → ∀ d ∈ l, d.plain = true
  | a :: l, h, d, hd => by
    have h' : (a.plain && D.plainL l) = true := h
    rw [Bool.and_eq_true] at h'
    rcases List.mem_cons.1 hd with rfl | hd
    · exact h'.1
    · exact plainL_mem h'.2 d hd
theorem depL_mem_ : ∀ {l : List D} {d : D}, d ∈ l → d.dep ≤ D.depL l
  | a :: l, d, hd => by
    have e : D.depL (a :: l) = max a.dep (D.depL l) := rfl
    rcases List.mem_cons.1 hd with rfl | hd
    · omega
    · have := depL_mem_ hd; omega
theorem same_refl (hs : tb 2 = some ⟨2, 3, b__law_same⟩) : ∀ (n : Nat) (d : D) (B : List D), d.plain = true → d.dep < n → run tb n 2 [d, d] B = .ok (.bl true, B)
  | 0, _, _, _, h => absurd h (by omega)
  | n + 1, d, B, hp, hd => by
    rw [run_succ (h := hs) (hl := rfl)]
    cases d with
    | non => simp -implicitDefEqProofs [b__law_same, Pz.start, frzAll, frzS, isiD, isD]
    | bl b => cases b <;> simp -implicitDefEqProofs [b__law_same, Pz.start, frzAll, frzS, isiD, isD]
    | int i => simp -implicitDefEqProofs [b__law_same, Pz.start, frzAll, frzS, isiD, isD, eqD, ok64, D.dep, D.eqv]
    | str s => simp -implicitDefEqProofs [b__law_same, Pz.start, frzAll, frzS, isiD, isD, eqD, ok64, D.dep, D.eqv]
    | tup ds =>
      have hp' : (decide (ds.length ≤ 1000000) && D.plainL ds) = true := hp
      rw [Bool.and_eq_true, decide_eq_true_eq] at hp'
      have hd' : D.depL ds + 1 < n + 1 := hd
      have hb : bnd (ds.length : Int) = true := bnd_of (by omega) (by omega)
      have hln : ds.length ≤ ln := by show _ ≤ 16777216; omega
      have hc : lcLoop (turn (Pz.run tb n) [.val (.tup ds), .val (.tup ds), .no] (.nm 2) (.cst (.bl true)) (.call 2 (.cons (.sub (.var 0) (.var 2)) (.cons (.sub (.var 1) (.var 2)) (.nil))))) ((List.range ds.length).map fun a => .int (a : Nat)) B = .ok ((List.range ds.length).map fun a => D.bl ((fun _ => true) a), B) :=
        lcLoop_all fun a ha => by
          rw [List.mem_range] at ha
          have e2 : subD (.tup ds) (.int (a : Nat)) = some ds[a] := by simp [subD, atI, ixN, ha]
          have e3 := same_refl hs n ds[a] B (plainL_mem hp'.2 _ (List.getElem_mem ha)) (by have := depL_mem_ (List.getElem_mem ha); omega)
          simp -implicitDefEqProofs [turn, wipeS, Tg.names, e2, e3]
      have e3 := blL_map (fun _ : Nat => true) (List.range ds.length)
      simp -implicitDefEqProofs [b__law_same, Pz.start, hb, rngL_nat, frzAll, frzS, isiD, isD, eqD, ok64, D.dep, D.eqv, hln, hc, e3]
    | _ => cases hp
end Pz
end
section
set_option linter.all false
set_option maxRecDepth 100000
namespace In
open Pz
/-- 10 -/
def b_is_whole : Ss := .cons (.ret (.and (.isi (.var 0) .int) (.not (.isi (.var 0) .bool)))) (.nil)
/-- 11 -/
def b_fits_whole : Ss := .cons (.ret (.and (.call 10 (.cons (.var 0) (.nil))) (.chain .le .le (.var 1) (.var 0) (.var 2)))) (.nil)
/-- 12 -/
def b_is_tuple_of : Ss := .cons (.ret (.and (.isi (.var 0) .tup) (.chain .le .le (.var 1) (.bi .len (.cons (.var 0) (.nil))) (.var 2)))) (.nil)
/-- 13 -/
def b_fits_measures : Ss := .cons (.ret (.and (.call 12 (.cons (.var 0) (.cons (.cst (.int 1)) (.cons (.cst (.int 40)) (.nil))))) (.bi .all (.cons (.lc (.nm 1) (.var 0) (.cst (.bl true)) (.call 11 (.cons (.var 1) (.cons (.cst (.int 0)) (.cons (.cst (.int 200)) (.nil)))))) (.nil))))) (.nil)
/-- 14 -/
def b_fits_words : Ss := .cons (.ifs (.or (.not (.call 12 (.cons (.var 0) (.cons (.cst (.int 0)) (.cons (.cst (.int 60)) (.nil)))))) (.not (.bi .all (.cons (.lc (.nm 1) (.var 0) (.cst (.bl true)) (.isi (.var 1) .str)) (.nil))))) (.cons (.ret (.cst (.bl false))) (.nil)) (.nil)) (.cons (.ret (.bi .all (.cons (.lc (.nm 1) (.var 0) (.cst (.bl true)) (.and (.chain .le .le (.cst (.int 1)) (.bi .len (.cons (.var 1) (.nil))) (.cst (.int 30))) (.bi .all (.cons (.lc (.nm 2) (.var 1) (.cst (.bl true)) (.cmp .isIn (.var 2) (.cst (.str [97, 98, 99, 100, 101, 102, 103, 104, 105, 106, 107, 108, 109, 110, 111, 112, 113, 114, 115, 116, 117, 118, 119, 120, 121, 122])))) (.nil))))) (.nil)))) (.nil))
/-- 15 -/
def b_need_both : Ss := .cons (.ifs (.not (.call 13 (.cons (.var 0) (.nil)))) (.cons (.never) (.nil)) (.nil)) (.cons (.expr (.call 16 (.cons (.var 1) (.nil)))) (.nil))
/-- 16 -/
def b_need_words : Ss := .cons (.ifs (.not (.call 14 (.cons (.var 0) (.nil)))) (.cons (.never) (.nil)) (.nil)) (.nil)
/-- 17 -/
def b_size_of : Ss := .cons (.ret (.bin .add (.bi .sum (.cons (.lc (.nm 1) (.var 0) (.cst (.bl true)) (.bi .len (.cons (.var 1) (.nil)))) (.nil))) (.bi .mx2 (.cons (.cst (.int 0)) (.cons (.bin .sub (.bi .len (.cons (.var 0) (.nil))) (.cst (.int 1))) (.nil)))))) (.nil)
/-- 18 -/
def b_filled : Ss := .cons (.par [2, 3] (.cons (.fresh (.lst (.nil))) (.cons (.cst (.int 0)) (.nil)))) (.cons (.for (.nm 4) (.var 0) (.cons (.asg (.nm 5) (.var 3)) (.cons (.whl (.and (.cmp .lt (.var 5) (.bi .len (.cons (.var 1) (.nil)))) (.cmp .le (.call 17 (.cons (.cut (.var 1) (.var 3) (.bin .add (.var 5) (.cst (.int 1)))) (.nil))) (.var 4))) (.cons (.asg (.nm 5) (.bin .add (.var 5) (.cst (.int 1)))) (.nil))) (.cons (.app 2 (.cut (.var 1) (.var 3) (.var 5))) (.cons (.asg (.nm 3) (.var 5)) (.nil)))))) (.cons (.ret (.tup (.cons (.var 2) (.cons (.var 3) (.nil))))) (.nil)))
/-- 19 -/
def b_does_fit : Ss := .cons (.ret (.cmp .eq (.sub (.call 18 (.cons (.var 0) (.cons (.var 1) (.nil)))) (.cst (.int 1))) (.bi .len (.cons (.var 1) (.nil))))) (.nil)
/-- 20 -/
def b_fits_setting : Ss := .cons (.ifs (.or (.not (.call 12 (.cons (.var 2) (.cons (.bi .len (.cons (.var 0) (.nil))) (.cons (.bi .len (.cons (.var 0) (.nil))) (.nil)))))) (.not (.bi .all (.cons (.lc (.nm 3) (.var 2) (.cst (.bl true)) (.isi (.var 3) .tup)) (.nil))))) (.cons (.ret (.cst (.bl false))) (.nil)) (.nil)) (.cons (.ifs (.not (.bi .all (.cons (.lc (.nm 3) (.var 2) (.cst (.bl true)) (.bi .all (.cons (.lc (.nm 5) (.var 3) (.cst (.bl true)) (.isi (.var 5) .str)) (.nil)))) (.nil)))) (.cons (.ret (.cst (.bl false))) (.nil)) (.nil)) (.cons (.ifs (.cmp .ne (.bi .tuple (.cons (.lc2 (.nm 3) (.var 2) (.cst (.bl true)) (.nm 5) (.var 3) (.cst (.bl true)) (.var 5)) (.nil))) (.var 1)) (.cons (.ret (.cst (.bl false))) (.nil)) (.nil)) (.cons (.ret (.bi .all (.cons (.lc (.tp (.cons (.nm 3) (.cons (.nm 4) (.nil)))) (.zip (.var 2) (.var 0)) (.cst (.bl true)) (.cmp .le (.call 17 (.cons (.var 3) (.nil))) (.var 4))) (.nil)))) (.nil))))
/-- 21 -/
def b_ways_in : Ss := .cons (.asg (.nm 2) (.fresh (.lst (.cons (.cst (.int 0)) (.nil))))) (.cons (.for (.nm 3) (.var 1) (.cons (.app 2 (.bin .add (.bin .add (.sub (.own 2) (.neg (.cst (.int 1)))) (.bi .len (.cons (.var 3) (.nil)))) (.cst (.int 1)))) (.nil))) (.cons (.asg (.nm 4) (.bin .add (.lst (.cons (.cst (.int 1)) (.nil))) (.bin .mul (.lst (.cons (.cst (.int 0)) (.nil))) (.bi .len (.cons (.var 1) (.nil)))))) (.cons (.for (.nm 5) (.var 0) (.cons (.asg (.nm 6) (.fresh (.lst (.nil)))) (.cons (.for (.nm 7) (.bi .rng (.cons (.bin .add (.bi .len (.cons (.var 1) (.nil))) (.cst (.int 1))) (.nil))) (.cons (.asg (.nm 8) (.lc (.nm 9) (.bi .rng (.cons (.bin .add (.var 7) (.cst (.int 1))) (.nil))) (.or (.cmp .eq (.var 9) (.var 7)) (.cmp .le (.bin .sub (.sub (.own 2) (.var 7)) (.sub (.own 2) (.var 9))) (.bin .add (.var 5) (.cst (.int 1))))) (.var 9))) (.cons (.app 6 (.bi .sum (.cons (.lc (.nm 9) (.var 8) (.cst (.bl true)) (.sub (.var 4) (.var 9))) (.nil)))) (.nil)))) (.cons (.fz [6] (.asg (.nm 4) (.var 6))) (.nil))))) (.cons (.ret (.sub (.var 4) (.bi .len (.cons (.var 1) (.nil))))) (.nil)))))
/-- 22 -/
def b_can_set : Ss := .cons (.expr (.call 15 (.cons (.var 0) (.cons (.var 1) (.nil))))) (.cons (.ret (.call 19 (.cons (.var 0) (.cons (.var 1) (.nil))))) (.nil))
/-- 23 -/
def b_set_lines : Ss := .cons (.expr (.call 15 (.cons (.var 0) (.cons (.var 1) (.nil))))) (.cons (.asg (.tp (.cons (.nm 2) (.cons (.nm 3) (.nil)))) (.call 18 (.cons (.var 0) (.cons (.var 1) (.nil))))) (.cons (.ret (.ite (.cmp .eq (.var 3) (.bi .len (.cons (.var 1) (.nil)))) (.bi .tuple (.cons (.var 2) (.nil))) (.cst .non))) (.nil)))
/-- 24 -/
def b_is_setting : Ss := .cons (.expr (.call 15 (.cons (.var 0) (.cons (.var 1) (.nil))))) (.cons (.ret (.call 20 (.cons (.var 0) (.cons (.var 1) (.cons (.var 2) (.nil)))))) (.nil))
/-- 25 -/
def b_lines_used : Ss := .cons (.expr (.call 15 (.cons (.var 0) (.cons (.var 1) (.nil))))) (.cons (.asg (.tp (.cons (.nm 2) (.cons (.nm 3) (.nil)))) (.call 18 (.cons (.var 0) (.cons (.var 1) (.nil))))) (.cons (.ifs (.cmp .lt (.var 3) (.bi .len (.cons (.var 1) (.nil)))) (.cons (.ret (.cst .non)) (.nil)) (.nil)) (.cons (.ret (.bi .mx (.cons (.bin .add (.lc (.tp (.cons (.nm 4) (.cons (.nm 5) (.nil)))) (.enm (.var 2)) (.cmp .ne (.var 5) (.tup (.nil))) (.bin .add (.var 4) (.cst (.int 1)))) (.lst (.cons (.cst (.int 0)) (.nil)))) (.nil)))) (.nil))))
/-- 26 -/
def b_words_laid : Ss := .cons (.expr (.call 15 (.cons (.var 0) (.cons (.var 1) (.nil))))) (.cons (.ret (.sub (.call 18 (.cons (.var 0) (.cons (.var 1) (.nil)))) (.cst (.int 1)))) (.nil))
/-- 27 -/
def b_settings_many : Ss := .cons (.expr (.call 15 (.cons (.var 0) (.cons (.var 1) (.nil))))) (.cons (.ret (.call 21 (.cons (.var 0) (.cons (.var 1) (.nil))))) (.nil))
/-- 28 -/
def b_raggedness : Ss := .cons (.expr (.call 15 (.cons (.var 0) (.cons (.var 1) (.nil))))) (.cons (.ifs (.not (.call 20 (.cons (.var 0) (.cons (.var 1) (.cons (.var 2) (.nil)))))) (.cons (.never) (.nil)) (.nil)) (.cons (.ret (.bi .tuple (.cons (.lc (.tp (.cons (.nm 3) (.cons (.nm 4) (.nil)))) (.zip (.var 2) (.var 0)) (.cst (.bl true)) (.bin .sub (.var 4) (.call 17 (.cons (.var 3) (.nil))))) (.nil)))) (.nil)))
/-- 29 -/
def b__law_given : Ss := .cons (.asg (.nm 4) (.bi .tuple (.cons (.lc (.nm 5) (.bi .rng (.cons (.bin .add (.cst (.int 1)) (.call 0 (.cons (.var 0) (.cons (.var 1) (.nil))))) (.nil))) (.cst (.bl true)) (.call 1 (.cons (.var 0) (.cons (.lst (.cons (.cst (.int 0)) (.cons (.call 0 (.cons (.var 0) (.cons (.bin .add (.var 2) (.cst (.int 1))) (.nil)))) (.cons (.var 2) (.nil))))) (.nil))))) (.nil)))) (.cons (.ret (.tup (.cons (.var 4) (.cons (.bi .tuple (.cons (.lc (.nm 5) (.bi .rng (.cons (.call 0 (.cons (.var 0) (.cons (.bin .add (.var 3) (.cst (.int 1))) (.nil)))) (.nil))) (.cst (.bl true)) (.cut (.cst (.str [97, 98, 99, 100, 101, 102, 103, 104, 105, 106])) (.nop) (.bin .add (.cst (.int 1)) (.call 0 (.cons (.var 0) (.cons (.cst (.int 6)) (.nil))))))) (.nil))) (.nil))))) (.nil))
/-- 30 -/
def b__law_size : Ss := .cons (.ret (.bi .len (.cons (.mt .join (.cst (.str [32])) (.cons (.bi .list (.cons (.var 0) (.nil))) .nil)) (.nil)))) (.nil)
/-- 31 -/
def b__law_settings : Ss := .cons (.ifs (.cmp .eq (.var 0) (.tup (.nil))) (.cons (.ret (.ite (.cmp .eq (.var 1) (.tup (.nil))) (.lst (.cons (.tup (.nil)) (.nil))) (.lst (.nil)))) (.nil)) (.nil)) (.cons (.asg (.nm 2) (.lst (.nil))) (.cons (.for (.nm 3) (.bi .rng (.cons (.bin .add (.bi .len (.cons (.var 1) (.nil))) (.cst (.int 1))) (.nil))) (.cons (.ifs (.cmp .le (.call 30 (.cons (.cut (.var 1) (.nop) (.var 3)) (.nil))) (.sub (.var 0) (.cst (.int 0)))) (.cons (.asg (.nm 2) (.bin .add (.var 2) (.lc (.nm 4) (.call 31 (.cons (.cut (.var 0) (.cst (.int 1)) (.nop)) (.cons (.cut (.var 1) (.var 3) (.nop)) (.nil)))) (.cst (.bl true)) (.bin .add (.tup (.cons (.cut (.var 1) (.nop) (.var 3)) (.nil))) (.var 4))))) (.nil)) (.nil)) (.nil))) (.cons (.ret (.var 2)) (.nil))))
/-- 32 -/
def b__law_used : Ss := .cons (.ret (.bi .mx (.cons (.bin .add (.lc (.tp (.cons (.nm 1) (.cons (.nm 2) (.nil)))) (.enm (.var 0)) (.cmp .ne (.var 2) (.tup (.nil))) (.bin .add (.var 1) (.cst (.int 1)))) (.lst (.cons (.cst (.int 0)) (.nil)))) (.nil)))) (.nil)
/-- 33 -/
def b__law_near : Ss := .cons (.asg (.nm 3) (.fresh (.lst (.cons (.var 1) (.cons (.rev (.var 1)) (.cons (.bi .list (.cons (.var 1) (.nil))) (.cons (.cut (.var 1) (.cst (.int 1)) (.nop)) (.cons (.bin .add (.var 1) (.tup (.cons (.tup (.nil)) (.nil)))) (.cons (.cst .non) (.cons (.tup (.nil)) (.cons (.cst (.str [114, 111, 119, 115])) (.cons (.var 2) (.cons (.bin .add (.tup (.cons (.var 2) (.nil))) (.bin .mul (.tup (.cons (.tup (.nil)) (.nil))) (.bin .sub (.bi .len (.cons (.var 1) (.nil))) (.cst (.int 1))))) (.nil)))))))))))))) (.cons (.asg (.nm 4) (.call 0 (.cons (.var 0) (.cons (.bi .len (.cons (.var 1) (.nil))) (.nil))))) (.cons (.asg (.nm 5) (.sub (.var 1) (.var 4))) (.cons (.asg (.nm 6) (.lst (.cons (.bi .list (.cons (.var 5) (.nil))) (.cons (.cut (.var 5) (.cst (.int 1)) (.nop)) (.cons (.rev (.var 5)) (.cons (.bin .add (.var 5) (.tup (.cons (.cst (.str [97])) (.nil)))) (.cons (.cst .non) (.cons (.tup (.cons (.cst .non) (.nil))) (.cons (.mt .join (.cst (.str [32])) (.cons (.bi .list (.cons (.var 5) (.nil))) .nil)) (.cons (.bin .add (.var 5) (.cut (.var 5) (.neg (.cst (.int 1))) (.nop))) (.cons (.tup (.cons (.cst (.int 5)) (.nil))) (.cons (.tup (.cons (.cst (.str [])) (.nil))) (.nil))))))))))))) (.cons (.asg (.nm 3) (.fresh (.bin .add (.own 3) (.lc (.nm 7) (.var 6) (.cst (.bl true)) (.bin .add (.bin .add (.cut (.var 1) (.nop) (.var 4)) (.tup (.cons (.var 7) (.nil)))) (.cut (.var 1) (.bin .add (.var 4) (.cst (.int 1))) (.nop))))))) (.cons (.ifs (.and (.cmp .lt (.bin .add (.var 4) (.cst (.int 1))) (.bi .len (.cons (.var 1) (.nil)))) (.cmp .ne (.var 5) (.tup (.nil)))) (.cons (.app 3 (.bin .add (.bin .add (.cut (.var 1) (.nop) (.var 4)) (.tup (.cons (.cut (.var 5) (.nop) (.neg (.cst (.int 1)))) (.cons (.bin .add (.cut (.var 5) (.neg (.cst (.int 1))) (.nop)) (.sub (.var 1) (.bin .add (.var 4) (.cst (.int 1))))) (.nil))))) (.cut (.var 1) (.bin .add (.var 4) (.cst (.int 2))) (.nop)))) (.nil)) (.nil)) (.cons (.ret (.var 3)) (.nil)))))))
/-- 34 -/
def b__law_right : Ss := .cons (.asg (.nm 3) (.call 31 (.cons (.var 1) (.cons (.var 2) (.nil))))) (.cons (.par [4, 5] (.cons (.call 23 (.cons (.var 1) (.cons (.var 2) (.nil)))) (.cons (.call 25 (.cons (.var 1) (.cons (.var 2) (.nil)))) (.nil)))) (.cons (.ifs (.not (.call 2 (.cons (.tup (.cons (.call 22 (.cons (.var 1) (.cons (.var 2) (.nil)))) (.cons (.call 27 (.cons (.var 1) (.cons (.var 2) (.nil)))) (.nil)))) (.cons (.tup (.cons (.cmp .ne (.var 3) (.lst (.nil))) (.cons (.bi .len (.cons (.var 3) (.nil))) (.nil)))) (.nil))))) (.cons (.ret (.cst (.bl false))) (.nil)) (.nil)) (.cons (.ifs (.or (.cmp .ne (.cmp .is (.var 4) (.cst .non)) (.cmp .eq (.var 3) (.lst (.nil)))) (.cmp .ne (.cmp .is (.var 5) (.cst .non)) (.cmp .eq (.var 3) (.lst (.nil))))) (.cons (.ret (.cst (.bl false))) (.nil)) (.nil)) (.cons (.ifs (.cmp .isNot (.var 4) (.cst .non)) (.cons (.asg (.nm 6) (.bi .mxg (.cons (.lc (.nm 11) (.var 3) (.cst (.bl true)) (.bi .tuple (.cons (.lc (.nm 12) (.var 11) (.cst (.bl true)) (.bi .len (.cons (.var 12) (.nil)))) (.nil)))) (.nil)))) (.cons (.ifs (.or (.cmp .notIn (.var 4) (.var 3)) (.cmp .ne (.bi .tuple (.cons (.lc (.nm 12) (.var 4) (.cst (.bl true)) (.bi .len (.cons (.var 12) (.nil)))) (.nil))) (.var 6))) (.cons (.ret (.cst (.bl false))) (.nil)) (.nil)) (.cons (.ifs (.or (.not (.call 2 (.cons (.var 5) (.cons (.bi .mng (.cons (.lc (.nm 11) (.var 3) (.cst (.bl true)) (.call 32 (.cons (.var 11) (.nil)))) (.nil))) (.nil))))) (.cmp .ne (.call 32 (.cons (.var 4) (.nil))) (.var 5))) (.cons (.ret (.cst (.bl false))) (.nil)) (.nil)) (.nil)))) (.nil)) (.cons (.asg (.nm 7) (.bi .mxg (.cons (.lc (.nm 7) (.bi .rng (.cons (.bin .add (.bi .len (.cons (.var 2) (.nil))) (.cst (.int 1))) (.nil))) (.cmp .ne (.call 31 (.cons (.var 1) (.cons (.cut (.var 2) (.nop) (.var 7)) (.nil)))) (.lst (.nil))) (.var 7)) (.nil)))) (.cons (.ifs (.not (.call 2 (.cons (.call 26 (.cons (.var 1) (.cons (.var 2) (.nil)))) (.cons (.var 7) (.nil))))) (.cons (.ret (.cst (.bl false))) (.nil)) (.nil)) (.cons (.asg (.nm 8) (.ite (.cmp .ne (.var 3) (.lst (.nil))) (.call 1 (.cons (.var 0) (.cons (.var 3) (.nil)))) (.bin .add (.tup (.cons (.var 2) (.nil))) (.bin .mul (.tup (.cons (.tup (.nil)) (.nil))) (.bin .sub (.bi .len (.cons (.var 1) (.nil))) (.cst (.int 1))))))) (.cons (.for (.nm 9) (.call 33 (.cons (.var 0) (.cons (.var 8) (.cons (.var 2) (.nil))))) (.cons (.asg (.nm 10) (.and (.isi (.var 9) .tup) (.cmp .isIn (.var 9) (.var 3)))) (.cons (.ifs (.not (.call 2 (.cons (.call 24 (.cons (.var 1) (.cons (.var 2) (.cons (.var 9) (.nil))))) (.cons (.var 10) (.nil))))) (.cons (.ret (.cst (.bl false))) (.nil)) (.nil)) (.cons (.ifs (.and (.var 10) (.not (.call 2 (.cons (.call 28 (.cons (.var 1) (.cons (.var 2) (.cons (.var 9) (.nil))))) (.cons (.bi .tuple (.cons (.lc (.tp (.cons (.nm 12) (.cons (.nm 13) (.nil)))) (.zip (.var 9) (.var 1)) (.cst (.bl true)) (.bin .sub (.var 13) (.call 30 (.cons (.var 12) (.nil))))) (.nil))) (.nil)))))) (.cons (.ret (.cst (.bl false))) (.nil)) (.nil)) (.nil))))) (.cons (.ret (.cst (.bl true))) (.nil))))))))))
/-- 35 -/
def b_are_measures : Ss := .cons (.ret (.call 13 (.cons (.var 0) (.nil)))) (.nil)
/-- 36 -/
def b_are_words : Ss := .cons (.ret (.call 14 (.cons (.var 0) (.nil)))) (.nil)
/-- 37 -/
def b__law_choices : Ss := .cons (.asg (.nm 2) (.cst (.int 1))) (.cons (.for (.nm 3) (.bi .rng (.cons (.var 1) (.nil))) (.cons (.asg (.nm 2) (.bin .fdiv (.bin .mul (.var 2) (.bin .sub (.var 0) (.var 3))) (.bin .add (.var 3) (.cst (.int 1))))) (.nil))) (.cons (.ret (.var 2)) (.nil)))
/-- 38 -/
def b__law_bent : Ss := .cons (.asg (.nm 0) (.lst (.cons (.cst .non) (.cons (.tup (.nil)) (.cons (.lst (.cons (.cst (.int 5)) (.nil))) (.cons (.tup (.cons (.neg (.cst (.int 1))) (.nil))) (.cons (.tup (.cons (.cst (.int 201)) (.nil))) (.cons (.tup (.cons (.cst (.bl true)) (.nil))) (.cons (.tup (.cons (.cst .non) (.nil))) (.cons (.tup (.cons (.cst (.str [53])) (.nil))) (.cons (.bin .mul (.tup (.cons (.cst (.int 5)) (.nil))) (.cst (.int 41))) (.cons (.cst (.int 5)) (.cons (.cst (.str [53])) (.cons (.tup (.cons (.tup (.cons (.cst (.int 5)) (.nil))) (.nil))) (.nil))))))))))))))) (.cons (.asg (.nm 1) (.lst (.cons (.cst .non) (.cons (.lst (.cons (.cst (.str [97])) (.nil))) (.cons (.tup (.cons (.cst (.str [])) (.nil))) (.cons (.tup (.cons (.cst (.str [65])) (.nil))) (.cons (.tup (.cons (.bin .mul (.cst (.str [97])) (.cst (.int 31))) (.nil))) (.cons (.tup (.cons (.cst (.str [97, 32, 98])) (.nil))) (.cons (.tup (.cons (.cst .non) (.nil))) (.cons (.tup (.cons (.cst (.int 5)) (.nil))) (.cons (.bin .mul (.tup (.cons (.cst (.str [97])) (.nil))) (.cst (.int 61))) (.cons (.cst (.str [97])) (.cons (.tup (.cons (.tup (.cons (.cst (.str [97])) (.nil))) (.nil))) (.cons (.tup (.cons (.cst (.str [97, 49])) (.nil))) (.nil))))))))))))))) (.cons (.ret (.tup (.cons (.var 0) (.cons (.var 1) (.nil))))) (.nil)))
/-- 39 -/
def b_need_page : Ss := .cons (.ifs (.or (.not (.call 11 (.cons (.var 0) (.cons (.cst (.int 0)) (.cons (.cst (.int 200)) (.nil)))))) (.not (.call 11 (.cons (.var 1) (.cons (.cst (.int 1)) (.cons (.cst (.int 40)) (.nil))))))) (.cons (.never) (.nil)) (.nil)) (.nil)
/-- 40 -/
def b_beside : Ss := .cons (.ret (.bi .tuple (.cons (.lc (.nm 4) (.bi .rng (.cons (.var 1) (.nil))) (.cst (.bl true)) (.ite (.cmp .lt (.var 4) (.var 2)) (.bin .sub (.var 0) (.var 3)) (.var 0))) (.nil)))) (.nil)
/-- 45 -/
def b_measures_beside : Ss := .cons (.expr (.call 39 (.cons (.var 0) (.cons (.var 1) (.nil))))) (.cons (.ifs (.or (.not (.call 11 (.cons (.var 2) (.cons (.cst (.int 0)) (.cons (.var 1) (.nil)))))) (.not (.call 11 (.cons (.var 3) (.cons (.cst (.int 0)) (.cons (.var 0) (.nil))))))) (.cons (.never) (.nil)) (.nil)) (.cons (.ret (.call 40 (.cons (.var 0) (.cons (.var 1) (.cons (.var 2) (.cons (.var 3) (.nil))))))) (.nil)))
/-- 46 -/
def b_broadest_figure : Ss := .cons (.expr (.call 39 (.cons (.var 0) (.cons (.var 1) (.nil))))) (.cons (.ifs (.not (.call 11 (.cons (.var 2) (.cons (.cst (.int 0)) (.cons (.var 1) (.nil)))))) (.cons (.never) (.nil)) (.nil)) (.cons (.expr (.call 16 (.cons (.var 3) (.nil)))) (.cons (.ret (.call 42 (.cons (.var 0) (.cons (.var 1) (.cons (.var 2) (.cons (.var 3) (.nil))))))) (.nil))))
/-- 47 -/
def b_greatest_figure : Ss := .cons (.expr (.call 39 (.cons (.var 0) (.cons (.var 1) (.nil))))) (.cons (.expr (.call 16 (.cons (.var 2) (.nil)))) (.cons (.asg (.nm 3) (.cst .non)) (.cons (.for (.nm 4) (.bi .rng (.cons (.bin .add (.var 1) (.cst (.int 1))) (.nil))) (.cons (.asg (.nm 5) (.call 42 (.cons (.var 0) (.cons (.var 1) (.cons (.var 4) (.cons (.var 2) (.nil))))))) (.cons (.ifs (.and (.cmp .isNot (.var 5) (.cst .non)) (.or (.cmp .is (.var 3) (.cst .non)) (.cmp .gt (.bin .mul (.var 4) (.var 5)) (.bin .mul (.sub (.var 3) (.cst (.int 0))) (.sub (.var 3) (.cst (.int 1))))))) (.cons (.asg (.nm 3) (.tup (.cons (.var 4) (.cons (.var 5) (.nil))))) (.nil)) (.nil)) (.nil)))) (.cons (.ret (.var 3)) (.nil)))))
/-- 48 -/
def b__law_can : Ss := .cons (.asg (.nm 2) (.fresh (.lst (.cons (.cst (.int 0)) (.nil))))) (.cons (.for (.nm 3) (.var 0) (.cons (.asg (.nm 4) (.sub (.own 2) (.neg (.cst (.int 1))))) (.cons (.whl (.and (.cmp .lt (.var 4) (.bi .len (.cons (.var 1) (.nil)))) (.cmp .le (.call 30 (.cons (.cut (.var 1) (.sub (.own 2) (.neg (.cst (.int 1)))) (.bin .add (.var 4) (.cst (.int 1)))) (.nil))) (.var 3))) (.cons (.asg (.nm 4) (.bin .add (.var 4) (.cst (.int 1)))) (.nil))) (.cons (.app 2 (.var 4)) (.nil))))) (.cons (.ret (.cmp .eq (.sub (.var 2) (.neg (.cst (.int 1)))) (.bi .len (.cons (.var 1) (.nil))))) (.nil)))
/-- 49 -/
def b__law_page : Ss := .cons (.ret (.bi .tuple (.cons (.bin .add (.bin .mul (.lst (.cons (.bin .sub (.var 0) (.var 3)) (.nil))) (.var 2)) (.bin .mul (.lst (.cons (.var 0) (.nil))) (.bin .sub (.var 1) (.var 2)))) (.nil)))) (.nil)
/-- 50 -/
def b__law_words : Ss := .cons (.ret (.bi .tuple (.cons (.lc (.nm 2) (.bi .rng (.cons (.call 0 (.cons (.var 0) (.cons (.bin .add (.var 1) (.cst (.int 1))) (.nil)))) (.nil))) (.cst (.bl true)) (.cut (.cst (.str [97, 98, 99, 100, 101, 102, 103, 104, 105, 106])) (.nop) (.bin .add (.cst (.int 1)) (.call 0 (.cons (.var 0) (.cons (.cst (.int 9)) (.nil))))))) (.nil)))) (.nil)
/-- 51 -/
def b__law_least_right : Ss := .cons (.par [1, 2] (.cons (.call 50 (.cons (.var 0) (.cons (.call 1 (.cons (.var 0) (.cons (.lst (.cons (.cst (.int 3)) (.cons (.cst (.int 12)) (.cons (.cst (.int 60)) (.nil))))) (.nil)))) (.nil)))) (.cons (.bin .add (.cst (.int 1)) (.call 1 (.cons (.var 0) (.cons (.lst (.cons (.call 0 (.cons (.var 0) (.cons (.cst (.int 6)) (.nil)))) (.cons (.call 0 (.cons (.var 0) (.cons (.cst (.int 40)) (.nil)))) (.nil)))) (.nil))))) (.nil)))) (.cons (.asg (.nm 3) (.call 44 (.cons (.var 2) (.cons (.var 1) (.nil))))) (.cons (.ifs (.cmp .is (.var 3) (.cst .non)) (.cons (.ifs (.call 48 (.cons (.bin .mul (.tup (.cons (.cst (.int 200)) (.nil))) (.var 2)) (.cons (.var 1) (.nil)))) (.cons (.ret (.cst (.bl false))) (.nil)) (.nil)) (.nil)) (.cons (.ifs (.or (.not (.isi (.var 3) .int)) (.or (.isi (.var 3) .bool) (.or (.not (.chain .le .le (.cst (.int 0)) (.var 3) (.cst (.int 200)))) (.not (.call 48 (.cons (.bin .mul (.tup (.cons (.var 3) (.nil))) (.var 2)) (.cons (.var 1) (.nil)))))))) (.cons (.ret (.cst (.bl false))) (.nil)) (.nil)) (.nil))) (.cons (.ifs (.and (.cmp .isNot (.var 3) (.cst .non)) (.and (.cmp .gt (.var 3) (.cst (.int 0))) (.call 48 (.cons (.bin .mul (.tup (.cons (.bin .sub (.var 3) (.cst (.int 1))) (.nil))) (.var 2)) (.cons (.var 1) (.nil)))))) (.cons (.ret (.cst (.bl false))) (.nil)) (.nil)) (.cons (.asg (.nm 4) (.sub (.call 29 (.cons (.var 0) (.cons (.cst (.int 8)) (.cons (.cst (.int 30)) (.cons (.cst (.int 0)) (.nil)))))) (.cst (.int 0)))) (.cons (.asg (.nm 5) (.call 43 (.cons (.var 4) (.cons (.var 1) (.nil))))) (.cons (.ifs (.cmp .is (.var 5) (.cst .non)) (.cons (.ret (.not (.call 48 (.cons (.bi .tuple (.cons (.lc (.nm 6) (.var 4) (.cst (.bl true)) (.bin .add (.var 6) (.cst (.int 200)))) (.nil))) (.cons (.var 1) (.nil)))))) (.nil)) (.nil)) (.cons (.ifs (.or (.not (.isi (.var 5) .int)) (.or (.isi (.var 5) .bool) (.not (.chain .le .le (.cst (.int 0)) (.var 5) (.cst (.int 200)))))) (.cons (.ret (.cst (.bl false))) (.nil)) (.nil)) (.cons (.ifs (.not (.call 48 (.cons (.bi .tuple (.cons (.lc (.nm 6) (.var 4) (.cst (.bl true)) (.bin .add (.var 6) (.var 5))) (.nil))) (.cons (.var 1) (.nil))))) (.cons (.ret (.cst (.bl false))) (.nil)) (.nil)) (.cons (.ifs (.and (.cmp .gt (.var 5) (.cst (.int 0))) (.call 48 (.cons (.bi .tuple (.cons (.lc (.nm 6) (.var 4) (.cst (.bl true)) (.bin .sub (.bin .add (.var 6) (.var 5)) (.cst (.int 1)))) (.nil))) (.cons (.var 1) (.nil))))) (.cons (.ret (.cst (.bl false))) (.nil)) (.nil)) (.cons (.ret (.call 2 (.cons (.call 22 (.cons (.var 4) (.cons (.var 1) (.nil)))) (.cons (.cmp .eq (.var 5) (.cst (.int 0))) (.nil))))) (.nil)))))))))))
/-- 52 -/
def b__law_figures_right : Ss := .cons (.asg (.tp (.cons (.nm 1) (.cons (.nm 2) (.cons (.nm 3) (.nil))))) (.tup (.cons (.call 0 (.cons (.var 0) (.cons (.cst (.int 16)) (.nil)))) (.cons (.bin .add (.cst (.int 1)) (.call 0 (.cons (.var 0) (.cons (.cst (.int 5)) (.nil))))) (.cons (.call 50 (.cons (.var 0) (.cons (.cst (.int 6)) (.nil)))) (.nil)))))) (.cons (.asg (.nm 4) (.lst (.nil))) (.cons (.for (.nm 5) (.bi .rng (.cons (.bin .add (.var 2) (.cst (.int 1))) (.nil))) (.cons (.asg (.nm 6) (.lc (.nm 8) (.bi .rng (.cons (.bin .add (.var 1) (.cst (.int 1))) (.nil))) (.call 48 (.cons (.call 49 (.cons (.var 1) (.cons (.var 2) (.cons (.var 5) (.cons (.var 8) (.nil)))))) (.cons (.var 3) (.nil)))) (.var 8))) (.cons (.ifs (.not (.call 2 (.cons (.call 46 (.cons (.var 1) (.cons (.var 2) (.cons (.var 5) (.cons (.var 3) (.nil)))))) (.cons (.ite (.cmp .ne (.var 6) (.lst (.nil))) (.bi .mx (.cons (.var 6) (.nil))) (.cst .non)) (.nil))))) (.cons (.ret (.cst (.bl false))) (.nil)) (.nil)) (.cons (.asg (.nm 4) (.bin .add (.var 4) (.lc (.nm 8) (.var 6) (.cst (.bl true)) (.tup (.cons (.bin .mul (.var 5) (.var 8)) (.cons (.neg (.var 5)) (.cons (.var 8) (.nil)))))))) (.nil))))) (.cons (.asg (.nm 7) (.ite (.cmp .ne (.var 4) (.lst (.nil))) (.bi .mx (.cons (.var 4) (.nil))) (.cst .non))) (.cons (.ifs (.not (.call 2 (.cons (.call 47 (.cons (.var 1) (.cons (.var 2) (.cons (.var 3) (.nil))))) (.cons (.ite (.cmp .isNot (.var 7) (.cst .non)) (.tup (.cons (.neg (.sub (.var 7) (.cst (.int 1)))) (.cons (.sub (.var 7) (.cst (.int 2))) (.nil)))) (.cst .non)) (.nil))))) (.cons (.ret (.cst (.bl false))) (.nil)) (.nil)) (.cons (.asg (.tp (.cons (.nm 5) (.cons (.nm 8) (.nil)))) (.tup (.cons (.call 0 (.cons (.var 0) (.cons (.bin .add (.var 2) (.cst (.int 1))) (.nil)))) (.cons (.call 0 (.cons (.var 0) (.cons (.bin .add (.var 1) (.cst (.int 1))) (.nil)))) (.nil))))) (.cons (.asg (.nm 9) (.call 45 (.cons (.var 1) (.cons (.var 2) (.cons (.var 5) (.cons (.var 8) (.nil))))))) (.cons (.ret (.and (.call 2 (.cons (.var 9) (.cons (.call 49 (.cons (.var 1) (.cons (.var 2) (.cons (.var 5) (.cons (.var 8) (.nil)))))) (.nil)))) (.call 2 (.cons (.call 22 (.cons (.var 9) (.cons (.var 3) (.nil)))) (.cons (.call 48 (.cons (.var 9) (.cons (.var 3) (.nil)))) (.nil)))))) (.nil))))))))
class Has (tb : Nat → Option Fd) : Prop where
  some_ : tb 1 = some ⟨2, 2, b__law_some⟩
  same_ : tb 2 = some ⟨2, 3, b__law_same⟩
  roll_ : Roll tb
  h_is_whole : tb 10 = some ⟨1, 1, b_is_whole⟩
  h_fits_whole : tb 11 = some ⟨3, 3, b_fits_whole⟩
  h_is_tuple_of : tb 12 = some ⟨3, 3, b_is_tuple_of⟩
  h_fits_measures : tb 13 = some ⟨1, 2, b_fits_measures⟩
  h_fits_words : tb 14 = some ⟨1, 3, b_fits_words⟩
  h_need_both : tb 15 = some ⟨2, 2, b_need_both⟩
  h_need_words : tb 16 = some ⟨1, 1, b_need_words⟩
  h_size_of : tb 17 = some ⟨1, 2, b_size_of⟩
  h_filled : tb 18 = some ⟨2, 6, b_filled⟩
  h_does_fit : tb 19 = some ⟨2, 2, b_does_fit⟩
  h_fits_setting : tb 20 = some ⟨3, 6, b_fits_setting⟩
  h_ways_in : tb 21 = some ⟨2, 10, b_ways_in⟩
  h_can_set : tb 22 = some ⟨2, 2, b_can_set⟩
  h_set_lines : tb 23 = some ⟨2, 4, b_set_lines⟩
  h_is_setting : tb 24 = some ⟨3, 3, b_is_setting⟩
  h_lines_used : tb 25 = some ⟨2, 6, b_lines_used⟩
  h_words_laid : tb 26 = some ⟨2, 2, b_words_laid⟩
  h_settings_many : tb 27 = some ⟨2, 2, b_settings_many⟩
  h_raggedness : tb 28 = some ⟨3, 5, b_raggedness⟩
  h__law_given : tb 29 = some ⟨4, 6, b__law_given⟩
  h__law_size : tb 30 = some ⟨1, 1, b__law_size⟩
  h__law_settings : tb 31 = some ⟨2, 5, b__law_settings⟩
  h__law_used : tb 32 = some ⟨1, 3, b__law_used⟩
  h__law_near : tb 33 = some ⟨3, 8, b__law_near⟩
  h__law_right : tb 34 = some ⟨3, 14, b__law_right⟩
  h_are_measures : tb 35 = some ⟨1, 1, b_are_measures⟩
  h_are_words : tb 36 = some ⟨1, 1, b_are_words⟩
  h__law_choices : tb 37 = some ⟨2, 4, b__law_choices⟩
  h__law_bent : tb 38 = some ⟨0, 2, b__law_bent⟩
  h_need_page : tb 39 = some ⟨2, 2, b_need_page⟩
  h_beside : tb 40 = some ⟨4, 5, b_beside⟩
  h_measures_beside : tb 45 = some ⟨4, 4, b_measures_beside⟩
  h_broadest_figure : tb 46 = some ⟨4, 4, b_broadest_figure⟩
  h_greatest_figure : tb 47 = some ⟨3, 6, b_greatest_figure⟩
  h__law_can : tb 48 = some ⟨2, 5, b__law_can⟩
  h__law_page : tb 49 = some ⟨4, 4, b__law_page⟩
  h__law_words : tb 50 = some ⟨2, 3, b__law_words⟩
  h__law_least_right : tb 51 = some ⟨1, 7, b__law_least_right⟩
  h__law_figures_right : tb 52 = some ⟨1, 10, b__law_figures_right⟩
end In
end
section
set_option linter.all false
set_option maxRecDepth 100000
open Pz
namespace In
variable {tb : Nat → Option Fd} [hb : Has tb]
def ltr : List Nat := [97, 98, 99, 100, 101, 102, 103, 104, 105, 106, 107, 108, 109, 110, 111, 112, 113, 114, 115, 116, 117, 118, 119, 120, 121, 122]
theorem m_is_whole (n : Nat) (i : Int) (B : List D) : Pz.run tb (n + 1) 10 [.int i] B = .ok (.bl true, B) := by
  rw [run_succ (h := hb.h_is_whole) (hl := rfl)]
  simp [b_is_whole, Pz.start, frzAll, frzS, isiD]
theorem m_fits_whole (n : Nat) (i lo hi : Int) (B : List D) : Pz.run tb (n + 2) 11 [.int i, .int lo, .int hi] B = .ok (.bl (decide (lo ≤ i ∧ i ≤ hi)), B) := by
  rw [show n + 2 = (n + 1) + 1 from rfl, run_succ (h := hb.h_fits_whole) (hl := rfl)]
  simp [b_fits_whole, Pz.start, frzAll, frzS, m_is_whole]
  by_cases h : lo ≤ i <;> simp [h]
theorem m_is_tuple_of (n : Nat) (l : List D) (lo hi : Int) (B : List D) : Pz.run tb (n + 1) 12 [.tup l, .int lo, .int hi] B = .ok (.bl (decide (lo ≤ l.length ∧ (l.length : Int) ≤ hi)), B) := by
  rw [run_succ (h := hb.h_is_tuple_of) (hl := rfl)]
  simp -implicitDefEqProofs [b_is_tuple_of, Pz.start, frzAll, frzS, isiD]
  by_cases h : lo ≤ l.length <;> simp [h]
structure okM (ms : List Nat) : Prop where
  one : 1 ≤ ms.length
  few : ms.length ≤ 40
  wide : ∀ m ∈ ms, m ≤ 200
structure okW (ws : List (List Nat)) : Prop where
  few : ws.length ≤ 60
  ok : ∀ w ∈ ws, 1 ≤ w.length ∧ w.length ≤ 30 ∧ ∀ c ∈ w, c ∈ ltr
theorem all_tt {α : Type} (l : List α) : (l.all fun _ => true) = true := by simp
theorem m_fits_measures (n : Nat) (ms : List Nat) (h : okM ms) (B : List D) : Pz.run tb (n + 3) 13 [.tup (nD ms)] B = .ok (.bl true, B) := by
  rw [show n + 3 = (n + 2) + 1 from rfl, run_succ (h := hb.h_fits_measures) (hl := rfl)]
  obtain ⟨h1, h2, h3⟩ := h
  have hl : lcLoop (Pz.turn (Pz.run tb (n + 2)) [.val (.tup (nD ms)), .no] (.nm 1) (.cst (.bl true)) (.call 11 (.cons (.var 1) (.cons (.cst (.int 0)) (.cons (.cst (.int 200)) (.nil)))))) (nD ms) B = .ok (ms.map fun _ => .bl true, B) :=
    lcLoop_all fun m hm => by
      have := h3 m hm
      have q : decide ((0 : Int) ≤ m ∧ (m : Int) ≤ 200) = true := by simp; omega
      have e := m_fits_whole (tb := tb) n m 0 200 B
      rw [q] at e
      simp -implicitDefEqProofs [turn_eq, wipeS, Tg.names, e]
  have q : decide ((1 : Int) ≤ (nD ms).length ∧ ((nD ms).length : Int) ≤ 40) = true := by simp [nD]; omega
  have hln : (nD ms).length ≤ ln := by show _ ≤ 16777216; simp [nD]; omega
  have hbl : blL (ms.map fun _ => D.bl true) = some (ms.map fun _ => true) := blL_map (fun _ => true) ms
  have e1 := m_is_tuple_of (tb := tb) (n + 1) (nD ms) 1 40 B
  rw [q] at e1
  simp -implicitDefEqProofs [b_fits_measures, Pz.start, frzAll, frzS, e1, hl, hln, hbl, all_tt]
theorem m_fits_words (n : Nat) (ws : List (List Nat)) (h : okW ws) (B : List D) : Pz.run tb (n + 2) 14 [.tup (sD ws)] B = .ok (.bl true, B) := by
  rw [show n + 2 = (n + 1) + 1 from rfl, run_succ (h := hb.h_fits_words) (hl := rfl)]
  obtain ⟨h1, h2⟩ := h
  have hl1 : lcLoop (Pz.turn (Pz.run tb (n + 1)) [.val (.tup (sD ws)), .no, .no] (.nm 1) (.cst (.bl true)) (.isi (.var 1) .str)) (sD ws) B = .ok (ws.map fun _ => .bl true, B) :=
    lcLoop_all fun m hm => by simp -implicitDefEqProofs [turn_eq, wipeS, Tg.names, isiD]
  have hl2 : lcLoop (Pz.turn (Pz.run tb (n + 1)) [.val (.tup (sD ws)), .no, .no] (.nm 1) (.cst (.bl true)) (.and (.chain .le .le (.cst (.int 1)) (.bi .len (.cons (.var 1) (.nil))) (.cst (.int 30))) (.bi .all (.cons (.lc (.nm 2) (.var 1) (.cst (.bl true)) (.cmp .isIn (.var 2) (.cst (.str [97, 98, 99, 100, 101, 102, 103, 104, 105, 106, 107, 108, 109, 110, 111, 112, 113, 114, 115, 116, 117, 118, 119, 120, 121, 122])))) (.nil))))) (sD ws) B = .ok (ws.map fun _ => .bl true, B) :=
    lcLoop_all fun w hw => by
      obtain ⟨a1, a2, a3⟩ := h2 w hw
      have a1' : (1 : Int) ≤ w.length := by omega
      have a2' : (w.length : Int) ≤ 30 := by omega
      have hl : lcLoop (Pz.turn (Pz.run tb (n + 1)) [.val (.tup (sD ws)), .val (.str w), .no] (.nm 2) (.cst (.bl true)) (.cmp .isIn (.var 2) (.cst (.str [97, 98, 99, 100, 101, 102, 103, 104, 105, 106, 107, 108, 109, 110, 111, 112, 113, 114, 115, 116, 117, 118, 119, 120, 121, 122])))) (w.map fun c => .str [c]) B = .ok (w.map fun _ => .bl true, B) :=
        lcLoop_all fun c hc => by
          have : inD (.str [c]) (.str ltr) = some true := by
            have hm := a3 c hc
            simp only [ltr, List.mem_cons, List.not_mem_nil, or_false] at hm
            rcases hm with rfl | rfl | rfl | rfl | rfl | rfl | rfl | rfl | rfl | rfl | rfl | rfl | rfl | rfl | rfl | rfl | rfl | rfl | rfl | rfl | rfl | rfl | rfl | rfl | rfl | rfl <;> rfl
          unfold ltr at this
          simp -implicitDefEqProofs [turn_eq, wipeS, Tg.names, this]
      have hln : w.length ≤ ln := by show _ ≤ 16777216; omega
      have hbl : blL (w.map fun _ => D.bl true) = some (w.map fun _ => true) := blL_map (fun _ => true) w
      simp -implicitDefEqProofs [turn_eq, wipeS, Tg.names, a1, a1', a2, a2', hl, hln, hbl, all_tt]
  have q : decide ((0 : Int) ≤ (sD ws).length ∧ ((sD ws).length : Int) ≤ 60) = true := by simp [sD]; omega
  have hln : (sD ws).length ≤ ln := by show _ ≤ 16777216; simp [sD]; omega
  have hbl : blL (ws.map fun _ => D.bl true) = some (ws.map fun _ => true) := blL_map (fun _ => true) ws
  have e1 := m_is_tuple_of (tb := tb) n (sD ws) 0 60 B
  rw [q] at e1
  simp -implicitDefEqProofs [b_fits_words, Pz.start, frzAll, frzS, e1, hl1, hl2, hln, hbl, all_tt]
theorem m_need_words (n : Nat) (ws : List (List Nat)) (h : okW ws) (B : List D) : Pz.run tb (n + 3) 16 [.tup (sD ws)] B = .ok (.non, B) := by
  rw [show n + 3 = (n + 2) + 1 from rfl, run_succ (h := hb.h_need_words) (hl := rfl)]
  simp -implicitDefEqProofs [b_need_words, Pz.start, m_fits_words n ws h]
theorem m_need_both (n : Nat) (ms : List Nat) (hm : okM ms) (ws : List (List Nat)) (h : okW ws) (B : List D) : Pz.run tb (n + 4) 15 [.tup (nD ms), .tup (sD ws)] B = .ok (.non, B) := by
  rw [show n + 4 = (n + 3) + 1 from rfl, run_succ (h := hb.h_need_both) (hl := rfl)]
  simp -implicitDefEqProofs [b_need_both, Pz.start, m_fits_measures n ms hm, m_need_words n ws h]
/-! ### how wide words are -/
def siz (row : List (List Nat)) : Nat := (row.map List.length).sum + (row.length - 1)
theorem intL_nD : ∀ l : List Nat, intL (nD l) = some (l.map fun (a : Nat) => (a : Int))
  | [] => rfl
  | a :: l => by
    show (intL (nD l)).map ((a : Int) :: ·) = _
    rw [intL_nD l]; rfl
theorem sum_cast : ∀ l : List Nat, (l.map fun (a : Nat) => (a : Int)).sum = ((l.sum : Nat) : Int)
  | [] => rfl
  | a :: l => by rw [List.map_cons, List.sum_cons, List.sum_cons, sum_cast l, Int.natCast_add]
theorem m_size_of (n : Nat) (row : List (List Nat)) (h : row.length ≤ 1000) (B : List D) : Pz.run tb (n + 1) 17 [.tup (sD row)] B = .ok (.int (siz row : Nat), B) := by
  rw [run_succ (h := hb.h_size_of) (hl := rfl)]
  have hl : lcLoop (Pz.turn (Pz.run tb n) [.val (.tup (sD row)), .no] (.nm 1) (.cst (.bl true)) (.bi .len (.cons (.var 1) (.nil)))) (sD row) B = .ok (nD (row.map List.length), B) := by
    have : nD (row.map List.length) = row.map fun w => D.int (w.length : Nat) := by simp [nD]
    rw [this]
    exact lcLoop_all fun w hw => by simp -implicitDefEqProofs [turn_eq, wipeS, Tg.names]
  have hln : (sD row).length ≤ ln := by show _ ≤ 16777216; simp [sD]; omega
  have hs := intL_nD (row.map List.length)
  have e : ((row.map List.length).map fun (a : Nat) => (a : Int)).sum + (if (row.length : Int) - 1 > 0 then (row.length : Int) - 1 else 0) = (siz row : Nat) := by
    rw [sum_cast]
    unfold siz
    split <;> omega
  have hsl : ((sD row).length : Int) = row.length := by simp [sD]
  simp only [List.map_map] at e hs
  simp -implicitDefEqProofs [b_size_of, Pz.start, frzAll, frzS, hl, hln, hs, hsl]
  simpa using e
end In
end
section
set_option linter.all false
set_option maxRecDepth 100000
open Pz
namespace In
variable {tb : Nat → Option Fd} [hb : Has tb]
/-! ### a line filled -/
theorem nD_len (l : List Nat) : (nD l).length = l.length := by simp [nD]
/-- how many words a line takes, from k on -/
def gkF (m : Nat) (rest : List (List Nat)) : Nat → Nat → Nat
  | 0, k => k
  | f + 1, k => if k < rest.length ∧ siz (rest.take (k + 1)) ≤ m then gkF m rest f (k + 1) else k
def gk (m : Nat) (rest : List (List Nat)) : Nat := gkF m rest rest.length 0
theorem gkF_spec (m : Nat) (rest : List (List Nat)) : ∀ (f k : Nat), rest.length ≤ k + f → k ≤ rest.length → (0 < k → siz (rest.take k) ≤ m) →
    k ≤ gkF m rest f k ∧ gkF m rest f k ≤ rest.length ∧ (0 < gkF m rest f k → siz (rest.take (gkF m rest f k)) ≤ m) ∧ (gkF m rest f k < rest.length → m < siz (rest.take (gkF m rest f k + 1)))
  | 0, k, h, hk, hs => ⟨Nat.le_refl _, hk, hs, fun h' => by unfold gkF at h'; omega⟩
  | f + 1, k, h, hk, hs => by
    unfold gkF
    by_cases g : k < rest.length ∧ siz (rest.take (k + 1)) ≤ m
    · rw [if_pos g]
      obtain ⟨h1, h2, h3, h4⟩ := gkF_spec m rest f (k + 1) (by omega) g.1 (fun _ => g.2)
      exact ⟨by omega, h2, h3, h4⟩
    · rw [if_neg g]
      refine ⟨Nat.le_refl _, hk, hs, fun h' => ?_⟩
      have : ¬ siz (rest.take (k + 1)) ≤ m := fun z => g ⟨h', z⟩
      omega
theorem gk_le (m : Nat) (rest : List (List Nat)) : gk m rest ≤ rest.length := (gkF_spec m rest rest.length 0 (by omega) (by omega) (by omega)).2.1
theorem gk_fit (m : Nat) (rest : List (List Nat)) (h : 0 < gk m rest) : siz (rest.take (gk m rest)) ≤ m := (gkF_spec m rest rest.length 0 (by omega) (by omega) (by omega)).2.2.1 h
theorem gk_max (m : Nat) (rest : List (List Nat)) (h : gk m rest < rest.length) : m < siz (rest.take (gk m rest + 1)) := (gkF_spec m rest rest.length 0 (by omega) (by omega) (by omega)).2.2.2 h
/-- where the next line begins -/
def gp (ws : List (List Nat)) (a m : Nat) : Nat := a + gk m (ws.drop a)
def pos (ws : List (List Nat)) (ms : List Nat) (a : Nat) : Nat := ms.foldl (gp ws) a
def rws (ws : List (List Nat)) : List Nat → Nat → List (List (List Nat))
  | [], _ => []
  | m :: ms, a => (ws.drop a).take (gk m (ws.drop a)) :: rws ws ms (gp ws a m)
theorem gp_le {ws : List (List Nat)} {a m : Nat} (h : a ≤ ws.length) : gp ws a m ≤ ws.length := by
  have := gk_le m (ws.drop a)
  rw [List.length_drop] at this
  unfold gp; omega
theorem pos_le {ws : List (List Nat)} : ∀ {ms : List Nat} {a : Nat}, a ≤ ws.length → pos ws ms a ≤ ws.length
  | [], _, h => h
  | m :: ms, _, h => pos_le (ms := ms) (gp_le h)
theorem rws_snoc (ws : List (List Nat)) : ∀ (l : List Nat) (m a : Nat), rws ws (l ++ [m]) a = rws ws l a ++ [(ws.drop (pos ws l a)).take (gk m (ws.drop (pos ws l a)))]
  | [], m, a => rfl
  | x :: l, m, a => by
    show _ :: rws ws (l ++ [m]) (gp ws a x) = _ :: (rws ws l (gp ws a x) ++ _)
    rw [rws_snoc ws l m]
    rfl
theorem pos_snoc (ws : List (List Nat)) (l : List Nat) (m a : Nat) : pos ws (l ++ [m]) a = gp ws (pos ws l a) m := by
  unfold pos; rw [List.foldl_append]; rfl
theorem rws_len (ws : List (List Nat)) : ∀ (l : List Nat) (a : Nat), (rws ws l a).length = l.length
  | [], _ => rfl
  | x :: l, a => by show (rws ws l _).length + 1 = _; rw [rws_len ws l]; rfl
def tD (rows : List (List (List Nat))) : List D := rows.map fun r => .tup (sD r)
theorem tD_len (rows : List (List (List Nat))) : (tD rows).length = rows.length := by simp [tD]
theorem sD_len (rows : List (List Nat)) : (sD rows).length = rows.length := by simp [sD]
theorem sD_take (r : List (List Nat)) (k : Nat) : (sD r).take k = sD (r.take k) := by simp [sD]
theorem sD_drop (r : List (List Nat)) (k : Nat) : (sD r).drop k = sD (r.drop k) := by simp [sD]
theorem cut_sD (ws : List (List Nat)) (a b : Nat) : cutL (sD ws) (some (a : Int)) (some (b : Int)) = sD ((ws.drop a).take (b - a)) := by
  rw [cutL_nat, sD_drop, sD_take]
def bodyF : Ss := (.cons (.asg (.nm 5) (.var 3)) (.cons (.whl (.and (.cmp .lt (.var 5) (.bi .len (.cons (.var 1) (.nil)))) (.cmp .le (.call 17 (.cons (.cut (.var 1) (.var 3) (.bin .add (.var 5) (.cst (.int 1)))) (.nil))) (.var 4))) (.cons (.asg (.nm 5) (.bin .add (.var 5) (.cst (.int 1)))) (.nil))) (.cons (.app 2 (.cut (.var 1) (.var 3) (.var 5))) (.cons (.asg (.nm 3) (.var 5)) (.nil)))))
theorem m_filled (n : Nat) (ms : List Nat) (hm : ms.length ≤ 1000) (ws : List (List Nat)) (hw : ws.length ≤ 1000) (B : List D) :
    Pz.run tb (n + 2) 18 [.tup (nD ms), .tup (sD ws)] B = .ok (.tup [.lst (tD (rws ws ms 0)), .int (pos ws ms 0 : Nat)], B) := by
  rw [show n + 2 = (n + 1) + 1 from rfl, run_succ (h := hb.h_filled) (hl := rfl)]
  obtain ⟨σ', B', ⟨x4, x5, rfl, rfl⟩, e⟩ := for_inv (f := forB (Pz.run tb (n + 1)) (.nm 4) bodyF) (σ := [.val (.tup (nD ms)), .val (.tup (sD ws)), .own (.lst (tD (rws ws (ms.take 0) 0))), .val (.int (pos ws (ms.take 0) 0 : Nat)), .no, .no]) (B := B) (nD ms)
    (fun i σ B' => ∃ x4 x5, σ = [.val (.tup (nD ms)), .val (.tup (sD ws)), .own (.lst (tD (rws ws (ms.take i) 0))), .val (.int (pos ws (ms.take i) 0 : Nat)), x4, x5] ∧ B' = B)
    ⟨_, _, rfl, rfl⟩ (by
      rintro i hi σ B ⟨x4, x5, rfl, rfl⟩
      have hi' : i < ms.length := by simpa [nD] using hi
      have hitem : (nD ms)[i] = .int (ms[i] : Nat) := by simp [nD]
      rw [hitem, List.take_succ_eq_append_getElem hi', rws_snoc, pos_snoc]
      obtain ⟨m, hm⟩ : ∃ m, ms[i] = m := ⟨_, rfl⟩
      have ha := pos_le (ws := ws) (ms := ms.take i) (a := 0) (by omega)
      obtain ⟨a, hae⟩ : ∃ a, pos ws (ms.take i) 0 = a := ⟨_, rfl⟩
      rw [hm, hae]
      rw [hae] at ha
      obtain ⟨R, hR⟩ : ∃ R, rws ws (ms.take i) 0 = R := ⟨_, rfl⟩
      have hRl : R.length = i := by rw [← hR, rws_len, List.length_take]; omega
      rw [hR]
      have hdl : (ws.drop a).length = ws.length - a := List.length_drop
      obtain ⟨σ2, B2, ⟨rfl, rfl⟩, e⟩ := whlW_inv (Φ := Pz.run tb (n + 1)) (c := (.and (.cmp .lt (.var 5) (.bi .len (.cons (.var 1) (.nil)))) (.cmp .le (.call 17 (.cons (.cut (.var 1) (.var 3) (.bin .add (.var 5) (.cst (.int 1)))) (.nil))) (.var 4)))) (b := (.cons (.asg (.nm 5) (.bin .add (.var 5) (.cst (.int 1)))) (.nil)))
        (fun f σ B' => ∃ k, k + f = (ws.drop a).length ∧ gkF m (ws.drop a) f k = gk m (ws.drop a) ∧ σ = [.val (.tup (nD ms)), .val (.tup (sD ws)), .own (.lst (tD R)), .val (.int (a : Nat)), .val (.int (m : Nat)), .val (.int (a + k : Nat))] ∧ B' = B)
        (fun σ B' => σ = [.val (.tup (nD ms)), .val (.tup (sD ws)), .own (.lst (tD R)), .val (.int (a : Nat)), .val (.int (m : Nat)), .val (.int (a + gk m (ws.drop a) : Nat))] ∧ B' = B)
        (k := (ws.drop a).length) (σ := [.val (.tup (nD ms)), .val (.tup (sD ws)), .own (.lst (tD R)), .val (.int (a : Nat)), .val (.int (m : Nat)), .val (.int (a : Nat))]) (B := B)
        (by omega) ⟨0, by omega, rfl, rfl, rfl⟩ (by
          rintro f σ B ⟨k, hk, hg, rfl, rfl⟩
          have c1 : cutL (sD ws) (some (a : Int)) (some ((a + k : Nat) + 1 : Int)) = sD ((ws.drop a).take (k + 1)) := by
            rw [show ((a + k : Nat) + 1 : Int) = ((a + k + 1 : Nat) : Int) by omega, cut_sD]
            congr 2; omega
          rw [Int.natCast_add] at c1
          have c2 := m_size_of (tb := tb) n ((ws.drop a).take (k + 1)) (by rw [List.length_take]; omega) B
          have hsl : ((sD ws).length : Int) = ws.length := by rw [sD_len]
          cases f with
          | zero =>
            have g : ¬ (a : Int) + k < ws.length := by omega
            have hg : k = gk m (ws.drop a) := hg
            refine .inl ⟨?_, by rw [← hg], rfl⟩
            simp -implicitDefEqProofs [hsl, g]
          | succ f =>
            have g : (a : Int) + k < ws.length := by omega
            have hkl : k < (ws.drop a).length := by omega
            unfold gkF at hg
            by_cases h : siz ((ws.drop a).take (k + 1)) ≤ m
            · have h' : ((siz ((ws.drop a).take (k + 1)) : Nat) : Int) ≤ m := by omega
              rw [if_pos ⟨hkl, h⟩] at hg
              refine .inr ⟨?_, _, _, f, by omega, ⟨k + 1, by omega, hg, rfl, rfl⟩, ?_⟩
              · simp -implicitDefEqProofs [hsl, g, c1, c2, h, h']
              · simp -implicitDefEqProofs []
                omega
            · have h' : ¬ ((siz ((ws.drop a).take (k + 1)) : Nat) : Int) ≤ m := by omega
              rw [if_neg (fun z => h z.2)] at hg
              refine .inl ⟨?_, by rw [← hg], rfl⟩
              simp -implicitDefEqProofs [hsl, g, c1, c2, h, h'])
      have hgk := gk_le m (ws.drop a)
      have c3 : cutL (sD ws) (some (a : Int)) (some ((a + gk m (ws.drop a) : Nat) : Int)) = sD ((ws.drop a).take (gk m (ws.drop a))) := by
        rw [cut_sD]; congr 2; omega
      rw [Int.natCast_add] at c3
      have hln : (tD R).length < ln := by show _ < 16777216; rw [tD_len]; omega
      refine ⟨_, _, ⟨.val (.int (m : Nat)), .val (.int (a + gk m (ws.drop a) : Nat)), rfl, rfl⟩, ?_⟩
      have hsn : tD (R ++ [(ws.drop a).take (gk m (ws.drop a))]) = tD R ++ [.tup (sD ((ws.drop a).take (gk m (ws.drop a))))] := by simp [tD]
      rw [hsn]
      simp -implicitDefEqProofs [bodyF, e, c3, hln, gp])
  rw [nD_len, List.take_length] at e
  have h0l : 0 ≤ ln := by show 0 ≤ 16777216; omega
  have h2l : 2 ≤ ln := by show 2 ≤ 16777216; omega
  have e : forLoop (forB (Pz.run tb (n + 1)) (.nm 4) bodyF) (nD ms) [.val (.tup (nD ms)), .val (.tup (sD ws)), .own (.lst []), .val (.int 0), .no, .no] B' = _ := e
  unfold bodyF at e
  simp -implicitDefEqProofs [b_filled, Pz.start, e, frzAll, frzS, h0l, h2l]
end In
end
section
set_option linter.all false
set_option maxRecDepth 100000
open Pz
namespace In
variable {tb : Nat → Option Fd} [hb : Has tb]
theorem ok64_sD (a : List (List Nat)) : ok64 (.tup (sD a)) = true := by
  have : D.dep (.tup (sD a)) = D.depL (sD a) + 1 := rfl
  unfold ok64; rw [this, sD_depL]; decide
theorem sD_inj : ∀ {l m : List (List Nat)}, sD l = sD m → l = m
  | [], [], _ => rfl
  | [], _ :: _, h => by simp [sD] at h
  | _ :: _, [], h => by simp [sD] at h
  | a :: l, b :: m, h => by
    have h : D.str a :: sD l = D.str b :: sD m := h
    injection h with h1 h2
    injection h1 with h1
    rw [h1, sD_inj h2]
theorem eqv_sD (a b : List (List Nat)) : D.eqv (.tup (sD a)) (.tup (sD b)) = decide (a = b) := by
  have h : D.eqv (.tup (sD a)) (.tup (sD b)) = D.eqvL (sD a) (sD b) := rfl
  rw [h, Bool.eq_iff_iff, eqv_ordL (sD_ordL a) (sD_ordL b), decide_eq_true_eq]
  exact ⟨sD_inj, fun e => by rw [e]⟩
theorem eqD_sD (a b : List (List Nat)) : eqD (.tup (sD a)) (.tup (sD b)) = some (decide (a = b)) := by
  unfold eqD
  rw [ok64_sD, ok64_sD, eqv_sD]; rfl
theorem m_does_fit (n : Nat) (ms : List Nat) (hm : ms.length ≤ 1000) (ws : List (List Nat)) (hw : ws.length ≤ 1000) (B : List D) :
    Pz.run tb (n + 3) 19 [.tup (nD ms), .tup (sD ws)] B = .ok (.bl (decide (pos ws ms 0 = ws.length)), B) := by
  rw [show n + 3 = (n + 2) + 1 from rfl, run_succ (h := hb.h_does_fit) (hl := rfl)]
  have e := m_filled (tb := tb) n ms hm ws hw B
  have h3 : ∀ x y : D, atI [x, y] 1 = some y := fun _ _ => rfl
  have hsl : ((sD ws).length : Int) = ws.length := by rw [sD_len]
  have hd : decide (((pos ws ms 0 : Nat) : Int) = (ws.length : Int)) = decide (pos ws ms 0 = ws.length) := by
    congr 1
    exact propext ⟨fun h => by omega, fun h => by omega⟩
  simp -implicitDefEqProofs [b_does_fit, Pz.start, e, h3, hsl, frzAll, frzS, hd]
theorem m_can_set (n : Nat) (ms : List Nat) (hm : okM ms) (ws : List (List Nat)) (hw : okW ws) (B : List D) :
    Pz.run tb (n + 5) 22 [.tup (nD ms), .tup (sD ws)] B = .ok (.bl (decide (pos ws ms 0 = ws.length)), B) := by
  rw [show n + 5 = (n + 4) + 1 from rfl, run_succ (h := hb.h_can_set) (hl := rfl)]
  have e := m_does_fit (tb := tb) (n + 1) ms (by have := hm.few; omega) ws (by have := hw.few; omega) B
  have e2 := m_need_both (tb := tb) n ms hm ws hw B
  simp -implicitDefEqProofs [b_can_set, Pz.start, e, e2, frzAll, frzS]
theorem m_set_lines (n : Nat) (ms : List Nat) (hm : okM ms) (ws : List (List Nat)) (hw : okW ws) (B : List D) :
    Pz.run tb (n + 5) 23 [.tup (nD ms), .tup (sD ws)] B = .ok (if pos ws ms 0 = ws.length then .tup (tD (rws ws ms 0)) else .non, B) := by
  rw [show n + 5 = (n + 4) + 1 from rfl, run_succ (h := hb.h_set_lines) (hl := rfl)]
  have e := m_filled (tb := tb) (n + 2) ms (by have := hm.few; omega) ws (by have := hw.few; omega) B
  have e2 := m_need_both (tb := tb) n ms hm ws hw B
  have hsl : ((sD ws).length : Int) = ws.length := by rw [sD_len]
  by_cases g : pos ws ms 0 = ws.length
  · have g' : ((pos ws ms 0 : Nat) : Int) = (ws.length : Nat) := by omega
    simp -implicitDefEqProofs [b_set_lines, Pz.start, e, e2, hsl, g, g', frzAll, frzS]
  · have g' : ¬ ((pos ws ms 0 : Nat) : Int) = (ws.length : Nat) := by omega
    simp -implicitDefEqProofs [b_set_lines, Pz.start, e, e2, hsl, g, g', frzAll, frzS]
theorem m_words_laid (n : Nat) (ms : List Nat) (hm : okM ms) (ws : List (List Nat)) (hw : okW ws) (B : List D) :
    Pz.run tb (n + 5) 26 [.tup (nD ms), .tup (sD ws)] B = .ok (.int (pos ws ms 0 : Nat), B) := by
  rw [show n + 5 = (n + 4) + 1 from rfl, run_succ (h := hb.h_words_laid) (hl := rfl)]
  have e := m_filled (tb := tb) (n + 2) ms (by have := hm.few; omega) ws (by have := hw.few; omega) B
  have e2 := m_need_both (tb := tb) n ms hm ws hw B
  have h3 : ∀ x y : D, atI [x, y] 1 = some y := fun _ _ => rfl
  simp -implicitDefEqProofs [b_words_laid, Pz.start, e, e2, h3, frzAll, frzS]
/-! ### settings -/
def fitsS (ms : List Nat) (ws : List (List Nat)) (rows : List (List (List Nat))) : Bool := decide (rows.flatten = ws) && (rows.zip ms).all fun p => decide (siz p.1 ≤ p.2)
theorem zip_tn : ∀ (rows : List (List (List Nat))) (ms : List Nat), zipL (tD rows) (nD ms) = (rows.zip ms).map fun p => .tup [.tup (sD p.1), .int (p.2 : Nat)]
  | [], _ => rfl
  | _ :: _, [] => rfl
  | r :: rows, m :: ms => by
    show _ :: zipL (tD rows) (nD ms) = _ :: _
    rw [zip_tn rows ms]; rfl
theorem m_fits_setting (n : Nat) (ms : List Nat) (ws : List (List Nat)) (rows : List (List (List Nat))) (hl : rows.length = ms.length) (hm : ms.length ≤ 1000) (hr : ∀ r ∈ rows, r.length ≤ 1000) (B : List D) :
    Pz.run tb (n + 2) 20 [.tup (nD ms), .tup (sD ws), .tup (tD rows)] B = .ok (.bl (fitsS ms ws rows), B) := by
  rw [show n + 2 = (n + 1) + 1 from rfl, run_succ (h := hb.h_fits_setting) (hl := rfl)]
  have e1 := m_is_tuple_of (tb := tb) n (tD rows) (ms.length : Nat) (ms.length : Nat) B
  have q1 : decide (((ms.length : Nat) : Int) ≤ (tD rows).length ∧ ((tD rows).length : Int) ≤ (ms.length : Nat)) = true := by rw [tD_len]; simp; omega
  rw [q1] at e1
  have hnl : ((nD ms).length : Int) = ms.length := by rw [nD_len]
  have l1 : lcLoop (Pz.turn (Pz.run tb (n + 1)) [.val (.tup (nD ms)), .val (.tup (sD ws)), .val (.tup (tD rows)), .no, .no, .no] (.nm 3) (.cst (.bl true)) (.isi (.var 3) .tup)) (tD rows) B = .ok (rows.map fun _ => .bl true, B) :=
    lcLoop_all fun r _ => by simp -implicitDefEqProofs [turn_eq, wipeS, Tg.names, isiD]
  have l2 : lcLoop (Pz.turn (Pz.run tb (n + 1)) [.val (.tup (nD ms)), .val (.tup (sD ws)), .val (.tup (tD rows)), .no, .no, .no] (.nm 3) (.cst (.bl true)) (.bi .all (.cons (.lc (.nm 5) (.var 3) (.cst (.bl true)) (.isi (.var 5) .str)) (.nil)))) (tD rows) B = .ok (rows.map fun _ => .bl true, B) :=
    lcLoop_all fun r hr' => by
      have l3 : lcLoop (Pz.turn (Pz.run tb (n + 1)) [.val (.tup (nD ms)), .val (.tup (sD ws)), .val (.tup (tD rows)), .val (.tup (sD r)), .no, .no] (.nm 5) (.cst (.bl true)) (.isi (.var 5) .str)) (sD r) B = .ok (r.map fun _ => .bl true, B) :=
        lcLoop_all fun w _ => by simp -implicitDefEqProofs [turn_eq, wipeS, Tg.names, isiD]
      have hln : (sD r).length ≤ ln := by show _ ≤ 16777216; have := hr r hr'; rw [sD_len]; omega
      have hbl : blL (r.map fun _ => D.bl true) = some (r.map fun _ => true) := blL_map (fun _ => true) r
      simp -implicitDefEqProofs [turn_eq, wipeS, Tg.names, l3, hln, hbl, all_tt]
  have l4 : lcLoop2 (turn2 (Pz.run tb (n + 1)) [.val (.tup (nD ms)), .val (.tup (sD ws)), .val (.tup (tD rows)), .no, .no, .no] (.nm 3) (.cst (.bl true)) (.nm 5) (.var 3) (.cst (.bl true)) (.var 5)) (tD rows) B = .ok (rows.flatMap sD, B) :=
    lcLoop2_all fun r hr' => by
      have l3 : lcLoop (Pz.turn (Pz.run tb (n + 1)) [.val (.tup (nD ms)), .val (.tup (sD ws)), .val (.tup (tD rows)), .val (.tup (sD r)), .no, .no] (.nm 5) (.cst (.bl true)) (.var 5)) (sD r) B = .ok (sD r, B) :=
        lcLoop_all fun w _ => by simp -implicitDefEqProofs [turn_eq, wipeS, Tg.names]
      have hln : (sD r).length ≤ 4096 := by have := hr r hr'; rw [sD_len]; omega
      simp -implicitDefEqProofs [turn2_eq, wipeS, Tg.names, l3, hln]
  have hfl : rows.flatMap sD = sD rows.flatten := by
    unfold sD
    rw [List.map_flatten]
    rfl
  rw [hfl] at l4
  have l5 : lcLoop (Pz.turn (Pz.run tb (n + 1)) [.val (.tup (nD ms)), .val (.tup (sD ws)), .val (.tup (tD rows)), .no, .no, .no] (.tp (.cons (.nm 3) (.cons (.nm 4) (.nil)))) (.cst (.bl true)) (.cmp .le (.call 17 (.cons (.var 3) (.nil))) (.var 4))) (zipL (tD rows) (nD ms)) B = .ok ((rows.zip ms).map fun p => .bl (decide (siz p.1 ≤ p.2)), B) := by
    rw [zip_tn]
    refine lcLoop_all (c := fun p : List (List Nat) × Nat => D.tup [.tup (sD p.1), .int (p.2 : Nat)]) (g := fun p => .bl (decide (siz p.1 ≤ p.2))) fun p hp => ?_
    have e := m_size_of (tb := tb) n p.1 (hr _ (List.of_mem_zip hp).1) B
    by_cases g : siz p.1 ≤ p.2
    · have g' : ((siz p.1 : Nat) : Int) ≤ p.2 := by omega
      simp -implicitDefEqProofs [turn_eq, wipeS, Tg.names, Tgs.names, e, g, g']
    · have g' : ¬ ((siz p.1 : Nat) : Int) ≤ p.2 := by omega
      simp -implicitDefEqProofs [turn_eq, wipeS, Tg.names, Tgs.names, e, g, g']
  have hln : (tD rows).length ≤ ln := by show _ ≤ 16777216; rw [tD_len]; omega
  have hln2 : (tD rows).length ≤ 4096 := by rw [tD_len]; omega
  have hln3 : (zipL (tD rows) (nD ms)).length ≤ ln := by show _ ≤ 16777216; rw [zip_tn]; simp; omega
  have hbl : blL (rows.map fun _ => D.bl true) = some (rows.map fun _ => true) := blL_map (fun _ => true) rows
  have hbl2 : blL ((rows.zip ms).map fun p => D.bl (decide (siz p.1 ≤ p.2))) = some ((rows.zip ms).map fun p => decide (siz p.1 ≤ p.2)) := blL_map (fun p : List (List Nat) × Nat => decide (siz p.1 ≤ p.2)) _
  have hq := eqD_sD rows.flatten ws
  have hz : zipD (.tup (tD rows)) (.tup (nD ms)) = some (zipL (tD rows) (nD ms)) := rfl
  have hal : ((rows.zip ms).map fun p => decide (siz p.1 ≤ p.2)).all id = (rows.zip ms).all fun p => decide (siz p.1 ≤ p.2) := by
    rw [List.all_map]; rfl
  by_cases g : rows.flatten = ws
  · have hd : decide (rows.flatten = ws) = true := by simpa using g
    rw [hd] at hq
    unfold fitsS
    rw [hd]
    simp -implicitDefEqProofs [b_fits_setting, Pz.start, e1, hnl, l1, l2, l4, l5, hln, hln2, hln3, hbl, hbl2, hz, hal, all_tt, opC_ne, hq, frzAll, frzS]
  · have hd : decide (rows.flatten = ws) = false := by simpa using g
    rw [hd] at hq
    unfold fitsS
    rw [hd]
    simp -implicitDefEqProofs [b_fits_setting, Pz.start, e1, hnl, l1, l2, l4, l5, hln, hln2, hln3, hbl, hbl2, hz, hal, all_tt, opC_ne, hq, frzAll, frzS]
end In
end
section
set_option linter.all false
set_option maxRecDepth 100000
open Pz
namespace In
variable {tb : Nat → Option Fd} [hb : Has tb]
/-! ### how many settings -/
/-- the signs of the first words, with a blank behind each -/
def ends (ws : List (List Nat)) (a : Nat) : Nat := ((ws.take a).map fun w => w.length + 1).sum
def fitsL (ws : List (List Nat)) (m at_ : Nat) : List Nat := (List.range (at_ + 1)).filter fun ah => decide (ah = at_) || decide ((ends ws at_ : Int) - ends ws ah ≤ (m : Int) + 1)
def stepW (ws : List (List Nat)) (W : List Nat) (m : Nat) : List Nat := (List.range (ws.length + 1)).map fun at_ => ((fitsL ws m at_).map fun ah => W.getD ah 0).sum
def ways0 (ws : List (List Nat)) : List Nat := 1 :: List.replicate ws.length 0
def waysL (ws : List (List Nat)) (ms : List Nat) : List Nat := ms.foldl (stepW ws) (ways0 ws)
def ways (ms : List Nat) (ws : List (List Nat)) : Nat := (waysL ws ms).getD ws.length 0
theorem stepW_len (ws : List (List Nat)) (W : List Nat) (m : Nat) : (stepW ws W m).length = ws.length + 1 := by simp [stepW]
theorem waysL_len (ws : List (List Nat)) : ∀ (ms : List Nat) (W : List Nat), W.length = ws.length + 1 → (ms.foldl (stepW ws) W).length = ws.length + 1
  | [], W, h => h
  | m :: ms, W, _ => waysL_len ws ms _ (stepW_len ws W m)
theorem ends_succ (ws : List (List Nat)) (a : Nat) (h : a < ws.length) : ends ws (a + 1) = ends ws a + ws[a].length + 1 := by
  unfold ends
  rw [List.take_succ_eq_append_getElem h, List.map_append, List.sum_append]
  simp; omega
theorem atI_nDk (l : List Nat) (k : Nat) (x : Nat) (h : l[k]? = some x) : atI (nD l) (k : Int) = some (.int (x : Nat)) := by
  have hk : k < l.length := (List.getElem?_eq_some_iff.1 h).1
  rw [atI_nat _ k (by rw [nD_len]; exact hk)]
  have := (List.getElem?_eq_some_iff.1 h).2
  simp [nD, this]
/-- the ends of the first words -/
def eL (ws : List (List Nat)) (i : Nat) : List Nat := (List.range (i + 1)).map (ends ws)
theorem eL_snoc (ws : List (List Nat)) (i : Nat) : eL ws (i + 1) = eL ws i ++ [ends ws (i + 1)] := by
  unfold eL
  rw [List.range_succ, List.map_append]; rfl
theorem eL_last (ws : List (List Nat)) (i : Nat) : atI (nD (eL ws i)) (-1) = some (.int (ends ws i : Nat)) := by
  have h : eL ws i ≠ [] := by simp [eL]
  rw [atI_last h]
  have : (eL ws i).getLast h = ends ws i := by
    cases i with
    | zero => rfl
    | succ i =>
      have e := eL_snoc ws i
      simp only [e]; simp
  rw [this]
theorem eL_get (ws : List (List Nat)) (i k : Nat) (h : k ≤ i) : atI (nD (eL ws i)) (k : Int) = some (.int (ends ws k : Nat)) := by
  refine atI_nDk _ _ _ ?_
  unfold eL
  rw [List.getElem?_map, List.getElem?_range (by omega)]; rfl
def bodyW2 : Ss := (.cons (.asg (.nm 8) (.lc (.nm 9) (.bi .rng (.cons (.bin .add (.var 7) (.cst (.int 1))) (.nil))) (.or (.cmp .eq (.var 9) (.var 7)) (.cmp .le (.bin .sub (.sub (.own 2) (.var 7)) (.sub (.own 2) (.var 9))) (.bin .add (.var 5) (.cst (.int 1))))) (.var 9))) (.cons (.app 6 (.bi .sum (.cons (.lc (.nm 9) (.var 8) (.cst (.bl true)) (.sub (.var 4) (.var 9))) (.nil)))) (.nil)))
def bodyW : Ss := (.cons (.asg (.nm 6) (.fresh (.lst (.nil)))) (.cons (.for (.nm 7) (.bi .rng (.cons (.bin .add (.bi .len (.cons (.var 1) (.nil))) (.cst (.int 1))) (.nil))) bodyW2) (.cons (.fz [6] (.asg (.nm 4) (.var 6))) (.nil))))
theorem m_ways_in (n : Nat) (ms : List Nat) (hm : ms.length ≤ 1000) (ws : List (List Nat)) (hw : ws.length ≤ 1000) (B : List D) :
    Pz.run tb (n + 1) 21 [.tup (nD ms), .tup (sD ws)] B = .ok (.int (ways ms ws : Nat), B) := by
  rw [run_succ (h := hb.h_ways_in) (hl := rfl)]
  have hsl : ((sD ws).length : Int) = ws.length := by rw [sD_len]
  have h0l : 0 ≤ ln := by show 0 ≤ 16777216; omega
  have h1l : 1 ≤ ln := by show 1 ≤ 16777216; omega
  obtain ⟨σ', B', ⟨x3, rfl, rfl⟩, e⟩ := for_inv (f := forB (Pz.run tb n) (.nm 3) (.cons (.app 2 (.bin .add (.bin .add (.sub (.own 2) (.neg (.cst (.int 1)))) (.bi .len (.cons (.var 3) (.nil)))) (.cst (.int 1)))) (.nil))) (σ := [.val (.tup (nD ms)), .val (.tup (sD ws)), .own (.lst (nD (eL ws 0))), .no, .no, .no, .no, .no, .no, .no]) (B := B) (sD ws)
    (fun i σ B' => ∃ x3, σ = [.val (.tup (nD ms)), .val (.tup (sD ws)), .own (.lst (nD (eL ws i))), x3, .no, .no, .no, .no, .no, .no] ∧ B' = B)
    ⟨_, rfl, rfl⟩ (by
      rintro i hi σ B ⟨x3, rfl, rfl⟩
      have hi' : i < ws.length := by simpa [sD] using hi
      have hitem : (sD ws)[i] = .str ws[i] := by simp [sD]
      rw [hitem]
      have h1 := eL_last ws i
      have h2 : (nD (eL ws i)).length < ln := by show _ < 16777216; rw [nD_len]; simp [eL]; omega
      have h3 : nD (eL ws (i + 1)) = nD (eL ws i) ++ [.int ((ends ws i : Nat) + (ws[i].length : Int) + 1)] := by
        rw [eL_snoc, ends_succ ws i hi']
        simp [nD]
      refine ⟨_, _, ⟨.val (.str ws[i]), rfl, rfl⟩, ?_⟩
      rw [h3]
      simp -implicitDefEqProofs [h1, h2])
  rw [sD_len] at e
  obtain ⟨σ', B', ⟨x5, x6, x7, x8, rfl, rfl⟩, e2⟩ := for_inv (f := forB (Pz.run tb n) (.nm 5) bodyW) (σ := [.val (.tup (nD ms)), .val (.tup (sD ws)), .own (.lst (nD (eL ws ws.length))), x3, .val (.lst (nD (waysL ws (ms.take 0)))), .no, .no, .no, .no, .no]) (B := B') (nD ms)
    (fun i σ B2 => ∃ x5 x6 x7 x8, σ = [.val (.tup (nD ms)), .val (.tup (sD ws)), .own (.lst (nD (eL ws ws.length))), x3, .val (.lst (nD (waysL ws (ms.take i)))), x5, x6, x7, x8, .no] ∧ B2 = B')
    ⟨_, _, _, _, rfl, rfl⟩ (by
      rintro i hi σ B ⟨x5, x6, x7, x8, rfl, rfl⟩
      have hi' : i < ms.length := by simpa [nD] using hi
      have hitem : (nD ms)[i] = .int (ms[i] : Nat) := by simp [nD]
      rw [hitem]
      obtain ⟨m, hm⟩ : ∃ m, ms[i] = m := ⟨_, rfl⟩
      have hsn : waysL ws (ms.take (i + 1)) = stepW ws (waysL ws (ms.take i)) m := by
        unfold waysL
        rw [List.take_succ_eq_append_getElem hi', List.foldl_append, hm]; rfl
      rw [hsn, hm]
      have hWl : (waysL ws (ms.take i)).length = ws.length + 1 := waysL_len ws _ _ (by simp [ways0])
      obtain ⟨W, hW⟩ : ∃ W, waysL ws (ms.take i) = W := ⟨_, rfl⟩
      rw [hW] at hWl
      rw [hW]
      obtain ⟨σ2, B2, ⟨x7', x8', rfl, rfl⟩, e3⟩ := for_inv (f := forB (Pz.run tb n) (.nm 7) bodyW2) (σ := [.val (.tup (nD ms)), .val (.tup (sD ws)), .own (.lst (nD (eL ws ws.length))), x3, .val (.lst (nD W)), .val (.int (m : Nat)), .own (.lst (nD ((stepW ws W m).take 0))), x7, x8, .no]) (B := B) ((List.range (ws.length + 1)).map fun a : Nat => .int (a : Nat))
        (fun j σ B2 => ∃ x7 x8, σ = [.val (.tup (nD ms)), .val (.tup (sD ws)), .own (.lst (nD (eL ws ws.length))), x3, .val (.lst (nD W)), .val (.int (m : Nat)), .own (.lst (nD ((stepW ws W m).take j))), x7, x8, .no] ∧ B2 = B)
        ⟨_, _, rfl, rfl⟩ (by
          rintro j hj σ B ⟨x7, x8, rfl, rfl⟩
          have hj' : j < ws.length + 1 := by simpa using hj
          rw [List.getElem_map, List.getElem_range]
          have hr : rngL 0 ((j : Int) + 1) = (List.range (j + 1)).map fun k : Nat => .int (k : Nat) := by
            rw [show (j : Int) + 1 = ((j + 1 : Nat) : Int) by omega]; exact rngL_nat _
          have hbd : bnd ((j : Int) + 1) = true := bnd_of (by omega) (by omega)
          have g1 := eL_get ws ws.length j (by omega)
          have l1 : lcLoop (Pz.turn (Pz.run tb n) [.val (.tup (nD ms)), .val (.tup (sD ws)), .own (.lst (nD (eL ws ws.length))), x3, .val (.lst (nD W)), .val (.int (m : Nat)), .own (.lst (nD ((stepW ws W m).take j))), .val (.int (j : Nat)), x8, .no] (.nm 9) (.or (.cmp .eq (.var 9) (.var 7)) (.cmp .le (.bin .sub (.sub (.own 2) (.var 7)) (.sub (.own 2) (.var 9))) (.bin .add (.var 5) (.cst (.int 1))))) (.var 9)) ((List.range (j + 1)).map fun k : Nat => .int (k : Nat)) B
              = .ok (nD (fitsL ws m j), B) := by
            refine lcLoop_some (c := fun k : Nat => D.int (k : Nat)) (g := fun k : Nat => D.int (k : Nat)) (t := fun ah => decide (ah = j) || decide ((ends ws j : Int) - ends ws ah ≤ (m : Int) + 1)) fun k hk => ?_
            rw [List.mem_range] at hk
            have g2 := eL_get ws ws.length k (by omega)
            by_cases h1 : k = j
            · have h1' : (k : Int) = j := by omega
              simp -implicitDefEqProofs [turn_eq, wipeS, Tg.names, h1, h1']
            · have h1' : ¬ (k : Int) = j := by omega
              by_cases h2 : (ends ws j : Int) - ends ws k ≤ (m : Int) + 1
              · simp -implicitDefEqProofs [turn_eq, wipeS, Tg.names, h1, h1', g1, g2, h2]
              · simp -implicitDefEqProofs [turn_eq, wipeS, Tg.names, h1, h1', g1, g2, h2]
          have hfl : ∀ k ∈ fitsL ws m j, k ≤ j := fun k hk => by
            have := List.mem_range.1 (List.mem_filter.1 hk).1
            omega
          have hfl2 : (fitsL ws m j).length ≤ j + 1 := by
            unfold fitsL
            exact Nat.le_trans (List.length_filter_le _ _) (by simp)
          have l2 : lcLoop (Pz.turn (Pz.run tb n) [.val (.tup (nD ms)), .val (.tup (sD ws)), .own (.lst (nD (eL ws ws.length))), x3, .val (.lst (nD W)), .val (.int (m : Nat)), .own (.lst (nD ((stepW ws W m).take j))), .val (.int (j : Nat)), .val (.lst (nD (fitsL ws m j))), .no] (.nm 9) (.cst (.bl true)) (.sub (.var 4) (.var 9))) (nD (fitsL ws m j)) B
              = .ok (nD ((fitsL ws m j).map fun ah => W.getD ah 0), B) := by
            have : nD ((fitsL ws m j).map fun ah => W.getD ah 0) = (fitsL ws m j).map fun ah => .int (W.getD ah 0 : Nat) := by simp [nD]
            rw [this]
            refine lcLoop_all (c := fun k : Nat => D.int (k : Nat)) (g := fun ah => D.int (W.getD ah 0 : Nat)) fun k hk => ?_
            have hk' : k < W.length := by have := hfl k hk; omega
            have g2 : atI (nD W) (k : Int) = some (.int (W.getD k 0 : Nat)) := atI_nDk _ _ _ (by simp [List.getD, hk'])
            simp -implicitDefEqProofs [turn_eq, wipeS, Tg.names, g2]
          have hln1 : j + 1 ≤ ln := by show _ ≤ 16777216; omega
          have hln2 : (nD (fitsL ws m j)).length ≤ ln := by show _ ≤ 16777216; rw [nD_len]; omega
          have hln3 : (nD ((stepW ws W m).take j)).length < ln := by show _ < 16777216; rw [nD_len, List.length_take, stepW_len]; omega
          have hsum : intL (nD ((fitsL ws m j).map fun ah => W.getD ah 0)) = _ := intL_nD _
          have hsum2 := sum_cast ((fitsL ws m j).map fun ah => W.getD ah 0)
          have hsn : nD ((stepW ws W m).take (j + 1)) = nD ((stepW ws W m).take j) ++ [.int (((fitsL ws m j).map fun ah => W.getD ah 0).sum : Nat)] := by
            rw [List.take_succ_eq_append_getElem (by rw [stepW_len]; exact hj')]
            have : (stepW ws W m)[j]'(by rw [stepW_len]; exact hj') = ((fitsL ws m j).map fun ah => W.getD ah 0).sum := by
              unfold stepW
              rw [List.getElem_map, List.getElem_range]
            rw [this]
            simp [nD]
          refine ⟨_, _, ⟨.val (.int (j : Nat)), .val (.lst (nD (fitsL ws m j))), rfl, rfl⟩, ?_⟩
          rw [hsn, ← hsum2]
          obtain ⟨Y, hY⟩ : ∃ Y, (fitsL ws m j).map (fun ah => W.getD ah 0) = Y := ⟨_, rfl⟩
          rw [hY] at l2 hsum ⊢
          simp -implicitDefEqProofs [bodyW2, hr, hbd, l1, l2, hln1, hln2, hln3, hsum])
      rw [List.length_map, List.length_range] at e3
      have hst : (stepW ws W m).take (ws.length + 1) = stepW ws W m := by
        rw [← stepW_len ws W m]; exact List.take_length
      rw [hst] at e3
      have e3 : forLoop (forB (Pz.run tb n) (.nm 7) bodyW2) ((List.range (ws.length + 1)).map fun a : Nat => .int (a : Nat)) [.val (.tup (nD ms)), .val (.tup (sD ws)), .own (.lst (nD (eL ws ws.length))), x3, .val (.lst (nD W)), .val (.int (m : Nat)), .own (.lst []), x7, x8, .no] B2 = _ := e3
      have hr : rngL 0 ((ws.length : Int) + 1) = (List.range (ws.length + 1)).map fun k : Nat => .int (k : Nat) := by
        rw [show (ws.length : Int) + 1 = ((ws.length + 1 : Nat) : Int) by omega]; exact rngL_nat _
      have hbd : bnd ((ws.length : Int) + 1) = true := bnd_of (by omega) (by omega)
      refine ⟨_, _, ⟨.val (.int (m : Nat)), .val (.lst (nD (stepW ws W m))), x7', x8', rfl, rfl⟩, ?_⟩
      simp -implicitDefEqProofs [bodyW, hsl, hr, hbd, e3, h0l, frzAt, frzS])
  rw [nD_len, List.take_length] at e2
  have e : forLoop _ _ [.val (.tup (nD ms)), .val (.tup (sD ws)), .own (.lst [.int 0]), .no, .no, .no, .no, .no, .no, .no] B' = _ := e
  have hw0 : opB .mul (.lst [.int 0]) (.int (ws.length : Nat)) = some (.lst (List.replicate ws.length (.int 0))) := by
    rw [opB_mulL, if_pos]
    · congr 2
      unfold rep
      have : ∀ m : Nat, (List.replicate m [D.int 0]).flatten = List.replicate m (D.int 0) := by
        intro m
        induction m with
        | zero => rfl
        | succ m ih => rw [List.replicate_succ, List.flatten_cons, ih]; rfl
      rw [show ((ws.length : Nat) : Int).toNat = ws.length by omega, this]
    · have : ws.length ≤ ln := by show _ ≤ 16777216; omega
      simp; omega
  have e2 : forLoop _ _ [.val (.tup (nD ms)), .val (.tup (sD ws)), .own (.lst (nD (eL ws ws.length))), x3, .val (.lst (.int 1 :: nD (List.replicate ws.length 0))), .no, .no, .no, .no, .no] B' = _ := e2
  have hrep : nD (List.replicate ws.length 0) = List.replicate ws.length (.int 0) := by simp [nD]
  rw [hrep] at e2
  unfold bodyW bodyW2 at e2
  have hln' : 1 + ws.length ≤ ln := by show _ ≤ 16777216; omega
  have hln : ws.length + 1 ≤ ln := by show _ ≤ 16777216; omega
  have hWl : (waysL ws ms).length = ws.length + 1 := waysL_len ws _ _ (by simp [ways0])
  have hres : atI (nD (waysL ws ms)) (ws.length : Int) = some (.int (ways ms ws : Nat)) := atI_nDk _ _ _ (by unfold ways; simp [List.getD, hWl])
  simp -implicitDefEqProofs [b_ways_in, Pz.start, h0l, h1l, hsl, e, e2, hw0, hln, hln', frzAll, frzS, hres, -opB_mulL]
end In
end
section
set_option linter.all false
set_option maxRecDepth 100000
open Pz
namespace In
variable {tb : Nat → Option Fd} [hb : Has tb]
/-! ### behind how few lines -/
def maxL (l : List Nat) : Nat := l.foldr max 0
theorem maxL_le {l : List Nat} {k : Nat} : maxL l ≤ k ↔ ∀ x ∈ l, x ≤ k := by
  induction l with
  | nil => simp [maxL]
  | cons a l ih =>
    show max a (maxL l) ≤ k ↔ _
    rw [List.forall_mem_cons, ← ih]
    omega
theorem maxL_mem {l : List Nat} : maxL l = 0 ∨ maxL l ∈ l := by
  induction l with
  | nil => exact .inl rfl
  | cons a l ih =>
    have e : maxL (a :: l) = max a (maxL l) := rfl
    rw [e]
    by_cases g : a ≤ maxL l
    · rw [Nat.max_eq_right g]
      rcases ih with h | h
      · exact .inl h
      · exact .inr (List.mem_cons_of_mem _ h)
    · rw [Nat.max_eq_left (by omega)]
      exact .inr (by simp)
theorem max_nD (l : List Nat) : ((l ++ [0]).map fun (a : Nat) => (a : Int)).max? = some ((maxL l : Nat) : Int) := by
  rw [List.max?_eq_some_iff]
  refine ⟨?_, fun b hb => ?_⟩
  · rcases maxL_mem (l := l) with h | h
    · rw [h]; exact List.mem_map.2 ⟨0, by simp, rfl⟩
    · exact List.mem_map.2 ⟨_, List.mem_append_left _ h, rfl⟩
  · obtain ⟨x, hx, rfl⟩ := List.mem_map.1 hb
    rcases List.mem_append.1 hx with h | h
    · have := maxL_le.1 (Nat.le_refl (maxL l)) x h
      omega
    · have : x = 0 := by simpa using h
      omega
def usedL (rows : List (List (List Nat))) : List Nat := (rows.zipIdx.filter fun p => !decide (p.1 = [])).map fun p => p.2 + 1
def used (rows : List (List (List Nat))) : Nat := maxL (usedL rows)
theorem used_le {rows : List (List (List Nat))} {k : Nat} : used rows ≤ k ↔ ∀ i, ∀ h : i < rows.length, k ≤ i → rows[i] = [] := by
  unfold used usedL
  rw [maxL_le]
  constructor
  · intro H i hi hk
    by_cases g : rows[i] = []
    · exact g
    · have := H (i + 1) (List.mem_map.2 ⟨(rows[i], i), List.mem_filter.2 ⟨by rw [List.mem_zipIdx_iff_getElem?]; simp [hi], by simpa using g⟩, rfl⟩)
      omega
  · intro H x hx
    obtain ⟨⟨r, i⟩, hp, rfl⟩ := List.mem_map.1 hx
    obtain ⟨h1, h2⟩ := List.mem_filter.1 hp
    rw [List.mem_zipIdx_iff_getElem?] at h1
    obtain ⟨hi, e⟩ := List.getElem?_eq_some_iff.1 h1
    have e : rows[i]'hi = r := e
    have h2 : ¬ r = [] := by simpa using h2
    show i + 1 ≤ k
    refine Nat.lt_of_not_le fun hk => h2 ?_
    rw [← e]
    exact H i hi (by omega)
theorem enm_tD (rows : List (List (List Nat))) : enmL (tD rows) = rows.zipIdx.map fun p => .tup [.int (p.2 : Nat), .tup (sD p.1)] := by
  unfold enmL tD
  rw [List.zipIdx_map, List.map_map]; rfl
theorem m_lines_used (n : Nat) (ms : List Nat) (hm : okM ms) (ws : List (List Nat)) (hw : okW ws) (B : List D) :
    Pz.run tb (n + 5) 25 [.tup (nD ms), .tup (sD ws)] B = .ok (if pos ws ms 0 < ws.length then .non else .int (used (rws ws ms 0) : Nat), B) := by
  rw [show n + 5 = (n + 4) + 1 from rfl, run_succ (h := hb.h_lines_used) (hl := rfl)]
  have e := m_filled (tb := tb) (n + 2) ms (by have := hm.few; omega) ws (by have := hw.few; omega) B
  have e2 := m_need_both (tb := tb) n ms hm ws hw B
  have hsl : ((sD ws).length : Int) = ws.length := by rw [sD_len]
  by_cases g : pos ws ms 0 < ws.length
  · have g' : ((pos ws ms 0 : Nat) : Int) < (ws.length : Nat) := by omega
    simp -implicitDefEqProofs [b_lines_used, Pz.start, e, e2, hsl, g, g', frzAll, frzS]
  · have g' : ¬ ((pos ws ms 0 : Nat) : Int) < (ws.length : Nat) := by omega
    obtain ⟨R, hR⟩ : ∃ R, rws ws ms 0 = R := ⟨_, rfl⟩
    have hRl : R.length ≤ 40 := by rw [← hR, rws_len]; exact hm.few
    rw [hR] at e ⊢
    have l1 : lcLoop (Pz.turn (Pz.run tb (n + 4)) [.val (.tup (nD ms)), .val (.tup (sD ws)), .val (.lst (tD R)), .val (.int (pos ws ms 0 : Nat)), .no, .no] (.tp (.cons (.nm 4) (.cons (.nm 5) (.nil)))) (.cmp .ne (.var 5) (.tup (.nil))) (.bin .add (.var 4) (.cst (.int 1)))) (enmL (tD R)) B
        = .ok (nD (usedL R), B) := by
      have : nD (usedL R) = (R.zipIdx.filter fun p => !decide (p.1 = [])).map fun p => .int ((p.2 : Int) + 1) := by
        unfold nD usedL
        rw [List.map_map]; rfl
      rw [this, enm_tD]
      refine lcLoop_some (c := fun p : List (List Nat) × Nat => D.tup [.int (p.2 : Nat), .tup (sD p.1)]) (g := fun p => D.int ((p.2 : Int) + 1)) (t := fun p => !decide (p.1 = [])) fun p hp => ?_
      have q := eqD_sD p.1 []
      have q : eqD (.tup (sD p.1)) (.tup []) = some (decide (p.1 = [])) := q
      have h0l : 0 ≤ ln := by show 0 ≤ 16777216; omega
      by_cases h : p.1 = []
      · have hd : decide (p.1 = []) = true := by simpa using h
        rw [hd] at q
        obtain ⟨p1, p2⟩ := p
        have h : p1 = [] := h
        subst h
        have q0 : eqD (.tup []) (.tup []) = some true := rfl
        have s0 : sD [] = [] := rfl
        simp -implicitDefEqProofs [turn_eq, wipeS, Tg.names, Tgs.names, opC_ne, s0, q0, h0l]
      · have hd : decide (p.1 = []) = false := by simpa using h
        rw [hd] at q
        simp -implicitDefEqProofs [turn_eq, wipeS, Tg.names, Tgs.names, opC_ne, q, hd, h0l, h]
    have hln : (enmL (tD R)).length ≤ ln := by show _ ≤ 16777216; rw [enm_tD]; simp; omega
    have hul : (usedL R).length ≤ R.length := by
      unfold usedL
      rw [List.length_map]
      exact Nat.le_trans (List.length_filter_le _ _) (by simp)
    have hln2 : (nD (usedL R)).length + 1 ≤ ln := by show _ ≤ 16777216; rw [nD_len]; omega
    have h1l : 1 ≤ ln := by show 1 ≤ 16777216; omega
    have hi : intL (nD (usedL R) ++ [.int 0]) = some ((usedL R ++ [0]).map fun (a : Nat) => (a : Int)) := by
      rw [← intL_nD]; simp [nD]
    have hmx : ((usedL R).map (fun (a : Nat) => (a : Int)) ++ [(0 : Int)]).max? = some ((used R : Nat) : Int) := by
      have := max_nD (usedL R)
      rw [List.map_append] at this
      exact this
    simp -implicitDefEqProofs [b_lines_used, Pz.start, e, e2, hsl, g, g', l1, hln, hln2, h1l, hi, hmx, frzAll, frzS]
/-! ### the law's own -/
theorem strL_sD : ∀ P : List (List Nat), strL (sD P) = some P
  | [] => rfl
  | p :: P => by
    show (strL (sD P)).map (p :: ·) = _
    rw [strL_sD P]; rfl
theorem join_siz : ∀ r : List (List Nat), (joinS [32] r).length = siz r
  | [] => rfl
  | [x] => by simp [joinS, siz]
  | x :: y :: r => by
    have ih := join_siz (y :: r)
    show (x ++ ([32] ++ joinS [32] (y :: r))).length = _
    rw [List.length_append, List.length_append, ih]
    simp [siz]; omega
theorem m_law_size (n : Nat) (r : List (List Nat)) (h : r.length ≤ 1000) (h2 : (r.map List.length).sum ≤ 100000) (B : List D) : Pz.run tb (n + 1) 30 [.tup (sD r)] B = .ok (.int (siz r : Nat), B) := by
  rw [run_succ (h := hb.h__law_size) (hl := rfl)]
  have hj : bi_join [.str [32], .lst (sD r)] = some (.str (joinS [32] r)) := by
    show (strL (sD r)).bind _ = _
    rw [strL_sD]
    show (if _ then some (D.str (joinS [32] r)) else none) = _
    rw [if_pos]
    have : (r.map fun x => x.length).sum ≤ 100000 := h2
    simp only [List.length_cons, List.length_nil]
    omega
  have h3 := join_siz r
  simp -implicitDefEqProofs [b__law_size, Pz.start, hj, recv, h3, frzAll, frzS]
/-- so many of so many, the program's way -/
def chI (N : Int) : Nat → Int
  | 0 => 1
  | k + 1 => chI N k * (N - k) / (k + 1)
theorem m_choices (n : Nat) (N k : Nat) (hN : N ≤ 1000) (hk : k ≤ 1000) (B : List D) : Pz.run tb (n + 1) 37 [.int (N : Nat), .int (k : Nat)] B = .ok (.int (chI N k), B) := by
  rw [run_succ (h := hb.h__law_choices) (hl := rfl)]
  obtain ⟨σ', B', ⟨x3, rfl, rfl⟩, e⟩ := for_inv (f := forB (Pz.run tb n) (.nm 3) (.cons (.asg (.nm 2) (.bin .fdiv (.bin .mul (.var 2) (.bin .sub (.var 0) (.var 3))) (.bin .add (.var 3) (.cst (.int 1))))) (.nil))) (σ := [.val (.int (N : Nat)), .val (.int (k : Nat)), .val (.int (chI N 0)), .no]) (B := B) ((List.range k).map fun k : Nat => .int (k : Nat))
    (fun i σ B' => ∃ x3, σ = [.val (.int (N : Nat)), .val (.int (k : Nat)), .val (.int (chI N i)), x3] ∧ B' = B)
    ⟨_, rfl, rfl⟩ (by
      rintro i hi σ B ⟨x3, rfl, rfl⟩
      simp at hi
      rw [List.getElem_map, List.getElem_range]
      have s1 : small ((N : Int) - i) = true := small_of (by omega) (by omega)
      have s2 : (0 : Int) < (i : Int) + 1 := by omega
      have s3 : ((i : Int) + 1) < 1073741824 := by omega
      refine ⟨_, _, ⟨.val (.int (i : Nat)), rfl, rfl⟩, ?_⟩
      simp -implicitDefEqProofs [s1, s2, s3, chI])
  rw [List.length_map, List.length_range] at e
  have e : forLoop _ _ [.val (.int (N : Nat)), .val (.int (k : Nat)), .val (.int 1), .no] B' = _ := e
  have hbd : bnd (k : Int) = true := bnd_of (by omega) (by omega)
  simp -implicitDefEqProofs [b__law_choices, Pz.start, hbd, rngL_nat, e, frzAll, frzS]
end In
end
section
set_option linter.all false
set_option maxRecDepth 100000
open Pz
namespace In
variable {tb : Nat → Option Fd} [hb : Has tb]
/-! ### widths by the ends of words -/
theorem ends_mono (ws : List (List Nat)) : ∀ (d a : Nat), a + d ≤ ws.length → ends ws a + d ≤ ends ws (a + d)
  | 0, _, _ => Nat.le_refl _
  | d + 1, a, h => by
    have := ends_mono ws d a (by omega)
    have e := ends_succ ws (a + d) (by omega)
    rw [show a + (d + 1) = a + d + 1 from rfl, e]
    omega
theorem ends_le (ws : List (List Nat)) {a b : Nat} (h : a ≤ b) (hb : b ≤ ws.length) : ends ws a ≤ ends ws b := by
  have := ends_mono ws (b - a) a (by omega)
  rw [show a + (b - a) = b by omega] at this
  omega
theorem siz_ends (ws : List (List Nat)) : ∀ (d a : Nat), 0 < d → a + d ≤ ws.length → siz ((ws.drop a).take d) + ends ws a + 1 = ends ws (a + d)
  | 0, _, h, _ => by omega
  | 1, a, _, h => by
    have e : (ws.drop a).take 1 = [ws[a]] := by rw [List.drop_eq_getElem_cons (by omega)]; rfl
    rw [ends_succ ws a (by omega), e]
    have : siz [ws[a]] = ws[a].length := by simp [siz]
    omega
  | d + 2, a, _, h => by
    have ih := siz_ends ws (d + 1) a (by omega) (by omega)
    have e := ends_succ ws (a + (d + 1)) (by omega)
    rw [show a + (d + 2) = a + (d + 1) + 1 by omega, e]
    have hl : d + 1 < (ws.drop a).length := by rw [List.length_drop]; omega
    rw [List.take_succ_eq_append_getElem hl]
    have hg : (ws.drop a)[d + 1] = ws[a + (d + 1)]'(by omega) := List.getElem_drop ..
    rw [hg]
    have hl2 : ((ws.drop a).take (d + 1)).length = d + 1 := by rw [List.length_take]; omega
    simp only [siz, List.map_append, List.sum_append, List.length_append, hl2, List.map_cons, List.map_nil, List.sum_cons, List.sum_nil, List.length_cons, List.length_nil] at ih ⊢
    omega
theorem siz_fit (ws : List (List Nat)) {a b m : Nat} (h : a < b) (hb : b ≤ ws.length) : siz ((ws.drop a).take (b - a)) ≤ m ↔ ends ws b ≤ ends ws a + m + 1 := by
  have := siz_ends ws (b - a) a (by omega) (by omega)
  rw [show a + (b - a) = b by omega] at this
  omega
theorem gp_ge (ws : List (List Nat)) (a m : Nat) : a ≤ gp ws a m := by unfold gp; omega
/-- the greatest place that a line reaches -/
theorem gp_fit {ws : List (List Nat)} {a m b : Nat} (ha : a ≤ b) (hb : b ≤ ws.length) : b ≤ gp ws a m ↔ b = a ∨ ends ws b ≤ ends ws a + m + 1 := by
  have hl : (ws.drop a).length = ws.length - a := List.length_drop
  have hg := gk_le m (ws.drop a)
  by_cases e : b = a
  · subst e
    exact ⟨fun _ => .inl rfl, fun _ => gp_ge _ _ _⟩
  constructor
  · intro h
    have h0 : 0 < gk m (ws.drop a) := by unfold gp at h; omega
    have h1 := gk_fit m _ h0
    have h2 := (siz_fit ws (a := a) (b := gp ws a m) (m := m) (by unfold gp; omega) (by unfold gp; omega)).1 (by unfold gp; rw [Nat.add_sub_cancel_left]; exact h1)
    have h3 := ends_le ws h (by unfold gp; omega)
    exact .inr (by omega)
  · rintro (h | h)
    · exact absurd h e
    · refine Nat.le_of_not_lt fun g => ?_
      have h1 := gk_max m (ws.drop a) (by unfold gp at g; omega)
      have h2 := (siz_fit ws (a := a) (b := gp ws a m + 1) (m := m) (by unfold gp; omega) (by omega)).2 (by
        have := ends_le ws (show gp ws a m + 1 ≤ b by omega) hb
        omega)
      unfold gp at h2
      rw [show a + gk m (ws.drop a) + 1 - a = gk m (ws.drop a) + 1 by omega] at h2
      omega
theorem gp_mono {ws : List (List Nat)} {a a' m m' : Nat} (ha : a ≤ a') (ha' : a' ≤ ws.length) (hm : m ≤ m') : gp ws a m ≤ gp ws a' m' := by
  by_cases g : gp ws a m ≤ a'
  · exact Nat.le_trans g (gp_ge _ _ _)
  · have hl := gp_le (m := m) (Nat.le_trans ha ha')
    refine (gp_fit (by omega) hl).2 (.inr ?_)
    rcases (gp_fit (m := m) (gp_ge ws a m) hl).1 (Nat.le_refl _) with h | h
    · omega
    · have := ends_le ws ha ha'
      omega
/-- measures, each as wide at least -/
inductive Wider : List Nat → List Nat → Prop where
  | nil : Wider [] []
  | cons {a b : Nat} {l m : List Nat} : a ≤ b → Wider l m → Wider (a :: l) (b :: m)
theorem Wider.refl : ∀ l : List Nat, Wider l l
  | [] => .nil
  | _ :: l => .cons (Nat.le_refl _) (Wider.refl l)
theorem Wider.at_ : ∀ {l : List Nat} {i x : Nat}, (h : i < l.length) → l[i] ≤ x → Wider l (l.take i ++ [x] ++ l.drop (i + 1))
  | a :: l, 0, x, _, h2 => .cons h2 (Wider.refl l)
  | a :: l, i + 1, x, h, h2 => .cons (Nat.le_refl _) (Wider.at_ (l := l) (i := i) (Nat.lt_of_succ_lt_succ h) h2)
theorem Wider.take_ : ∀ {l m : List Nat} (i : Nat), Wider l m → Wider (l.take i) (m.take i)
  | _, _, 0, _ => by rw [List.take_zero, List.take_zero]; exact .nil
  | _, _, i + 1, .nil => by rw [List.take_nil]; exact .nil
  | _, _, i + 1, .cons h w => .cons h (Wider.take_ i w)
theorem Wider.len {l m : List Nat} (w : Wider l m) : l.length = m.length := by
  induction w with
  | nil => rfl
  | cons _ _ ih => simp [ih]
theorem pos_mono {ws : List (List Nat)} {l m : List Nat} (w : Wider l m) : ∀ {a a' : Nat}, a ≤ a' → a' ≤ ws.length → pos ws l a ≤ pos ws m a' := by
  induction w with
  | nil => exact fun h _ => h
  | cons h _ ih => exact fun ha ha' => ih (gp_mono ha ha' h) (gp_le ha')
theorem pos_ge (ws : List (List Nat)) : ∀ (l : List Nat) (a : Nat), a ≤ pos ws l a
  | [], a => Nat.le_refl a
  | m :: l, a => Nat.le_trans (gp_ge ws a m) (pos_ge ws l _)
theorem pos_take (ws : List (List Nat)) (l : List Nat) (i a : Nat) : pos ws (l.take i) a ≤ pos ws l a := by
  have : pos ws l a = pos ws (l.drop i) (pos ws (l.take i) a) := by
    unfold pos
    rw [← List.foldl_append, List.take_append_drop]
  rw [this]
  exact pos_ge _ _ _
/-! ### the rows -/
theorem rws_get (ws : List (List Nat)) : ∀ (l : List Nat) (a i : Nat) (h : i < l.length), (rws ws l a)[i]'(by rw [rws_len]; exact h) = (ws.drop (pos ws (l.take i) a)).take (gk l[i] (ws.drop (pos ws (l.take i) a)))
  | x :: l, a, 0, h => rfl
  | x :: l, a, i + 1, h => rws_get ws l (gp ws a x) i (Nat.lt_of_succ_lt_succ h)
theorem rws_row (ws : List (List Nat)) (l : List Nat) (a : Nat) : ∀ r ∈ rws ws l a, r.length ≤ ws.length := by
  induction l generalizing a with
  | nil => intro r h; cases h
  | cons x l ih =>
    intro r h
    rcases List.mem_cons.1 h with rfl | h
    · rw [List.length_take, List.length_drop]; omega
    · exact ih _ r h
theorem rws_flat (ws : List (List Nat)) : ∀ (l : List Nat) (a : Nat), a ≤ ws.length → ws.take a ++ (rws ws l a).flatten = ws.take (pos ws l a)
  | [], a, h => by
    show ws.take a ++ [] = ws.take a
    rw [List.append_nil]
  | x :: l, a, h => by
    show ws.take a ++ ((ws.drop a).take (gk x (ws.drop a)) ++ (rws ws l (gp ws a x)).flatten) = ws.take (pos ws l (gp ws a x))
    rw [← rws_flat ws l (gp ws a x) (gp_le h), ← List.append_assoc]
    congr 1
    unfold gp
    rw [List.take_add]
theorem rws_zip (ws : List (List Nat)) : ∀ (l : List Nat) (a : Nat), ((rws ws l a).zip l).all (fun p => decide (siz p.1 ≤ p.2)) = true
  | [], _ => rfl
  | x :: l, a => by
    show (decide (siz ((ws.drop a).take (gk x (ws.drop a))) ≤ x) && ((rws ws l (gp ws a x)).zip l).all _) = true
    rw [rws_zip ws l, Bool.and_true, decide_eq_true_eq]
    by_cases g : 0 < gk x (ws.drop a)
    · exact gk_fit _ _ g
    · rw [show gk x (ws.drop a) = 0 by omega]
      exact Nat.zero_le _
theorem rws_fits {ws : List (List Nat)} {ms : List Nat} (h : pos ws ms 0 = ws.length) : fitsS ms ws (rws ws ms 0) = true := by
  unfold fitsS
  rw [rws_zip, Bool.and_true, decide_eq_true_eq]
  have := rws_flat ws ms 0 (Nat.zero_le _)
  rw [h, List.take_length, List.take_zero, List.nil_append] at this
  exact this
theorem used_mono {ws : List (List Nat)} {l m : List Nat} (w : Wider l m) (h : pos ws l 0 = ws.length) : used (rws ws m 0) ≤ used (rws ws l 0) := by
  rw [used_le]
  intro i hi hu
  rw [rws_len] at hi
  have hi2 : i < l.length := by rw [w.len]; exact hi
  rw [rws_get ws m 0 i hi]
  have e : pos ws (l.take (used (rws ws l 0))) 0 = ws.length := by
    -- nothing is laid behind
    have key : ∀ (k j : Nat), j + k = l.length → used (rws ws l 0) ≤ j → pos ws (l.take j) 0 = ws.length := by
      intro k
      induction k with
      | zero =>
        intro j hj _
        rw [List.take_of_length_le (by omega)]
        exact h
      | succ k ih =>
        intro j hj hu
        have hjl : j < l.length := by omega
        have h1 := ih (j + 1) (by omega) (by omega)
        rw [List.take_succ_eq_append_getElem hjl, pos_snoc] at h1
        have h2 := (used_le.1 (Nat.le_refl (used (rws ws l 0)))) j (by rw [rws_len]; exact hjl) hu
        rw [rws_get ws l 0 j hjl] at h2
        have h3 := congrArg List.length h2
        rw [List.length_take, List.length_nil] at h3
        have h4 := gk_le l[j] (ws.drop (pos ws (l.take j) 0))
        unfold gp at h1
        omega
    by_cases g : used (rws ws l 0) ≤ l.length
    · exact key (l.length - used (rws ws l 0)) _ (by omega) (Nat.le_refl _)
    · rw [List.take_of_length_le (by omega)]; exact h
  have h1 := pos_mono (ws := ws) (w.take_ (used (rws ws l 0))) (a := 0) (a' := 0) (Nat.le_refl _) (Nat.zero_le _)
  rw [e] at h1
  have h2 : pos ws (m.take (used (rws ws l 0))) 0 ≤ pos ws (m.take i) 0 := by
    have := pos_take ws (m.take i) (used (rws ws l 0)) 0
    rwa [List.take_take, Nat.min_eq_left hu] at this
  have h3 := pos_le (ws := ws) (ms := m.take i) (a := 0) (Nat.zero_le _)
  rw [List.drop_eq_nil_of_le (by omega)]
  simp
/-! ### counts of settings -/
theorem mem_fitsL {ws : List (List Nat)} {m b a : Nat} : a ∈ fitsL ws m b ↔ a ≤ b ∧ (a = b ∨ ends ws b ≤ ends ws a + m + 1) := by
  unfold fitsL
  rw [List.mem_filter, List.mem_range, Bool.or_eq_true, decide_eq_true_eq, decide_eq_true_eq]
  constructor
  · rintro ⟨h1, h2 | h2⟩
    · exact ⟨by omega, .inl h2⟩
    · exact ⟨by omega, .inr (by omega)⟩
  · rintro ⟨h1, h2 | h2⟩
    · exact ⟨by omega, .inl h2⟩
    · exact ⟨by omega, .inr (by omega)⟩
theorem sum_pos {l : List Nat} : 0 < l.sum ↔ ∃ x ∈ l, 0 < x := by
  induction l with
  | nil => simp
  | cons a l ih =>
    rw [List.sum_cons]
    constructor
    · intro h
      by_cases g : 0 < a
      · exact ⟨a, by simp, g⟩
      · obtain ⟨x, hx, h⟩ := ih.1 (by omega)
        exact ⟨x, by simp [hx], h⟩
    · rintro ⟨x, hx, h⟩
      rcases List.mem_cons.1 hx with rfl | hx
      · omega
      · have := ih.2 ⟨x, hx, h⟩; omega
theorem stepW_get (ws : List (List Nat)) (W : List Nat) (m b : Nat) (h : b ≤ ws.length) : (stepW ws W m).getD b 0 = ((fitsL ws m b).map fun a => W.getD a 0).sum := by
  unfold stepW
  rw [List.getD_eq_getElem?_getD, List.getElem?_map, List.getElem?_range (by omega)]; rfl
theorem ways_pos {ws : List (List Nat)} : ∀ (ms : List Nat) (W : List Nat) (p : Nat), p ≤ ws.length → (∀ b, b ≤ ws.length → (0 < W.getD b 0 ↔ b ≤ p)) → ∀ b, b ≤ ws.length → (0 < (ms.foldl (stepW ws) W).getD b 0 ↔ b ≤ pos ws ms p)
  | [], W, p, _, h => h
  | m :: ms, W, p, hp, h => by
    refine ways_pos ms (stepW ws W m) (gp ws p m) (gp_le hp) fun b hb => ?_
    rw [stepW_get ws W m b hb, sum_pos]
    constructor
    · rintro ⟨x, hx, h0⟩
      obtain ⟨a, ha, rfl⟩ := List.mem_map.1 hx
      obtain ⟨h1, h2⟩ := mem_fitsL.1 ha
      have h3 := (h a (by omega)).1 h0
      by_cases g : b ≤ p
      · exact Nat.le_trans g (gp_ge _ _ _)
      · refine (gp_fit (by omega) hb).2 (.inr ?_)
        rcases h2 with h2 | h2
        · omega
        · have := ends_le ws h3 hp
          omega
    · intro h1
      by_cases g : b ≤ p
      · exact ⟨_, List.mem_map.2 ⟨b, mem_fitsL.2 ⟨Nat.le_refl _, .inl rfl⟩, rfl⟩, (h b hb).2 g⟩
      · refine ⟨_, List.mem_map.2 ⟨p, mem_fitsL.2 ⟨by omega, .inr ?_⟩, rfl⟩, (h p hp).2 (Nat.le_refl _)⟩
        rcases (gp_fit (by omega) hb).1 h1 with h2 | h2
        · omega
        · exact h2
theorem ways_zero (ms : List Nat) (ws : List (List Nat)) : ways ms ws = 0 ↔ pos ws ms 0 ≠ ws.length := by
  have h := ways_pos (ws := ws) ms (ways0 ws) 0 (Nat.zero_le _) (fun b hb => by
    unfold ways0
    cases b with
    | zero => simp
    | succ b => simp [List.getD_eq_getElem?_getD, List.getElem?_replicate]; split <;> simp) ws.length (Nat.le_refl _)
  have hp := pos_le (ws := ws) (ms := ms) (a := 0) (Nat.zero_le _)
  unfold ways waysL
  omega
theorem sum_fil {α : Type} {p q : α → Bool} {f g : α → Nat} : ∀ {l : List α}, (∀ a ∈ l, p a = true → q a = true) → (∀ a ∈ l, f a ≤ g a) → ((l.filter p).map f).sum ≤ ((l.filter q).map g).sum
  | [], _, _ => Nat.le_refl _
  | a :: l, hp, hf => by
    have ih := sum_fil (l := l) (fun b hb => hp b (by simp [hb])) (fun b hb => hf b (by simp [hb]))
    have h1 := hp a (by simp)
    have h2 := hf a (by simp)
    cases e : p a with
    | false =>
      rw [List.filter_cons_of_neg (by simp [e])]
      cases e2 : q a with
      | false => rw [List.filter_cons_of_neg (by simp [e2])]; exact ih
      | true => rw [List.filter_cons_of_pos e2, List.map_cons, List.sum_cons]; omega
    | true =>
      rw [List.filter_cons_of_pos e, List.filter_cons_of_pos (h1 e), List.map_cons, List.map_cons, List.sum_cons, List.sum_cons]
      omega
theorem ways_mono {ws : List (List Nat)} {l m : List Nat} (w : Wider l m) : ∀ {W W' : List Nat}, (∀ b, b ≤ ws.length → W.getD b 0 ≤ W'.getD b 0) → ∀ b, b ≤ ws.length → (l.foldl (stepW ws) W).getD b 0 ≤ (m.foldl (stepW ws) W').getD b 0 := by
  induction w with
  | nil => exact fun h => h
  | @cons x y l m hxy _ ih =>
    intro W W' h
    refine ih fun b hb => ?_
    rw [stepW_get ws W x b hb, stepW_get ws W' y b hb]
    unfold fitsL
    refine sum_fil (fun a _ h1 => ?_) fun a ha => h a (by have := List.mem_range.1 ha; omega)
    rw [Bool.or_eq_true, decide_eq_true_eq, decide_eq_true_eq] at h1 ⊢
    rcases h1 with h1 | h1
    · exact .inl h1
    · exact .inr (by omega)
theorem ways_wider {ws : List (List Nat)} {l m : List Nat} (w : Wider l m) : ways l ws ≤ ways m ws := ways_mono w (fun _ _ => Nat.le_refl _) _ (Nat.le_refl _)
theorem le_sum {l : List Nat} {x : Nat} (h : x ∈ l) : x ≤ l.sum := by
  induction l with
  | nil => cases h
  | cons a l ih =>
    rw [List.sum_cons]
    rcases List.mem_cons.1 h with rfl | h
    · omega
    · have := ih h; omega
theorem ways_line (ws : List (List Nat)) (l : List Nat) (m : Nat) : ways l ws ≤ ways (l ++ [m]) ws := by
  unfold ways waysL
  rw [List.foldl_append]
  show _ ≤ (stepW ws _ m).getD _ 0
  rw [stepW_get ws _ m _ (Nat.le_refl _)]
  exact le_sum (List.mem_map.2 ⟨ws.length, mem_fitsL.2 ⟨Nat.le_refl _, .inl rfl⟩, rfl⟩)
end In
end
section
set_option linter.all false
set_option maxRecDepth 100000
open Pz
namespace In
variable {tb : Nat → Option Fd} [hb : Has tb]
theorem m_is_setting (n : Nat) (ms : List Nat) (hm : okM ms) (ws : List (List Nat)) (hw : okW ws) (rows : List (List (List Nat))) (hl : rows.length = ms.length) (hr : ∀ r ∈ rows, r.length ≤ 1000) (B : List D) :
    Pz.run tb (n + 5) 24 [.tup (nD ms), .tup (sD ws), .tup (tD rows)] B = .ok (.bl (fitsS ms ws rows), B) := by
  rw [show n + 5 = (n + 4) + 1 from rfl, run_succ (h := hb.h_is_setting) (hl := rfl)]
  have e := m_fits_setting (tb := tb) (n + 2) ms ws rows hl (by have := hm.few; omega) hr B
  have e2 := m_need_both (tb := tb) n ms hm ws hw B
  simp -implicitDefEqProofs [b_is_setting, Pz.start, e, e2, frzAll, frzS]
theorem m_settings_many (n : Nat) (ms : List Nat) (hm : okM ms) (ws : List (List Nat)) (hw : okW ws) (B : List D) :
    Pz.run tb (n + 5) 27 [.tup (nD ms), .tup (sD ws)] B = .ok (.int (ways ms ws : Nat), B) := by
  rw [show n + 5 = (n + 4) + 1 from rfl, run_succ (h := hb.h_settings_many) (hl := rfl)]
  have e := m_ways_in (tb := tb) (n + 3) ms (by have := hm.few; omega) ws (by have := hw.few; omega) B
  have e2 := m_need_both (tb := tb) n ms hm ws hw B
  simp -implicitDefEqProofs [b_settings_many, Pz.start, e, e2, frzAll, frzS]
theorem m_are_measures (n : Nat) (ms : List Nat) (hm : okM ms) (B : List D) : Pz.run tb (n + 4) 35 [.tup (nD ms)] B = .ok (.bl true, B) := by
  rw [show n + 4 = (n + 3) + 1 from rfl, run_succ (h := hb.h_are_measures) (hl := rfl)]
  simp -implicitDefEqProofs [b_are_measures, Pz.start, m_fits_measures n ms hm, frzAll, frzS]
theorem m_are_words (n : Nat) (ws : List (List Nat)) (hw : okW ws) (B : List D) : Pz.run tb (n + 3) 36 [.tup (sD ws)] B = .ok (.bl true, B) := by
  rw [show n + 3 = (n + 2) + 1 from rfl, run_succ (h := hb.h_are_words) (hl := rfl)]
  simp -implicitDefEqProofs [b_are_words, Pz.start, m_fits_words n ws hw, frzAll, frzS]
theorem lcLoop_thr {α γ : Type} {f : D → List D → Rs (Option D × List D)} {c : α → D} {P : List D → Prop} {Q : γ → Prop} {g : γ → D} : ∀ {l : List α} {B : List D}, (∀ a ∈ l, ∀ B, P B → ∃ d B', Q d ∧ P B' ∧ f (c a) B = .ok (some (g d), B')) → P B → ∃ (ds : List γ) (B' : List D), (∀ d ∈ ds, Q d) ∧ ds.length = l.length ∧ P B' ∧ lcLoop f (l.map c) B = .ok (ds.map g, B')
  | [], B, _, h => ⟨[], B, by simp, rfl, h, rfl⟩
  | a :: l, B, hf, h => by
    obtain ⟨d, B1, q, p, e⟩ := hf a List.mem_cons_self B h
    obtain ⟨ds, B2, q2, e2, p2, e3⟩ := lcLoop_thr (l := l) (fun e he => hf e (List.mem_cons_of_mem _ he)) p
    refine ⟨d :: ds, B2, ?_, by simp [e2], p2, ?_⟩
    · intro x hx
      rcases List.mem_cons.1 hx with rfl | hx
      · exact q
      · exact q2 x hx
    · rw [List.map_cons, lcLoop, e]
      show ((lcLoop f (l.map c) B1).bind _) = _
      rw [e3]; rfl
theorem m_given (n : Nat) (B : List D) (lines wide words : Nat) (h1 : 0 < lines) (h2 : lines ≤ 40) (h3 : wide ≤ 200) (h4 : words ≤ 60) (hB : okB B) :
    ∃ ms ws B', okM ms ∧ ms.length ≤ lines ∧ (∀ m ∈ ms, m ≤ wide) ∧ okW ws ∧ ws.length ≤ words ∧ (∀ w ∈ ws, w.length ≤ 6) ∧ okB B' ∧ Pz.run tb (n + 3) 29 [.box 0, .int (lines : Nat), .int (wide : Nat), .int (words : Nat)] B = .ok (.tup [.tup (nD ms), .tup (sD ws)], B') := by
  obtain ⟨v, B1, hv, hB1, e1⟩ := hb.roll_ (n + 2) B (lines : Nat) (by omega) (by omega) (by omega) hB
  have l3 : 3 ≤ ln := by show 3 ≤ 16777216; omega
  have l2 : 2 ≤ ln := by show 2 ≤ 16777216; omega
  obtain ⟨ms, B2, q, l, p, e2⟩ := lcLoop_thr (f := turn (Pz.run tb (n + 2)) [.val (.box 0), .val (.int (lines : Nat)), .val (.int (wide : Nat)), .val (.int (words : Nat)), .no, .no] (.nm 5) (.cst (.bl true)) (.call 1 (.cons (.var 0) (.cons (.lst (.cons (.cst (.int 0)) (.cons (.call 0 (.cons (.var 0) (.cons (.bin .add (.var 2) (.cst (.int 1))) (.nil)))) (.cons (.var 2) (.nil))))) (.nil)))))
    (c := fun a : Nat => D.int (a : Nat)) (l := List.range (v + 1)) (P := okB) (Q := fun m : Nat => m ≤ wide) (g := fun m : Nat => .int (m : Nat)) (B := B1)
    (by
      intro a ha B hB
      obtain ⟨u, B1, hu, hB1, f1⟩ := hb.roll_ (n + 2) B ((wide : Int) + 1) (by omega) (by omega) (by omega) hB
      obtain ⟨c, B2, hc, hB2, f2⟩ := some_l hb.some_ hb.roll_ (n + 2) (by omega) B1 [.int 0, .int (u : Nat), .int (wide : Nat)] (by simp) (by simp) hB1
      obtain ⟨m, hm, rfl⟩ : ∃ m : Nat, m ≤ wide ∧ c = .int (m : Nat) := by
        simp only [List.mem_cons, List.not_mem_nil, or_false] at hc
        rcases hc with rfl | rfl | rfl
        · exact ⟨0, by omega, rfl⟩
        · exact ⟨u, by omega, rfl⟩
        · exact ⟨wide, by omega, rfl⟩
      exact ⟨m, B2, hm, hB2, by simp -implicitDefEqProofs [turn_eq, wipeS, Tg.names, f1, f2, l3]⟩) hB1
  rw [List.length_range] at l
  obtain ⟨w, B3, hw, hB3, e3⟩ := hb.roll_ (n + 2) B2 ((words : Int) + 1) (by omega) (by omega) (by omega) p
  obtain ⟨ws, B4, q4, l4, p4, e4⟩ := lcLoop_thr (f := turn (Pz.run tb (n + 2)) [.val (.box 0), .val (.int (lines : Nat)), .val (.int (wide : Nat)), .val (.int (words : Nat)), .val (.tup (nD ms)), .no] (.nm 5) (.cst (.bl true)) (.cut (.cst (.str [97, 98, 99, 100, 101, 102, 103, 104, 105, 106])) (.nop) (.bin .add (.cst (.int 1)) (.call 0 (.cons (.var 0) (.cons (.cst (.int 6)) (.nil)))))))
    (c := fun a : Nat => D.int (a : Nat)) (l := List.range w) (P := okB) (Q := fun w : List Nat => 1 ≤ w.length ∧ w.length ≤ 6 ∧ ∀ c ∈ w, c ∈ ltr) (g := fun w : List Nat => .str w) (B := B3)
    (by
      intro a ha B hB
      obtain ⟨u, B1, hu, hB1, f1⟩ := hb.roll_ (n + 2) B 6 (by omega) (by omega) (by omega) hB
      have hc : cutL ([97, 98, 99, 100, 101, 102, 103, 104, 105, 106] : List Nat) none (some (1 + (u : Nat) : Int)) = ([97, 98, 99, 100, 101, 102, 103, 104, 105, 106] : List Nat).take (u + 1) := by
        rw [show (1 + (u : Nat) : Int) = ((u + 1 : Nat) : Int) by omega]; exact cutL_to _ _
      refine ⟨([97, 98, 99, 100, 101, 102, 103, 104, 105, 106] : List Nat).take (u + 1), B1, ⟨by rw [List.length_take]; simp; omega, by rw [List.length_take]; simp; omega, fun c hc => ?_⟩, hB1, ?_⟩
      · have := List.mem_of_mem_take hc
        exact (by decide : ∀ c ∈ ([97, 98, 99, 100, 101, 102, 103, 104, 105, 106] : List Nat), c ∈ ltr) c this
      · simp -implicitDefEqProofs [turn_eq, wipeS, Tg.names, f1, hc]) hB3
  rw [List.length_range] at l4
  refine ⟨ms, ws, B4, ⟨by omega, by omega, fun m hm => by have := q m hm; omega⟩, by omega, q, ⟨by omega, fun w hw => ⟨(q4 w hw).1, by have := (q4 w hw).2.1; omega, (q4 w hw).2.2⟩⟩, by omega, fun w hw => (q4 w hw).2.1, p4, ?_⟩
  have hb1 : bnd ((1 : Int) + v) = true := bnd_of (by omega) (by omega)
  have hb2 : bnd (w : Int) = true := bnd_of (by omega) (by omega)
  have hr1 : rngL 0 ((1 : Int) + v) = (List.range (v + 1)).map fun a : Nat => .int (a : Nat) := by
    rw [show (1 : Int) + v = ((v + 1 : Nat) : Int) by omega]; exact rngL_nat _
  have hln1 : v + 1 ≤ ln := by show _ ≤ 16777216; omega
  have hln2 : w ≤ ln := by show _ ≤ 16777216; omega
  have e2 : lcLoop _ _ _ = Rs.ok (nD ms, B2) := e2
  have e4 : lcLoop _ _ _ = Rs.ok (sD ws, B4) := e4
  rw [show n + 3 = (n + 2) + 1 from rfl, run_succ (h := hb.h__law_given) (hl := rfl)]
  simp -implicitDefEqProofs [b__law_given, Pz.start, hb1, hb2, hr1, rngL_nat, frzAll, frzS, hln1, hln2, e1, e2, e3, e4, l2]
/-! ### words that are alike -/
def word : List Nat := [119, 111, 114, 100]
def chk (ws : List (List Nat)) (m : Nat) (f : Nat → Int) : Nat → Nat → List Nat → Bool
  | 0, _, _ => true
  | k + 1, i, W => decide (((stepW ws W m).getD ws.length 0 : Int) = f (i + 1)) && chk ws m f k (i + 1) (stepW ws W m)
theorem chk_ok {ws : List (List Nat)} {m : Nat} {f : Nat → Int} : ∀ {k i : Nat} {W : List Nat}, chk ws m f k i W = true → ∀ j, 0 < j → j ≤ k → (((List.replicate j m).foldl (stepW ws) W).getD ws.length 0 : Int) = f (i + j)
  | 0, _, _, _, j, h0, h1 => by omega
  | k + 1, i, W, h, j, h0, h1 => by
    unfold chk at h
    rw [Bool.and_eq_true, decide_eq_true_eq] at h
    obtain ⟨j, rfl⟩ : ∃ x, j = x + 1 := ⟨j - 1, by omega⟩
    rw [List.replicate_succ, List.foldl_cons]
    by_cases g : j = 0
    · subst g; exact h.1
    · have := chk_ok h.2 j (by omega) (by omega)
      rw [this]
      congr 1; omega
theorem chk8 : ∀ k, k < 13 → chk (List.replicate k word) 8 (fun l => if k ≤ l then chI l k else 0) 40 0 (ways0 (List.replicate k word)) = true := by
  decide +kernel
theorem chk200 : ∀ k, k < 13 → chk (List.replicate k word) 200 (fun l => chI ((k : Int) + l - 1) k) 40 0 (ways0 (List.replicate k word)) = true := by
  decide +kernel
def chkP (ws : List (List Nat)) (m : Nat) (f : Nat → Nat) : Nat → Nat → Nat → Bool
  | 0, _, _ => true
  | k + 1, i, a => decide (gp ws a m = f (i + 1)) && chkP ws m f k (i + 1) (gp ws a m)
theorem chkP_ok {ws : List (List Nat)} {m : Nat} {f : Nat → Nat} : ∀ {k i a : Nat}, chkP ws m f k i a = true → ∀ j, 0 < j → j ≤ k → pos ws (List.replicate j m) a = f (i + j)
  | 0, _, _, _, j, h0, h1 => by omega
  | k + 1, i, a, h, j, h0, h1 => by
    unfold chkP at h
    rw [Bool.and_eq_true, decide_eq_true_eq] at h
    obtain ⟨j, rfl⟩ : ∃ x, j = x + 1 := ⟨j - 1, by omega⟩
    rw [List.replicate_succ]
    show pos ws (List.replicate j m) (gp ws a m) = _
    by_cases g : j = 0
    · subst g; exact h.1
    · rw [chkP_ok h.2 j (by omega) (by omega)]
      congr 1; omega
theorem chkP8 : ∀ k, k < 13 → chkP (List.replicate k word) 8 (fun l => min k l) 40 0 0 = true := by
  decide +kernel
end In
end
section
set_option linter.all false
set_option maxRecDepth 100000
open Pz
namespace In
variable {tb : Nat → Option Fd} [hb : Has tb]
/-! ### all settings -/
def stg : List Nat → List (List Nat) → List (List (List (List Nat)))
  | [], ws => if ws = [] then [[]] else []
  | m :: ms, ws => (List.range (ws.length + 1)).flatMap fun k => if siz (ws.take k) ≤ m then (stg ms (ws.drop k)).map (ws.take k :: ·) else []
theorem flat_len {α β : Type} {f : α → List β} {b : Nat} : ∀ {l : List α}, (∀ a ∈ l, (f a).length ≤ b) → (l.flatMap f).length ≤ l.length * b
  | [], _ => by simp
  | a :: l, h => by
    have h1 := h a (by simp)
    have h2 := flat_len (l := l) fun x hx => h x (by simp [hx])
    rw [List.flatMap_cons, List.length_append, List.length_cons, Nat.succ_mul]
    omega
theorem stg_len (N : Nat) : ∀ (ms : List Nat) (ws : List (List Nat)), ws.length ≤ N → (stg ms ws).length ≤ (N + 1) ^ ms.length
  | [], ws, _ => by unfold stg; split <;> simp
  | m :: ms, ws, h => by
    unfold stg
    refine Nat.le_trans (flat_len (b := (N + 1) ^ ms.length) fun k _ => ?_) ?_
    · split
      · rw [List.length_map]; exact stg_len N ms _ (by rw [List.length_drop]; omega)
      · exact Nat.zero_le _
    · rw [List.length_range, List.length_cons, Nat.pow_succ, Nat.mul_comm]
      exact Nat.mul_le_mul_left _ (by omega)
theorem mem_stg_cons {m : Nat} {ms : List Nat} {ws : List (List Nat)} {R : List (List (List Nat))} : R ∈ stg (m :: ms) ws ↔ ∃ k T, k ≤ ws.length ∧ siz (ws.take k) ≤ m ∧ T ∈ stg ms (ws.drop k) ∧ R = ws.take k :: T := by
  rw [stg, List.mem_flatMap]
  constructor
  · rintro ⟨k, hk, h⟩
    rw [List.mem_range] at hk
    by_cases g : siz (ws.take k) ≤ m
    · rw [if_pos g] at h
      obtain ⟨T, hT, rfl⟩ := List.mem_map.1 h
      exact ⟨k, T, by omega, g, hT, rfl⟩
    · rw [if_neg g] at h; cases h
  · rintro ⟨k, T, hk, g, hT, rfl⟩
    refine ⟨k, List.mem_range.2 (by omega), ?_⟩
    rw [if_pos g]
    exact List.mem_map.2 ⟨T, hT, rfl⟩
theorem mem_stg_nil {ws : List (List Nat)} {R : List (List (List Nat))} : R ∈ stg [] ws ↔ ws = [] ∧ R = [] := by
  unfold stg
  by_cases g : ws = [] <;> simp [g]
theorem stg_rows : ∀ {ms : List Nat} {ws : List (List Nat)} {R : List (List (List Nat))}, R ∈ stg ms ws → R.length = ms.length
  | [], _, _, h => by rw [(mem_stg_nil.1 h).2]; rfl
  | m :: ms, _, _, h => by
    obtain ⟨k, T, _, _, hT, rfl⟩ := mem_stg_cons.1 h
    rw [List.length_cons, stg_rows hT, List.length_cons]
theorem tD_nil (n : List Nat) : D.depL (nD n) ≤ 60 := by rw [nD_dep]; omega
def bodyG : Ss := (.cons (.ifs (.cmp .le (.call 30 (.cons (.cut (.var 1) (.nop) (.var 3)) (.nil))) (.sub (.var 0) (.cst (.int 0)))) (.cons (.asg (.nm 2) (.bin .add (.var 2) (.lc (.nm 4) (.call 31 (.cons (.cut (.var 0) (.cst (.int 1)) (.nop)) (.cons (.cut (.var 1) (.var 3) (.nop)) (.nil)))) (.cst (.bl true)) (.bin .add (.tup (.cons (.cut (.var 1) (.nop) (.var 3)) (.nil))) (.var 4))))) (.nil)) (.nil)) (.nil))
def sG (l : List (List (List (List Nat)))) : List D := l.map fun R => .tup (tD R)
theorem sG_len (l : List (List (List (List Nat)))) : (sG l).length = l.length := by simp [sG]
theorem m_settings : ∀ (ms : List Nat) (n : Nat) (ws : List (List Nat)) (B : List D), ms.length ≤ 4 → ws.length ≤ 8 → (∀ w ∈ ws, w.length ≤ 30) → Pz.run tb (n + ms.length + 2) 31 [.tup (nD ms), .tup (sD ws)] B = .ok (.lst (sG (stg ms ws)), B)
  | [], n, ws, B, _, hw, _ => by
    rw [show n + ([] : List Nat).length + 2 = (n + 1) + 1 from rfl, run_succ (h := hb.h__law_settings) (hl := rfl)]
    have e1 : eqD (.tup (nD [])) (.tup []) = some true := rfl
    have e2 := eqD_sD ws []
    have e2 : eqD (.tup (sD ws)) (.tup []) = some (decide (ws = [])) := e2
    have l0 : 0 ≤ ln := by show 0 ≤ 16777216; omega
    have l1 : 1 ≤ ln := by show 1 ≤ 16777216; omega
    have s0 : nD [] = [] := rfl
    have e3 : eqD (.tup []) (.tup []) = some true := rfl
    by_cases g : ws = []
    · subst g
      have s1 : sD [] = [] := rfl
      have s2 : stg [] [] = [[]] := rfl
      have s3 : sG [[]] = [.tup []] := rfl
      simp -implicitDefEqProofs [b__law_settings, Pz.start, e3, opC_eq, l0, l1, s0, s1, s2, s3, frzAll, frzS]
    · rw [decide_eq_false g] at e2
      have s2 : stg [] ws = [] := by unfold stg; exact if_neg g
      have s3 : sG [] = [] := rfl
      simp -implicitDefEqProofs [b__law_settings, Pz.start, e2, e3, opC_eq, l0, l1, s0, s2, s3, frzAll, frzS]
  | m :: ms, n, ws, B, hm, hw, hw2 => by
    rw [show n + (m :: ms).length + 2 = (n + ms.length + 2) + 1 by simp only [List.length_cons]; omega, run_succ (h := hb.h__law_settings) (hl := rfl)]
    have hml : ms.length ≤ 3 := by simp only [List.length_cons] at hm; omega
    have e1 : eqD (.tup (nD (m :: ms))) (.tup []) = some false := by rw [eqD_nilT _ (tD_nil _)]; rfl
    have l0 : 0 ≤ ln := by show 0 ≤ 16777216; omega
    have l1 : 1 ≤ ln := by show 1 ≤ 16777216; omega
    have hsl : ((sD ws).length : Int) = ws.length := by rw [sD_len]
    obtain ⟨f, hf⟩ : ∃ f : Nat → List (List (List (List Nat))), f = fun k => if siz (ws.take k) ≤ m then (stg ms (ws.drop k)).map (ws.take k :: ·) else [] := ⟨_, rfl⟩
    have hfl : ∀ k, (f k).length ≤ 729 := fun k => by
      rw [hf]
      show List.length (if siz (ws.take k) ≤ m then (stg ms (ws.drop k)).map (ws.take k :: ·) else []) ≤ 729
      split
      · rw [List.length_map]
        refine Nat.le_trans (stg_len 8 ms _ (by rw [List.length_drop]; omega)) ?_
        exact Nat.le_trans (Nat.pow_le_pow_right (by omega) hml) (by decide)
      · exact Nat.zero_le _
    obtain ⟨σ', B', ⟨x3, rfl, rfl⟩, e⟩ := for_inv (f := forB (Pz.run tb (n + ms.length + 2)) (.nm 3) bodyG) (σ := [.val (.tup (nD (m :: ms))), .val (.tup (sD ws)), .val (.lst (sG ((List.range 0).flatMap f))), .no, .no]) (B := B) ((List.range (ws.length + 1)).map fun k : Nat => .int (k : Nat))
      (fun i σ B' => ∃ x3, σ = [.val (.tup (nD (m :: ms))), .val (.tup (sD ws)), .val (.lst (sG ((List.range i).flatMap f))), x3, .no] ∧ B' = B)
      ⟨_, rfl, rfl⟩ (by
        rintro i hi σ B ⟨x3, rfl, rfl⟩
        simp at hi
        rw [List.getElem_map, List.getElem_range, List.range_succ, List.flatMap_append, List.flatMap_cons, List.flatMap_nil, List.append_nil]
        have c1 : cutL (sD ws) none (some (i : Int)) = sD (ws.take i) := by rw [cutL_to, sD_take]
        have c2 : cutL (sD ws) (some (i : Int)) none = sD (ws.drop i) := by rw [cutL_from, sD_drop]
        have c3 : cutL (nD (m :: ms)) (some 1) none = nD ms := by
          have := cutL_from (nD (m :: ms)) 1
          exact this
        have a0 : atI (nD (m :: ms)) 0 = some (.int (m : Nat)) := atI_nDk _ 0 _ rfl
        have hsum : ((ws.take i).map List.length).sum ≤ 100000 := by
          have : ∀ l : List (List Nat), (∀ w ∈ l, w.length ≤ 30) → (l.map List.length).sum ≤ l.length * 30 := by
            intro l
            induction l with
            | nil => intro _; simp
            | cons w l ih =>
              intro h
              have h1 := h w (by simp)
              have h2 := ih fun v hv => h v (by simp [hv])
              simp only [List.map_cons, List.sum_cons, List.length_cons, Nat.succ_mul]
              omega
          have h1 := this (ws.take i) fun w hw => hw2 w (List.mem_of_mem_take hw)
          have h2 : (ws.take i).length ≤ 8 := by rw [List.length_take]; omega
          omega
        have e2 := m_law_size (tb := tb) (n + ms.length + 1) (ws.take i) (by rw [List.length_take]; omega) hsum B
        have e3 := m_settings ms n (ws.drop i) B (by omega) (by rw [List.length_drop]; omega) (fun w hw => hw2 w (List.mem_of_mem_drop hw))
        obtain ⟨acc, hacc⟩ : ∃ acc, (List.range i).flatMap f = acc := ⟨_, rfl⟩
        have haccl : acc.length ≤ i * 729 := by rw [← hacc]; have := flat_len (l := List.range i) (f := f) (b := 729) (fun k _ => hfl k); rwa [List.length_range] at this
        rw [hacc]
        by_cases g : siz (ws.take i) ≤ m
        · have g' : ((siz (ws.take i) : Nat) : Int) ≤ m := by omega
          have hfi : f i = (stg ms (ws.drop i)).map (ws.take i :: ·) := by rw [hf]; exact if_pos g
          have hsl2 : (stg ms (ws.drop i)).length ≤ 729 := by have := hfl i; rw [hfi, List.length_map] at this; exact this
          have l5 : lcLoop (Pz.turn (Pz.run tb (n + ms.length + 2)) [.val (.tup (nD (m :: ms))), .val (.tup (sD ws)), .val (.lst (sG acc)), .val (.int (i : Nat)), .no] (.nm 4) (.cst (.bl true)) (.bin .add (.tup (.cons (.cut (.var 1) (.nop) (.var 3)) (.nil))) (.var 4))) (sG (stg ms (ws.drop i))) B
              = .ok (sG (f i), B) := by
            have : sG (f i) = (stg ms (ws.drop i)).map fun R => D.tup (.tup (sD (ws.take i)) :: tD R) := by
              rw [hfi]; unfold sG; rw [List.map_map]; rfl
            rw [this]
            refine lcLoop_all (c := fun R => D.tup (tD R)) (g := fun R => D.tup (.tup (sD (ws.take i)) :: tD R)) fun R hR => ?_
            have hRl : 1 + (tD R).length ≤ ln := by
              have := stg_rows hR
              show _ ≤ 16777216
              rw [tD_len]; omega
            simp -implicitDefEqProofs [turn_eq, wipeS, Tg.names, c1, l1, hRl]
          have hln : (sG (stg ms (ws.drop i))).length ≤ ln := by show _ ≤ 16777216; rw [sG_len]; omega
          have hln2 : (sG acc).length + (sG (f i)).length ≤ ln := by show _ ≤ 16777216; rw [sG_len, sG_len]; have := hfl i; omega
          have hsg : sG (acc ++ f i) = sG acc ++ sG (f i) := by simp [sG]
          refine ⟨_, _, ⟨.val (.int (i : Nat)), rfl, rfl⟩, ?_⟩
          rw [hsg]
          simp -implicitDefEqProofs [bodyG, c1, c2, c3, a0, e2, e3, g, g', l5, hln, hln2]
        · have g' : ¬ ((siz (ws.take i) : Nat) : Int) ≤ m := by omega
          have hfi : f i = [] := by rw [hf]; exact if_neg g
          refine ⟨_, _, ⟨.val (.int (i : Nat)), rfl, rfl⟩, ?_⟩
          rw [hfi, List.append_nil]
          simp -implicitDefEqProofs [bodyG, c1, a0, e2, g, g'])
    rw [List.length_map, List.length_range] at e
    have hr : rngL 0 ((ws.length : Int) + 1) = (List.range (ws.length + 1)).map fun k : Nat => .int (k : Nat) := by
      rw [show (ws.length : Int) + 1 = ((ws.length + 1 : Nat) : Int) by omega]; exact rngL_nat _
    have hbd : bnd ((ws.length : Int) + 1) = true := bnd_of (by omega) (by omega)
    have e : forLoop (forB (Pz.run tb (n + ms.length + 2)) (.nm 3) bodyG) ((List.range (ws.length + 1)).map fun k : Nat => .int (k : Nat)) [.val (.tup (nD (m :: ms))), .val (.tup (sD ws)), .val (.lst []), .no, .no] B' = _ := e
    have hst : stg (m :: ms) ws = (List.range (ws.length + 1)).flatMap f := by rw [hf]; rfl
    unfold bodyG at e
    rw [hst]
    simp -implicitDefEqProofs [b__law_settings, Pz.start, e1, opC_eq, l0, hsl, hr, hbd, e, frzAll, frzS]
end In
end
section
set_option linter.all false
set_option maxRecDepth 100000
open Pz
namespace In
variable {tb : Nat → Option Fd} [hb : Has tb]
theorem fitsS_cons {m : Nat} {ms : List Nat} {ws : List (List Nat)} {r : List (List Nat)} {T : List (List (List Nat))} : fitsS (m :: ms) ws (r :: T) = true ↔ siz r ≤ m ∧ ws.take r.length = r ∧ fitsS ms (ws.drop r.length) T = true := by
  unfold fitsS
  rw [List.zip_cons_cons, List.all_cons, List.flatten_cons, Bool.and_eq_true, Bool.and_eq_true, Bool.and_eq_true, decide_eq_true_eq, decide_eq_true_eq, decide_eq_true_eq]
  constructor
  · rintro ⟨h1, h2, h3⟩
    refine ⟨h2, ?_, ?_, h3⟩
    · rw [← h1, List.take_left]
    · rw [← h1, List.drop_left]
  · rintro ⟨h1, h2, h3, h4⟩
    refine ⟨?_, h1, h4⟩
    rw [h3]
    have := List.take_append_drop r.length ws
    rw [h2] at this
    exact this
theorem mem_stg : ∀ {ms : List Nat} {ws : List (List Nat)} {R : List (List (List Nat))}, R ∈ stg ms ws ↔ R.length = ms.length ∧ fitsS ms ws R = true
  | [], ws, R => by
    rw [mem_stg_nil]
    constructor
    · rintro ⟨rfl, rfl⟩; exact ⟨rfl, rfl⟩
    · rintro ⟨h1, h2⟩
      have : R = [] := List.length_eq_zero_iff.1 h1
      subst this
      unfold fitsS at h2
      rw [Bool.and_eq_true, decide_eq_true_eq] at h2
      exact ⟨h2.1.symm, rfl⟩
  | m :: ms, ws, [] => by
    rw [mem_stg_cons]
    constructor
    · rintro ⟨k, T, _, _, _, h⟩; cases h
    · rintro ⟨h, _⟩; simp at h
  | m :: ms, ws, r :: T => by
    rw [mem_stg_cons, fitsS_cons]
    constructor
    · rintro ⟨k, T', hk, hs, hT, h⟩
      injection h with h1 h2
      subst h1 h2
      have hl : (ws.take k).length = k := by rw [List.length_take]; omega
      obtain ⟨q1, q2⟩ := mem_stg.1 hT
      refine ⟨by simp [q1], hs, by rw [hl], by rw [hl]; exact q2⟩
    · rintro ⟨hl, hs, ht, hf⟩
      refine ⟨r.length, T, ?_, by rw [ht]; exact hs, mem_stg.2 ⟨by simpa using hl, hf⟩, by rw [ht]⟩
      have := congrArg List.length ht
      rw [List.length_take] at this
      omega
/-! ### how many -/
def S (n : Nat) (f : Nat → Nat) : Nat := ((List.range n).map f).sum
theorem S_succ (n : Nat) (f : Nat → Nat) : S (n + 1) f = S n f + f n := by
  unfold S
  rw [List.range_succ, List.map_append, List.sum_append]
  simp
theorem S_congr {n : Nat} {f g : Nat → Nat} (h : ∀ i, i < n → f i = g i) : S n f = S n g := by
  unfold S
  congr 1
  exact List.map_congr_left fun i hi => h i (List.mem_range.1 hi)
theorem S_add (n : Nat) (f g : Nat → Nat) : S n (fun i => f i + g i) = S n f + S n g := by
  induction n with
  | zero => rfl
  | succ n ih => rw [S_succ, S_succ, S_succ, ih]; omega
theorem S_zero (n : Nat) : S n (fun _ => 0) = 0 := by
  induction n with
  | zero => rfl
  | succ n ih => rw [S_succ, ih]
theorem S_swap (n k : Nat) (f : Nat → Nat → Nat) : S n (fun b => S k fun a => f a b) = S k fun a => S n fun b => f a b := by
  induction n with
  | zero => exact (S_zero k).symm
  | succ n ih =>
    rw [S_succ, ih, ← S_add]
    exact S_congr fun i _ => (S_succ _ _).symm
theorem S_mul (n c : Nat) (f : Nat → Nat) : S n f * c = S n fun i => f i * c := by
  induction n with
  | zero => simp [S]
  | succ n ih => rw [S_succ, S_succ, Nat.add_mul, ih]
theorem S_mul' (n c : Nat) (f : Nat → Nat) : c * S n f = S n fun i => c * f i := by
  induction n with
  | zero => simp [S]
  | succ n ih => rw [S_succ, S_succ, Nat.mul_add, ih]
theorem sum_filter (p : Nat → Bool) (f : Nat → Nat) : ∀ l : List Nat, ((l.filter p).map f).sum = (l.map fun a => if p a = true then f a else 0).sum
  | [] => rfl
  | a :: l => by
    by_cases h : p a = true
    · rw [List.filter_cons_of_pos h, List.map_cons, List.sum_cons, List.map_cons, List.sum_cons, sum_filter p f l, if_pos h]
    · rw [List.filter_cons_of_neg h, List.map_cons, List.sum_cons, sum_filter p f l, if_neg h, Nat.zero_add]
theorem S_ext {n k : Nat} (h : n ≤ k) (f : Nat → Nat) (h0 : ∀ i, n ≤ i → i < k → f i = 0) : S n f = S k f := by
  induction k with
  | zero => have : n = 0 := by omega
            subst this; rfl
  | succ k ih =>
    by_cases e : n = k + 1
    · subst e; rfl
    · rw [S_succ, h0 k (by omega) (by omega), Nat.add_zero]
      exact ih (by omega) fun i h1 h2 => h0 i h1 (by omega)
/-- whether a line takes the words from a up to b -/
def fl (ws : List (List Nat)) (m a b : Nat) : Bool := decide (a ≤ b) && (decide (a = b) || decide (ends ws b ≤ ends ws a + m + 1))
theorem step_S (ws : List (List Nat)) (W : List Nat) (m b : Nat) (h : b ≤ ws.length) : (stepW ws W m).getD b 0 = S (ws.length + 1) fun a => if fl ws m a b = true then W.getD a 0 else 0 := by
  rw [stepW_get ws W m b h]
  unfold fitsL
  rw [sum_filter]
  show S (b + 1) _ = _
  rw [S_congr (g := fun a => if fl ws m a b = true then W.getD a 0 else 0) fun a ha => ?_]
  · refine S_ext (by omega) _ fun a h1 h2 => if_neg ?_
    unfold fl
    rw [Bool.and_eq_true, decide_eq_true_eq]
    omega
  · have : (decide (a = b) || decide ((ends ws b : Int) - ends ws a ≤ (m : Int) + 1)) = fl ws m a b := by
      unfold fl
      rw [decide_eq_true (show a ≤ b by omega), Bool.true_and]
      congr 1
      rw [decide_eq_decide]
      omega
    rw [this]
theorem S_split (a n : Nat) (g : Nat → Nat) : S (a + n) g = S a g + S n fun k => g (a + k) := by
  induction n with
  | zero => simp [S]
  | succ n ih => rw [← Nat.add_assoc, S_succ, ih, S_succ]; omega
theorem stg_S (ws : List (List Nat)) (m : Nat) (ms : List Nat) : (stg (m :: ms) ws).length = S (ws.length + 1) fun k => if siz (ws.take k) ≤ m then (stg ms (ws.drop k)).length else 0 := by
  rw [stg, List.length_flatMap]
  unfold S
  congr 1
  refine List.map_congr_left fun k _ => ?_
  by_cases g : siz (ws.take k) ≤ m
  · rw [if_pos g, if_pos g, List.length_map]
  · rw [if_neg g, if_neg g]; rfl
theorem fl_siz (ws : List (List Nat)) (m a k : Nat) (h : a + k ≤ ws.length) : fl ws m a (a + k) = decide (siz ((ws.drop a).take k) ≤ m) := by
  unfold fl
  rw [decide_eq_true (show a ≤ a + k by omega), Bool.true_and]
  by_cases g : k = 0
  · subst g
    rw [decide_eq_true (show a = a + 0 by omega), Bool.true_or]
    exact (decide_eq_true (Nat.zero_le _)).symm
  · rw [decide_eq_false (show ¬ a = a + k by omega), Bool.false_or, decide_eq_decide]
    have := siz_fit ws (a := a) (b := a + k) (m := m) (by omega) h
    rw [show a + k - a = k by omega] at this
    exact this.symm
theorem ways_sum (ws : List (List Nat)) : ∀ (ms : List Nat) (W : List Nat), (ms.foldl (stepW ws) W).getD ws.length 0 = S (ws.length + 1) fun a => W.getD a 0 * (stg ms (ws.drop a)).length
  | [], W => by
    rw [S_succ, S_congr (g := fun _ => 0) fun a ha => ?_, S_zero, Nat.zero_add, List.drop_length]
    · show _ = _ * 1
      rw [Nat.mul_one]; rfl
    · have : ws.drop a ≠ [] := by
        intro e
        have := congrArg List.length e
        rw [List.length_drop, List.length_nil] at this
        omega
      rw [stg, if_neg this]
      simp
  | m :: ms, W => by
    show (ms.foldl (stepW ws) (stepW ws W m)).getD _ _ = _
    rw [ways_sum ws ms]
    rw [S_congr (g := fun b => S (ws.length + 1) fun a => (if fl ws m a b = true then W.getD a 0 else 0) * (stg ms (ws.drop b)).length) fun b hb => by rw [step_S ws W m b (by omega), S_mul], S_swap]
    refine S_congr fun a ha => ?_
    rw [stg_S, S_mul', List.length_drop]
    have e : ws.length + 1 = a + (ws.length - a + 1) := by omega
    rw [e, S_split, S_congr (n := a) (g := fun _ => 0) fun b hb => ?_, S_zero, Nat.zero_add]
    · refine S_congr fun k hk => ?_
      rw [fl_siz ws m a k (by omega), List.drop_drop]
      by_cases g : siz ((ws.drop a).take k) ≤ m
      · rw [if_pos g, if_pos (by simpa using g)]
      · rw [if_neg g, if_neg (by simpa using g)]; simp
    · rw [if_neg]
      · simp
      · unfold fl
        rw [Bool.and_eq_true, decide_eq_true_eq]
        omega
theorem ways_stg (ms : List Nat) (ws : List (List Nat)) : ways ms ws = (stg ms ws).length := by
  unfold ways waysL
  rw [ways_sum, Nat.add_comm, S_split, S_congr (n := ws.length) (g := fun _ => 0) fun a ha => ?_, S_zero]
  · show (ways0 ws).getD 0 0 * (stg ms (ws.drop 0)).length + 0 = _
    simp [ways0]
  · unfold ways0
    rw [show 1 + a = a + 1 by omega]
    simp [List.getD_eq_getElem?_getD, List.getElem?_replicate, ha]
/-! ### the greedy one is first -/
/-- no rows lay more words on the first lines -/
theorem pre_pos {ws : List (List Nat)} : ∀ {ms : List Nat} {R : List (List (List Nat))} {a a' : Nat}, (R.zip ms).all (fun p => decide (siz p.1 ≤ p.2)) = true → R.length ≤ ms.length → a ≤ a' → a' ≤ ws.length → (∃ Z, R.flatten ++ Z = ws.drop a) → a + R.flatten.length ≤ pos ws ms a'
  | ms, [], a, a', _, _, h, _, _ => by
    have := pos_ge ws ms a'
    simp; omega
  | [], r :: R, _, _, _, hl, _, _, _ => by simp at hl
  | m :: ms, r :: R, a, a', hz, hl, ha, ha', ⟨Z, hZ⟩ => by
    rw [List.zip_cons_cons, List.all_cons, Bool.and_eq_true, decide_eq_true_eq] at hz
    rw [List.flatten_cons, List.append_assoc] at hZ
    have hlen := congrArg List.length hZ
    rw [List.length_append, List.length_drop] at hlen
    have hr : (ws.drop a).take r.length = r := by rw [← hZ, List.take_left]
    have hR : R.flatten ++ Z = ws.drop (a + r.length) := by rw [← List.drop_drop, ← hZ, List.drop_left]
    have h1 : a + r.length ≤ gp ws a m := by
      refine (gp_fit (by omega) (by omega)).2 ?_
      by_cases g : r.length = 0
      · exact .inl (by omega)
      · refine .inr ((siz_fit ws (a := a) (b := a + r.length) (m := m) (by omega) (by omega)).1 ?_)
        rw [Nat.add_sub_cancel_left, hr]
        exact hz.1
    have h2 := gp_mono (ws := ws) ha ha' (Nat.le_refl m)
    have := pre_pos (ms := ms) (R := R) (a := a + r.length) (a' := gp ws a' m) hz.2 (by simpa using hl) (by omega) (gp_le ha') ⟨Z, hR⟩
    rw [List.flatten_cons, List.length_append]
    show _ ≤ pos ws ms (gp ws a' m)
    omega
theorem used_first {ws : List (List Nat)} {ms : List Nat} {R : List (List (List Nat))} (h : R ∈ stg ms ws) : used (rws ws ms 0) ≤ used R := by
  obtain ⟨hl, hf⟩ := mem_stg.1 h
  unfold fitsS at hf
  rw [Bool.and_eq_true, decide_eq_true_eq] at hf
  rw [used_le]
  intro i hi hu
  rw [rws_len] at hi
  rw [rws_get ws ms 0 i hi]
  obtain ⟨u, hu'⟩ : ∃ u, used R = u := ⟨_, rfl⟩
  have hall : (R.take i).flatten = ws := by
    have h1 : (R.drop i).flatten = [] := by
      rw [List.flatten_eq_nil_iff]
      intro r hr
      obtain ⟨j, hj, rfl⟩ := List.getElem_of_mem hr
      rw [List.length_drop] at hj
      rw [List.getElem_drop]
      exact (used_le.1 (Nat.le_refl (used R))) (i + j) (by omega) (by omega)
    have h2 := congrArg List.flatten (List.take_append_drop i R)
    rw [List.flatten_append, h1, List.append_nil, hf.1] at h2
    exact h2
  have hz : ((R.take i).zip (ms.take i)).all (fun p => decide (siz p.1 ≤ p.2)) = true := by
    show (List.zipWith Prod.mk (R.take i) (ms.take i)).all _ = true
    rw [← List.take_zipWith, List.all_eq_true]
    intro p hp
    exact List.all_eq_true.1 hf.2 p (List.mem_of_mem_take hp)
  have h3 := pre_pos (ws := ws) (ms := ms.take i) (R := R.take i) (a := 0) (a' := 0) hz (by rw [List.length_take, List.length_take]; omega) (Nat.le_refl _) (Nat.zero_le _) ⟨[], by rw [List.append_nil, hall]; rfl⟩
  rw [hall] at h3
  rw [List.drop_eq_nil_of_le (by omega)]
  simp
theorem ltL_nD (x y : List Nat) (a b : Nat) : D.ltbL (nD (a :: x)) (nD (b :: y)) = if a = b then D.ltbL (nD x) (nD y) else decide (a < b) := by
  show (if D.eqv (.int (a : Nat)) (.int (b : Nat)) = true then D.ltbL (nD x) (nD y) else decide ((a : Int) < (b : Nat))) = _
  by_cases h : a = b
  · subst h
    have e : D.eqv (.int (a : Nat)) (.int (a : Nat)) = true := by simp [D.eqv]
    rw [if_pos e, if_pos rfl]
  · have e : ¬ D.eqv (.int (a : Nat)) (.int (b : Nat)) = true := by simp [D.eqv]; omega
    rw [if_neg e, if_neg h, decide_eq_decide]
    omega
theorem lex_first {ws : List (List Nat)} : ∀ {ms : List Nat} {R : List (List (List Nat))} {a : Nat}, a ≤ ws.length → R ∈ stg ms (ws.drop a) → D.ltbL (nD ((rws ws ms a).map List.length)) (nD (R.map List.length)) = false
  | [], R, a, _, h => by
    rw [(mem_stg_nil.1 h).2]; rfl
  | m :: ms, R, a, ha, h => by
    obtain ⟨k, T, hk, hs, hT, rfl⟩ := mem_stg_cons.1 h
    rw [List.length_drop] at hk
    rw [List.drop_drop] at hT
    show D.ltbL (nD (((ws.drop a).take (gk m (ws.drop a))).length :: (rws ws ms (gp ws a m)).map List.length)) (nD (((ws.drop a).take k).length :: T.map List.length)) = false
    have hg := gk_le m (ws.drop a)
    rw [List.length_drop] at hg
    rw [List.length_take, List.length_take, List.length_drop, Nat.min_eq_left hg, Nat.min_eq_left hk, ltL_nD]
    have h1 : k ≤ gk m (ws.drop a) := by
      have : a + k ≤ gp ws a m := by
        refine (gp_fit (by omega) (by omega)).2 ?_
        by_cases g : k = 0
        · exact .inl (by omega)
        · refine .inr ((siz_fit ws (a := a) (b := a + k) (m := m) (by omega) (by omega)).1 ?_)
          rw [Nat.add_sub_cancel_left]
          exact hs
      unfold gp at this; omega
    by_cases e : gk m (ws.drop a) = k
    · rw [if_pos e]
      have : gp ws a m = a + k := by unfold gp; omega
      rw [this]
      exact lex_first (by omega) hT
    · rw [if_neg e]
      simp; omega
end In
end
section
set_option linter.all false
set_option maxRecDepth 100000
open Pz
namespace In
variable {tb : Nat → Option Fd} [hb : Has tb]
/-! ### the first words alone -/
theorem ends_take (ws : List (List Nat)) {k b : Nat} (h : b ≤ k) : ends (ws.take k) b = ends ws b := by
  unfold ends
  rw [List.take_take, Nat.min_eq_left h]
theorem pos_first {ws : List (List Nat)} {k : Nat} (hk : k ≤ ws.length) : ∀ (ms : List Nat) {a a' : Nat}, a' ≤ k → min k a ≤ a' → a ≤ ws.length → min k (pos ws ms a) ≤ pos (ws.take k) ms a'
  | [], a, a', _, h, _ => h
  | m :: ms, a, a', ha', h, hal => by
    have hl : (ws.take k).length = k := by rw [List.length_take]; omega
    have hg' : gp (ws.take k) a' m ≤ k := by
      have := gp_le (ws := ws.take k) (a := a') (m := m) (by omega)
      omega
    refine pos_first hk ms (a := gp ws a m) (a' := gp (ws.take k) a' m) hg' ?_ (gp_le hal)
    obtain ⟨b, hb⟩ : ∃ b, min k (gp ws a m) = b := ⟨_, rfl⟩
    rw [hb]
    by_cases g : b ≤ a'
    · exact Nat.le_trans g (gp_ge _ _ _)
    · have hab : a ≤ a' := by omega
      have hb1 : b ≤ gp ws a m := by omega
      have hb2 : b ≤ k := by omega
      refine (gp_fit (by omega) (by omega)).2 (.inr ?_)
      rw [ends_take ws hb2, ends_take ws ha']
      have h1 := (gp_fit (ws := ws) (a := a) (m := m) (b := b) (by omega) (by omega)).1 hb1
      have h2 := ends_le ws hab (by omega)
      rcases h1 with h1 | h1
      · omega
      · omega
theorem stg_take {ws : List (List Nat)} {ms : List Nat} {k : Nat} (hk : k ≤ ws.length) : stg ms (ws.take k) ≠ [] ↔ k ≤ pos ws ms 0 := by
  have hl : (ws.take k).length = k := by rw [List.length_take]; omega
  constructor
  · intro h
    obtain ⟨R, hR⟩ := List.exists_mem_of_ne_nil _ h
    obtain ⟨h1, h2⟩ := mem_stg.1 hR
    unfold fitsS at h2
    rw [Bool.and_eq_true, decide_eq_true_eq] at h2
    have := pre_pos (ws := ws) (ms := ms) (R := R) (a := 0) (a' := 0) h2.2 (by omega) (Nat.le_refl _) (Nat.zero_le _) ⟨ws.drop k, by rw [h2.1, List.take_append_drop]; rfl⟩
    rw [h2.1, hl] at this
    omega
  · intro h e
    have h1 := pos_first hk ms (a := 0) (a' := 0) (Nat.zero_le _) (by omega) (Nat.zero_le _)
    have h2 := pos_le (ws := ws.take k) (ms := ms) (a := 0) (Nat.zero_le _)
    have h3 : pos (ws.take k) ms 0 = (ws.take k).length := by omega
    have h4 := mem_stg.2 ⟨rws_len (ws.take k) ms 0, rws_fits h3⟩
    rw [e] at h4
    cases h4
theorem stg_nil_iff {ws : List (List Nat)} {ms : List Nat} : stg ms ws = [] ↔ pos ws ms 0 ≠ ws.length := by
  have h := stg_take (ws := ws) (ms := ms) (k := ws.length) (Nat.le_refl _)
  rw [List.take_length] at h
  have := pos_le (ws := ws) (ms := ms) (a := 0) (Nat.zero_le _)
  constructor
  · intro e g
    exact h.2 (by omega) e
  · intro g
    exact Decidable.byContradiction fun z => g (by have := h.1 z; omega)
theorem rws_mem {ws : List (List Nat)} {ms : List Nat} (h : pos ws ms 0 = ws.length) : rws ws ms 0 ∈ stg ms ws := mem_stg.2 ⟨rws_len _ _ _, rws_fits h⟩
/-! ### any value, as rows -/
def rowOf : D → Option (List (List Nat))
  | .tup r => strL r
  | _ => none
def rowsL : List D → Option (List (List (List Nat)))
  | [] => some []
  | d :: l => (rowOf d).bind fun r => (rowsL l).map (r :: ·)
def rowsOf : D → Option (List (List (List Nat)))
  | .tup l => rowsL l
  | _ => none
theorem strL_inv : ∀ {l : List D} {r : List (List Nat)}, strL l = some r → l = sD r
  | [], r, h => by cases h; rfl
  | d :: l, r, h => by
    cases d with
    | str w =>
      have h : (strL l).map (w :: ·) = some r := h
      cases e : strL l with
      | none => rw [e] at h; cases h
      | some r' =>
        rw [e] at h
        cases h
        rw [strL_inv e]; rfl
    | _ => cases h
theorem rowOf_inv {d : D} {r : List (List Nat)} (h : rowOf d = some r) : d = .tup (sD r) := by
  cases d with
  | tup l => rw [strL_inv h]
  | _ => cases h
theorem rowsL_inv : ∀ {l : List D} {R : List (List (List Nat))}, rowsL l = some R → l = tD R
  | [], R, h => by cases h; rfl
  | d :: l, R, h => by
    have h : (rowOf d).bind (fun r => (rowsL l).map (r :: ·)) = some R := h
    cases e : rowOf d with
    | none => rw [e] at h; cases h
    | some r =>
      rw [e] at h
      cases e2 : rowsL l with
      | none => rw [e2] at h; cases h
      | some R' =>
        rw [e2] at h
        cases h
        rw [rowOf_inv e, rowsL_inv e2]; rfl
theorem rowsOf_inv {d : D} {R : List (List (List Nat))} (h : rowsOf d = some R) : d = .tup (tD R) := by
  cases d with
  | tup l => rw [rowsL_inv h]
  | _ => cases h
theorem rowOf_sD (r : List (List Nat)) : rowOf (.tup (sD r)) = some r := strL_sD r
theorem rowsOf_tD : ∀ R : List (List (List Nat)), rowsOf (.tup (tD R)) = some R
  | [] => rfl
  | r :: R => by
    show (rowOf (.tup (sD r))).bind (fun r => (rowsL (tD R)).map (r :: ·)) = _
    have ih : rowsL (tD R) = some R := rowsOf_tD R
    rw [rowOf_sD, ih]; rfl
/-- equal to rows is being these rows -/
theorem eqvL_sD : ∀ {l : List D} {r : List (List Nat)}, D.eqvL (sD r) l = true → l = sD r
  | [], [], _ => rfl
  | [], _ :: _, h => by cases h
  | _ :: _, [], h => by cases h
  | d :: l, w :: r, h => by
    have h : (D.eqv (.str w) d && D.eqvL (sD r) l) = true := h
    rw [Bool.and_eq_true] at h
    have h1 : d = .str w := by
      cases d with
      | str x =>
        have : (w == x) = true := h.1
        rw [eq_of_beq this]
      | _ => cases h.1
    rw [h1, eqvL_sD h.2]; rfl
theorem eqvL_tD : ∀ {l : List D} {R : List (List (List Nat))}, D.eqvL (tD R) l = true → l = tD R
  | [], [], _ => rfl
  | [], _ :: _, h => by cases h
  | _ :: _, [], h => by cases h
  | d :: l, r :: R, h => by
    have h : (D.eqv (.tup (sD r)) d && D.eqvL (tD R) l) = true := h
    rw [Bool.and_eq_true] at h
    have h1 : d = .tup (sD r) := by
      cases d with
      | tup x => rw [eqvL_sD (show D.eqvL (sD r) x = true from h.1)]
      | _ => cases h.1
    rw [h1, eqvL_tD h.2]; rfl
theorem eqvL_sD_refl : ∀ r : List (List Nat), D.eqvL (sD r) (sD r) = true
  | [] => rfl
  | w :: r => by
    show (D.eqv (.str w) (.str w) && D.eqvL (sD r) (sD r)) = true
    rw [eqvL_sD_refl r, Bool.and_true]
    show (w == w) = true
    simp
theorem eqvL_tD_refl : ∀ R : List (List (List Nat)), D.eqvL (tD R) (tD R) = true
  | [] => rfl
  | r :: R => by
    show (D.eqvL (sD r) (sD r) && D.eqvL (tD R) (tD R)) = true
    rw [eqvL_sD_refl, eqvL_tD_refl R]; rfl
theorem tD_inj {R T : List (List (List Nat))} (h : tD R = tD T) : R = T := by
  have h1 := rowsOf_tD R
  rw [h, rowsOf_tD T] at h1
  exact (Option.some.inj h1).symm
def isIn (l : List (List (List (List Nat)))) (v : D) : Bool := match rowsOf v with
  | some R => decide (R ∈ l)
  | none => false
theorem inL_sG (l : List (List (List (List Nat)))) (v : D) : inL v (sG l) = isIn l v := by
  unfold inL isIn sG
  rw [List.any_map]
  cases e : rowsOf v with
  | none =>
    show l.any _ = false
    rw [List.any_eq_false]
    intro R hR h
    have : v = .tup (tD R) := by
      cases v with
      | tup x => rw [eqvL_tD (show D.eqvL (tD R) x = true from h)]
      | _ => cases h
    rw [this, rowsOf_tD] at e
    cases e
  | some R =>
    have hv := rowsOf_inv e
    show l.any _ = decide (R ∈ l)
    rw [Bool.eq_iff_iff, List.any_eq_true, decide_eq_true_eq]
    constructor
    · rintro ⟨T, hT, h⟩
      rw [hv] at h
      have := tD_inj (eqvL_tD (show D.eqvL (tD T) (tD R) = true from h))
      rw [this]; exact hT
    · intro h
      exact ⟨R, h, by rw [hv]; exact eqvL_tD_refl R⟩
/-! ### whether any value is a setting -/
/-- None, an int, a text -/
def leafE : D → Bool
  | .non => true
  | .int _ => true
  | .str _ => true
  | _ => false
/-- what may stand as a row -/
def leafR : D → Bool
  | .tup r => decide (r.length ≤ 1000) && r.all leafE
  | .lst r => decide (r.length ≤ 1000) && r.all leafE
  | d => leafE d
def leafV : D → Bool
  | .tup r => decide (r.length ≤ 1000) && r.all leafR
  | .lst r => decide (r.length ≤ 1000) && r.all leafR
  | d => leafE d
theorem isi_tupR {d : D} (h : leafR d = true) : ∃ b, isiD .tup d = some b ∧ (b = true ↔ ∃ r, d = .tup r) := by
  cases d with
  | tup r => exact ⟨true, rfl, by simp⟩
  | non => exact ⟨false, rfl, by simp⟩
  | int i => exact ⟨false, rfl, by simp⟩
  | str i => exact ⟨false, rfl, by simp⟩
  | lst i => exact ⟨false, rfl, by simp⟩
  | _ => cases h
end In
end
section
set_option linter.all false
set_option maxRecDepth 100000
open Pz
namespace In
variable {tb : Nat → Option Fd} [hb : Has tb]
def strB : D → Bool
  | .str _ => true
  | _ => false
def tupB : D → Bool
  | .tup _ => true
  | _ => false
def rowB : D → Bool
  | .tup r => r.all strB
  | _ => false
theorem strL_of : ∀ {r : List D}, r.all strB = true → ∃ x, strL r = some x
  | [], _ => ⟨[], rfl⟩
  | d :: r, h => by
    rw [List.all_cons, Bool.and_eq_true] at h
    obtain ⟨x, e⟩ := strL_of h.2
    cases d with
    | str w => exact ⟨w :: x, by show (strL r).map (w :: ·) = _; rw [e]; rfl⟩
    | _ => cases h.1
theorem rowsL_of : ∀ {l : List D}, l.all rowB = true → ∃ R, rowsL l = some R
  | [], _ => ⟨[], rfl⟩
  | d :: l, h => by
    rw [List.all_cons, Bool.and_eq_true] at h
    obtain ⟨R, e⟩ := rowsL_of h.2
    cases d with
    | tup r =>
      obtain ⟨x, ex⟩ := strL_of (show r.all strB = true from h.1)
      exact ⟨x :: R, by show (strL r).bind (fun r => (rowsL l).map (r :: ·)) = _; rw [ex, e]; rfl⟩
    | _ => cases h.1
theorem rowsL_len : ∀ {l : List D} {R : List (List (List Nat))}, rowsL l = some R → R.length = l.length := fun {l R} h => by rw [rowsL_inv h, tD_len]
theorem isi_E {d : D} (h : leafE d = true) : isiD .str d = some (strB d) := by
  cases d <;> first | rfl | cases h
theorem isi_R {d : D} (h : leafR d = true) : isiD .tup d = some (tupB d) := by
  cases d <;> first | rfl | cases h
theorem isi_V {d : D} (h : leafV d = true) : isiD .tup d = some (tupB d) := by
  cases d <;> first | rfl | cases h
theorem drf_R {d : D} (h : leafR d = true) (B : List D) : drf B d = d := by
  cases d <;> first | rfl | cases h
theorem drf_E {d : D} (h : leafE d = true) (B : List D) : drf B d = d := by
  cases d <;> first | rfl | cases h
theorem drf_V {d : D} (h : leafV d = true) (B : List D) : drf B d = d := by
  cases d <;> first | rfl | cases h
theorem m_not_tuple (n : Nat) (d lo hi : D) (hd : leafV d = true) (ht : tupB d = false) (B : List D) : Pz.run tb (n + 1) 12 [d, lo, hi] B = .ok (.bl false, B) := by
  rw [run_succ (h := hb.h_is_tuple_of) (hl := rfl)]
  have h1 := isi_V hd
  rw [ht] at h1
  simp -implicitDefEqProofs [b_is_tuple_of, Pz.start, frzAll, frzS, drf_V hd, h1]
def fitsA (ms : List Nat) (ws : List (List Nat)) (v : D) : Bool := match rowsOf v with
  | some R => decide (R.length = ms.length) && fitsS ms ws R
  | none => false
theorem blL_map' {α : Type} (f : α → Bool) (l : List α) : blL (l.map fun d => D.bl (f d)) = some (l.map f) := blL_map f l
theorem m_fits_any (n : Nat) (ms : List Nat) (ws : List (List Nat)) (hm : ms.length ≤ 1000) (v : D) (hv : leafV v = true) (B : List D) :
    Pz.run tb (n + 2) 20 [.tup (nD ms), .tup (sD ws), v] B = .ok (.bl (fitsA ms ws v), B) := by
  have hnl : ((nD ms).length : Int) = ms.length := by rw [nD_len]
  by_cases ht : tupB v = true
  · obtain ⟨l, rfl⟩ : ∃ l, v = .tup l := by cases v <;> first | exact ⟨_, rfl⟩ | cases ht
    have hv' : (decide (l.length ≤ 1000) && l.all leafR) = true := hv
    rw [Bool.and_eq_true, decide_eq_true_eq] at hv'
    have hR : ∀ d ∈ l, leafR d = true := fun d hd => List.all_eq_true.1 hv'.2 d hd
    by_cases hl : l.length = ms.length
    · cases e : rowsL l with
      | some R =>
        have hlt := rowsL_inv e
        subst hlt
        have hRl : R.length = ms.length := by rw [← hl, tD_len]
        have : fitsA ms ws (.tup (tD R)) = fitsS ms ws R := by
          unfold fitsA
          rw [rowsOf_tD]
          show (decide (R.length = ms.length) && fitsS ms ws R) = _
          rw [decide_eq_true hRl, Bool.true_and]
        rw [this]
        refine m_fits_setting n ms ws R hRl hm (fun r hr => ?_) B
        have := hR (.tup (sD r)) (List.mem_map.2 ⟨r, hr, rfl⟩)
        have this : (decide ((sD r).length ≤ 1000) && (sD r).all leafE) = true := this
        rw [Bool.and_eq_true, decide_eq_true_eq, sD_len] at this
        exact this.1
      | none =>
        have : fitsA ms ws (.tup l) = false := by
          unfold fitsA
          show (match rowsL l with | some R => _ | none => false) = false
          rw [e]
        rw [this, show n + 2 = (n + 1) + 1 from rfl, run_succ (h := hb.h_fits_setting) (hl := rfl)]
        have e1 := m_is_tuple_of (tb := tb) n l (ms.length : Nat) (ms.length : Nat) B
        have q1 : decide (((ms.length : Nat) : Int) ≤ l.length ∧ (l.length : Int) ≤ (ms.length : Nat)) = true := by simp; omega
        rw [q1] at e1
        have l1 : lcLoop (Pz.turn (Pz.run tb (n + 1)) [.val (.tup (nD ms)), .val (.tup (sD ws)), .val (.tup l), .no, .no, .no] (.nm 3) (.cst (.bl true)) (.isi (.var 3) .tup)) (l.map id) B = .ok (l.map fun d => .bl (tupB d), B) :=
          lcLoop_all (c := id) fun d hd => by
            have h1 := isi_R (hR d hd)
            simp -implicitDefEqProofs [turn_eq, wipeS, Tg.names, drf_R (hR d hd), h1]
        rw [List.map_id] at l1
        have hln : l.length ≤ ln := by show _ ≤ 16777216; omega
        have hb1 := blL_map' tupB l
        have ha1 : (l.map tupB).all id = l.all tupB := by rw [List.all_map]; rfl
        by_cases g : l.all tupB = true
        · have g2 : l.all rowB = false := by
            cases g2 : l.all rowB with
            | false => rfl
            | true =>
              obtain ⟨R, e2⟩ := rowsL_of g2
              rw [e] at e2; cases e2
          have l2 : lcLoop (Pz.turn (Pz.run tb (n + 1)) [.val (.tup (nD ms)), .val (.tup (sD ws)), .val (.tup l), .no, .no, .no] (.nm 3) (.cst (.bl true)) (.bi .all (.cons (.lc (.nm 5) (.var 3) (.cst (.bl true)) (.isi (.var 5) .str)) (.nil)))) (l.map id) B = .ok (l.map fun d => .bl (rowB d), B) :=
            lcLoop_all (c := id) fun d hd => by
              have h1 := List.all_eq_true.1 g d hd
              obtain ⟨r, rfl⟩ : ∃ r, d = .tup r := by cases d <;> first | exact ⟨_, rfl⟩ | cases h1
              have h2 : (decide (r.length ≤ 1000) && r.all leafE) = true := hR _ hd
              rw [Bool.and_eq_true, decide_eq_true_eq] at h2
              have l3 : lcLoop (Pz.turn (Pz.run tb (n + 1)) [.val (.tup (nD ms)), .val (.tup (sD ws)), .val (.tup l), .val (.tup r), .no, .no] (.nm 5) (.cst (.bl true)) (.isi (.var 5) .str)) (r.map id) B = .ok (r.map fun d => .bl (strB d), B) :=
                lcLoop_all (c := id) fun e he => by
                  have h3 := List.all_eq_true.1 h2.2 e he
                  simp -implicitDefEqProofs [turn_eq, wipeS, Tg.names, drf_E h3, isi_E h3]
              rw [List.map_id] at l3
              have hln : r.length ≤ ln := by show _ ≤ 16777216; omega
              have hb3 := blL_map' strB r
              have ha3 : (r.map strB).all id = r.all strB := by rw [List.all_map]; rfl
              simp -implicitDefEqProofs [turn_eq, wipeS, Tg.names, l3, hln, hb3, ha3, rowB]
          rw [List.map_id] at l2
          have hb2 := blL_map' rowB l
          have ha2 : (l.map rowB).all id = l.all rowB := by rw [List.all_map]; rfl
          simp -implicitDefEqProofs [b_fits_setting, Pz.start, e1, hnl, l1, l2, hln, hb1, hb2, ha1, ha2, g, g2, frzAll, frzS]
        · have g' : l.all tupB = false := by simpa using g
          simp -implicitDefEqProofs [b_fits_setting, Pz.start, e1, hnl, l1, hln, hb1, ha1, g', frzAll, frzS]
    · have : fitsA ms ws (.tup l) = false := by
        unfold fitsA
        show (match rowsL l with | some R => _ | none => false) = false
        cases e : rowsL l with
        | none => rfl
        | some R =>
          show (decide (R.length = ms.length) && _) = false
          rw [decide_eq_false (by rw [rowsL_len e]; exact hl), Bool.false_and]
      rw [this, show n + 2 = (n + 1) + 1 from rfl, run_succ (h := hb.h_fits_setting) (hl := rfl)]
      have e1 := m_is_tuple_of (tb := tb) n l (ms.length : Nat) (ms.length : Nat) B
      have q1 : decide (((ms.length : Nat) : Int) ≤ l.length ∧ (l.length : Int) ≤ (ms.length : Nat)) = false := by simp; omega
      rw [q1] at e1
      simp -implicitDefEqProofs [b_fits_setting, Pz.start, e1, hnl, frzAll, frzS]
  · have ht' : tupB v = false := by simpa using ht
    have : fitsA ms ws v = false := by
      unfold fitsA
      cases v <;> first | rfl | exact absurd rfl ht
    rw [this, show n + 2 = (n + 1) + 1 from rfl, run_succ (h := hb.h_fits_setting) (hl := rfl)]
    have e1 := m_not_tuple (tb := tb) n v (.int (ms.length : Nat)) (.int (ms.length : Nat)) hv ht' B
    simp -implicitDefEqProofs [b_fits_setting, Pz.start, e1, hnl, drf_V hv, frzAll, frzS]
theorem m_is_setting_any (n : Nat) (ms : List Nat) (hm : okM ms) (ws : List (List Nat)) (hw : okW ws) (v : D) (hv : leafV v = true) (B : List D) :
    Pz.run tb (n + 5) 24 [.tup (nD ms), .tup (sD ws), v] B = .ok (.bl (fitsA ms ws v), B) := by
  rw [show n + 5 = (n + 4) + 1 from rfl, run_succ (h := hb.h_is_setting) (hl := rfl)]
  have e := m_fits_any (tb := tb) (n + 2) ms ws (by have := hm.few; omega) v hv B
  have e2 := m_need_both (tb := tb) n ms hm ws hw B
  simp -implicitDefEqProofs [b_is_setting, Pz.start, e, e2, frzAll, frzS]
theorem fitsA_isIn (ms : List Nat) (ws : List (List Nat)) (v : D) : fitsA ms ws v = isIn (stg ms ws) v := by
  unfold fitsA isIn
  cases rowsOf v with
  | none => rfl
  | some R =>
    show (decide (R.length = ms.length) && fitsS ms ws R) = decide (R ∈ stg ms ws)
    rw [Bool.eq_iff_iff, Bool.and_eq_true, decide_eq_true_eq, decide_eq_true_eq, mem_stg]
/-- how many signs are left -/
def rag (ms : List Nat) (R : List (List (List Nat))) : List Int := (R.zip ms).map fun p => (p.2 : Int) - siz p.1
theorem m_raggedness (n : Nat) (ms : List Nat) (hm : okM ms) (ws : List (List Nat)) (hw : okW ws) (R : List (List (List Nat))) (hR : R ∈ stg ms ws) (hr : ∀ r ∈ R, r.length ≤ 1000) (B : List D) :
    Pz.run tb (n + 5) 28 [.tup (nD ms), .tup (sD ws), .tup (tD R)] B = .ok (.tup ((rag ms R).map .int), B) := by
  rw [show n + 5 = (n + 4) + 1 from rfl, run_succ (h := hb.h_raggedness) (hl := rfl)]
  obtain ⟨h1, h2⟩ := mem_stg.1 hR
  have hml := hm.few
  have e := m_fits_setting (tb := tb) (n + 2) ms ws R h1 (by omega) hr B
  rw [h2] at e
  have e2 := m_need_both (tb := tb) n ms hm ws hw B
  have l1 : lcLoop (Pz.turn (Pz.run tb (n + 4)) [.val (.tup (nD ms)), .val (.tup (sD ws)), .val (.tup (tD R)), .no, .no] (.tp (.cons (.nm 3) (.cons (.nm 4) (.nil)))) (.cst (.bl true)) (.bin .sub (.var 4) (.call 17 (.cons (.var 3) (.nil))))) (zipL (tD R) (nD ms)) B = .ok ((rag ms R).map .int, B) := by
    rw [zip_tn]
    unfold rag
    rw [List.map_map]
    refine lcLoop_all (c := fun p : List (List Nat) × Nat => D.tup [.tup (sD p.1), .int (p.2 : Nat)]) (g := fun p => .int ((p.2 : Int) - siz p.1)) fun p hp => ?_
    have e := m_size_of (tb := tb) (n + 3) p.1 (hr _ (List.of_mem_zip hp).1) B
    simp -implicitDefEqProofs [turn_eq, wipeS, Tg.names, Tgs.names, e]
  have hz : zipD (.tup (tD R)) (.tup (nD ms)) = some (zipL (tD R) (nD ms)) := rfl
  have hln3 : (zipL (tD R) (nD ms)).length ≤ ln := by show _ ≤ 16777216; rw [zip_tn]; simp; omega
  simp -implicitDefEqProofs [b_raggedness, Pz.start, e, e2, l1, hz, hln3, frzAll, frzS]
end In
end
section
set_option linter.all false
set_option maxRecDepth 100000
open Pz
namespace In
variable {tb : Nat → Option Fd} [hb : Has tb]
theorem m_law_used (n : Nat) (R : List (List (List Nat))) (hR : R.length ≤ 1000) (B : List D) : Pz.run tb (n + 1) 32 [.tup (tD R)] B = .ok (.int (used R : Nat), B) := by
  rw [run_succ (h := hb.h__law_used) (hl := rfl)]
  have l1 : lcLoop (Pz.turn (Pz.run tb n) [.val (.tup (tD R)), .no, .no] (.tp (.cons (.nm 1) (.cons (.nm 2) (.nil)))) (.cmp .ne (.var 2) (.tup (.nil))) (.bin .add (.var 1) (.cst (.int 1)))) (enmL (tD R)) B
      = .ok (nD (usedL R), B) := by
    have : nD (usedL R) = (R.zipIdx.filter fun p => !decide (p.1 = [])).map fun p => .int ((p.2 : Int) + 1) := by
      unfold nD usedL
      rw [List.map_map]; rfl
    rw [this, enm_tD]
    refine lcLoop_some (c := fun p : List (List Nat) × Nat => D.tup [.int (p.2 : Nat), .tup (sD p.1)]) (g := fun p => D.int ((p.2 : Int) + 1)) (t := fun p => !decide (p.1 = [])) fun p hp => ?_
    have q := eqD_sD p.1 []
    have q : eqD (.tup (sD p.1)) (.tup []) = some (decide (p.1 = [])) := q
    have h0l : 0 ≤ ln := by show 0 ≤ 16777216; omega
    by_cases h : p.1 = []
    · obtain ⟨p1, p2⟩ := p
      have h : p1 = [] := h
      subst h
      have q0 : eqD (.tup []) (.tup []) = some true := rfl
      have s0 : sD [] = [] := rfl
      simp -implicitDefEqProofs [turn_eq, wipeS, Tg.names, Tgs.names, opC_ne, s0, q0, h0l]
    · have hd : decide (p.1 = []) = false := by simpa using h
      rw [hd] at q
      simp -implicitDefEqProofs [turn_eq, wipeS, Tg.names, Tgs.names, opC_ne, q, hd, h0l, h]
  have hln : (enmL (tD R)).length ≤ ln := by show _ ≤ 16777216; rw [enm_tD]; simp; omega
  have hul : (usedL R).length ≤ R.length := by
    unfold usedL
    rw [List.length_map]
    exact Nat.le_trans (List.length_filter_le _ _) (by simp)
  have hln2 : (nD (usedL R)).length + 1 ≤ ln := by show _ ≤ 16777216; rw [nD_len]; omega
  have h1l : 1 ≤ ln := by show 1 ≤ 16777216; omega
  have hi : intL (nD (usedL R) ++ [.int 0]) = some ((usedL R ++ [0]).map fun (a : Nat) => (a : Int)) := by
    rw [← intL_nD]; simp [nD]
  have hmx : ((usedL R).map (fun (a : Nat) => (a : Int)) ++ [(0 : Int)]).max? = some ((used R : Nat) : Int) := by
    have := max_nD (usedL R)
    rw [List.map_append] at this
    exact this
  simp -implicitDefEqProofs [b__law_used, Pz.start, l1, hln, hln2, h1l, hi, hmx, frzAll, frzS]
/-! ### values near a setting -/
theorem leafV_tup {l : List D} (h : l.length ≤ 1000) (h2 : ∀ d ∈ l, leafR d = true) : leafV (.tup l) = true := by
  show (decide (l.length ≤ 1000) && l.all leafR) = true
  rw [Bool.and_eq_true, decide_eq_true_eq, List.all_eq_true]
  exact ⟨h, h2⟩
theorem leafV_lst {l : List D} (h : l.length ≤ 1000) (h2 : ∀ d ∈ l, leafR d = true) : leafV (.lst l) = true := by
  show (decide (l.length ≤ 1000) && l.all leafR) = true
  rw [Bool.and_eq_true, decide_eq_true_eq, List.all_eq_true]
  exact ⟨h, h2⟩
theorem leafR_tup {l : List D} (h : l.length ≤ 1000) (h2 : ∀ d ∈ l, leafE d = true) : leafR (.tup l) = true := by
  show (decide (l.length ≤ 1000) && l.all leafE) = true
  rw [Bool.and_eq_true, decide_eq_true_eq, List.all_eq_true]
  exact ⟨h, h2⟩
theorem leafR_lst {l : List D} (h : l.length ≤ 1000) (h2 : ∀ d ∈ l, leafE d = true) : leafR (.lst l) = true := by
  show (decide (l.length ≤ 1000) && l.all leafE) = true
  rw [Bool.and_eq_true, decide_eq_true_eq, List.all_eq_true]
  exact ⟨h, h2⟩
theorem sD_leaf (r : List (List Nat)) : ∀ d ∈ sD r, leafE d = true := fun d hd => by
  obtain ⟨w, _, rfl⟩ := List.mem_map.1 hd
  rfl
theorem sD_leafR (r : List (List Nat)) : ∀ d ∈ sD r, leafR d = true := fun d hd => by
  obtain ⟨w, _, rfl⟩ := List.mem_map.1 hd
  rfl
theorem tD_leaf {R : List (List (List Nat))} (h : ∀ r ∈ R, r.length ≤ 1000) : ∀ d ∈ tD R, leafR d = true := fun d hd => by
  obtain ⟨r, hr, rfl⟩ := List.mem_map.1 hd
  exact leafR_tup (by rw [sD_len]; exact h r hr) (sD_leaf r)
theorem cutL_mem {γ : Type} {l : List γ} {a b : Option Int} {d : γ} (h : d ∈ cutL l a b) : d ∈ l := by
  unfold cutL at h
  exact List.mem_of_mem_drop (List.mem_of_mem_take h)
theorem cutL_len {γ : Type} (l : List γ) (a b : Option Int) : (cutL l a b).length ≤ l.length := by
  unfold cutL
  rw [List.length_take, List.length_drop]; omega
theorem m_near (n : Nat) (R : List (List (List Nat))) (h0 : 0 < R.length) (hR : R.length ≤ 40) (hr : ∀ r ∈ R, r.length ≤ 60) (hr2 : ∀ r ∈ R, ∀ w ∈ r, w.length ≤ 30) (ws : List (List Nat)) (hw : ws.length ≤ 60) (B : List D) (hB : okB B) :
    Wp (Pz.run tb (n + 2) 33 [.box 0, .tup (tD R), .tup (sD ws)] B) fun x => ∃ L, x.1 = .lst L ∧ (∀ v ∈ L, leafV v = true) ∧ L.length ≤ 100 ∧ okB x.2 := by
  refine wp_run (h := hb.h__law_near) (by omega) rfl ?_
  have hrk : ∀ r ∈ R, r.length ≤ 1000 := fun r h => by have := hr r h; omega
  have hTl : (tD R).length = R.length := tD_len R
  have hsl : (sD ws).length = ws.length := sD_len ws
  have l10 : 10 ≤ ln := by show 10 ≤ 16777216; omega
  have l2 : 2 ≤ ln := by show 2 ≤ 16777216; omega
  have l1 : 1 ≤ ln := by show 1 ≤ 16777216; omega
  have l0 : 0 ≤ ln := by show 0 ≤ 16777216; omega
  have k1 : (tD R).length + 1 ≤ ln := by show _ ≤ 16777216; omega
  have hmul : opB .mul (.tup [.tup []]) (.int ((R.length : Int) - 1)) = some (.tup (List.replicate (R.length - 1) (.tup []))) := by
    rw [opB_mulT, if_pos]
    · congr 2
      unfold rep
      have : ∀ m : Nat, (List.replicate m [D.tup []]).flatten = List.replicate m (D.tup []) := by
        intro m
        induction m with
        | zero => rfl
        | succ m ih => rw [List.replicate_succ, List.flatten_cons, ih]; rfl
      rw [show ((R.length : Int) - 1).toNat = R.length - 1 by omega, this]
    · have : R.length - 1 ≤ ln := by show _ ≤ 16777216; omega
      simp; omega
  have k2 : 1 + (R.length - 1) ≤ ln := by show _ ≤ 16777216; omega
  have k2' : (R.length - 1) + 1 ≤ ln := by show _ ≤ 16777216; omega
  obtain ⟨L1, hL1⟩ : ∃ L1 : List D, L1 = [.tup (tD R), .tup (tD R).reverse, .lst (tD R), .tup (cutL (tD R) (some 1) none), .tup (tD R ++ [.tup []]), .non, .tup [], .str [114, 111, 119, 115], .tup (sD ws), .tup (.tup (sD ws) :: List.replicate (R.length - 1) (.tup []))] := ⟨_, rfl⟩
  have hTi : ((tD R).length : Int) = R.length := by rw [hTl]
  refine wp_next (σ' := [.val (.box 0), .val (.tup (tD R)), .val (.tup (sD ws)), .own (.lst L1), .no, .no, .no, .no]) (B' := B) (by
    rw [hL1]
    simp -implicitDefEqProofs [Pz.start, revD, k1, k2, k2', hmul, hTi, l10, l1, l0, -opB_mulT]) ?_
  obtain ⟨a, B1, ha, hB1, e1⟩ := hb.roll_ (n + 1) B (R.length : Nat) (by omega) (by omega) (by omega) hB
  have ha' : a < R.length := by omega
  refine wp_next (σ' := [.val (.box 0), .val (.tup (tD R)), .val (.tup (sD ws)), .own (.lst L1), .val (.int (a : Nat)), .no, .no, .no]) (B' := B1) (by
    simp -implicitDefEqProofs [hTi, e1]) ?_
  obtain ⟨r, hre⟩ : ∃ r, R[a] = r := ⟨_, rfl⟩
  have hrm : r ∈ R := by rw [← hre]; exact List.getElem_mem ha'
  have hrl := hr r hrm
  have a1 : atI (tD R) (a : Int) = some (.tup (sD r)) := by
    rw [atI_nat _ a (by rw [hTl]; exact ha')]
    simp [tD, hre]
  refine wp_next (σ' := [.val (.box 0), .val (.tup (tD R)), .val (.tup (sD ws)), .own (.lst L1), .val (.int (a : Nat)), .val (.tup (sD r)), .no, .no]) (B' := B1) (by
    simp -implicitDefEqProofs [a1]) ?_
  have hrs : (sD r).length = r.length := sD_len r
  have hj : bi_join [.str [32], .lst (sD r)] = some (.str (joinS [32] r)) := by
    show (strL (sD r)).bind _ = _
    rw [strL_sD]
    show (if _ then some (D.str (joinS [32] r)) else none) = _
    rw [if_pos]
    have : ∀ l : List (List Nat), (∀ w ∈ l, w.length ≤ 30) → (l.map List.length).sum ≤ l.length * 30 := by
      intro l
      induction l with
      | nil => intro _; simp
      | cons w l ih =>
        intro h
        have h1 := h w (by simp)
        have h2 := ih fun v hv => h v (by simp [hv])
        simp only [List.map_cons, List.sum_cons, List.length_cons, Nat.succ_mul]
        omega
    have h1 := this r (hr2 r hrm)
    have h1 : (r.map fun x => x.length).sum ≤ r.length * 30 := h1
    simp only [List.length_cons, List.length_nil]
    omega
  have k3 : (sD r).length + 1 ≤ ln := by show _ ≤ 16777216; omega
  have k4 : (sD r).length + (cutL (sD r) (some (-1)) none).length ≤ ln := by show _ ≤ 16777216; have := cutL_len (sD r) (some (-1)) none; omega
  obtain ⟨O, hO⟩ : ∃ O : List D, O = [.lst (sD r), .tup (cutL (sD r) (some 1) none), .tup (sD r).reverse, .tup (sD r ++ [.str [97]]), .non, .tup [.non], .str (joinS [32] r), .tup (sD r ++ cutL (sD r) (some (-1)) none), .tup [.int 5], .tup [.str []]] := ⟨_, rfl⟩
  refine wp_next (σ' := [.val (.box 0), .val (.tup (tD R)), .val (.tup (sD ws)), .own (.lst L1), .val (.int (a : Nat)), .val (.tup (sD r)), .val (.lst O), .no]) (B' := B1) (by
    rw [hO]
    simp -implicitDefEqProofs [revD, k3, k4, hj, recv, l10, l1, l0]) ?_
  have hOl : ∀ d ∈ O, leafR d = true := by
    intro d hd
    rw [hO] at hd
    simp only [List.mem_cons, List.not_mem_nil, or_false] at hd
    have hs := sD_leaf r
    rcases hd with rfl | rfl | rfl | rfl | rfl | rfl | rfl | rfl | rfl | rfl
    · exact leafR_lst (by omega) hs
    · exact leafR_tup (by have := cutL_len (sD r) (some 1) none; omega) fun d h => hs d (cutL_mem h)
    · exact leafR_tup (by rw [List.length_reverse]; omega) fun d h => hs d (List.mem_reverse.1 h)
    · exact leafR_tup (by rw [List.length_append]; simp; omega) fun d h => by
        rcases List.mem_append.1 h with h | h
        · exact hs d h
        · rw [List.mem_singleton] at h; subst h; rfl
    · rfl
    · rfl
    · rfl
    · exact leafR_tup (by rw [List.length_append]; have := cutL_len (sD r) (some (-1)) none; omega) fun d h => by
        rcases List.mem_append.1 h with h | h
        · exact hs d h
        · exact hs d (cutL_mem h)
    · rfl
    · rfl
  have hOn : O.length = 10 := by rw [hO]; rfl
  have hT := tD_leaf hrk
  have hL1l : ∀ v ∈ L1, leafV v = true := by
    intro d hd
    rw [hL1] at hd
    simp only [List.mem_cons, List.not_mem_nil, or_false] at hd
    rcases hd with rfl | rfl | rfl | rfl | rfl | rfl | rfl | rfl | rfl | rfl
    · exact leafV_tup (by omega) hT
    · exact leafV_tup (by rw [List.length_reverse]; omega) fun d h => hT d (List.mem_reverse.1 h)
    · exact leafV_lst (by omega) hT
    · exact leafV_tup (by have := cutL_len (tD R) (some 1) none; omega) fun d h => hT d (cutL_mem h)
    · exact leafV_tup (by rw [List.length_append]; simp; omega) fun d h => by
        rcases List.mem_append.1 h with h | h
        · exact hT d h
        · rw [List.mem_singleton] at h; subst h; rfl
    · rfl
    · rfl
    · rfl
    · exact leafV_tup (by omega) (sD_leafR ws)
    · exact leafV_tup (by simp; omega) fun d h => by
        rcases List.mem_cons.1 h with rfl | h
        · exact leafR_tup (by omega) (sD_leaf ws)
        · rw [List.eq_of_mem_replicate h]; rfl
  have hL1n : L1.length = 10 := by rw [hL1]; rfl
  have c1 : cutL (tD R) none (some (a : Int)) = tD (R.take a) := by rw [cutL_to]; simp [tD]
  have c2 : cutL (tD R) (some ((a : Int) + 1)) none = tD (R.drop (a + 1)) := by
    rw [show (a : Int) + 1 = ((a + 1 : Nat) : Int) by omega, cutL_from]; simp [tD]
  have c3 : cutL (tD R) (some ((a : Int) + 2)) none = tD (R.drop (a + 2)) := by
    rw [show (a : Int) + 2 = ((a + 2 : Nat) : Int) by omega, cutL_from]; simp [tD]
  have d1 : (tD (R.take a)).length = a := by rw [tD_len, List.length_take]; omega
  have d2 : (tD (R.drop (a + 1))).length = R.length - (a + 1) := by rw [tD_len, List.length_drop]
  have d3 : (tD (R.drop (a + 2))).length = R.length - (a + 2) := by rw [tD_len, List.length_drop]
  have m1 : a + 1 ≤ ln := by show _ ≤ 16777216; omega
  have m2 : a + 1 + (R.length - (a + 1)) ≤ ln := by show _ ≤ 16777216; omega
  have m2' : a + ((R.length - (a + 1)) + 1) ≤ ln := by show _ ≤ 16777216; omega
  have m3 : a + 2 ≤ ln := by show _ ≤ 16777216; omega
  have m4 : a + 2 + (R.length - (a + 2)) ≤ ln := by show _ ≤ 16777216; omega
  have m4' : a + ((R.length - (a + 2)) + 2) ≤ ln := by show _ ≤ 16777216; omega
  have m4'' : a + ((R.length - (a + 2)) + 1 + 1) ≤ ln := by show _ ≤ 16777216; omega
  have hA : ∀ d ∈ tD (R.take a), leafR d = true := tD_leaf fun r h => hrk r (List.mem_of_mem_take h)
  have hZ : ∀ d ∈ tD (R.drop (a + 1)), leafR d = true := tD_leaf fun r h => hrk r (List.mem_of_mem_drop h)
  have hZ2 : ∀ d ∈ tD (R.drop (a + 2)), leafR d = true := tD_leaf fun r h => hrk r (List.mem_of_mem_drop h)
  have q1 : lcLoop (Pz.turn (Pz.run tb (n + 1)) [.val (.box 0), .val (.tup (tD R)), .val (.tup (sD ws)), .own (.lst L1), .val (.int (a : Nat)), .val (.tup (sD r)), .val (.lst O), .no] (.nm 7) (.cst (.bl true)) (.bin .add (.bin .add (.cut (.var 1) (.nop) (.var 4)) (.tup (.cons (.var 7) (.nil)))) (.cut (.var 1) (.bin .add (.var 4) (.cst (.int 1))) (.nop)))) (O.map id) B1
      = .ok (O.map fun d => .tup (tD (R.take a) ++ (d :: tD (R.drop (a + 1)))), B1) := lcLoop_all (c := id) fun d hd => by
    simp -implicitDefEqProofs [turn_eq, wipeS, Tg.names, c1, c2, d1, d2, l1, m1, m2, m2']
  rw [List.map_id] at q1
  obtain ⟨L2, hL2⟩ : ∃ L2, L1 ++ (O.map fun d => .tup (tD (R.take a) ++ (d :: tD (R.drop (a + 1))))) = L2 := ⟨_, rfl⟩
  have hL2n : L2.length = 20 := by rw [← hL2, List.length_append, List.length_map]; omega
  have hL2l : ∀ v ∈ L2, leafV v = true := by
    intro v hv
    rw [← hL2] at hv
    rcases List.mem_append.1 hv with h | h
    · exact hL1l v h
    · obtain ⟨d, hd, rfl⟩ := List.mem_map.1 h
      refine leafV_tup (by rw [List.length_append, List.length_cons]; omega) fun e he => ?_
      rcases List.mem_append.1 he with h | h
      · exact hA e h
      · rcases List.mem_cons.1 h with rfl | h
        · exact hOl _ hd
        · exact hZ e h
  have hn1 : O.length ≤ ln := by omega
  have hn2 : L1.length + O.length ≤ ln := by show _ ≤ 16777216; omega
  refine wp_next (σ' := [.val (.box 0), .val (.tup (tD R)), .val (.tup (sD ws)), .own (.lst L2), .val (.int (a : Nat)), .val (.tup (sD r)), .val (.lst O), .no]) (B' := B1) (by
    simp -implicitDefEqProofs [q1, hn1, hn2, hL2]) ?_
  have hrq := eqD_sD r []
  have hrq : eqD (.tup (sD r)) (.tup []) = some (decide (r = [])) := hrq
  by_cases g : a + 1 < R.length
  · have g' : (a : Int) + 1 < R.length := by omega
    by_cases g2 : r = []
    · rw [decide_eq_true g2] at hrq
      refine wp_next (σ' := [.val (.box 0), .val (.tup (tD R)), .val (.tup (sD ws)), .own (.lst L2), .val (.int (a : Nat)), .val (.tup (sD r)), .val (.lst O), .no]) (B' := B1) (by
        simp -implicitDefEqProofs [hTi, g', opC_ne, hrq, l0]) ?_
      simp -implicitDefEqProofs [frzAll, frzS]
      exact ⟨hL2l, by omega, hB1⟩
    · rw [decide_eq_false g2] at hrq
      obtain ⟨s, hse⟩ : ∃ s, R[a + 1] = s := ⟨_, rfl⟩
      have hsm : s ∈ R := by rw [← hse]; exact List.getElem_mem g
      have hsl2 := hr s hsm
      have a2 : atI (tD R) ((a : Int) + 1) = some (.tup (sD s)) := by
        rw [show (a : Int) + 1 = ((a + 1 : Nat) : Int) by omega, atI_nat _ (a + 1) (by rw [hTl]; exact g)]
        simp [tD, hse]
      have n1 : (cutL (sD r) (some (-1)) none).length + (sD s).length ≤ ln := by show _ ≤ 16777216; have := cutL_len (sD r) (some (-1)) none; rw [sD_len]; omega
      obtain ⟨V, hV⟩ : ∃ V : D, V = .tup (tD (R.take a) ++ (.tup (cutL (sD r) none (some (-1))) :: .tup (cutL (sD r) (some (-1)) none ++ sD s) :: tD (R.drop (a + 2)))) := ⟨_, rfl⟩
      have hVl : leafV V = true := by
        rw [hV]
        refine leafV_tup (by simp only [List.length_append, List.length_cons]; omega) fun e he => ?_
        rcases List.mem_append.1 he with h | h
        · exact hA e h
        · rcases List.mem_cons.1 h with rfl | h
          · exact leafR_tup (by have := cutL_len (sD r) none (some (-1)); omega) fun d h => sD_leaf r d (cutL_mem h)
          · rcases List.mem_cons.1 h with rfl | h
            · refine leafR_tup (by rw [List.length_append, sD_len s]; have := cutL_len (sD r) (some (-1)) none; omega) fun d h => ?_
              rcases List.mem_append.1 h with h | h
              · exact sD_leaf r d (cutL_mem h)
              · exact sD_leaf s d h
            · exact hZ2 e h
      have hn3 : L2.length < ln := by show _ < 16777216; omega
      refine wp_next (σ' := [.val (.box 0), .val (.tup (tD R)), .val (.tup (sD ws)), .own (.lst (L2 ++ [V])), .val (.int (a : Nat)), .val (.tup (sD r)), .val (.lst O), .no]) (B' := B1) (by
        rw [hV]
        simp -implicitDefEqProofs [hTi, g', opC_ne, hrq, l0, c1, c3, a2, d1, d3, n1, l2, m3, m4, m4', m4'', hn3]) ?_
      simp -implicitDefEqProofs [frzAll, frzS]
      exact ⟨fun v hv => by
        rcases hv with h | h
        · exact hL2l v h
        · rw [h]; exact hVl, by omega, hB1⟩
  · have g' : ¬ (a : Int) + 1 < R.length := by omega
    refine wp_next (σ' := [.val (.box 0), .val (.tup (tD R)), .val (.tup (sD ws)), .own (.lst L2), .val (.int (a : Nat)), .val (.tup (sD r)), .val (.lst O), .no]) (B' := B1) (by
      simp -implicitDefEqProofs [hTi, g']) ?_
    simp -implicitDefEqProofs [frzAll, frzS]
    exact ⟨hL2l, by omega, hB1⟩
end In
end
section
set_option linter.all false
set_option maxRecDepth 100000
open Pz
namespace In
variable {tb : Nat → Option Fd} [hb : Has tb]
theorem dep_E {d : D} (h : leafE d = true) : d.dep = 0 := by
  cases d <;> first | rfl | cases h
theorem depL_le {l : List D} {k : Nat} (h : ∀ d ∈ l, d.dep ≤ k) : D.depL l ≤ k := by
  induction l with
  | nil => exact Nat.zero_le _
  | cons d l ih =>
    show max d.dep (D.depL l) ≤ k
    have h1 := h d (by simp)
    have h2 := ih fun e he => h e (by simp [he])
    omega
theorem dep_R {d : D} (h : leafR d = true) : d.dep ≤ 1 := by
  cases d with
  | tup r =>
    have h : (decide (r.length ≤ 1000) && r.all leafE) = true := h
    rw [Bool.and_eq_true] at h
    show D.depL r + 1 ≤ 1
    have := depL_le (l := r) (k := 0) fun d hd => by rw [dep_E (List.all_eq_true.1 h.2 d hd)]; exact Nat.le_refl _
    omega
  | lst r =>
    have h : (decide (r.length ≤ 1000) && r.all leafE) = true := h
    rw [Bool.and_eq_true] at h
    show D.depL r + 1 ≤ 1
    have := depL_le (l := r) (k := 0) fun d hd => by rw [dep_E (List.all_eq_true.1 h.2 d hd)]; exact Nat.le_refl _
    omega
  | non => exact Nat.zero_le _
  | int i => exact Nat.zero_le _
  | str i => exact Nat.zero_le _
  | _ => cases h
theorem dep_V {d : D} (h : leafV d = true) : d.dep ≤ 2 := by
  cases d with
  | tup r =>
    have h : (decide (r.length ≤ 1000) && r.all leafR) = true := h
    rw [Bool.and_eq_true] at h
    show D.depL r + 1 ≤ 2
    have := depL_le (l := r) (k := 1) fun d hd => dep_R (List.all_eq_true.1 h.2 d hd)
    omega
  | lst r =>
    have h : (decide (r.length ≤ 1000) && r.all leafR) = true := h
    rw [Bool.and_eq_true] at h
    show D.depL r + 1 ≤ 2
    have := depL_le (l := r) (k := 1) fun d hd => dep_R (List.all_eq_true.1 h.2 d hd)
    omega
  | non => exact Nat.zero_le _
  | int i => exact Nat.zero_le _
  | str i => exact Nat.zero_le _
  | _ => cases h
theorem dep_tD (R : List (List (List Nat))) : D.depL (tD R) ≤ 1 := depL_le fun d hd => by
  obtain ⟨r, _, rfl⟩ := List.mem_map.1 hd
  show D.depL (sD r) + 1 ≤ 1
  rw [sD_depL]; exact Nat.le_refl _
theorem dep_sG (l : List (List (List (List Nat)))) : D.depL (sG l) ≤ 2 := depL_le fun d hd => by
  obtain ⟨R, _, rfl⟩ := List.mem_map.1 hd
  show D.depL (tD R) + 1 ≤ 2
  have := dep_tD R
  omega
theorem in_sG {v : D} (hv : leafV v = true) (l : List (List (List (List Nat)))) : inD v (.lst (sG l)) = some (isIn l v) := by
  have h1 : ok64 v = true := by have := dep_V hv; unfold ok64; simp; omega
  have h2 : ok64 (.lst (sG l)) = true := by
    have : D.dep (.lst (sG l)) = D.depL (sG l) + 1 := rfl
    have := dep_sG l
    unfold ok64; simp; omega
  show (if ok64 v && ok64 (.lst (sG l)) then some (inL v (sG l)) else none) = _
  rw [h1, h2, inL_sG]; rfl
theorem ne_sG (l : List (List (List (List Nat)))) : eqD (.lst (sG l)) (.lst []) = some (decide (l = [])) := by
  rw [eqD_nilL _ (by have := dep_sG l; omega)]
  cases l <;> rfl
theorem isIn_tup {l : List (List (List (List Nat)))} {v : D} (h : tupB v = false) : isIn l v = false := by
  unfold isIn
  cases v <;> first | rfl | cases h
theorem isIn_tD (l : List (List (List (List Nat)))) (R : List (List (List Nat))) : isIn l (.tup (tD R)) = decide (R ∈ l) := by
  unfold isIn; rw [rowsOf_tD]
/-! greatest, least -/
theorem mx_fold {l : List D} {m : D} (h : OrdAll (m :: l)) : ∀ x ∈ m :: l, D.ltb (l.foldl mxF m) x = false := by
  induction l generalizing m with
  | nil =>
    intro x hx
    have : x = m := by simpa using hx
    subst this
    show D.ltb x x = false
    cases e : D.ltb x x with
    | false => rfl
    | true =>
      have ho := h.ord x (by simp)
      rw [ltb_asym _ _ ho ho e] at e
      cases e
  | cons a l ih =>
    intro x hx
    rw [List.foldl_cons]
    have ha := h.ord a (by simp)
    have hm := h.ord m (by simp)
    have hc : mxF m a = m ∨ mxF m a = a := by unfold mxF; split <;> simp
    have hsub : OrdAll (mxF m a :: l) := h.sub fun b hb => by
      rcases List.mem_cons.1 hb with rfl | hb
      · rcases hc with e | e <;> rw [e] <;> simp
      · simp [hb]
    have h1 := ih hsub
    have key : ∀ y, y = m ∨ y = a → D.ltb (mxF m a) y = false := by
      intro y hy
      unfold mxF
      by_cases g : D.ltb m a = true
      · rw [if_pos g]
        rcases hy with rfl | rfl
        · exact ltb_asym _ _ hm ha g
        · cases e : D.ltb y y with
          | false => rfl
          | true => rw [ltb_asym _ _ ha ha e] at e; cases e
      · rw [if_neg g]
        rcases hy with rfl | rfl
        · cases e : D.ltb y y with
          | false => rfl
          | true => rw [ltb_asym _ _ hm hm e] at e; cases e
        · simpa using g
    have hmax := h1 (mxF m a) (by simp)
    obtain ⟨F, hF⟩ : ∃ F, l.foldl mxF (mxF m a) = F := ⟨_, rfl⟩
    rw [hF] at h1 hmax ⊢
    have hFm : F ∈ mxF m a :: l := by
      rw [← hF]
      have : ∀ (l : List D) (m : D), l.foldl mxF m ∈ m :: l := by
        intro l
        induction l with
        | nil => intro m; simp
        | cons b l ih =>
          intro m
          rw [List.foldl_cons]
          have h2 := ih (mxF m b)
          rcases List.mem_cons.1 h2 with h2 | h2
          · rw [h2]; unfold mxF; split <;> simp
          · simp [h2]
      exact this l _
    have hFo := hsub.ord F hFm
    have hMo := hsub.ord (mxF m a) (by simp)
    rcases List.mem_cons.1 hx with rfl | hx
    · exact ltb_ntr x (mxF x a) F (h.ord x (by simp)) hMo hFo (by rcases hc with e | e <;> rw [e] <;> exact h.cmp _ (by simp) _ (by simp)) (hsub.cmp _ hFm _ (by simp)) (by
        refine h.cmp _ ?_ _ (by simp)
        rcases List.mem_cons.1 hFm with e | e
        · rw [e]; rcases hc with e | e <;> rw [e] <;> simp
        · simp [e]) (key x (.inl rfl)) hmax
    · rcases List.mem_cons.1 hx with rfl | hx
      · exact ltb_ntr x (mxF m x) F (h.ord x (by simp)) hMo hFo (by rcases hc with e | e <;> rw [e] <;> exact h.cmp _ (by simp) _ (by simp)) (hsub.cmp _ hFm _ (by simp)) (by
          refine h.cmp _ ?_ _ (by simp)
          rcases List.mem_cons.1 hFm with e | e
          · rw [e]; rcases hc with e | e <;> rw [e] <;> simp
          · simp [e]) (key x (.inr rfl)) hmax
      · exact h1 x (by simp [hx])
theorem fold_mem {f : D → D → D} (hf : ∀ a b, f a b = a ∨ f a b = b) : ∀ (l : List D) (m : D), l.foldl f m ∈ m :: l := by
  intro l
  induction l with
  | nil => intro m; simp
  | cons b l ih =>
    intro m
    rw [List.foldl_cons]
    have h2 := ih (f m b)
    rcases List.mem_cons.1 h2 with h2 | h2
    · rw [h2]
      rcases hf m b with e | e <;> rw [e] <;> simp
    · simp [h2]
/-- the greatest of a list is the one that none is above -/
theorem mxg_of {l : List D} {g : D} (h : OrdAll l) (hd : D.depL l ≤ 60) (ho : D.ordL l = true) (hc : cmpAll l = true) (hg : g ∈ l) (hm : ∀ x ∈ l, D.ltb g x = false) : bi_mxg [.lst l] = some g := by
  cases l with
  | nil => cases hg
  | cons d l =>
    show (if ordOk (d :: l) then some (l.foldl mxF d) else none) = some g
    have hok : ordOk (d :: l) = true := by unfold ordOk; rw [ho, hc]; simp; omega
    rw [if_pos hok]
    have h1 := fold_mem (f := mxF) (fun a b => by unfold mxF; split <;> simp) l d
    have h2 := mx_fold h
    congr 1
    exact ltb_anti _ _ (h.ord _ h1) (h.ord _ hg) (h.cmp _ h1 _ hg) (h2 g hg) (hm _ h1)
/-- ints -/
theorem ord_nD : ∀ l : List Nat, D.ordL (nD l) = true
  | [] => rfl
  | a :: l => by show (true && D.ordL (nD l)) = true; rw [ord_nD l]; rfl
theorem cmp_nD (l : List Nat) : cmpAll (nD l) = true := by
  unfold cmpAll nD
  simp [D.cmp]
theorem mxg_nD {l : List Nat} {m : Nat} (h : m ∈ l) (h2 : ∀ x ∈ l, x ≤ m) : bi_mxg [.lst (nD l)] = some (.int (m : Nat)) := by
  refine mxg_of (OrdAll.of (ord_nD l) (cmp_nD l)) (by rw [nD_dep]; omega) (ord_nD l) (cmp_nD l) (List.mem_map.2 ⟨m, h, rfl⟩) fun x hx => ?_
  obtain ⟨a, ha, rfl⟩ := List.mem_map.1 hx
  show decide ((m : Int) < (a : Nat)) = false
  have := h2 a ha
  simp; omega
theorem mng_nD : ∀ {l : List Nat} {m : Nat}, m ∈ l → (∀ x ∈ l, m ≤ x) → bi_mng [.lst (nD l)] = some (.int (m : Nat))
  | [], _, h, _ => by cases h
  | a :: l, m, h, h2 => by
    show (if ordOk (nD (a :: l)) then some ((nD l).foldl mnF (.int (a : Nat))) else none) = _
    have hok : ordOk (nD (a :: l)) = true := by unfold ordOk; rw [ord_nD, cmp_nD]; simp [nD_dep]
    rw [if_pos hok]
    congr 1
    have key : ∀ (l : List Nat) (a : Nat), (nD l).foldl mnF (.int (a : Nat)) = .int (l.foldl min a : Nat) := by
      intro l
      induction l with
      | nil => intro a; rfl
      | cons b l ih =>
        intro a
        show (nD l).foldl mnF (mnF (.int (a : Nat)) (.int (b : Nat))) = _
        have : mnF (.int (a : Nat)) (.int (b : Nat)) = .int (min a b : Nat) := by
          unfold mnF
          show (if decide ((b : Int) < (a : Nat)) = true then D.int (b : Nat) else .int (a : Nat)) = _
          by_cases g : (b : Int) < (a : Nat)
          · rw [if_pos (by simpa using g), Nat.min_eq_right (by omega)]
          · rw [if_neg (by simpa using g), Nat.min_eq_left (by omega)]
        rw [this, ih, List.foldl_cons]
    rw [key]
    have hle : ∀ (l : List Nat) (a : Nat), l.foldl min a ≤ a ∧ ∀ x ∈ l, l.foldl min a ≤ x := by
      intro l
      induction l with
      | nil => intro a; exact ⟨Nat.le_refl _, by simp⟩
      | cons b l ih =>
        intro a
        obtain ⟨h1, h2⟩ := ih (min a b)
        rw [List.foldl_cons]
        refine ⟨by omega, fun x hx => ?_⟩
        rcases List.mem_cons.1 hx with rfl | hx
        · omega
        · exact h2 x hx
    have hmem : ∀ (l : List Nat) (a : Nat), l.foldl min a ∈ a :: l := by
      intro l
      induction l with
      | nil => intro a; simp
      | cons b l ih =>
        intro a
        rw [List.foldl_cons]
        rcases List.mem_cons.1 (ih (min a b)) with e | e
        · rw [e]
          by_cases g : a ≤ b
          · rw [Nat.min_eq_left g]; simp
          · rw [Nat.min_eq_right (by omega)]; simp
        · simp [e]
    have h3 := h2 _ (hmem l a)
    have h4 : l.foldl min a ≤ m := by
      rcases List.mem_cons.1 h with rfl | h
      · exact (hle l m).1
      · exact (hle l a).2 m h
    congr 2
    omega
/-- lengths of rows -/
def lenD (R : List (List (List Nat))) : D := .tup (nD (R.map List.length))
theorem ord_lens : ∀ l : List (List (List (List Nat))), D.ordL (l.map lenD) = true
  | [] => rfl
  | R :: l => by
    show (D.ordL (nD (R.map List.length)) && D.ordL (l.map lenD)) = true
    rw [ord_nD, ord_lens l]; rfl
theorem cmpL_nD : ∀ x y : List Nat, D.cmpL (nD x) (nD y) = true
  | [], _ => by simp [nD, D.cmpL]
  | _ :: _, [] => by simp [nD, D.cmpL]
  | a :: x, b :: y => by
    show ((D.eqv (.int (a : Nat)) (.int (b : Nat)) || true) && D.cmpL (nD x) (nD y)) = true
    rw [cmpL_nD x y, Bool.or_true]; rfl
theorem cmp_lens (l : List (List (List (List Nat)))) : cmpAll (l.map lenD) = true := by
  unfold cmpAll
  rw [List.all_eq_true]
  intro x hx
  rw [List.all_eq_true]
  intro y hy
  obtain ⟨R, _, rfl⟩ := List.mem_map.1 hx
  obtain ⟨T, _, rfl⟩ := List.mem_map.1 hy
  exact cmpL_nD _ _
theorem dep_lens (l : List (List (List (List Nat)))) : D.depL (l.map lenD) ≤ 60 := by
  have := depL_le (l := l.map lenD) (k := 1) fun d hd => by
    obtain ⟨R, _, rfl⟩ := List.mem_map.1 hd
    show D.depL (nD (R.map List.length)) + 1 ≤ 1
    rw [nD_dep]; exact Nat.le_refl _
  omega
theorem mxg_lens {ms : List Nat} {ws : List (List Nat)} (h : pos ws ms 0 = ws.length) : bi_mxg [.lst ((stg ms ws).map lenD)] = some (lenD (rws ws ms 0)) := by
  refine mxg_of (OrdAll.of (ord_lens _) (cmp_lens _)) (dep_lens _) (ord_lens _) (cmp_lens _) (List.mem_map.2 ⟨_, rws_mem h, rfl⟩) fun x hx => ?_
  obtain ⟨R, hR, rfl⟩ := List.mem_map.1 hx
  have hR' : R ∈ stg ms (ws.drop 0) := hR
  exact lex_first (Nat.zero_le _) hR'
end In
end
section
set_option linter.all false
set_option maxRecDepth 100000
open Pz
namespace In
variable {tb : Nat → Option Fd} [hb : Has tb]
theorem same_i (n : Nat) (i : Int) (B : List D) : Pz.run tb (n + 1) 2 [.int i, .int i] B = .ok (.bl true, B) := same_refl hb.same_ _ _ _ rfl (by show 0 < _; omega)
theorem same_b (n : Nat) (i : Bool) (B : List D) : Pz.run tb (n + 1) 2 [.bl i, .bl i] B = .ok (.bl true, B) := same_refl hb.same_ _ _ _ rfl (by show 0 < _; omega)
theorem m_settings' (ms : List Nat) (ws : List (List Nat)) (B : List D) (h1 : ms.length ≤ 4) (h2 : ws.length ≤ 8) (h3 : ∀ w ∈ ws, w.length ≤ 30) : Pz.run tb 58 31 [.tup (nD ms), .tup (sD ws)] B = .ok (.lst (sG (stg ms ws)), B) := by
  have := m_settings (tb := tb) ms (56 - ms.length) ws B h1 h2 h3
  rwa [show 56 - ms.length + ms.length + 2 = 58 by omega] at this
theorem eqD_lens (R T : List (List (List Nat))) (h : R = T) : eqD (lenD R) (lenD T) = some true := by
  subst h
  have h1 : D.eqv (lenD R) (lenD R) = true := (eqv_ord (a := lenD R) (b := lenD R) (by show D.ordL (nD _) = true; exact ord_nD _) (by show D.ordL (nD _) = true; exact ord_nD _)).2 rfl
  have h2 : ok64 (lenD R) = true := by
    have : D.dep (lenD R) = D.depL (nD (R.map List.length)) + 1 := rfl
    unfold ok64; rw [this, nD_dep]; decide
  unfold eqD
  rw [h2, h1]; rfl
theorem m_lens (Φ : Fn) (σ : Sg) (B : List D) (R : List (List (List Nat))) (h : σ.length = 14) : lcLoop (Pz.turn Φ σ (.nm 12) (.cst (.bl true)) (.bi .len (.cons (.var 12) (.nil)))) (tD R) B = .ok (nD (R.map List.length), B) := by
  have : nD (R.map List.length) = R.map fun r => D.int (r.length : Nat) := by simp [nD]
  rw [this]
  refine lcLoop_all (c := fun r => D.tup (sD r)) (g := fun r => D.int (r.length : Nat)) fun r _ => ?_
  rw [turn_eq]
  have hp : put (.nm 12) (.tup (sD r)) (wipeS σ (Tg.names (.nm 12))) = some ((σ.set 12 .no).set 12 (.val (.tup (sD r)))) := by
    show (if 12 < (σ.set 12 .no).length then some ((σ.set 12 .no).set 12 (.val (.tup (sD r)))) else none) = _
    rw [if_pos (by rw [List.length_set, h]; omega)]
  have hg : ((σ.set 12 .no).set 12 (.val (.tup (sD r))))[12]? = some (.val (.tup (sD r))) := by
    rw [List.getElem?_set_self (by rw [List.length_set, h]; omega)]
  have hs : (sD r).length = r.length := sD_len r
  rw [hp]
  simp -implicitDefEqProofs only [kT1_s, ev_cst, kT2_t, ev_bi, evs_cons, evs_nil, ev_var, hg, kVar_v, kCons1_ok, kCons2_ok, kBi_ok, List.map_cons, List.map_nil, drf_tup, opBi_len, bi_len_tup, kOf_s, kT3_ok, hs]
/-- one value near -/
def bodyN : Ss := (.cons (.asg (.nm 10) (.and (.isi (.var 9) .tup) (.cmp .isIn (.var 9) (.var 3)))) (.cons (.ifs (.not (.call 2 (.cons (.call 24 (.cons (.var 1) (.cons (.var 2) (.cons (.var 9) (.nil))))) (.cons (.var 10) (.nil))))) (.cons (.ret (.cst (.bl false))) (.nil)) (.nil)) (.cons (.ifs (.and (.var 10) (.not (.call 2 (.cons (.call 28 (.cons (.var 1) (.cons (.var 2) (.cons (.var 9) (.nil))))) (.cons (.bi .tuple (.cons (.lc (.tp (.cons (.nm 12) (.cons (.nm 13) (.nil)))) (.zip (.var 9) (.var 1)) (.cst (.bl true)) (.bin .sub (.var 13) (.call 30 (.cons (.var 12) (.nil))))) (.nil))) (.nil)))))) (.cons (.ret (.cst (.bl false))) (.nil)) (.nil)) (.nil))))
theorem turnN (ms : List Nat) (hm : okM ms) (hm3 : ms.length ≤ 4) (ws : List (List Nat)) (hw : okW ws) (hw8 : ws.length ≤ 8) (v : D) (hv : leafV v = true) (x0 x4 x5 x6 x7 x8 x10 x11 x12 x13 : Sl) (B : List D) :
    ∃ y10, exs (Pz.run tb 58) bodyN [x0, .val (.tup (nD ms)), .val (.tup (sD ws)), .val (.lst (sG (stg ms ws))), x4, x5, x6, x7, x8, .val v, x10, x11, x12, x13] B
      = .ok (.next, [x0, .val (.tup (nD ms)), .val (.tup (sD ws)), .val (.lst (sG (stg ms ws))), x4, x5, x6, x7, x8, .val v, y10, x11, x12, x13], B) := by
  have e1 := m_is_setting_any (tb := tb) 53 ms hm ws hw v hv B
  rw [fitsA_isIn] at e1
  have e2 := in_sG hv (stg ms ws)
  have e3 := isi_V hv
  have e4 := drf_V hv
  have e5 := same_b (tb := tb) 57 (isIn (stg ms ws) v) B
  refine ⟨.val (.bl (isIn (stg ms ws) v)), ?_⟩
  by_cases ht : tupB v = true
  · rw [ht] at e3
    by_cases g : isIn (stg ms ws) v = true
    · rw [g] at e1 e2 e5 ⊢
      obtain ⟨R, hR⟩ : ∃ R, rowsOf v = some R := by
        unfold isIn at g
        cases e : rowsOf v with
        | none => rw [e] at g; cases g
        | some R => exact ⟨R, rfl⟩
      have hvR := rowsOf_inv hR
      have hin : R ∈ stg ms ws := by
        rw [hvR, isIn_tD] at g
        simpa using g
      obtain ⟨h1, h2⟩ := mem_stg.1 hin
      have hflat : R.flatten = ws := by
        unfold fitsS at h2
        rw [Bool.and_eq_true, decide_eq_true_eq] at h2
        exact h2.1
      have hrl : ∀ r ∈ R, r.length ≤ 8 := fun r hr => by
        have : (R.map List.length).sum = ws.length := by rw [← hflat, List.length_flatten]
        have h3 := le_sum (List.mem_map.2 ⟨r, hr, rfl⟩ : r.length ∈ R.map List.length)
        omega
      have hrw : ∀ r ∈ R, ∀ w ∈ r, w.length ≤ 30 := fun r hr w hw' => by
        have : w ∈ ws := by rw [← hflat]; exact List.mem_flatten.2 ⟨r, hr, hw'⟩
        exact (hw.ok w this).2.1
      have e6 := m_raggedness (tb := tb) 53 ms hm ws hw R hin (fun r hr => by have := hrl r hr; omega) B
      have l1 : lcLoop (Pz.turn (Pz.run tb 58) [x0, .val (.tup (nD ms)), .val (.tup (sD ws)), .val (.lst (sG (stg ms ws))), x4, x5, x6, x7, x8, .val (.tup (tD R)), .val (.bl true), x11, x12, x13] (.tp (.cons (.nm 12) (.cons (.nm 13) (.nil)))) (.cst (.bl true)) (.bin .sub (.var 13) (.call 30 (.cons (.var 12) (.nil))))) (zipL (tD R) (nD ms)) B = .ok ((rag ms R).map .int, B) := by
        rw [zip_tn]
        unfold rag
        rw [List.map_map]
        refine lcLoop_all (c := fun p : List (List Nat) × Nat => D.tup [.tup (sD p.1), .int (p.2 : Nat)]) (g := fun p => .int ((p.2 : Int) - siz p.1)) fun p hp => ?_
        have hp1 := (List.of_mem_zip hp).1
        have hsum : (p.1.map List.length).sum ≤ 100000 := by
          have : ∀ l : List (List Nat), (∀ w ∈ l, w.length ≤ 30) → (l.map List.length).sum ≤ l.length * 30 := by
            intro l
            induction l with
            | nil => intro _; simp
            | cons w l ih =>
              intro h
              have h1 := h w (by simp)
              have h2 := ih fun v hv => h v (by simp [hv])
              simp only [List.map_cons, List.sum_cons, List.length_cons, Nat.succ_mul]
              omega
          have h1 := this p.1 (hrw _ hp1)
          have h2 := hrl _ hp1
          omega
        have e := m_law_size (tb := tb) 57 p.1 (by have := hrl _ hp1; omega) hsum B
        simp -implicitDefEqProofs [turn_eq, wipeS, Tg.names, Tgs.names, e]
      have hz : zipD (.tup (tD R)) (.tup (nD ms)) = some (zipL (tD R) (nD ms)) := rfl
      have hml := hm.few
      have hln3 : (zipL (tD R) (nD ms)).length ≤ ln := by show _ ≤ 16777216; rw [zip_tn]; simp; omega
      have e7 := same_refl (tb := tb) hb.same_ 58 (.tup ((rag ms R).map .int)) B (by
        have h1 : ∀ l : List Int, D.plainL (l.map .int) = true := by
          intro l; induction l with
          | nil => rfl
          | cons a l ih => exact ih
        show (decide (((rag ms R).map D.int).length ≤ 1000000) && D.plainL ((rag ms R).map .int)) = true
        rw [h1, Bool.and_true, decide_eq_true_eq, List.length_map]
        unfold rag
        simp; omega) (by
        have : ∀ l : List Int, D.depL (l.map .int) = 0 := by
          intro l; induction l with
          | nil => rfl
          | cons a l ih =>
            show max 0 (D.depL (l.map .int)) = 0
            rw [ih]; rfl
        show D.depL ((rag ms R).map .int) + 1 < 58
        rw [this]; omega)
      rw [hvR] at e1 e2 e3 e4 ⊢
      simp -implicitDefEqProofs [bodyN, e1, e2, e3, e4, e5, e6, e7, l1, hz, hln3]
    · have g' : isIn (stg ms ws) v = false := by simpa using g
      rw [g'] at e1 e2 e5 ⊢
      simp -implicitDefEqProofs [bodyN, e1, e2, e3, e4, e5]
  · have ht' : tupB v = false := by simpa using ht
    have g' := isIn_tup (l := stg ms ws) ht'
    rw [ht'] at e3
    rw [g'] at e1 e5 ⊢
    simp -implicitDefEqProofs [bodyN, e1, e3, e4, e5]
end In
end
section
set_option linter.all false
set_option maxRecDepth 100000
open Pz
namespace In
variable {tb : Nat → Option Fd} [hb : Has tb]
theorem mulT (d : D) (k : Nat) (hk : k ≤ 1000) : opB .mul (.tup [d]) (.int (k : Nat)) = some (.tup (List.replicate k d)) := by
  rw [opB_mulT, if_pos]
  · congr 2
    unfold rep
    have : ∀ m : Nat, (List.replicate m [d]).flatten = List.replicate m d := by
      intro m
      induction m with
      | zero => rfl
      | succ m ih => rw [List.replicate_succ, List.flatten_cons, ih]; rfl
    rw [show ((k : Nat) : Int).toNat = k by omega, this]
  · have : k ≤ ln := by show _ ≤ 16777216; omega
    simp; omega
theorem lens_eq (R : List (List (List Nat))) : D.tup (nD (R.map List.length)) = lenD R := rfl
theorem m_right (ms : List Nat) (hm : okM ms) (hm3 : ms.length ≤ 4) (ws : List (List Nat)) (hw : okW ws) (hw8 : ws.length ≤ 8) (B : List D) (hB : okB B) :
    Wp (Pz.run tb 59 34 [.box 0, .tup (nD ms), .tup (sD ws)] B) fun r => r.1 = .bl true ∧ okB r.2 := by
  refine wp_run (h := hb.h__law_right) (by omega) rfl ?_
  have hw30 : ∀ w ∈ ws, w.length ≤ 30 := fun w h => (hw.ok w h).2.1
  have l2 : 2 ≤ ln := by show 2 ≤ 16777216; omega
  have l1 : 1 ≤ ln := by show 1 ≤ 16777216; omega
  have l0 : 0 ≤ ln := by show 0 ≤ 16777216; omega
  have e1 := m_settings' (tb := tb) ms ws B (by omega) (by omega) hw30
  obtain ⟨E, hE⟩ : ∃ E, stg ms ws = E := ⟨_, rfl⟩
  have hEl : E.length ≤ 6561 := by
    rw [← hE]
    refine Nat.le_trans (stg_len 8 ms ws (by omega)) ?_
    exact Nat.le_trans (Nat.pow_le_pow_right (by omega) hm3) (by decide)
  rw [hE] at e1
  refine wp_next (σ' := [.val (.box 0), .val (.tup (nD ms)), .val (.tup (sD ws)), .val (.lst (sG E)), .no, .no, .no, .no, .no, .no, .no, .no, .no, .no]) (B' := B) (by
    simp -implicitDefEqProofs [Pz.start, e1]) ?_
  have e2 := m_set_lines (tb := tb) 53 ms hm ws hw B
  have e3 := m_lines_used (tb := tb) 53 ms hm ws hw B
  have hpl := pos_le (ws := ws) (ms := ms) (a := 0) (Nat.zero_le _)
  have hni := stg_nil_iff (ws := ws) (ms := ms)
  rw [hE] at hni
  obtain ⟨T, hT⟩ : ∃ T, (if pos ws ms 0 = ws.length then D.tup (tD (rws ws ms 0)) else .non) = T := ⟨_, rfl⟩
  obtain ⟨U, hU⟩ : ∃ U, (if pos ws ms 0 < ws.length then D.non else .int (used (rws ws ms 0) : Nat)) = U := ⟨_, rfl⟩
  rw [hT] at e2
  rw [hU] at e3
  refine wp_next (σ' := [.val (.box 0), .val (.tup (nD ms)), .val (.tup (sD ws)), .val (.lst (sG E)), .val T, .val U, .no, .no, .no, .no, .no, .no, .no, .no]) (B' := B) (by
    simp -implicitDefEqProofs [e2, e3]) ?_
  have e4 := m_can_set (tb := tb) 53 ms hm ws hw B
  have e5 := m_settings_many (tb := tb) 53 ms hm ws hw B
  rw [ways_stg, hE] at e5
  have q0 := ne_sG E
  have sGi : ((sG E).length : Int) = E.length := by rw [sG_len]
  have hdT : ∀ B, drf B T = T := fun B => by rw [← hT]; split <;> rfl
  have hdU : ∀ B, drf B U = U := fun B => by rw [← hU]; split <;> rfl
  have hTn : isD T .non = some (decide (pos ws ms 0 ≠ ws.length)) := by
    rw [← hT]
    by_cases g : pos ws ms 0 = ws.length
    · rw [if_pos g]; simp [isD, g]
    · rw [if_neg g]; simp [isD, g]
  have hUn : isD U .non = some (decide (pos ws ms 0 ≠ ws.length)) := by
    rw [← hU]
    by_cases g : pos ws ms 0 = ws.length
    · rw [if_neg (by omega)]; simp [isD, g]
    · rw [if_pos (by omega)]; simp [isD, g]
  have dEq : decide (pos ws ms 0 = ws.length) = !decide (E = []) := by
    by_cases g : pos ws ms 0 = ws.length
    · have : ¬ E = [] := fun z => hni.1 z g
      simp [g, this]
    · have := hni.2 g
      simp [g, this]
  have s1 := same_refl (tb := tb) hb.same_ 58 (.tup [.bl (!decide (E = [])), .int (E.length : Nat)]) B rfl (by show (1 : Nat) < 58; omega)
  rw [dEq] at e4
  refine wp_next (σ' := [.val (.box 0), .val (.tup (nD ms)), .val (.tup (sD ws)), .val (.lst (sG E)), .val T, .val U, .no, .no, .no, .no, .no, .no, .no, .no]) (B' := B) (by
    by_cases g : E = []
    · rw [decide_eq_true g] at q0 e4 s1
      simp -implicitDefEqProofs [e4, e5, opC_ne, q0, sGi, s1, l0, l2]
      have s1 : Pz.run tb 58 2 [.tup [.bl false, .int (E.length : Nat)], .tup [.bl false, .int (E.length : Nat)]] B = _ := s1
      simp -implicitDefEqProofs [s1]
    · rw [decide_eq_false g] at q0 e4 s1
      simp -implicitDefEqProofs [e4, e5, opC_ne, q0, sGi, s1, l0, l2]
      have s1 : Pz.run tb 58 2 [.tup [.bl true, .int (E.length : Nat)], .tup [.bl true, .int (E.length : Nat)]] B = _ := s1
      simp -implicitDefEqProofs [s1]) ?_
  refine wp_next (σ' := [.val (.box 0), .val (.tup (nD ms)), .val (.tup (sD ws)), .val (.lst (sG E)), .val T, .val U, .no, .no, .no, .no, .no, .no, .no, .no]) (B' := B) (by
    by_cases g : pos ws ms 0 = ws.length
    · have g2 : ¬ E = [] := fun z => hni.1 z g
      rw [decide_eq_false g2] at q0
      have hTn : isD T .non = some false := by rw [hTn]; simp [g]
      have hUn : isD U .non = some false := by rw [hUn]; simp [g]
      have q : eqD (.bl false) (.bl false) = some true := rfl
      simp -implicitDefEqProofs [hdT, hdU, hTn, hUn, opC_ne, opC_eq, q0, q, l0]
    · have g2 := hni.2 g
      rw [decide_eq_true g2] at q0
      have hTn : isD T .non = some true := by rw [hTn]; simp [g]
      have hUn : isD U .non = some true := by rw [hUn]; simp [g]
      have q : eqD (.bl true) (.bl true) = some true := rfl
      simp -implicitDefEqProofs [hdT, hdU, hTn, hUn, opC_ne, opC_eq, q0, q, l0]) ?_
  have hlnE : (sG E).length ≤ ln := by show _ ≤ 16777216; rw [sG_len]; omega
  obtain ⟨x6, e6⟩ : ∃ x6, ex (Pz.run tb 58) (.ifs (.cmp .isNot (.var 4) (.cst .non)) (.cons (.asg (.nm 6) (.bi .mxg (.cons (.lc (.nm 11) (.var 3) (.cst (.bl true)) (.bi .tuple (.cons (.lc (.nm 12) (.var 11) (.cst (.bl true)) (.bi .len (.cons (.var 12) (.nil)))) (.nil)))) (.nil)))) (.cons (.ifs (.or (.cmp .notIn (.var 4) (.var 3)) (.cmp .ne (.bi .tuple (.cons (.lc (.nm 12) (.var 4) (.cst (.bl true)) (.bi .len (.cons (.var 12) (.nil)))) (.nil))) (.var 6))) (.cons (.ret (.cst (.bl false))) (.nil)) (.nil)) (.cons (.ifs (.or (.not (.call 2 (.cons (.var 5) (.cons (.bi .mng (.cons (.lc (.nm 11) (.var 3) (.cst (.bl true)) (.call 32 (.cons (.var 11) (.nil)))) (.nil))) (.nil))))) (.cmp .ne (.call 32 (.cons (.var 4) (.nil))) (.var 5))) (.cons (.ret (.cst (.bl false))) (.nil)) (.nil)) (.nil)))) (.nil)) [.val (.box 0), .val (.tup (nD ms)), .val (.tup (sD ws)), .val (.lst (sG E)), .val T, .val U, .no, .no, .no, .no, .no, .no, .no, .no] B
      = .ok (.next, [.val (.box 0), .val (.tup (nD ms)), .val (.tup (sD ws)), .val (.lst (sG E)), .val T, .val U, x6, .no, .no, .no, .no, .no, .no, .no], B) := by
    by_cases g : pos ws ms 0 = ws.length
    · have hTn : isD T .non = some false := by rw [hTn]; simp [g]
      rw [if_pos g] at hT
      rw [if_neg (by omega)] at hU
      obtain ⟨G, hG⟩ : ∃ G, rws ws ms 0 = G := ⟨_, rfl⟩
      have hGm : G ∈ E := by rw [← hG, ← hE]; exact rws_mem g
      have hGl : G.length = ms.length := by rw [← hG, rws_len]
      have hGr : ∀ r ∈ G, r.length ≤ ws.length := by rw [← hG]; exact rws_row ws ms 0
      have hmx := mxg_lens g
      rw [hE, hG] at hmx
      rw [hG] at hT hU
      have hrows : ∀ R ∈ E, R.length = ms.length := fun R hR => by rw [← hE] at hR; exact stg_rows hR
      have a1 : lcLoop (Pz.turn (Pz.run tb 58) [.val (.box 0), .val (.tup (nD ms)), .val (.tup (sD ws)), .val (.lst (sG E)), .val (.tup (tD G)), .val (.int (used G : Nat)), .no, .no, .no, .no, .no, .no, .no, .no] (.nm 11) (.cst (.bl true)) (.bi .tuple (.cons (.lc (.nm 12) (.var 11) (.cst (.bl true)) (.bi .len (.cons (.var 12) (.nil)))) (.nil)))) (sG E) B = .ok (E.map lenD, B) :=
        lcLoop_all (c := fun R => D.tup (tD R)) (g := lenD) fun R hR => by
          have a2 := m_lens (Pz.run tb 58) [.val (.box 0), .val (.tup (nD ms)), .val (.tup (sD ws)), .val (.lst (sG E)), .val (.tup (tD G)), .val (.int (used G : Nat)), .no, .no, .no, .no, .no, .val (.tup (tD R)), .no, .no] B R rfl
          have hln : (tD R).length ≤ ln := by show _ ≤ 16777216; rw [tD_len, hrows R hR]; omega
          simp -implicitDefEqProofs [turn_eq, wipeS, Tg.names, a2, hln, lens_eq]
      have a3 := m_lens (Pz.run tb 58) [.val (.box 0), .val (.tup (nD ms)), .val (.tup (sD ws)), .val (.lst (sG E)), .val (.tup (tD G)), .val (.int (used G : Nat)), .val (lenD G), .no, .no, .no, .no, .no, .no, .no] B G rfl
      have hlnG : (tD G).length ≤ ln := by show _ ≤ 16777216; rw [tD_len, hGl]; omega
      have hin : inD (.tup (tD G)) (.lst (sG E)) = some true := by
        rw [in_sG (leafV_tup (by rw [tD_len]; omega) (tD_leaf fun r hr => by have := hGr r hr; omega)), isIn_tD, decide_eq_true hGm]
      have q1 := eqD_lens G G rfl
      have hdl : ∀ B, drf B (lenD G) = lenD G := fun _ => rfl
      have q2 : eqD (.int (used G : Nat)) (.int (used G : Nat)) = some true := by simp [eqD, ok64, D.dep, D.eqv]
      have a4 : lcLoop (Pz.turn (Pz.run tb 58) [.val (.box 0), .val (.tup (nD ms)), .val (.tup (sD ws)), .val (.lst (sG E)), .val (.tup (tD G)), .val (.int (used G : Nat)), .val (lenD G), .no, .no, .no, .no, .no, .no, .no] (.nm 11) (.cst (.bl true)) (.call 32 (.cons (.var 11) (.nil)))) (sG E) B = .ok (nD (E.map used), B) := by
        have : nD (E.map used) = E.map fun R => D.int (used R : Nat) := by simp [nD]
        rw [this]
        exact lcLoop_all (c := fun R => D.tup (tD R)) (g := fun R => D.int (used R : Nat)) fun R hR => by
          have := m_law_used (tb := tb) 57 R (by rw [hrows R hR]; omega) B
          simp -implicitDefEqProofs [turn_eq, wipeS, Tg.names, this]
      have hmn : bi_mng [.lst (nD (E.map used))] = some (.int (used G : Nat)) := mng_nD (List.mem_map.2 ⟨G, hGm, rfl⟩) fun x hx => by
        obtain ⟨R, hR, rfl⟩ := List.mem_map.1 hx
        rw [← hE] at hR
        have := used_first hR
        rwa [hG] at this
      have a5 := m_law_used (tb := tb) 57 G (by rw [hGl]; omega) B
      have s2 := same_i (tb := tb) 57 (used G : Nat) B
      rw [← hT, ← hU]
      rw [← hT] at hTn
      refine ⟨.val (lenD G), ?_⟩
      simp -implicitDefEqProofs [hTn, a1, hlnE, hmx, hin, a3, hlnG, lens_eq, hdl, opC_ne, q1, q2, a4, hmn, s2, a5]
    · have hTn : isD T .non = some true := by rw [hTn]; simp [g]
      refine ⟨.no, ?_⟩
      simp -implicitDefEqProofs [hdT, hTn]
  refine wp_next (σ' := _) (B' := _) e6 ?_
  obtain ⟨p, hp⟩ : ∃ p, pos ws ms 0 = p := ⟨_, rfl⟩
  have hp8 : p ≤ ws.length := by omega
  have b1 : lcLoop (Pz.turn (Pz.run tb 58) [.val (.box 0), .val (.tup (nD ms)), .val (.tup (sD ws)), .val (.lst (sG E)), .val T, .val U, x6, .no, .no, .no, .no, .no, .no, .no] (.nm 7) (.cmp .ne (.call 31 (.cons (.var 1) (.cons (.cut (.var 2) (.nop) (.var 7)) (.nil)))) (.lst (.nil))) (.var 7)) ((List.range (ws.length + 1)).map fun k : Nat => .int (k : Nat)) B
      = .ok (nD ((List.range (ws.length + 1)).filter fun k => decide (k ≤ p)), B) := by
    refine lcLoop_some (c := fun k : Nat => D.int (k : Nat)) (g := fun k : Nat => D.int (k : Nat)) (t := fun k => decide (k ≤ p)) fun k hk => ?_
    rw [List.mem_range] at hk
    have c1 : cutL (sD ws) none (some (k : Int)) = sD (ws.take k) := by rw [cutL_to, sD_take]
    have f1 := m_settings' (tb := tb) ms (ws.take k) B (by omega) (by rw [List.length_take]; omega) (fun w h => hw30 w (List.mem_of_mem_take h))
    have f2 := ne_sG (stg ms (ws.take k))
    have f3 := stg_take (ws := ws) (ms := ms) (k := k) (by omega)
    rw [hp] at f3
    by_cases g : k ≤ p
    · have g2 := f3.2 g
      rw [decide_eq_false g2] at f2
      simp -implicitDefEqProofs [turn_eq, wipeS, Tg.names, c1, f1, opC_ne, f2, l0, g]
    · have g2 : stg ms (ws.take k) = [] := Decidable.byContradiction fun z => g (f3.1 z)
      rw [decide_eq_true g2] at f2
      simp -implicitDefEqProofs [turn_eq, wipeS, Tg.names, c1, f1, opC_ne, f2, l0, g]
  have b2 : bi_mxg [.lst (nD ((List.range (ws.length + 1)).filter fun k => decide (k ≤ p)))] = some (.int (p : Nat)) := mxg_nD (List.mem_filter.2 ⟨List.mem_range.2 (by omega), by simp⟩) fun x hx => by simpa using (List.mem_filter.1 hx).2
  have hsl : ((sD ws).length : Int) = ws.length := by rw [sD_len]
  have hr : rngL 0 ((ws.length : Int) + 1) = (List.range (ws.length + 1)).map fun k : Nat => .int (k : Nat) := by
    rw [show (ws.length : Int) + 1 = ((ws.length + 1 : Nat) : Int) by omega]; exact rngL_nat _
  have hbd : bnd ((ws.length : Int) + 1) = true := bnd_of (by omega) (by omega)
  have hln8 : ws.length + 1 ≤ ln := by show _ ≤ 16777216; omega
  refine wp_next (σ' := [.val (.box 0), .val (.tup (nD ms)), .val (.tup (sD ws)), .val (.lst (sG E)), .val T, .val U, x6, .val (.int (p : Nat)), .no, .no, .no, .no, .no, .no]) (B' := B) (by
    simp -implicitDefEqProofs [hsl, hr, hbd, b1, b2, hln8]) ?_
  have e7 := m_words_laid (tb := tb) 53 ms hm ws hw B
  rw [hp] at e7
  have s3 := same_i (tb := tb) 57 (p : Nat) B
  refine wp_next (σ' := [.val (.box 0), .val (.tup (nD ms)), .val (.tup (sD ws)), .val (.lst (sG E)), .val T, .val U, x6, .val (.int (p : Nat)), .no, .no, .no, .no, .no, .no]) (B' := B) (by
    simp -implicitDefEqProofs [e7, s3]) ?_
  -- a setting, or all words in one line
  have hml := hm.one
  obtain ⟨R, B1, hB1, hRl, hRr, hRw, e8⟩ : ∃ R B1, okB B1 ∧ R.length = ms.length ∧ (∀ r ∈ R, r.length ≤ 8) ∧ (∀ r ∈ R, ∀ w ∈ r, w.length ≤ 30) ∧ ex (Pz.run tb 58) (.asg (.nm 8) (.ite (.cmp .ne (.var 3) (.lst (.nil))) (.call 1 (.cons (.var 0) (.cons (.var 3) (.nil)))) (.bin .add (.tup (.cons (.var 2) (.nil))) (.bin .mul (.tup (.cons (.tup (.nil)) (.nil))) (.bin .sub (.bi .len (.cons (.var 1) (.nil))) (.cst (.int 1))))))) [.val (.box 0), .val (.tup (nD ms)), .val (.tup (sD ws)), .val (.lst (sG E)), .val T, .val U, x6, .val (.int (p : Nat)), .no, .no, .no, .no, .no, .no] B
      = .ok (.next, [.val (.box 0), .val (.tup (nD ms)), .val (.tup (sD ws)), .val (.lst (sG E)), .val T, .val U, x6, .val (.int (p : Nat)), .val (.tup (tD R)), .no, .no, .no, .no, .no], B1) := by
    by_cases g : E = []
    · rw [decide_eq_true g] at q0
      have hmul : opB .mul (.tup [.tup []]) (.int ((ms.length : Int) - 1)) = some (.tup (List.replicate (ms.length - 1) (.tup []))) := by
        rw [show (ms.length : Int) - 1 = ((ms.length - 1 : Nat) : Int) by omega]
        exact mulT _ _ (by omega)
      have hnl : ((nD ms).length : Int) = ms.length := by rw [nD_len]
      have k2 : 1 + (ms.length - 1) ≤ ln := by show _ ≤ 16777216; omega
      have k2' : (ms.length - 1) + 1 ≤ ln := by show _ ≤ 16777216; omega
      refine ⟨ws :: List.replicate (ms.length - 1) [], B, hB, by simp; omega, fun r h => ?_, fun r h w hw' => ?_, ?_⟩
      · rcases List.mem_cons.1 h with rfl | h
        · exact hw8
        · rw [List.eq_of_mem_replicate h]; simp
      · rcases List.mem_cons.1 h with rfl | h
        · exact hw30 w hw'
        · rw [List.eq_of_mem_replicate h] at hw'; cases hw'
      · have ht : tD (ws :: List.replicate (ms.length - 1) []) = .tup (sD ws) :: List.replicate (ms.length - 1) (.tup []) := by
          unfold tD
          rw [List.map_cons, List.map_replicate]; rfl
        rw [ht]
        simp -implicitDefEqProofs [opC_ne, q0, hmul, hnl, k2, k2', l0, l1, -opB_mulT]
    · rw [decide_eq_false g] at q0
      have hE0 : 0 < E.length := List.length_pos_iff.2 g
      obtain ⟨c, B1, hc, hB1, f1⟩ := some_l hb.some_ hb.roll_ 58 (by omega) B (sG E) (fun z => g (List.length_eq_zero_iff.1 (by have := congrArg List.length z; rwa [sG_len] at this))) (by rw [sG_len]; omega) hB
      obtain ⟨R, hR, rfl⟩ := List.mem_map.1 hc
      have hR' : R ∈ stg ms ws := by rw [hE]; exact hR
      obtain ⟨h1, h2⟩ := mem_stg.1 hR'
      have hflat : R.flatten = ws := by
        unfold fitsS at h2
        rw [Bool.and_eq_true, decide_eq_true_eq] at h2
        exact h2.1
      refine ⟨R, B1, hB1, h1, fun r hr => ?_, fun r hr w hw' => ?_, ?_⟩
      · have : (R.map List.length).sum = ws.length := by rw [← hflat, List.length_flatten]
        have h3 := le_sum (List.mem_map.2 ⟨r, hr, rfl⟩ : r.length ∈ R.map List.length)
        omega
      · have : w ∈ ws := by rw [← hflat]; exact List.mem_flatten.2 ⟨r, hr, hw'⟩
        exact hw30 w this
      · simp -implicitDefEqProofs [opC_ne, q0, l0, f1]
  refine wp_next (σ' := _) (B' := _) e8 ?_
  obtain ⟨⟨d, B2⟩, e9, L, hL, hLv, hLl, hB2⟩ := m_near (tb := tb) 56 R (by omega) (by omega) (fun r hr => by have := hRr r hr; omega) hRw ws (by omega) B1 hB1
  have hL : d = .lst L := hL
  subst hL
  have hB2 : okB B2 := hB2
  obtain ⟨σ', B3, ⟨x9, x10, rfl, rfl⟩, e10⟩ := for_inv (f := forB (Pz.run tb 58) (.nm 9) bodyN) (σ := [.val (.box 0), .val (.tup (nD ms)), .val (.tup (sD ws)), .val (.lst (sG E)), .val T, .val U, x6, .val (.int (p : Nat)), .val (.tup (tD R)), .no, .no, .no, .no, .no]) (B := B2) L
    (fun j σ B' => ∃ x9 x10, σ = [.val (.box 0), .val (.tup (nD ms)), .val (.tup (sD ws)), .val (.lst (sG E)), .val T, .val U, x6, .val (.int (p : Nat)), .val (.tup (tD R)), x9, x10, .no, .no, .no] ∧ B' = B2)
    ⟨_, _, rfl, rfl⟩ (by
      rintro j hj σ B2 ⟨x9, x10, rfl, rfl⟩
      obtain ⟨y10, e⟩ := turnN (tb := tb) ms hm hm3 ws hw hw8 L[j] (hLv _ (List.getElem_mem hj)) (.val (.box 0)) (.val T) (.val U) x6 (.val (.int (p : Nat))) (.val (.tup (tD R))) x10 .no .no .no B2
      rw [hE] at e
      exact ⟨_, _, ⟨_, y10, rfl, rfl⟩, e⟩)
  have e9 : Pz.run tb 58 33 [.box 0, .tup (tD R), .tup (sD ws)] B1 = .ok (.lst L, B3) := e9
  refine wp_next (σ' := _) (B' := _) (by
    simp -implicitDefEqProofs only [ex_for, ev_call, evs_cons, evs_nil, ev_var, List.getElem?_cons_succ, List.getElem?_cons_zero, kVar_v, kCons1_ok, kCons2_ok, kCall_ok, e9, kFor1_ok, itemsOf_lst, kFor2_s]
    unfold bodyN at e10
    exact e10) ?_
  simp -implicitDefEqProofs [frzAll, frzS]
  exact hB2
end In
end
section
set_option linter.all false
set_option maxRecDepth 100000
namespace K83
open Pz In
/-- 3 -/
def b__law_cup : Ss := .cons (.asg (.nm 1) (.bi .abs (.cons (.sub (.bin .add (.bi .list (.cons (.var 0) (.nil))) (.lst (.cons (.cst (.int 0)) (.nil)))) (.cst (.int 0))) (.nil)))) (.cons (.ret (.mkbox (.lst (.cons (.ite (.cmp .ge (.var 1) (.bin .pow (.cst (.int 10)) (.cst (.int 18)))) (.bin .fdiv (.var 1) (.cst (.int 61))) (.cst (.int 0))) (.cons (.bin .add (.bin .mod (.bi .int (.cons (.bin .add (.bin .mul (.var 1) (.cst (.int 293))) (.cst (.int 4091))) (.nil))) (.cst (.int 2077502969))) (.cst (.int 199))) (.nil)))))) (.nil))
/-- 0 -/
def b__law_roll : Ss := .cons (.ifs (.cmp .gt (.sub (.var 0) (.cst (.int 0))) (.cst (.int 0))) (.cons (.asg (.nm 2) (.bin .mod (.bi .int (.cons (.sub (.var 0) (.cst (.int 0))) (.nil))) (.var 1))) (.cons (.asg (.bx (.var 0) (.cst (.int 0))) (.bin .fdiv (.sub (.var 0) (.cst (.int 0))) (.var 1))) (.cons (.ret (.var 2)) (.nil)))) (.nil)) (.cons (.asg (.bx (.var 0) (.cst (.int 1))) (.bin .mod (.bi .int (.cons (.bin .add (.bin .mul (.sub (.var 0) (.cst (.int 1))) (.cst (.int 30911))) (.cst (.int 7927))) (.nil))) (.cst (.int 2147483069)))) (.cons (.asg (.nm 3) (.bin .mod (.bi .int (.cons (.bin .mul (.sub (.var 0) (.cst (.int 1))) (.bin .add (.sub (.var 0) (.cst (.int 1))) (.cst (.int 229)))) (.nil))) (.cst (.int 2147483077)))) (.cons (.ret (.bin .mod (.bi .int (.cons (.bin .fdiv (.var 3) (.cst (.int 809))) (.nil))) (.var 1))) (.nil))))
/-- 500 -/
def b_law : Ss := .cons (.asg (.nm 1) (.call 3 (.cons (.var 0) (.nil)))) (.cons (.for (.nm 2) (.bi .rng (.cons (.cst (.int 5)) (.nil))) (.cons (.asg (.tp (.cons (.nm 3) (.cons (.nm 4) (.nil)))) (.call 29 (.cons (.var 1) (.cons (.cst (.int 3)) (.cons (.call 1 (.cons (.var 1) (.cons (.lst (.cons (.cst (.int 7)) (.cons (.cst (.int 15)) (.nil)))) (.nil)))) (.cons (.cst (.int 6)) (.nil))))))) (.cons (.ifs (.not (.call 34 (.cons (.var 1) (.cons (.var 3) (.cons (.var 4) (.nil)))))) (.cons (.ret (.cst (.bl false))) (.nil)) (.nil)) (.nil)))) (.cons (.ret (.cst (.bl true))) (.nil)))
def tb : Nat → Option Fd
  | 0 => some ⟨2, 4, b__law_roll⟩
  | 1 => some ⟨2, 2, b__law_some⟩
  | 2 => some ⟨2, 3, b__law_same⟩
  | 3 => some ⟨1, 2, b__law_cup⟩
  | 10 => some ⟨1, 1, b_is_whole⟩
  | 11 => some ⟨3, 3, b_fits_whole⟩
  | 12 => some ⟨3, 3, b_is_tuple_of⟩
  | 13 => some ⟨1, 2, b_fits_measures⟩
  | 14 => some ⟨1, 3, b_fits_words⟩
  | 15 => some ⟨2, 2, b_need_both⟩
  | 16 => some ⟨1, 1, b_need_words⟩
  | 17 => some ⟨1, 2, b_size_of⟩
  | 18 => some ⟨2, 6, b_filled⟩
  | 19 => some ⟨2, 2, b_does_fit⟩
  | 20 => some ⟨3, 6, b_fits_setting⟩
  | 21 => some ⟨2, 10, b_ways_in⟩
  | 22 => some ⟨2, 2, b_can_set⟩
  | 23 => some ⟨2, 4, b_set_lines⟩
  | 24 => some ⟨3, 3, b_is_setting⟩
  | 25 => some ⟨2, 6, b_lines_used⟩
  | 26 => some ⟨2, 2, b_words_laid⟩
  | 27 => some ⟨2, 2, b_settings_many⟩
  | 28 => some ⟨3, 5, b_raggedness⟩
  | 29 => some ⟨4, 6, b__law_given⟩
  | 30 => some ⟨1, 1, b__law_size⟩
  | 31 => some ⟨2, 5, b__law_settings⟩
  | 32 => some ⟨1, 3, b__law_used⟩
  | 33 => some ⟨3, 8, b__law_near⟩
  | 34 => some ⟨3, 14, b__law_right⟩
  | 35 => some ⟨1, 1, b_are_measures⟩
  | 36 => some ⟨1, 1, b_are_words⟩
  | 37 => some ⟨2, 4, b__law_choices⟩
  | 38 => some ⟨0, 2, b__law_bent⟩
  | 39 => some ⟨2, 2, b_need_page⟩
  | 40 => some ⟨4, 5, b_beside⟩
  | 45 => some ⟨4, 4, b_measures_beside⟩
  | 46 => some ⟨4, 4, b_broadest_figure⟩
  | 47 => some ⟨3, 6, b_greatest_figure⟩
  | 48 => some ⟨2, 5, b__law_can⟩
  | 49 => some ⟨4, 4, b__law_page⟩
  | 50 => some ⟨2, 3, b__law_words⟩
  | 51 => some ⟨1, 7, b__law_least_right⟩
  | 52 => some ⟨1, 10, b__law_figures_right⟩
  | 500 => some ⟨1, 5, b_law⟩
  | _ => none
theorem roll : Roll tb := roll_of (b := b__law_roll) rfl rfl (by decide)
instance has : Has tb := ⟨rfl, rfl, roll, rfl, rfl, rfl, rfl, rfl, rfl, rfl, rfl, rfl, rfl, rfl, rfl, rfl, rfl, rfl, rfl, rfl, rfl, rfl, rfl, rfl, rfl, rfl, rfl, rfl, rfl, rfl, rfl, rfl, rfl, rfl, rfl, rfl, rfl, rfl, rfl, rfl, rfl, rfl⟩
end K83
end
section
set_option Elab.async false
set_option linter.all false
set_option maxRecDepth 100000
set_option maxHeartbeats 0
namespace K83
open PySem PySem.Spec PyProof.Rows L2 Pz In
abbrev prog_ : Program := PySem.Challenge.pw_printshop_k83_whole_settings
def top (i : Nat) : Stmt := prog_.main.body.getD i (.Pass ⟨0, 0, 0, 0⟩)
/-! is_whole -/
abbrev s_is_whole : Stmt := top 7
abbrev N_is_whole : List Str := ["value"]
abbrev S_is_whole : Scope := defScope s_is_whole
theorem sc_is_whole : FnScope N_is_whole ["value"] S_is_whole := ⟨rfl, rfl, rfl, by decide +kernel, rfl, by decide +kernel, by decide +kernel⟩
/-! fits_whole -/
abbrev s_fits_whole : Stmt := top 8
abbrev N_fits_whole : List Str := ["value", "low", "high"]
abbrev S_fits_whole : Scope := defScope s_fits_whole
theorem sc_fits_whole : FnScope N_fits_whole ["value", "low", "high"] S_fits_whole := ⟨rfl, rfl, rfl, by decide +kernel, rfl, by decide +kernel, by decide +kernel⟩
/-! is_tuple_of -/
abbrev s_is_tuple_of : Stmt := top 9
abbrev N_is_tuple_of : List Str := ["value", "least", "most"]
abbrev S_is_tuple_of : Scope := defScope s_is_tuple_of
theorem sc_is_tuple_of : FnScope N_is_tuple_of ["value", "least", "most"] S_is_tuple_of := ⟨rfl, rfl, rfl, by decide +kernel, rfl, by decide +kernel, by decide +kernel⟩
/-! fits_measures -/
abbrev s_fits_measures : Stmt := top 15
abbrev N_fits_measures : List Str := ["value", "one"]
abbrev S_fits_measures : Scope := defScope s_fits_measures
theorem sc_fits_measures : FnScope N_fits_measures ["value"] S_fits_measures := ⟨rfl, rfl, rfl, by decide +kernel, rfl, by decide +kernel, by decide +kernel⟩
/-! fits_words -/
abbrev s_fits_words : Stmt := top 16
abbrev N_fits_words : List Str := ["value", "one", "sign"]
abbrev S_fits_words : Scope := defScope s_fits_words
theorem sc_fits_words : FnScope N_fits_words ["value"] S_fits_words := ⟨rfl, rfl, rfl, by decide +kernel, rfl, by decide +kernel, by decide +kernel⟩
/-! need_both -/
abbrev s_need_both : Stmt := top 17
abbrev N_need_both : List Str := ["measures", "words"]
abbrev S_need_both : Scope := defScope s_need_both
theorem sc_need_both : FnScope N_need_both ["measures", "words"] S_need_both := ⟨rfl, rfl, rfl, by decide +kernel, rfl, by decide +kernel, by decide +kernel⟩
/-! need_words -/
abbrev s_need_words : Stmt := top 18
abbrev N_need_words : List Str := ["words"]
abbrev S_need_words : Scope := defScope s_need_words
theorem sc_need_words : FnScope N_need_words ["words"] S_need_words := ⟨rfl, rfl, rfl, by decide +kernel, rfl, by decide +kernel, by decide +kernel⟩
/-! size_of -/
abbrev s_size_of : Stmt := top 19
abbrev N_size_of : List Str := ["words", "word"]
abbrev S_size_of : Scope := defScope s_size_of
theorem sc_size_of : FnScope N_size_of ["words"] S_size_of := ⟨rfl, rfl, rfl, by decide +kernel, rfl, by decide +kernel, by decide +kernel⟩
/-! filled -/
abbrev s_filled : Stmt := top 20
abbrev N_filled : List Str := ["measures", "words", "found", "at", "measure", "here"]
abbrev S_filled : Scope := defScope s_filled
theorem sc_filled : FnScope N_filled ["measures", "words"] S_filled := ⟨rfl, rfl, rfl, by decide +kernel, rfl, by decide +kernel, by decide +kernel⟩
/-! does_fit -/
abbrev s_does_fit : Stmt := top 21
abbrev N_does_fit : List Str := ["measures", "words"]
abbrev S_does_fit : Scope := defScope s_does_fit
theorem sc_does_fit : FnScope N_does_fit ["measures", "words"] S_does_fit := ⟨rfl, rfl, rfl, by decide +kernel, rfl, by decide +kernel, by decide +kernel⟩
/-! fits_setting -/
abbrev s_fits_setting : Stmt := top 22
abbrev N_fits_setting : List Str := ["measures", "words", "value", "row", "measure", "one"]
abbrev S_fits_setting : Scope := defScope s_fits_setting
theorem sc_fits_setting : FnScope N_fits_setting ["measures", "words", "value"] S_fits_setting := ⟨rfl, rfl, rfl, by decide +kernel, rfl, by decide +kernel, by decide +kernel⟩
/-! ways_in -/
abbrev s_ways_in : Stmt := top 23
abbrev N_ways_in : List Str := ["measures", "words", "ends", "word", "ways", "measure", "later", "at", "fits", "ahead"]
abbrev S_ways_in : Scope := defScope s_ways_in
theorem sc_ways_in : FnScope N_ways_in ["measures", "words"] S_ways_in := ⟨rfl, rfl, rfl, by decide +kernel, rfl, by decide +kernel, by decide +kernel⟩
/-! can_set -/
abbrev s_can_set : Stmt := top 24
abbrev N_can_set : List Str := ["measures", "words"]
abbrev S_can_set : Scope := defScope s_can_set
theorem sc_can_set : FnScope N_can_set ["measures", "words"] S_can_set := ⟨rfl, rfl, rfl, by decide +kernel, rfl, by decide +kernel, by decide +kernel⟩
/-! set_lines -/
abbrev s_set_lines : Stmt := top 25
abbrev N_set_lines : List Str := ["measures", "words", "found", "many"]
abbrev S_set_lines : Scope := defScope s_set_lines
theorem sc_set_lines : FnScope N_set_lines ["measures", "words"] S_set_lines := ⟨rfl, rfl, rfl, by decide +kernel, rfl, by decide +kernel, by decide +kernel⟩
/-! is_setting -/
abbrev s_is_setting : Stmt := top 26
abbrev N_is_setting : List Str := ["measures", "words", "value"]
abbrev S_is_setting : Scope := defScope s_is_setting
theorem sc_is_setting : FnScope N_is_setting ["measures", "words", "value"] S_is_setting := ⟨rfl, rfl, rfl, by decide +kernel, rfl, by decide +kernel, by decide +kernel⟩
/-! lines_used -/
abbrev s_lines_used : Stmt := top 27
abbrev N_lines_used : List Str := ["measures", "words", "found", "many", "at", "row"]
abbrev S_lines_used : Scope := defScope s_lines_used
theorem sc_lines_used : FnScope N_lines_used ["measures", "words"] S_lines_used := ⟨rfl, rfl, rfl, by decide +kernel, rfl, by decide +kernel, by decide +kernel⟩
/-! words_laid -/
abbrev s_words_laid : Stmt := top 28
abbrev N_words_laid : List Str := ["measures", "words"]
abbrev S_words_laid : Scope := defScope s_words_laid
theorem sc_words_laid : FnScope N_words_laid ["measures", "words"] S_words_laid := ⟨rfl, rfl, rfl, by decide +kernel, rfl, by decide +kernel, by decide +kernel⟩
/-! settings_many -/
abbrev s_settings_many : Stmt := top 29
abbrev N_settings_many : List Str := ["measures", "words"]
abbrev S_settings_many : Scope := defScope s_settings_many
theorem sc_settings_many : FnScope N_settings_many ["measures", "words"] S_settings_many := ⟨rfl, rfl, rfl, by decide +kernel, rfl, by decide +kernel, by decide +kernel⟩
/-! raggedness -/
abbrev s_raggedness : Stmt := top 30
abbrev N_raggedness : List Str := ["measures", "words", "setting", "row", "measure"]
abbrev S_raggedness : Scope := defScope s_raggedness
theorem sc_raggedness : FnScope N_raggedness ["measures", "words", "setting"] S_raggedness := ⟨rfl, rfl, rfl, by decide +kernel, rfl, by decide +kernel, by decide +kernel⟩
/-! _law_cup -/
abbrev s__law_cup : Stmt := top 32
abbrev N__law_cup : List Str := ["script", "cell"]
abbrev S__law_cup : Scope := defScope s__law_cup
theorem sc__law_cup : FnScope N__law_cup ["script"] S__law_cup := ⟨rfl, rfl, rfl, by decide +kernel, rfl, by decide +kernel, by decide +kernel⟩
/-! _law_roll -/
abbrev s__law_roll : Stmt := top 33
abbrev N__law_roll : List Str := ["cup", "many", "found", "deep"]
abbrev S__law_roll : Scope := defScope s__law_roll
theorem sc__law_roll : FnScope N__law_roll ["cup", "many"] S__law_roll := ⟨rfl, rfl, rfl, by decide +kernel, rfl, by decide +kernel, by decide +kernel⟩
/-! _law_some -/
abbrev s__law_some : Stmt := top 34
abbrev N__law_some : List Str := ["cup", "things"]
abbrev S__law_some : Scope := defScope s__law_some
theorem sc__law_some : FnScope N__law_some ["cup", "things"] S__law_some := ⟨rfl, rfl, rfl, by decide +kernel, rfl, by decide +kernel, by decide +kernel⟩
/-! _law_same -/
abbrev s__law_same : Stmt := top 35
abbrev N__law_same : List Str := ["told", "due", "at"]
abbrev S__law_same : Scope := defScope s__law_same
theorem sc__law_same : FnScope N__law_same ["told", "due"] S__law_same := ⟨rfl, rfl, rfl, by decide +kernel, rfl, by decide +kernel, by decide +kernel⟩
/-! _law_given -/
abbrev s__law_given : Stmt := top 36
abbrev N__law_given : List Str := ["cup", "lines", "wide", "words", "measures", "turn"]
abbrev S__law_given : Scope := defScope s__law_given
theorem sc__law_given : FnScope N__law_given ["cup", "lines", "wide", "words"] S__law_given := ⟨rfl, rfl, rfl, by decide +kernel, rfl, by decide +kernel, by decide +kernel⟩
/-! _law_size -/
abbrev s__law_size : Stmt := top 37
abbrev N__law_size : List Str := ["row"]
abbrev S__law_size : Scope := defScope s__law_size
theorem sc__law_size : FnScope N__law_size ["row"] S__law_size := ⟨rfl, rfl, rfl, by decide +kernel, rfl, by decide +kernel, by decide +kernel⟩
/-! _law_settings -/
abbrev s__law_settings : Stmt := top 38
abbrev N__law_settings : List Str := ["measures", "words", "found", "many", "rest"]
abbrev S__law_settings : Scope := defScope s__law_settings
theorem sc__law_settings : FnScope N__law_settings ["measures", "words"] S__law_settings := ⟨rfl, rfl, rfl, by decide +kernel, rfl, by decide +kernel, by decide +kernel⟩
/-! _law_used -/
abbrev s__law_used : Stmt := top 39
abbrev N__law_used : List Str := ["setting", "at", "row"]
abbrev S__law_used : Scope := defScope s__law_used
theorem sc__law_used : FnScope N__law_used ["setting"] S__law_used := ⟨rfl, rfl, rfl, by decide +kernel, rfl, by decide +kernel, by decide +kernel⟩
/-! _law_near -/
abbrev s__law_near : Stmt := top 40
abbrev N__law_near : List Str := ["cup", "setting", "words", "found", "at", "row", "odds", "odd"]
abbrev S__law_near : Scope := defScope s__law_near
theorem sc__law_near : FnScope N__law_near ["cup", "setting", "words"] S__law_near := ⟨rfl, rfl, rfl, by decide +kernel, rfl, by decide +kernel, by decide +kernel⟩
/-! _law_right -/
abbrev s__law_right : Stmt := top 41
abbrev N__law_right : List Str := ["cup", "measures", "words", "every", "told", "used", "best", "many", "own", "value", "good", "setting", "row", "measure"]
abbrev S__law_right : Scope := defScope s__law_right
theorem sc__law_right : FnScope N__law_right ["cup", "measures", "words"] S__law_right := ⟨rfl, rfl, rfl, by decide +kernel, rfl, by decide +kernel, by decide +kernel⟩
/-! law -/
abbrev s_law : Stmt := top 42
abbrev N_law : List Str := ["script", "cup", "turn", "measures", "words"]
abbrev S_law : Scope := defScope s_law
theorem sc_law : FnScope N_law ["script"] S_law := ⟨rfl, rfl, rfl, by decide +kernel, rfl, by decide +kernel, by decide +kernel⟩
/-- what the module has -/
structure Gs (mg : Str → Option Value) : Prop where
  g_isinstance : mg "isinstance" = none
  g_int : mg "int" = none
  g_bool : mg "bool" = none
  g_tuple : mg "tuple" = none
  g_len : mg "len" = none
  g_LINES : ∃ t, mg "LINES" = some (.int 40 t)
  g_WIDE : ∃ t, mg "WIDE" = some (.int 200 t)
  g_all : mg "all" = none
  g_WORDS : ∃ t, mg "WORDS" = some (.int 60 t)
  g_str : mg "str" = none
  g_LONGEST : ∃ t, mg "LONGEST" = some (.int 30 t)
  g_LETTERS : ∃ t, mg "LETTERS" = some (.str "abcdefghijklmnopqrstuvwxyz" t)
  g_sum : mg "sum" = none
  g_max : mg "max" = none
  g_zip : mg "zip" = none
  g_range : mg "range" = none
  g_enumerate : mg "enumerate" = none
  g_list : mg "list" = none
  g_abs : mg "abs" = none
  g_min : mg "min" = none
/-- each def by its promise, at one depth -/
structure Al (P : Program) (w : World) (K : PySem.W.Frag) (mg : Str → Option Value) (base : Heap) (n : Nat) : Prop where
  f_is_whole : Cl P w K mg base n (run tb n) "is_whole" 10
  f_fits_whole : Cl P w K mg base n (run tb n) "fits_whole" 11
  f_is_tuple_of : Cl P w K mg base n (run tb n) "is_tuple_of" 12
  f_fits_measures : Cl P w K mg base n (run tb n) "fits_measures" 13
  f_fits_words : Cl P w K mg base n (run tb n) "fits_words" 14
  f_need_both : Cl P w K mg base n (run tb n) "need_both" 15
  f_need_words : Cl P w K mg base n (run tb n) "need_words" 16
  f_size_of : Cl P w K mg base n (run tb n) "size_of" 17
  f_filled : Cl P w K mg base n (run tb n) "filled" 18
  f_does_fit : Cl P w K mg base n (run tb n) "does_fit" 19
  f_fits_setting : Cl P w K mg base n (run tb n) "fits_setting" 20
  f_ways_in : Cl P w K mg base n (run tb n) "ways_in" 21
  f_can_set : Cl P w K mg base n (run tb n) "can_set" 22
  f_set_lines : Cl P w K mg base n (run tb n) "set_lines" 23
  f_is_setting : Cl P w K mg base n (run tb n) "is_setting" 24
  f_lines_used : Cl P w K mg base n (run tb n) "lines_used" 25
  f_words_laid : Cl P w K mg base n (run tb n) "words_laid" 26
  f_settings_many : Cl P w K mg base n (run tb n) "settings_many" 27
  f_raggedness : Cl P w K mg base n (run tb n) "raggedness" 28
  f__law_cup : Cl P w K mg base n (run tb n) "_law_cup" 3
  f__law_roll : Cl P w K mg base n (run tb n) "_law_roll" 0
  f__law_some : Cl P w K mg base n (run tb n) "_law_some" 1
  f__law_same : Cl P w K mg base n (run tb n) "_law_same" 2
  f__law_given : Cl P w K mg base n (run tb n) "_law_given" 29
  f__law_size : Cl P w K mg base n (run tb n) "_law_size" 30
  f__law_settings : Cl P w K mg base n (run tb n) "_law_settings" 31
  f__law_used : Cl P w K mg base n (run tb n) "_law_used" 32
  f__law_near : Cl P w K mg base n (run tb n) "_law_near" 33
  f__law_right : Cl P w K mg base n (run tb n) "_law_right" 34
  f_law : Cl P w K mg base n (run tb n) "law" 500
section
variable {P : Program} {w : World} {K : PySem.W.Frag} {mg : Str → Option Value} {base : Heap} {n : Nat}
theorem ok_is_whole (G : Gs mg) (A : Al P w K mg base n) (f : Addr) (cdv : Value) (Ar : Around) (outer : List Env) (s : Shared) (H : Hp) (E : XK) (hr : Room n (Ar.deeper (envOfC "is_whole" S_is_whole s.heap.objs.size f cdv))) :
    SsOk (cxOf CX0 P w K mg base N_is_whole "is_whole" S_is_whole f cdv Ar outer s H E).nox (run tb n) (defBody s_is_whole) b_is_whole :=
  have hu : (Ar.deeper (envOfC "is_whole" S_is_whole s.heap.objs.size f cdv)).units + 70 < cLine := by have := hr.un; omega
  have nd : N_is_whole.Nodup := sc_is_whole.nd
  (ss_cons (s_ret (e_and (e_isi (e_var rfl (by first | exact .inl rfl | exact .inr (.inl rfl) | exact .inr (.inr rfl))) rfl G.g_isinstance rfl G.g_int boot_int) (e_one (e_not (e_isi (e_var rfl (by first | exact .inl rfl | exact .inr (.inl rfl) | exact .inr (.inr rfl))) rfl G.g_isinstance rfl G.g_bool boot_bool)))))
  ss_nil)
theorem ok_fits_whole (G : Gs mg) (A : Al P w K mg base n) (f : Addr) (cdv : Value) (Ar : Around) (outer : List Env) (s : Shared) (H : Hp) (E : XK) (hr : Room n (Ar.deeper (envOfC "fits_whole" S_fits_whole s.heap.objs.size f cdv))) :
    SsOk (cxOf CX0 P w K mg base N_fits_whole "fits_whole" S_fits_whole f cdv Ar outer s H E).nox (run tb n) (defBody s_fits_whole) b_fits_whole :=
  have hu : (Ar.deeper (envOfC "fits_whole" S_fits_whole s.heap.objs.size f cdv)).units + 70 < cLine := by have := hr.un; omega
  have nd : N_fits_whole.Nodup := sc_fits_whole.nd
  (ss_cons (s_ret (e_and (e_call A.f_is_whole hr rfl (a_cons (e_var rfl (by first | exact .inl rfl | exact .inr (.inl rfl) | exact .inr (.inr rfl))) a_nil)) (e_one (e_chain hu rfl rfl (e_var rfl (by first | exact .inl rfl | exact .inr (.inl rfl) | exact .inr (.inr rfl))) (e_var rfl (by first | exact .inl rfl | exact .inr (.inl rfl) | exact .inr (.inr rfl))) (e_var rfl (by first | exact .inl rfl | exact .inr (.inl rfl) | exact .inr (.inr rfl))) (by with_unfolding_all rfl)))))
  ss_nil)
theorem ok_is_tuple_of (G : Gs mg) (A : Al P w K mg base n) (f : Addr) (cdv : Value) (Ar : Around) (outer : List Env) (s : Shared) (H : Hp) (E : XK) (hr : Room n (Ar.deeper (envOfC "is_tuple_of" S_is_tuple_of s.heap.objs.size f cdv))) :
    SsOk (cxOf CX0 P w K mg base N_is_tuple_of "is_tuple_of" S_is_tuple_of f cdv Ar outer s H E).nox (run tb n) (defBody s_is_tuple_of) b_is_tuple_of :=
  have hu : (Ar.deeper (envOfC "is_tuple_of" S_is_tuple_of s.heap.objs.size f cdv)).units + 70 < cLine := by have := hr.un; omega
  have nd : N_is_tuple_of.Nodup := sc_is_tuple_of.nd
  (ss_cons (s_ret (e_and (e_isi (e_var rfl (by first | exact .inl rfl | exact .inr (.inl rfl) | exact .inr (.inr rfl))) rfl G.g_isinstance rfl G.g_tuple boot_tuple) (e_one (e_chain hu rfl rfl (e_var rfl (by first | exact .inl rfl | exact .inr (.inl rfl) | exact .inr (.inr rfl))) (e_biB bi_len_ok rfl G.g_len boot_len (a_cons (e_var rfl (by first | exact .inl rfl | exact .inr (.inl rfl) | exact .inr (.inr rfl))) a_nil)) (e_var rfl (by first | exact .inl rfl | exact .inr (.inl rfl) | exact .inr (.inr rfl))) (by with_unfolding_all rfl)))))
  ss_nil)
theorem ok_fits_measures (G : Gs mg) (A : Al P w K mg base n) (f : Addr) (cdv : Value) (Ar : Around) (outer : List Env) (s : Shared) (H : Hp) (E : XK) (hr : Room n (Ar.deeper (envOfC "fits_measures" S_fits_measures s.heap.objs.size f cdv))) :
    SsOk (cxOf CX0 P w K mg base N_fits_measures "fits_measures" S_fits_measures f cdv Ar outer s H E).nox (run tb n) (defBody s_fits_measures) b_fits_measures :=
  have hu : (Ar.deeper (envOfC "fits_measures" S_fits_measures s.heap.objs.size f cdv)).units + 70 < cLine := by have := hr.un; omega
  have nd : N_fits_measures.Nodup := sc_fits_measures.nd
  (ss_cons (s_ret (e_and (e_call A.f_is_tuple_of hr rfl (a_cons (e_var rfl (by first | exact .inl rfl | exact .inr (.inl rfl) | exact .inr (.inr rfl))) (a_cons e_int (a_cons (e_globI' rfl G.g_LINES) a_nil)))) (e_one (e_biB (bi_all_ok rfl) rfl G.g_all (by decide +kernel) (a_cons (e_lc (own := [("one", 1)]) rfl nd (i_val (e_var rfl (by first | exact .inl rfl | exact .inr (.inl rfl) | exact .inr (.inr rfl)))) (blkOk_by (N := N_fits_measures) (sc := S_fits_measures) (by decide +kernel)) rfl (fun s H C cl fp => (g_name nd rfl (by first | exact .inl rfl | exact .inr rfl) (by first | exact .inl rfl | exact .inr rfl))) (fun s H C cl fp => ts_nil) (fun s H C cl fp => (e_call A.f_fits_whole hr rfl (a_cons (e_var rfl (by first | exact .inl rfl | exact .inr (.inl rfl) | exact .inr (.inr rfl))) (a_cons e_int (a_cons (e_globI' rfl G.g_WIDE) a_nil)))))) a_nil)))))
  ss_nil)
theorem ok_fits_words (G : Gs mg) (A : Al P w K mg base n) (f : Addr) (cdv : Value) (Ar : Around) (outer : List Env) (s : Shared) (H : Hp) (E : XK) (hr : Room n (Ar.deeper (envOfC "fits_words" S_fits_words s.heap.objs.size f cdv))) :
    SsOk (cxOf CX0 P w K mg base N_fits_words "fits_words" S_fits_words f cdv Ar outer s H E).nox (run tb n) (defBody s_fits_words) b_fits_words :=
  have hu : (Ar.deeper (envOfC "fits_words" S_fits_words s.heap.objs.size f cdv)).units + 70 < cLine := by have := hr.un; omega
  have nd : N_fits_words.Nodup := sc_fits_words.nd
  (ss_cons (s_if (WOk.t (w_or (t_not (t_val (e_call A.f_is_tuple_of hr rfl (a_cons (e_var rfl (by first | exact .inl rfl | exact .inr (.inl rfl) | exact .inr (.inr rfl))) (a_cons e_int (a_cons (e_globI' rfl G.g_WORDS) a_nil)))) (fun _ => rfl))) (w_one_or (t_not (t_val (e_biB (bi_all_ok rfl) rfl G.g_all (by decide +kernel) (a_cons (e_lc (own := [("one", 1)]) rfl nd (i_val (e_var rfl (by first | exact .inl rfl | exact .inr (.inl rfl) | exact .inr (.inr rfl)))) (blkOk_by (N := N_fits_words) (sc := S_fits_words) (by decide +kernel)) rfl (fun s H C cl fp => (g_name nd rfl (by first | exact .inl rfl | exact .inr rfl) (by first | exact .inl rfl | exact .inr rfl))) (fun s H C cl fp => ts_nil) (fun s H C cl fp => (e_isi (e_var rfl (by first | exact .inl rfl | exact .inr (.inl rfl) | exact .inr (.inr rfl))) rfl G.g_isinstance rfl G.g_str boot_str))) a_nil)) (fun _ => rfl)))))) (ss_cons (s_ret e_bl)
  ss_nil) ss_nil)
  (ss_cons (s_ret (e_biB (bi_all_ok rfl) rfl G.g_all (by decide +kernel) (a_cons (e_lc (own := [("one", 1)]) rfl nd (i_val (e_var rfl (by first | exact .inl rfl | exact .inr (.inl rfl) | exact .inr (.inr rfl)))) (blkOk_by (N := N_fits_words) (sc := S_fits_words) (by decide +kernel)) rfl (fun s H C cl fp => (g_name nd rfl (by first | exact .inl rfl | exact .inr rfl) (by first | exact .inl rfl | exact .inr rfl))) (fun s H C cl fp => ts_nil) (fun s H C cl fp => (e_and (e_chain hu rfl rfl e_int (e_biB bi_len_ok rfl G.g_len boot_len (a_cons (e_var rfl (by first | exact .inl rfl | exact .inr (.inl rfl) | exact .inr (.inr rfl))) a_nil)) (e_globI' rfl G.g_LONGEST) (by with_unfolding_all rfl)) (e_one (e_biB (bi_all_ok rfl) rfl G.g_all (by decide +kernel) (a_cons (e_lc (own := [("sign", 2)]) rfl nd (i_val (e_var rfl (by first | exact .inl rfl | exact .inr (.inl rfl) | exact .inr (.inr rfl)))) (blkOk_in (N := N_fits_words) (by decide +kernel)) rfl (fun s H C cl fp => (g_name nd rfl (by first | exact .inl rfl | exact .inr rfl) (by first | exact .inl rfl | exact .inr rfl))) (fun s H C cl fp => ts_nil) (fun s H C cl fp => (e_cmp hu rfl (e_var rfl (by first | exact .inl rfl | exact .inr (.inl rfl) | exact .inr (.inr rfl))) (e_globS' rfl G.g_LETTERS rfl rfl) (by with_unfolding_all rfl)))) a_nil)))))) a_nil)))
  ss_nil))
theorem ok_need_both (G : Gs mg) (A : Al P w K mg base n) (f : Addr) (cdv : Value) (Ar : Around) (outer : List Env) (s : Shared) (H : Hp) (E : XK) (hr : Room n (Ar.deeper (envOfC "need_both" S_need_both s.heap.objs.size f cdv))) :
    SsOk (cxOf CX0 P w K mg base N_need_both "need_both" S_need_both f cdv Ar outer s H E).nox (run tb n) (defBody s_need_both) b_need_both :=
  have hu : (Ar.deeper (envOfC "need_both" S_need_both s.heap.objs.size f cdv)).units + 70 < cLine := by have := hr.un; omega
  have nd : N_need_both.Nodup := sc_need_both.nd
  (ss_cons (s_if (t_not (t_val (e_call A.f_fits_measures hr rfl (a_cons (e_var rfl (by first | exact .inl rfl | exact .inr (.inl rfl) | exact .inr (.inr rfl))) a_nil)) (fun _ => rfl))) (ss_cons s_never
  ss_nil) ss_nil)
  (ss_cons (s_expr (e_call A.f_need_words hr rfl (a_cons (e_var rfl (by first | exact .inl rfl | exact .inr (.inl rfl) | exact .inr (.inr rfl))) a_nil)))
  ss_nil))
theorem ok_need_words (G : Gs mg) (A : Al P w K mg base n) (f : Addr) (cdv : Value) (Ar : Around) (outer : List Env) (s : Shared) (H : Hp) (E : XK) (hr : Room n (Ar.deeper (envOfC "need_words" S_need_words s.heap.objs.size f cdv))) :
    SsOk (cxOf CX0 P w K mg base N_need_words "need_words" S_need_words f cdv Ar outer s H E).nox (run tb n) (defBody s_need_words) b_need_words :=
  have hu : (Ar.deeper (envOfC "need_words" S_need_words s.heap.objs.size f cdv)).units + 70 < cLine := by have := hr.un; omega
  have nd : N_need_words.Nodup := sc_need_words.nd
  (ss_cons (s_if (t_not (t_val (e_call A.f_fits_words hr rfl (a_cons (e_var rfl (by first | exact .inl rfl | exact .inr (.inl rfl) | exact .inr (.inr rfl))) a_nil)) (fun _ => rfl))) (ss_cons s_never
  ss_nil) ss_nil)
  ss_nil)
theorem ok_size_of (G : Gs mg) (A : Al P w K mg base n) (f : Addr) (cdv : Value) (Ar : Around) (outer : List Env) (s : Shared) (H : Hp) (E : XK) (hr : Room n (Ar.deeper (envOfC "size_of" S_size_of s.heap.objs.size f cdv))) :
    SsOk (cxOf CX0 P w K mg base N_size_of "size_of" S_size_of f cdv Ar outer s H E).nox (run tb n) (defBody s_size_of) b_size_of :=
  have hu : (Ar.deeper (envOfC "size_of" S_size_of s.heap.objs.size f cdv)).units + 70 < cLine := by have := hr.un; omega
  have nd : N_size_of.Nodup := sc_size_of.nd
  (ss_cons (s_ret (e_op rfl (e_biB (bi_sum_ok rfl) rfl G.g_sum (by decide +kernel) (a_cons (e_lc (own := [("word", 1)]) rfl nd (i_val (e_var rfl (by first | exact .inl rfl | exact .inr (.inl rfl) | exact .inr (.inr rfl)))) (blkOk_by (N := N_size_of) (sc := S_size_of) (by decide +kernel)) rfl (fun s H C cl fp => (g_name nd rfl (by first | exact .inl rfl | exact .inr rfl) (by first | exact .inl rfl | exact .inr rfl))) (fun s H C cl fp => ts_nil) (fun s H C cl fp => (e_biB bi_len_ok rfl G.g_len boot_len (a_cons (e_var rfl (by first | exact .inl rfl | exact .inr (.inl rfl) | exact .inr (.inr rfl))) a_nil)))) a_nil)) (e_biB (bi_mx2_ok rfl) rfl G.g_max (by decide +kernel) (a_cons e_int (a_cons (e_op rfl (e_biB bi_len_ok rfl G.g_len boot_len (a_cons (e_var rfl (by first | exact .inl rfl | exact .inr (.inl rfl) | exact .inr (.inr rfl))) a_nil)) e_int) a_nil)))))
  ss_nil)
theorem ok_filled (G : Gs mg) (A : Al P w K mg base n) (f : Addr) (cdv : Value) (Ar : Around) (outer : List Env) (s : Shared) (H : Hp) (E : XK) (hr : Room n (Ar.deeper (envOfC "filled" S_filled s.heap.objs.size f cdv))) :
    SsOk (cxOf CX0 P w K mg base N_filled "filled" S_filled f cdv Ar outer s H E).nox (run tb n) (defBody s_filled) b_filled :=
  have hu : (Ar.deeper (envOfC "filled" S_filled s.heap.objs.size f cdv)).units + 70 < cLine := by have := hr.un; omega
  have nd : N_filled.Nodup := sc_filled.nd
  (ss_cons (s_par2 rfl nd rfl rfl (by decide) rfl rfl (x_fr (f_lst a_nil)) (x_val e_int nofun) rfl)
  (ss_cons (s_for PassesOwn.never rfl (i_val (e_var rfl (by first | exact .inl rfl | exact .inr (.inl rfl) | exact .inr (.inr rfl)))) (g_name nd rfl (by first | exact .inl rfl | exact .inr rfl) (by first | exact .inl rfl | exact .inr rfl)) (ss_cons (s_set nd rfl (by first | exact .inl rfl | exact .inr rfl) (e_var rfl (by first | exact .inl rfl | exact .inr (.inl rfl) | exact .inr (.inr rfl))) nofun)
  (ss_cons (s_while PassesOwn.never (WOk.t (w_and (t_cmp hu rfl (e_var rfl (by first | exact .inl rfl | exact .inr (.inl rfl) | exact .inr (.inr rfl))) (e_biB bi_len_ok rfl G.g_len boot_len (a_cons (e_var rfl (by first | exact .inl rfl | exact .inr (.inl rfl) | exact .inr (.inr rfl))) a_nil)) (nomark _)) (w_one_and (t_cmp hu rfl (e_call A.f_size_of hr rfl (a_cons (e_cut (e_var rfl (by first | exact .inl rfl | exact .inr (.inl rfl) | exact .inr (.inr rfl))) (o_some (e_var rfl (by first | exact .inl rfl | exact .inr (.inl rfl) | exact .inr (.inr rfl))) nofun) (o_some (e_op rfl (e_var rfl (by first | exact .inl rfl | exact .inr (.inl rfl) | exact .inr (.inr rfl))) e_int) nofun)) a_nil)) (e_var rfl (by first | exact .inl rfl | exact .inr (.inl rfl) | exact .inr (.inr rfl))) (nomark _))))) (ss_cons (s_set nd rfl (by first | exact .inl rfl | exact .inr rfl) (e_op rfl (e_var rfl (by first | exact .inl rfl | exact .inr (.inl rfl) | exact .inr (.inr rfl))) e_int) nofun)
  ss_nil))
  (ss_cons (s_app rfl (by first | exact .inl rfl | exact .inr (.inl rfl) | exact .inr (.inr rfl)) (e_cut (e_var rfl (by first | exact .inl rfl | exact .inr (.inl rfl) | exact .inr (.inr rfl))) (o_some (e_var rfl (by first | exact .inl rfl | exact .inr (.inl rfl) | exact .inr (.inr rfl))) nofun) (o_some (e_var rfl (by first | exact .inl rfl | exact .inr (.inl rfl) | exact .inr (.inr rfl))) nofun)))
  (ss_cons (s_set nd rfl (by first | exact .inl rfl | exact .inr rfl) (e_var rfl (by first | exact .inl rfl | exact .inr (.inl rfl) | exact .inr (.inr rfl))) nofun)
  ss_nil)))))
  (ss_cons (s_ret (e_tup (a_cons (e_var rfl (by first | exact .inl rfl | exact .inr (.inl rfl) | exact .inr (.inr rfl))) (a_cons (e_var rfl (by first | exact .inl rfl | exact .inr (.inl rfl) | exact .inr (.inr rfl))) a_nil))))
  ss_nil)))
theorem ok_does_fit (G : Gs mg) (A : Al P w K mg base n) (f : Addr) (cdv : Value) (Ar : Around) (outer : List Env) (s : Shared) (H : Hp) (E : XK) (hr : Room n (Ar.deeper (envOfC "does_fit" S_does_fit s.heap.objs.size f cdv))) :
    SsOk (cxOf CX0 P w K mg base N_does_fit "does_fit" S_does_fit f cdv Ar outer s H E).nox (run tb n) (defBody s_does_fit) b_does_fit :=
  have hu : (Ar.deeper (envOfC "does_fit" S_does_fit s.heap.objs.size f cdv)).units + 70 < cLine := by have := hr.un; omega
  have nd : N_does_fit.Nodup := sc_does_fit.nd
  (ss_cons (s_ret (e_cmp hu rfl (e_sub hu (e_call A.f_filled hr rfl (a_cons (e_var rfl (by first | exact .inl rfl | exact .inr (.inl rfl) | exact .inr (.inr rfl))) (a_cons (e_var rfl (by first | exact .inl rfl | exact .inr (.inl rfl) | exact .inr (.inr rfl))) a_nil))) e_int (fun _ _ => rfl)) (e_biB bi_len_ok rfl G.g_len boot_len (a_cons (e_var rfl (by first | exact .inl rfl | exact .inr (.inl rfl) | exact .inr (.inr rfl))) a_nil)) (nomark _)))
  ss_nil)
theorem ok_fits_setting (G : Gs mg) (A : Al P w K mg base n) (f : Addr) (cdv : Value) (Ar : Around) (outer : List Env) (s : Shared) (H : Hp) (E : XK) (hr : Room n (Ar.deeper (envOfC "fits_setting" S_fits_setting s.heap.objs.size f cdv))) :
    SsOk (cxOf CX0 P w K mg base N_fits_setting "fits_setting" S_fits_setting f cdv Ar outer s H E).nox (run tb n) (defBody s_fits_setting) b_fits_setting :=
  have hu : (Ar.deeper (envOfC "fits_setting" S_fits_setting s.heap.objs.size f cdv)).units + 70 < cLine := by have := hr.un; omega
  have nd : N_fits_setting.Nodup := sc_fits_setting.nd
  (ss_cons (s_if (WOk.t (w_or (t_not (t_val (e_call A.f_is_tuple_of hr rfl (a_cons (e_var rfl (by first | exact .inl rfl | exact .inr (.inl rfl) | exact .inr (.inr rfl))) (a_cons (e_biB bi_len_ok rfl G.g_len boot_len (a_cons (e_var rfl (by first | exact .inl rfl | exact .inr (.inl rfl) | exact .inr (.inr rfl))) a_nil)) (a_cons (e_biB bi_len_ok rfl G.g_len boot_len (a_cons (e_var rfl (by first | exact .inl rfl | exact .inr (.inl rfl) | exact .inr (.inr rfl))) a_nil)) a_nil)))) (fun _ => rfl))) (w_one_or (t_not (t_val (e_biB (bi_all_ok rfl) rfl G.g_all (by decide +kernel) (a_cons (e_lc (own := [("row", 3)]) rfl nd (i_val (e_var rfl (by first | exact .inl rfl | exact .inr (.inl rfl) | exact .inr (.inr rfl)))) (blkOk_by (N := N_fits_setting) (sc := S_fits_setting) (by decide +kernel)) rfl (fun s H C cl fp => (g_name nd rfl (by first | exact .inl rfl | exact .inr rfl) (by first | exact .inl rfl | exact .inr rfl))) (fun s H C cl fp => ts_nil) (fun s H C cl fp => (e_isi (e_var rfl (by first | exact .inl rfl | exact .inr (.inl rfl) | exact .inr (.inr rfl))) rfl G.g_isinstance rfl G.g_tuple boot_tuple))) a_nil)) (fun _ => rfl)))))) (ss_cons (s_ret e_bl)
  ss_nil) ss_nil)
  (ss_cons (s_if (t_not (t_val (e_biB (bi_all_ok rfl) rfl G.g_all (by decide +kernel) (a_cons (e_lc (own := [("row", 3)]) rfl nd (i_val (e_var rfl (by first | exact .inl rfl | exact .inr (.inl rfl) | exact .inr (.inr rfl)))) (blkOk_by (N := N_fits_setting) (sc := S_fits_setting) (by decide +kernel)) rfl (fun s H C cl fp => (g_name nd rfl (by first | exact .inl rfl | exact .inr rfl) (by first | exact .inl rfl | exact .inr rfl))) (fun s H C cl fp => ts_nil) (fun s H C cl fp => (e_biB (bi_all_ok rfl) rfl G.g_all (by decide +kernel) (a_cons (e_lc (own := [("one", 5)]) rfl nd (i_val (e_var rfl (by first | exact .inl rfl | exact .inr (.inl rfl) | exact .inr (.inr rfl)))) (blkOk_in (N := N_fits_setting) (by decide +kernel)) rfl (fun s H C cl fp => (g_name nd rfl (by first | exact .inl rfl | exact .inr rfl) (by first | exact .inl rfl | exact .inr rfl))) (fun s H C cl fp => ts_nil) (fun s H C cl fp => (e_isi (e_var rfl (by first | exact .inl rfl | exact .inr (.inl rfl) | exact .inr (.inr rfl))) rfl G.g_isinstance rfl G.g_str boot_str))) a_nil)))) a_nil)) (fun _ => rfl))) (ss_cons (s_ret e_bl)
  ss_nil) ss_nil)
  (ss_cons (s_if (t_cmp hu rfl (e_biT bi_tuple_ok rfl G.g_tuple boot_tuple (a_cons (e_lc2 (own := [("row", 3), ("one", 5)]) rfl nd (i_val (e_var rfl (by first | exact .inl rfl | exact .inr (.inl rfl) | exact .inr (.inr rfl)))) (blkOk_by (N := N_fits_setting) (sc := S_fits_setting) (by decide +kernel)) rfl (fun s H C cl fp => (g_name nd rfl (by first | exact .inl rfl | exact .inr rfl) (by first | exact .inl rfl | exact .inr rfl))) (fun s H C cl fp => ts_nil) (fun s H C cl fp => (i_val (e_var rfl (by first | exact .inl rfl | exact .inr (.inl rfl) | exact .inr (.inr rfl))))) (fun s H C cl fp => (g_name nd rfl (by first | exact .inl rfl | exact .inr rfl) (by first | exact .inl rfl | exact .inr rfl))) (fun s H C cl fp => ts_nil) (fun s H C cl fp => (e_var rfl (by first | exact .inl rfl | exact .inr (.inl rfl) | exact .inr (.inr rfl))))) a_nil)) (e_var rfl (by first | exact .inl rfl | exact .inr (.inl rfl) | exact .inr (.inr rfl))) (nomark _)) (ss_cons (s_ret e_bl)
  ss_nil) ss_nil)
  (ss_cons (s_ret (e_biB (bi_all_ok rfl) rfl G.g_all (by decide +kernel) (a_cons (e_lc (own := [("row", 3), ("measure", 4)]) rfl nd (i_zip rfl G.g_zip (e_var rfl (by first | exact .inl rfl | exact .inr (.inl rfl) | exact .inr (.inr rfl))) (e_var rfl (by first | exact .inl rfl | exact .inr (.inl rfl) | exact .inr (.inr rfl)))) (blkOk_by (N := N_fits_setting) (sc := S_fits_setting) (by decide +kernel)) rfl (fun s H C cl fp => (g_tup rfl (gs_cons (g_name nd rfl (by first | exact .inl rfl | exact .inr rfl) (by first | exact .inl rfl | exact .inr rfl)) (gs_cons (g_name nd rfl (by first | exact .inl rfl | exact .inr rfl) (by first | exact .inl rfl | exact .inr rfl)) gs_nil)))) (fun s H C cl fp => ts_nil) (fun s H C cl fp => (e_cmp hu rfl (e_call A.f_size_of hr rfl (a_cons (e_var rfl (by first | exact .inl rfl | exact .inr (.inl rfl) | exact .inr (.inr rfl))) a_nil)) (e_var rfl (by first | exact .inl rfl | exact .inr (.inl rfl) | exact .inr (.inr rfl))) (nomark _)))) a_nil)))
  ss_nil))))
theorem ok_ways_in (G : Gs mg) (A : Al P w K mg base n) (f : Addr) (cdv : Value) (Ar : Around) (outer : List Env) (s : Shared) (H : Hp) (E : XK) (hr : Room n (Ar.deeper (envOfC "ways_in" S_ways_in s.heap.objs.size f cdv))) :
    SsOk (cxOf CX0 P w K mg base N_ways_in "ways_in" S_ways_in f cdv Ar outer s H E).nox (run tb n) (defBody s_ways_in) b_ways_in :=
  have hu : (Ar.deeper (envOfC "ways_in" S_ways_in s.heap.objs.size f cdv)).units + 70 < cLine := by have := hr.un; omega
  have nd : N_ways_in.Nodup := sc_ways_in.nd
  (ss_cons (s_setF nd rfl (by first | exact .inl rfl | exact .inr rfl) (f_lst (a_cons e_int a_nil)))
  (ss_cons (s_for PassesOwn.never rfl (i_val (e_var rfl (by first | exact .inl rfl | exact .inr (.inl rfl) | exact .inr (.inr rfl)))) (g_name nd rfl (by first | exact .inl rfl | exact .inr rfl) (by first | exact .inl rfl | exact .inr rfl)) (ss_cons (s_app rfl (by first | exact .inl rfl | exact .inr (.inl rfl) | exact .inr (.inr rfl)) (e_op rfl (e_op rfl (e_sub hu (e_own rfl (by first | exact .inl rfl | exact .inr (.inl rfl) | exact .inr (.inr rfl))) (e_neg e_int) (fun _ _ => rfl)) (e_biB bi_len_ok rfl G.g_len boot_len (a_cons (e_var rfl (by first | exact .inl rfl | exact .inr (.inl rfl) | exact .inr (.inr rfl))) a_nil))) e_int))
  ss_nil))
  (ss_cons (s_set nd rfl (by first | exact .inl rfl | exact .inr rfl) (e_op rfl (e_lst (a_cons e_int a_nil)) (e_op rfl (e_lst (a_cons e_int a_nil)) (e_biB bi_len_ok rfl G.g_len boot_len (a_cons (e_var rfl (by first | exact .inl rfl | exact .inr (.inl rfl) | exact .inr (.inr rfl))) a_nil)))) nofun)
  (ss_cons (s_for PassesOwn.never rfl (i_val (e_var rfl (by first | exact .inl rfl | exact .inr (.inl rfl) | exact .inr (.inr rfl)))) (g_name nd rfl (by first | exact .inl rfl | exact .inr rfl) (by first | exact .inl rfl | exact .inr rfl)) (ss_cons (s_setF nd rfl (by first | exact .inl rfl | exact .inr rfl) (f_lst a_nil))
  (ss_cons (s_for PassesOwn.never rfl (i_rng1 rfl G.g_range (e_op rfl (e_biB bi_len_ok rfl G.g_len boot_len (a_cons (e_var rfl (by first | exact .inl rfl | exact .inr (.inl rfl) | exact .inr (.inr rfl))) a_nil)) e_int)) (g_name nd rfl (by first | exact .inl rfl | exact .inr rfl) (by first | exact .inl rfl | exact .inr rfl)) (ss_cons (s_setLc (own := [("ahead", 9)]) rfl nd rfl rfl rfl (i_rng1 rfl G.g_range (e_op rfl (e_var rfl (by first | exact .inl rfl | exact .inr (.inl rfl) | exact .inr (.inr rfl))) e_int)) (blkOk_by (N := N_ways_in) (sc := S_ways_in) (by decide +kernel)) rfl (fun s H C cl fp => (g_name nd rfl (by first | exact .inl rfl | exact .inr rfl) (by first | exact .inl rfl | exact .inr rfl))) (fun s H C cl fp => (ts_one (WOk.t (w_or (t_cmp hu rfl (e_var rfl (by first | exact .inl rfl | exact .inr (.inl rfl) | exact .inr (.inr rfl))) (e_var rfl (by first | exact .inl rfl | exact .inr (.inl rfl) | exact .inr (.inr rfl))) (nomark _)) (w_one_or (t_cmp hu rfl (e_op rfl (e_sub hu (e_own rfl (by first | exact .inl rfl | exact .inr (.inl rfl) | exact .inr (.inr rfl))) (e_var rfl (by first | exact .inl rfl | exact .inr (.inl rfl) | exact .inr (.inr rfl))) (fun _ _ => rfl)) (e_sub hu (e_own rfl (by first | exact .inl rfl | exact .inr (.inl rfl) | exact .inr (.inr rfl))) (e_var rfl (by first | exact .inl rfl | exact .inr (.inl rfl) | exact .inr (.inr rfl))) (fun _ _ => rfl))) (e_op rfl (e_var rfl (by first | exact .inl rfl | exact .inr (.inl rfl) | exact .inr (.inr rfl))) e_int) (nomark _))))))) (fun s H C cl fp => (e_var rfl (by first | exact .inl rfl | exact .inr (.inl rfl) | exact .inr (.inr rfl)))))
  (ss_cons (s_app rfl (by first | exact .inl rfl | exact .inr (.inl rfl) | exact .inr (.inr rfl)) (e_biB (bi_sum_ok rfl) rfl G.g_sum (by decide +kernel) (a_cons (e_lc (own := [("ahead", 9)]) rfl nd (i_val (e_var rfl (by first | exact .inl rfl | exact .inr (.inl rfl) | exact .inr (.inr rfl)))) (blkOk_by (N := N_ways_in) (sc := S_ways_in) (by decide +kernel)) rfl (fun s H C cl fp => (g_name nd rfl (by first | exact .inl rfl | exact .inr rfl) (by first | exact .inl rfl | exact .inr rfl))) (fun s H C cl fp => ts_nil) (fun s H C cl fp => (e_sub hu (e_var rfl (by first | exact .inl rfl | exact .inr (.inl rfl) | exact .inr (.inr rfl))) (e_var rfl (by first | exact .inl rfl | exact .inr (.inl rfl) | exact .inr (.inr rfl))) (fun _ _ => rfl)))) a_nil)))
  ss_nil)))
  (ss_cons (s_fz (s_set nd rfl (by first | exact .inl rfl | exact .inr rfl) (e_var rfl (by first | exact .inl rfl | exact .inr (.inl rfl) | exact .inr (.inr rfl))) nofun))
  ss_nil))))
  (ss_cons (s_ret (e_sub hu (e_var rfl (by first | exact .inl rfl | exact .inr (.inl rfl) | exact .inr (.inr rfl))) (e_biB bi_len_ok rfl G.g_len boot_len (a_cons (e_var rfl (by first | exact .inl rfl | exact .inr (.inl rfl) | exact .inr (.inr rfl))) a_nil)) (fun _ _ => rfl)))
  ss_nil)))))
theorem ok_can_set (G : Gs mg) (A : Al P w K mg base n) (f : Addr) (cdv : Value) (Ar : Around) (outer : List Env) (s : Shared) (H : Hp) (E : XK) (hr : Room n (Ar.deeper (envOfC "can_set" S_can_set s.heap.objs.size f cdv))) :
    SsOk (cxOf CX0 P w K mg base N_can_set "can_set" S_can_set f cdv Ar outer s H E).nox (run tb n) (defBody s_can_set) b_can_set :=
  have hu : (Ar.deeper (envOfC "can_set" S_can_set s.heap.objs.size f cdv)).units + 70 < cLine := by have := hr.un; omega
  have nd : N_can_set.Nodup := sc_can_set.nd
  (ss_cons (s_expr (e_call A.f_need_both hr rfl (a_cons (e_var rfl (by first | exact .inl rfl | exact .inr (.inl rfl) | exact .inr (.inr rfl))) (a_cons (e_var rfl (by first | exact .inl rfl | exact .inr (.inl rfl) | exact .inr (.inr rfl))) a_nil))))
  (ss_cons (s_ret (e_call A.f_does_fit hr rfl (a_cons (e_var rfl (by first | exact .inl rfl | exact .inr (.inl rfl) | exact .inr (.inr rfl))) (a_cons (e_var rfl (by first | exact .inl rfl | exact .inr (.inl rfl) | exact .inr (.inr rfl))) a_nil))))
  ss_nil))
theorem ok_set_lines (G : Gs mg) (A : Al P w K mg base n) (f : Addr) (cdv : Value) (Ar : Around) (outer : List Env) (s : Shared) (H : Hp) (E : XK) (hr : Room n (Ar.deeper (envOfC "set_lines" S_set_lines s.heap.objs.size f cdv))) :
    SsOk (cxOf CX0 P w K mg base N_set_lines "set_lines" S_set_lines f cdv Ar outer s H E).nox (run tb n) (defBody s_set_lines) b_set_lines :=
  have hu : (Ar.deeper (envOfC "set_lines" S_set_lines s.heap.objs.size f cdv)).units + 70 < cLine := by have := hr.un; omega
  have nd : N_set_lines.Nodup := sc_set_lines.nd
  (ss_cons (s_expr (e_call A.f_need_both hr rfl (a_cons (e_var rfl (by first | exact .inl rfl | exact .inr (.inl rfl) | exact .inr (.inr rfl))) (a_cons (e_var rfl (by first | exact .inl rfl | exact .inr (.inl rfl) | exact .inr (.inr rfl))) a_nil))))
  (ss_cons (s_asgT (e_call A.f_filled hr rfl (a_cons (e_var rfl (by first | exact .inl rfl | exact .inr (.inl rfl) | exact .inr (.inr rfl))) (a_cons (e_var rfl (by first | exact .inl rfl | exact .inr (.inl rfl) | exact .inr (.inr rfl))) a_nil))) nofun (g_tup rfl (gs_cons (g_name nd rfl (by first | exact .inl rfl | exact .inr rfl) (by first | exact .inl rfl | exact .inr rfl)) (gs_cons (g_name nd rfl (by first | exact .inl rfl | exact .inr rfl) (by first | exact .inl rfl | exact .inr rfl)) gs_nil))))
  (ss_cons (s_ret (e_ite (t_cmp hu rfl (e_var rfl (by first | exact .inl rfl | exact .inr (.inl rfl) | exact .inr (.inr rfl))) (e_biB bi_len_ok rfl G.g_len boot_len (a_cons (e_var rfl (by first | exact .inl rfl | exact .inr (.inl rfl) | exact .inr (.inr rfl))) a_nil)) (nomark _)) (e_biT bi_tuple_ok rfl G.g_tuple boot_tuple (a_cons (e_var rfl (by first | exact .inl rfl | exact .inr (.inl rfl) | exact .inr (.inr rfl))) a_nil)) e_non))
  ss_nil)))
theorem ok_is_setting (G : Gs mg) (A : Al P w K mg base n) (f : Addr) (cdv : Value) (Ar : Around) (outer : List Env) (s : Shared) (H : Hp) (E : XK) (hr : Room n (Ar.deeper (envOfC "is_setting" S_is_setting s.heap.objs.size f cdv))) :
    SsOk (cxOf CX0 P w K mg base N_is_setting "is_setting" S_is_setting f cdv Ar outer s H E).nox (run tb n) (defBody s_is_setting) b_is_setting :=
  have hu : (Ar.deeper (envOfC "is_setting" S_is_setting s.heap.objs.size f cdv)).units + 70 < cLine := by have := hr.un; omega
  have nd : N_is_setting.Nodup := sc_is_setting.nd
  (ss_cons (s_expr (e_call A.f_need_both hr rfl (a_cons (e_var rfl (by first | exact .inl rfl | exact .inr (.inl rfl) | exact .inr (.inr rfl))) (a_cons (e_var rfl (by first | exact .inl rfl | exact .inr (.inl rfl) | exact .inr (.inr rfl))) a_nil))))
  (ss_cons (s_ret (e_call A.f_fits_setting hr rfl (a_cons (e_var rfl (by first | exact .inl rfl | exact .inr (.inl rfl) | exact .inr (.inr rfl))) (a_cons (e_var rfl (by first | exact .inl rfl | exact .inr (.inl rfl) | exact .inr (.inr rfl))) (a_cons (e_var rfl (by first | exact .inl rfl | exact .inr (.inl rfl) | exact .inr (.inr rfl))) a_nil)))))
  ss_nil))
theorem ok_lines_used (G : Gs mg) (A : Al P w K mg base n) (f : Addr) (cdv : Value) (Ar : Around) (outer : List Env) (s : Shared) (H : Hp) (E : XK) (hr : Room n (Ar.deeper (envOfC "lines_used" S_lines_used s.heap.objs.size f cdv))) :
    SsOk (cxOf CX0 P w K mg base N_lines_used "lines_used" S_lines_used f cdv Ar outer s H E).nox (run tb n) (defBody s_lines_used) b_lines_used :=
  have hu : (Ar.deeper (envOfC "lines_used" S_lines_used s.heap.objs.size f cdv)).units + 70 < cLine := by have := hr.un; omega
  have nd : N_lines_used.Nodup := sc_lines_used.nd
  (ss_cons (s_expr (e_call A.f_need_both hr rfl (a_cons (e_var rfl (by first | exact .inl rfl | exact .inr (.inl rfl) | exact .inr (.inr rfl))) (a_cons (e_var rfl (by first | exact .inl rfl | exact .inr (.inl rfl) | exact .inr (.inr rfl))) a_nil))))
  (ss_cons (s_asgT (e_call A.f_filled hr rfl (a_cons (e_var rfl (by first | exact .inl rfl | exact .inr (.inl rfl) | exact .inr (.inr rfl))) (a_cons (e_var rfl (by first | exact .inl rfl | exact .inr (.inl rfl) | exact .inr (.inr rfl))) a_nil))) nofun (g_tup rfl (gs_cons (g_name nd rfl (by first | exact .inl rfl | exact .inr rfl) (by first | exact .inl rfl | exact .inr rfl)) (gs_cons (g_name nd rfl (by first | exact .inl rfl | exact .inr rfl) (by first | exact .inl rfl | exact .inr rfl)) gs_nil))))
  (ss_cons (s_if (t_cmp hu rfl (e_var rfl (by first | exact .inl rfl | exact .inr (.inl rfl) | exact .inr (.inr rfl))) (e_biB bi_len_ok rfl G.g_len boot_len (a_cons (e_var rfl (by first | exact .inl rfl | exact .inr (.inl rfl) | exact .inr (.inr rfl))) a_nil)) (nomark _)) (ss_cons (s_ret e_non)
  ss_nil) ss_nil)
  (ss_cons (s_ret (e_biB (bi_mx_ok rfl) rfl G.g_max (by decide +kernel) (a_cons (e_op rfl (e_lc (own := [("at", 4), ("row", 5)]) rfl nd (i_enum rfl G.g_enumerate (e_var rfl (by first | exact .inl rfl | exact .inr (.inl rfl) | exact .inr (.inr rfl)))) (blkOk_by (N := N_lines_used) (sc := S_lines_used) (by decide +kernel)) rfl (fun s H C cl fp => (g_tup rfl (gs_cons (g_name nd rfl (by first | exact .inl rfl | exact .inr rfl) (by first | exact .inl rfl | exact .inr rfl)) (gs_cons (g_name nd rfl (by first | exact .inl rfl | exact .inr rfl) (by first | exact .inl rfl | exact .inr rfl)) gs_nil)))) (fun s H C cl fp => (ts_one (t_cmp hu rfl (e_var rfl (by first | exact .inl rfl | exact .inr (.inl rfl) | exact .inr (.inr rfl))) (e_tup a_nil) (nomark _)))) (fun s H C cl fp => (e_op rfl (e_var rfl (by first | exact .inl rfl | exact .inr (.inl rfl) | exact .inr (.inr rfl))) e_int))) (e_lst (a_cons e_int a_nil))) a_nil)))
  ss_nil))))
theorem ok_words_laid (G : Gs mg) (A : Al P w K mg base n) (f : Addr) (cdv : Value) (Ar : Around) (outer : List Env) (s : Shared) (H : Hp) (E : XK) (hr : Room n (Ar.deeper (envOfC "words_laid" S_words_laid s.heap.objs.size f cdv))) :
    SsOk (cxOf CX0 P w K mg base N_words_laid "words_laid" S_words_laid f cdv Ar outer s H E).nox (run tb n) (defBody s_words_laid) b_words_laid :=
  have hu : (Ar.deeper (envOfC "words_laid" S_words_laid s.heap.objs.size f cdv)).units + 70 < cLine := by have := hr.un; omega
  have nd : N_words_laid.Nodup := sc_words_laid.nd
  (ss_cons (s_expr (e_call A.f_need_both hr rfl (a_cons (e_var rfl (by first | exact .inl rfl | exact .inr (.inl rfl) | exact .inr (.inr rfl))) (a_cons (e_var rfl (by first | exact .inl rfl | exact .inr (.inl rfl) | exact .inr (.inr rfl))) a_nil))))
  (ss_cons (s_ret (e_sub hu (e_call A.f_filled hr rfl (a_cons (e_var rfl (by first | exact .inl rfl | exact .inr (.inl rfl) | exact .inr (.inr rfl))) (a_cons (e_var rfl (by first | exact .inl rfl | exact .inr (.inl rfl) | exact .inr (.inr rfl))) a_nil))) e_int (fun _ _ => rfl)))
  ss_nil))
theorem ok_settings_many (G : Gs mg) (A : Al P w K mg base n) (f : Addr) (cdv : Value) (Ar : Around) (outer : List Env) (s : Shared) (H : Hp) (E : XK) (hr : Room n (Ar.deeper (envOfC "settings_many" S_settings_many s.heap.objs.size f cdv))) :
    SsOk (cxOf CX0 P w K mg base N_settings_many "settings_many" S_settings_many f cdv Ar outer s H E).nox (run tb n) (defBody s_settings_many) b_settings_many :=
  have hu : (Ar.deeper (envOfC "settings_many" S_settings_many s.heap.objs.size f cdv)).units + 70 < cLine := by have := hr.un; omega
  have nd : N_settings_many.Nodup := sc_settings_many.nd
  (ss_cons (s_expr (e_call A.f_need_both hr rfl (a_cons (e_var rfl (by first | exact .inl rfl | exact .inr (.inl rfl) | exact .inr (.inr rfl))) (a_cons (e_var rfl (by first | exact .inl rfl | exact .inr (.inl rfl) | exact .inr (.inr rfl))) a_nil))))
  (ss_cons (s_ret (e_call A.f_ways_in hr rfl (a_cons (e_var rfl (by first | exact .inl rfl | exact .inr (.inl rfl) | exact .inr (.inr rfl))) (a_cons (e_var rfl (by first | exact .inl rfl | exact .inr (.inl rfl) | exact .inr (.inr rfl))) a_nil))))
  ss_nil))
theorem ok_raggedness (G : Gs mg) (A : Al P w K mg base n) (f : Addr) (cdv : Value) (Ar : Around) (outer : List Env) (s : Shared) (H : Hp) (E : XK) (hr : Room n (Ar.deeper (envOfC "raggedness" S_raggedness s.heap.objs.size f cdv))) :
    SsOk (cxOf CX0 P w K mg base N_raggedness "raggedness" S_raggedness f cdv Ar outer s H E).nox (run tb n) (defBody s_raggedness) b_raggedness :=
  have hu : (Ar.deeper (envOfC "raggedness" S_raggedness s.heap.objs.size f cdv)).units + 70 < cLine := by have := hr.un; omega
  have nd : N_raggedness.Nodup := sc_raggedness.nd
  (ss_cons (s_expr (e_call A.f_need_both hr rfl (a_cons (e_var rfl (by first | exact .inl rfl | exact .inr (.inl rfl) | exact .inr (.inr rfl))) (a_cons (e_var rfl (by first | exact .inl rfl | exact .inr (.inl rfl) | exact .inr (.inr rfl))) a_nil))))
  (ss_cons (s_if (t_not (t_val (e_call A.f_fits_setting hr rfl (a_cons (e_var rfl (by first | exact .inl rfl | exact .inr (.inl rfl) | exact .inr (.inr rfl))) (a_cons (e_var rfl (by first | exact .inl rfl | exact .inr (.inl rfl) | exact .inr (.inr rfl))) (a_cons (e_var rfl (by first | exact .inl rfl | exact .inr (.inl rfl) | exact .inr (.inr rfl))) a_nil)))) (fun _ => rfl))) (ss_cons s_never
  ss_nil) ss_nil)
  (ss_cons (s_ret (e_biT bi_tuple_ok rfl G.g_tuple boot_tuple (a_cons (e_lc (own := [("row", 3), ("measure", 4)]) rfl nd (i_zip rfl G.g_zip (e_var rfl (by first | exact .inl rfl | exact .inr (.inl rfl) | exact .inr (.inr rfl))) (e_var rfl (by first | exact .inl rfl | exact .inr (.inl rfl) | exact .inr (.inr rfl)))) (blkOk_by (N := N_raggedness) (sc := S_raggedness) (by decide +kernel)) rfl (fun s H C cl fp => (g_tup rfl (gs_cons (g_name nd rfl (by first | exact .inl rfl | exact .inr rfl) (by first | exact .inl rfl | exact .inr rfl)) (gs_cons (g_name nd rfl (by first | exact .inl rfl | exact .inr rfl) (by first | exact .inl rfl | exact .inr rfl)) gs_nil)))) (fun s H C cl fp => ts_nil) (fun s H C cl fp => (e_op rfl (e_var rfl (by first | exact .inl rfl | exact .inr (.inl rfl) | exact .inr (.inr rfl))) (e_call A.f_size_of hr rfl (a_cons (e_var rfl (by first | exact .inl rfl | exact .inr (.inl rfl) | exact .inr (.inr rfl))) a_nil))))) a_nil)))
  ss_nil)))
theorem ok__law_cup (G : Gs mg) (A : Al P w K mg base n) (f : Addr) (cdv : Value) (Ar : Around) (outer : List Env) (s : Shared) (H : Hp) (E : XK) (hr : Room n (Ar.deeper (envOfC "_law_cup" S__law_cup s.heap.objs.size f cdv))) :
    SsOk (cxOf CX0 P w K mg base N__law_cup "_law_cup" S__law_cup f cdv Ar outer s H E).nox (run tb n) (defBody s__law_cup) b__law_cup :=
  have hu : (Ar.deeper (envOfC "_law_cup" S__law_cup s.heap.objs.size f cdv)).units + 70 < cLine := by have := hr.un; omega
  have nd : N__law_cup.Nodup := sc__law_cup.nd
  (ss_cons (s_set nd rfl (by first | exact .inl rfl | exact .inr rfl) (e_biB bi_abs_ok rfl G.g_abs boot_abs (a_cons (e_sub hu (e_op rfl (e_biNT bi_list_ok rfl G.g_list boot_list (a_cons (e_var rfl (by first | exact .inl rfl | exact .inr (.inl rfl) | exact .inr (.inr rfl))) a_nil)) (e_lst (a_cons e_int a_nil))) e_int (fun _ _ => rfl)) a_nil)) nofun)
  (ss_cons (s_ret (e_mkbox (f_lst (a_cons (e_ite (t_cmp hu rfl (e_var rfl (by first | exact .inl rfl | exact .inr (.inl rfl) | exact .inr (.inr rfl))) (e_op rfl e_int e_int) (nomark _)) (e_op rfl (e_var rfl (by first | exact .inl rfl | exact .inr (.inl rfl) | exact .inr (.inr rfl))) e_int) e_int) (a_cons (e_op rfl (e_op rfl (e_biT bi_int_ok rfl G.g_int boot_int (a_cons (e_op rfl (e_op rfl (e_var rfl (by first | exact .inl rfl | exact .inr (.inl rfl) | exact .inr (.inr rfl))) e_int) e_int) a_nil)) e_int) e_int) a_nil)))))
  ss_nil))
theorem ok__law_roll (G : Gs mg) (A : Al P w K mg base n) (f : Addr) (cdv : Value) (Ar : Around) (outer : List Env) (s : Shared) (H : Hp) (E : XK) (hr : Room n (Ar.deeper (envOfC "_law_roll" S__law_roll s.heap.objs.size f cdv))) :
    SsOk (cxOf CX0 P w K mg base N__law_roll "_law_roll" S__law_roll f cdv Ar outer s H E).nox (run tb n) (defBody s__law_roll) b__law_roll :=
  have hu : (Ar.deeper (envOfC "_law_roll" S__law_roll s.heap.objs.size f cdv)).units + 70 < cLine := by have := hr.un; omega
  have nd : N__law_roll.Nodup := sc__law_roll.nd
  (ss_cons (s_if (t_cmp hu rfl (e_sub hu (e_var rfl (by first | exact .inl rfl | exact .inr (.inl rfl) | exact .inr (.inr rfl))) e_int (fun _ _ => rfl)) e_int (nomark _)) (ss_cons (s_set nd rfl (by first | exact .inl rfl | exact .inr rfl) (e_op rfl (e_biT bi_int_ok rfl G.g_int boot_int (a_cons (e_sub hu (e_var rfl (by first | exact .inl rfl | exact .inr (.inl rfl) | exact .inr (.inr rfl))) e_int (fun _ _ => rfl)) a_nil)) (e_var rfl (by first | exact .inl rfl | exact .inr (.inl rfl) | exact .inr (.inr rfl)))) nofun)
  (ss_cons (s_bx hu (e_op rfl (e_sub hu (e_var rfl (by first | exact .inl rfl | exact .inr (.inl rfl) | exact .inr (.inr rfl))) e_int (fun _ _ => rfl)) (e_var rfl (by first | exact .inl rfl | exact .inr (.inl rfl) | exact .inr (.inr rfl)))) nofun (e_var rfl (by first | exact .inl rfl | exact .inr (.inl rfl) | exact .inr (.inr rfl))) e_int)
  (ss_cons (s_ret (e_var rfl (by first | exact .inl rfl | exact .inr (.inl rfl) | exact .inr (.inr rfl))))
  ss_nil))) ss_nil)
  (ss_cons (s_bx hu (e_op rfl (e_biT bi_int_ok rfl G.g_int boot_int (a_cons (e_op rfl (e_op rfl (e_sub hu (e_var rfl (by first | exact .inl rfl | exact .inr (.inl rfl) | exact .inr (.inr rfl))) e_int (fun _ _ => rfl)) e_int) e_int) a_nil)) e_int) nofun (e_var rfl (by first | exact .inl rfl | exact .inr (.inl rfl) | exact .inr (.inr rfl))) e_int)
  (ss_cons (s_set nd rfl (by first | exact .inl rfl | exact .inr rfl) (e_op rfl (e_biT bi_int_ok rfl G.g_int boot_int (a_cons (e_op rfl (e_sub hu (e_var rfl (by first | exact .inl rfl | exact .inr (.inl rfl) | exact .inr (.inr rfl))) e_int (fun _ _ => rfl)) (e_op rfl (e_sub hu (e_var rfl (by first | exact .inl rfl | exact .inr (.inl rfl) | exact .inr (.inr rfl))) e_int (fun _ _ => rfl)) e_int)) a_nil)) e_int) nofun)
  (ss_cons (s_ret (e_op rfl (e_biT bi_int_ok rfl G.g_int boot_int (a_cons (e_op rfl (e_var rfl (by first | exact .inl rfl | exact .inr (.inl rfl) | exact .inr (.inr rfl))) e_int) a_nil)) (e_var rfl (by first | exact .inl rfl | exact .inr (.inl rfl) | exact .inr (.inr rfl)))))
  ss_nil))))
theorem ok__law_some (G : Gs mg) (A : Al P w K mg base n) (f : Addr) (cdv : Value) (Ar : Around) (outer : List Env) (s : Shared) (H : Hp) (E : XK) (hr : Room n (Ar.deeper (envOfC "_law_some" S__law_some s.heap.objs.size f cdv))) :
    SsOk (cxOf CX0 P w K mg base N__law_some "_law_some" S__law_some f cdv Ar outer s H E).nox (run tb n) (defBody s__law_some) b__law_some :=
  have hu : (Ar.deeper (envOfC "_law_some" S__law_some s.heap.objs.size f cdv)).units + 70 < cLine := by have := hr.un; omega
  have nd : N__law_some.Nodup := sc__law_some.nd
  (ss_cons (s_ret (e_sub hu (e_var rfl (by first | exact .inl rfl | exact .inr (.inl rfl) | exact .inr (.inr rfl))) (e_call A.f__law_roll hr rfl (a_cons (e_var rfl (by first | exact .inl rfl | exact .inr (.inl rfl) | exact .inr (.inr rfl))) (a_cons (e_biB bi_len_ok rfl G.g_len boot_len (a_cons (e_var rfl (by first | exact .inl rfl | exact .inr (.inl rfl) | exact .inr (.inr rfl))) a_nil)) a_nil))) (fun _ _ => rfl)))
  ss_nil)
theorem ok__law_same (G : Gs mg) (A : Al P w K mg base n) (f : Addr) (cdv : Value) (Ar : Around) (outer : List Env) (s : Shared) (H : Hp) (E : XK) (hr : Room n (Ar.deeper (envOfC "_law_same" S__law_same s.heap.objs.size f cdv))) :
    SsOk (cxOf CX0 P w K mg base N__law_same "_law_same" S__law_same f cdv Ar outer s H E).nox (run tb n) (defBody s__law_same) b__law_same :=
  have hu : (Ar.deeper (envOfC "_law_same" S__law_same s.heap.objs.size f cdv)).units + 70 < cLine := by have := hr.un; omega
  have nd : N__law_same.Nodup := sc__law_same.nd
  (ss_cons (s_if (t_val (e_isi (e_var rfl (by first | exact .inl rfl | exact .inr (.inl rfl) | exact .inr (.inr rfl))) rfl G.g_isinstance rfl G.g_tuple boot_tuple) (fun _ => rfl)) (ss_cons (s_if (WOk.t (w_or (t_not (t_val (e_isi (e_var rfl (by first | exact .inl rfl | exact .inr (.inl rfl) | exact .inr (.inr rfl))) rfl G.g_isinstance rfl G.g_tuple boot_tuple) (fun _ => rfl))) (w_one_or (t_cmp hu rfl (e_biB bi_len_ok rfl G.g_len boot_len (a_cons (e_var rfl (by first | exact .inl rfl | exact .inr (.inl rfl) | exact .inr (.inr rfl))) a_nil)) (e_biB bi_len_ok rfl G.g_len boot_len (a_cons (e_var rfl (by first | exact .inl rfl | exact .inr (.inl rfl) | exact .inr (.inr rfl))) a_nil)) (nomark _))))) (ss_cons (s_ret e_bl)
  ss_nil) ss_nil)
  (ss_cons (s_ret (e_biB (bi_all_ok rfl) rfl G.g_all (by decide +kernel) (a_cons (e_lc (own := [("at", 2)]) rfl nd (i_rng1 rfl G.g_range (e_biB bi_len_ok rfl G.g_len boot_len (a_cons (e_var rfl (by first | exact .inl rfl | exact .inr (.inl rfl) | exact .inr (.inr rfl))) a_nil))) (blkOk_by (N := N__law_same) (sc := S__law_same) (by decide +kernel)) rfl (fun s H C cl fp => (g_name nd rfl (by first | exact .inl rfl | exact .inr rfl) (by first | exact .inl rfl | exact .inr rfl))) (fun s H C cl fp => ts_nil) (fun s H C cl fp => (e_call A.f__law_same hr rfl (a_cons (e_sub hu (e_var rfl (by first | exact .inl rfl | exact .inr (.inl rfl) | exact .inr (.inr rfl))) (e_var rfl (by first | exact .inl rfl | exact .inr (.inl rfl) | exact .inr (.inr rfl))) (fun _ _ => rfl)) (a_cons (e_sub hu (e_var rfl (by first | exact .inl rfl | exact .inr (.inl rfl) | exact .inr (.inr rfl))) (e_var rfl (by first | exact .inl rfl | exact .inr (.inl rfl) | exact .inr (.inr rfl))) (fun _ _ => rfl)) a_nil))))) a_nil)))
  ss_nil)) ss_nil)
  (ss_cons (s_if (t_cmp hu rfl (e_var rfl (by first | exact .inl rfl | exact .inr (.inl rfl) | exact .inr (.inr rfl))) e_non (nomark _)) (ss_cons (s_ret (e_cmp hu rfl (e_var rfl (by first | exact .inl rfl | exact .inr (.inl rfl) | exact .inr (.inr rfl))) e_non (nomark _)))
  ss_nil) ss_nil)
  (ss_cons (s_if (t_val (e_isi (e_var rfl (by first | exact .inl rfl | exact .inr (.inl rfl) | exact .inr (.inr rfl))) rfl G.g_isinstance rfl G.g_bool boot_bool) (fun _ => rfl)) (ss_cons (s_ret (e_ite (t_val (e_var rfl (by first | exact .inl rfl | exact .inr (.inl rfl) | exact .inr (.inr rfl))) (fun _ => rfl)) (e_cmp hu rfl (e_var rfl (by first | exact .inl rfl | exact .inr (.inl rfl) | exact .inr (.inr rfl))) e_bl (nomark _)) (e_cmp hu rfl (e_var rfl (by first | exact .inl rfl | exact .inr (.inl rfl) | exact .inr (.inr rfl))) e_bl (nomark _))))
  ss_nil) ss_nil)
  (ss_cons (s_if (t_val (e_isi (e_var rfl (by first | exact .inl rfl | exact .inr (.inl rfl) | exact .inr (.inr rfl))) rfl G.g_isinstance rfl G.g_int boot_int) (fun _ => rfl)) (ss_cons (s_ret (e_and (e_isi (e_var rfl (by first | exact .inl rfl | exact .inr (.inl rfl) | exact .inr (.inr rfl))) rfl G.g_isinstance rfl G.g_int boot_int) (e_and (e_not (e_isi (e_var rfl (by first | exact .inl rfl | exact .inr (.inl rfl) | exact .inr (.inr rfl))) rfl G.g_isinstance rfl G.g_bool boot_bool)) (e_one (e_cmp hu rfl (e_biT bi_int_ok rfl G.g_int boot_int (a_cons (e_var rfl (by first | exact .inl rfl | exact .inr (.inl rfl) | exact .inr (.inr rfl))) a_nil)) (e_var rfl (by first | exact .inl rfl | exact .inr (.inl rfl) | exact .inr (.inr rfl))) (nomark _))))))
  ss_nil) ss_nil)
  (ss_cons (s_ret (e_and (e_isi (e_var rfl (by first | exact .inl rfl | exact .inr (.inl rfl) | exact .inr (.inr rfl))) rfl G.g_isinstance rfl G.g_str boot_str) (e_one (e_cmp hu rfl (e_biT bi_str_ok rfl G.g_str boot_str (a_cons (e_var rfl (by first | exact .inl rfl | exact .inr (.inl rfl) | exact .inr (.inr rfl))) a_nil)) (e_var rfl (by first | exact .inl rfl | exact .inr (.inl rfl) | exact .inr (.inr rfl))) (nomark _)))))
  ss_nil)))))
theorem ok__law_given (G : Gs mg) (A : Al P w K mg base n) (f : Addr) (cdv : Value) (Ar : Around) (outer : List Env) (s : Shared) (H : Hp) (E : XK) (hr : Room n (Ar.deeper (envOfC "_law_given" S__law_given s.heap.objs.size f cdv))) :
    SsOk (cxOf CX0 P w K mg base N__law_given "_law_given" S__law_given f cdv Ar outer s H E).nox (run tb n) (defBody s__law_given) b__law_given :=
  have hu : (Ar.deeper (envOfC "_law_given" S__law_given s.heap.objs.size f cdv)).units + 70 < cLine := by have := hr.un; omega
  have nd : N__law_given.Nodup := sc__law_given.nd
  (ss_cons (s_set nd rfl (by first | exact .inl rfl | exact .inr rfl) (e_biT bi_tuple_ok rfl G.g_tuple boot_tuple (a_cons (e_lc (own := [("turn", 5)]) rfl nd (i_rng1 rfl G.g_range (e_op rfl e_int (e_call A.f__law_roll hr rfl (a_cons (e_var rfl (by first | exact .inl rfl | exact .inr (.inl rfl) | exact .inr (.inr rfl))) (a_cons (e_var rfl (by first | exact .inl rfl | exact .inr (.inl rfl) | exact .inr (.inr rfl))) a_nil))))) (blkOk_by (N := N__law_given) (sc := S__law_given) (by decide +kernel)) rfl (fun s H C cl fp => (g_name nd rfl (by first | exact .inl rfl | exact .inr rfl) (by first | exact .inl rfl | exact .inr rfl))) (fun s H C cl fp => ts_nil) (fun s H C cl fp => (e_call A.f__law_some hr rfl (a_cons (e_var rfl (by first | exact .inl rfl | exact .inr (.inl rfl) | exact .inr (.inr rfl))) (a_cons (e_lst (a_cons e_int (a_cons (e_call A.f__law_roll hr rfl (a_cons (e_var rfl (by first | exact .inl rfl | exact .inr (.inl rfl) | exact .inr (.inr rfl))) (a_cons (e_op rfl (e_var rfl (by first | exact .inl rfl | exact .inr (.inl rfl) | exact .inr (.inr rfl))) e_int) a_nil))) (a_cons (e_var rfl (by first | exact .inl rfl | exact .inr (.inl rfl) | exact .inr (.inr rfl))) a_nil)))) a_nil))))) a_nil)) nofun)
  (ss_cons (s_ret (e_tup (a_cons (e_var rfl (by first | exact .inl rfl | exact .inr (.inl rfl) | exact .inr (.inr rfl))) (a_cons (e_biT bi_tuple_ok rfl G.g_tuple boot_tuple (a_cons (e_lc (own := [("turn", 5)]) rfl nd (i_rng1 rfl G.g_range (e_call A.f__law_roll hr rfl (a_cons (e_var rfl (by first | exact .inl rfl | exact .inr (.inl rfl) | exact .inr (.inr rfl))) (a_cons (e_op rfl (e_var rfl (by first | exact .inl rfl | exact .inr (.inl rfl) | exact .inr (.inr rfl))) e_int) a_nil)))) (blkOk_by (N := N__law_given) (sc := S__law_given) (by decide +kernel)) rfl (fun s H C cl fp => (g_name nd rfl (by first | exact .inl rfl | exact .inr rfl) (by first | exact .inl rfl | exact .inr rfl))) (fun s H C cl fp => ts_nil) (fun s H C cl fp => (e_cut (e_str rfl rfl) o_none (o_some (e_op rfl e_int (e_call A.f__law_roll hr rfl (a_cons (e_var rfl (by first | exact .inl rfl | exact .inr (.inl rfl) | exact .inr (.inr rfl))) (a_cons e_int a_nil)))) nofun)))) a_nil)) a_nil))))
  ss_nil))
theorem ok__law_size (G : Gs mg) (A : Al P w K mg base n) (f : Addr) (cdv : Value) (Ar : Around) (outer : List Env) (s : Shared) (H : Hp) (E : XK) (hr : Room n (Ar.deeper (envOfC "_law_size" S__law_size s.heap.objs.size f cdv))) :
    SsOk (cxOf CX0 P w K mg base N__law_size "_law_size" S__law_size f cdv Ar outer s H E).nox (run tb n) (defBody s__law_size) b__law_size :=
  have hu : (Ar.deeper (envOfC "_law_size" S__law_size s.heap.objs.size f cdv)).units + 70 < cLine := by have := hr.un; omega
  have nd : N__law_size.Nodup := sc__law_size.nd
  (ss_cons (s_ret (e_biB bi_len_ok rfl G.g_len boot_len (a_cons (e_join (e_str rfl rfl) (e_biNT bi_list_ok rfl G.g_list boot_list (a_cons (e_var rfl (by first | exact .inl rfl | exact .inr (.inl rfl) | exact .inr (.inr rfl))) a_nil))) a_nil)))
  ss_nil)
theorem ok__law_settings (G : Gs mg) (A : Al P w K mg base n) (f : Addr) (cdv : Value) (Ar : Around) (outer : List Env) (s : Shared) (H : Hp) (E : XK) (hr : Room n (Ar.deeper (envOfC "_law_settings" S__law_settings s.heap.objs.size f cdv))) :
    SsOk (cxOf CX0 P w K mg base N__law_settings "_law_settings" S__law_settings f cdv Ar outer s H E).nox (run tb n) (defBody s__law_settings) b__law_settings :=
  have hu : (Ar.deeper (envOfC "_law_settings" S__law_settings s.heap.objs.size f cdv)).units + 70 < cLine := by have := hr.un; omega
  have nd : N__law_settings.Nodup := sc__law_settings.nd
  (ss_cons (s_if (t_cmp hu rfl (e_var rfl (by first | exact .inl rfl | exact .inr (.inl rfl) | exact .inr (.inr rfl))) (e_tup a_nil) (nomark _)) (ss_cons (s_ret (e_ite (t_cmp hu rfl (e_var rfl (by first | exact .inl rfl | exact .inr (.inl rfl) | exact .inr (.inr rfl))) (e_tup a_nil) (nomark _)) (e_lst (a_cons (e_tup a_nil) a_nil)) (e_lst a_nil)))
  ss_nil) ss_nil)
  (ss_cons (s_set nd rfl (by first | exact .inl rfl | exact .inr rfl) (e_lst a_nil) nofun)
  (ss_cons (s_for PassesOwn.never rfl (i_rng1 rfl G.g_range (e_op rfl (e_biB bi_len_ok rfl G.g_len boot_len (a_cons (e_var rfl (by first | exact .inl rfl | exact .inr (.inl rfl) | exact .inr (.inr rfl))) a_nil)) e_int)) (g_name nd rfl (by first | exact .inl rfl | exact .inr rfl) (by first | exact .inl rfl | exact .inr rfl)) (ss_cons (s_if (t_cmp hu rfl (e_call A.f__law_size hr rfl (a_cons (e_cut (e_var rfl (by first | exact .inl rfl | exact .inr (.inl rfl) | exact .inr (.inr rfl))) o_none (o_some (e_var rfl (by first | exact .inl rfl | exact .inr (.inl rfl) | exact .inr (.inr rfl))) nofun)) a_nil)) (e_sub hu (e_var rfl (by first | exact .inl rfl | exact .inr (.inl rfl) | exact .inr (.inr rfl))) e_int (fun _ _ => rfl)) (nomark _)) (ss_cons (s_set nd rfl (by first | exact .inl rfl | exact .inr rfl) (e_op rfl (e_var rfl (by first | exact .inl rfl | exact .inr (.inl rfl) | exact .inr (.inr rfl))) (e_lc (own := [("rest", 4)]) rfl nd (i_val (e_call A.f__law_settings hr rfl (a_cons (e_cut (e_var rfl (by first | exact .inl rfl | exact .inr (.inl rfl) | exact .inr (.inr rfl))) (o_some e_int nofun) o_none) (a_cons (e_cut (e_var rfl (by first | exact .inl rfl | exact .inr (.inl rfl) | exact .inr (.inr rfl))) (o_some (e_var rfl (by first | exact .inl rfl | exact .inr (.inl rfl) | exact .inr (.inr rfl))) nofun) o_none) a_nil)))) (blkOk_by (N := N__law_settings) (sc := S__law_settings) (by decide +kernel)) rfl (fun s H C cl fp => (g_name nd rfl (by first | exact .inl rfl | exact .inr rfl) (by first | exact .inl rfl | exact .inr rfl))) (fun s H C cl fp => ts_nil) (fun s H C cl fp => (e_op rfl (e_tup (a_cons (e_cut (e_var rfl (by first | exact .inl rfl | exact .inr (.inl rfl) | exact .inr (.inr rfl))) o_none (o_some (e_var rfl (by first | exact .inl rfl | exact .inr (.inl rfl) | exact .inr (.inr rfl))) nofun)) a_nil)) (e_var rfl (by first | exact .inl rfl | exact .inr (.inl rfl) | exact .inr (.inr rfl))))))) nofun)
  ss_nil) ss_nil)
  ss_nil))
  (ss_cons (s_ret (e_var rfl (by first | exact .inl rfl | exact .inr (.inl rfl) | exact .inr (.inr rfl))))
  ss_nil))))
theorem ok__law_used (G : Gs mg) (A : Al P w K mg base n) (f : Addr) (cdv : Value) (Ar : Around) (outer : List Env) (s : Shared) (H : Hp) (E : XK) (hr : Room n (Ar.deeper (envOfC "_law_used" S__law_used s.heap.objs.size f cdv))) :
    SsOk (cxOf CX0 P w K mg base N__law_used "_law_used" S__law_used f cdv Ar outer s H E).nox (run tb n) (defBody s__law_used) b__law_used :=
  have hu : (Ar.deeper (envOfC "_law_used" S__law_used s.heap.objs.size f cdv)).units + 70 < cLine := by have := hr.un; omega
  have nd : N__law_used.Nodup := sc__law_used.nd
  (ss_cons (s_ret (e_biB (bi_mx_ok rfl) rfl G.g_max (by decide +kernel) (a_cons (e_op rfl (e_lc (own := [("at", 1), ("row", 2)]) rfl nd (i_enum rfl G.g_enumerate (e_var rfl (by first | exact .inl rfl | exact .inr (.inl rfl) | exact .inr (.inr rfl)))) (blkOk_by (N := N__law_used) (sc := S__law_used) (by decide +kernel)) rfl (fun s H C cl fp => (g_tup rfl (gs_cons (g_name nd rfl (by first | exact .inl rfl | exact .inr rfl) (by first | exact .inl rfl | exact .inr rfl)) (gs_cons (g_name nd rfl (by first | exact .inl rfl | exact .inr rfl) (by first | exact .inl rfl | exact .inr rfl)) gs_nil)))) (fun s H C cl fp => (ts_one (t_cmp hu rfl (e_var rfl (by first | exact .inl rfl | exact .inr (.inl rfl) | exact .inr (.inr rfl))) (e_tup a_nil) (nomark _)))) (fun s H C cl fp => (e_op rfl (e_var rfl (by first | exact .inl rfl | exact .inr (.inl rfl) | exact .inr (.inr rfl))) e_int))) (e_lst (a_cons e_int a_nil))) a_nil)))
  ss_nil)
theorem ok__law_near (G : Gs mg) (A : Al P w K mg base n) (f : Addr) (cdv : Value) (Ar : Around) (outer : List Env) (s : Shared) (H : Hp) (E : XK) (hr : Room n (Ar.deeper (envOfC "_law_near" S__law_near s.heap.objs.size f cdv))) :
    SsOk (cxOf CX0 P w K mg base N__law_near "_law_near" S__law_near f cdv Ar outer s H E).nox (run tb n) (defBody s__law_near) b__law_near :=
  have hu : (Ar.deeper (envOfC "_law_near" S__law_near s.heap.objs.size f cdv)).units + 70 < cLine := by have := hr.un; omega
  have nd : N__law_near.Nodup := sc__law_near.nd
  (ss_cons (s_setF nd rfl (by first | exact .inl rfl | exact .inr rfl) (f_lst (a_cons (e_var rfl (by first | exact .inl rfl | exact .inr (.inl rfl) | exact .inr (.inr rfl))) (a_cons (e_rev (e_var rfl (by first | exact .inl rfl | exact .inr (.inl rfl) | exact .inr (.inr rfl)))) (a_cons (e_biNT bi_list_ok rfl G.g_list boot_list (a_cons (e_var rfl (by first | exact .inl rfl | exact .inr (.inl rfl) | exact .inr (.inr rfl))) a_nil)) (a_cons (e_cut (e_var rfl (by first | exact .inl rfl | exact .inr (.inl rfl) | exact .inr (.inr rfl))) (o_some e_int nofun) o_none) (a_cons (e_op rfl (e_var rfl (by first | exact .inl rfl | exact .inr (.inl rfl) | exact .inr (.inr rfl))) (e_tup (a_cons (e_tup a_nil) a_nil))) (a_cons e_non (a_cons (e_tup a_nil) (a_cons (e_str rfl rfl) (a_cons (e_var rfl (by first | exact .inl rfl | exact .inr (.inl rfl) | exact .inr (.inr rfl))) (a_cons (e_op rfl (e_tup (a_cons (e_var rfl (by first | exact .inl rfl | exact .inr (.inl rfl) | exact .inr (.inr rfl))) a_nil)) (e_op rfl (e_tup (a_cons (e_tup a_nil) a_nil)) (e_op rfl (e_biB bi_len_ok rfl G.g_len boot_len (a_cons (e_var rfl (by first | exact .inl rfl | exact .inr (.inl rfl) | exact .inr (.inr rfl))) a_nil)) e_int))) a_nil))))))))))))
  (ss_cons (s_set nd rfl (by first | exact .inl rfl | exact .inr rfl) (e_call A.f__law_roll hr rfl (a_cons (e_var rfl (by first | exact .inl rfl | exact .inr (.inl rfl) | exact .inr (.inr rfl))) (a_cons (e_biB bi_len_ok rfl G.g_len boot_len (a_cons (e_var rfl (by first | exact .inl rfl | exact .inr (.inl rfl) | exact .inr (.inr rfl))) a_nil)) a_nil))) nofun)
  (ss_cons (s_set nd rfl (by first | exact .inl rfl | exact .inr rfl) (e_sub hu (e_var rfl (by first | exact .inl rfl | exact .inr (.inl rfl) | exact .inr (.inr rfl))) (e_var rfl (by first | exact .inl rfl | exact .inr (.inl rfl) | exact .inr (.inr rfl))) (fun _ _ => rfl)) nofun)
  (ss_cons (s_set nd rfl (by first | exact .inl rfl | exact .inr rfl) (e_lst (a_cons (e_biNT bi_list_ok rfl G.g_list boot_list (a_cons (e_var rfl (by first | exact .inl rfl | exact .inr (.inl rfl) | exact .inr (.inr rfl))) a_nil)) (a_cons (e_cut (e_var rfl (by first | exact .inl rfl | exact .inr (.inl rfl) | exact .inr (.inr rfl))) (o_some e_int nofun) o_none) (a_cons (e_rev (e_var rfl (by first | exact .inl rfl | exact .inr (.inl rfl) | exact .inr (.inr rfl)))) (a_cons (e_op rfl (e_var rfl (by first | exact .inl rfl | exact .inr (.inl rfl) | exact .inr (.inr rfl))) (e_tup (a_cons (e_str rfl rfl) a_nil))) (a_cons e_non (a_cons (e_tup (a_cons e_non a_nil)) (a_cons (e_join (e_str rfl rfl) (e_biNT bi_list_ok rfl G.g_list boot_list (a_cons (e_var rfl (by first | exact .inl rfl | exact .inr (.inl rfl) | exact .inr (.inr rfl))) a_nil))) (a_cons (e_op rfl (e_var rfl (by first | exact .inl rfl | exact .inr (.inl rfl) | exact .inr (.inr rfl))) (e_cut (e_var rfl (by first | exact .inl rfl | exact .inr (.inl rfl) | exact .inr (.inr rfl))) (o_some (e_neg e_int) nofun) o_none)) (a_cons (e_tup (a_cons e_int a_nil)) (a_cons (e_tup (a_cons (e_str rfl rfl) a_nil)) a_nil))))))))))) nofun)
  (ss_cons (s_setF nd rfl (by first | exact .inl rfl | exact .inr rfl) (f_op rfl (e_own rfl (by first | exact .inl rfl | exact .inr (.inl rfl) | exact .inr (.inr rfl))) (e_lc (own := [("odd", 7)]) rfl nd (i_val (e_var rfl (by first | exact .inl rfl | exact .inr (.inl rfl) | exact .inr (.inr rfl)))) (blkOk_by (N := N__law_near) (sc := S__law_near) (by decide +kernel)) rfl (fun s H C cl fp => (g_name nd rfl (by first | exact .inl rfl | exact .inr rfl) (by first | exact .inl rfl | exact .inr rfl))) (fun s H C cl fp => ts_nil) (fun s H C cl fp => (e_op rfl (e_op rfl (e_cut (e_var rfl (by first | exact .inl rfl | exact .inr (.inl rfl) | exact .inr (.inr rfl))) o_none (o_some (e_var rfl (by first | exact .inl rfl | exact .inr (.inl rfl) | exact .inr (.inr rfl))) nofun)) (e_tup (a_cons (e_var rfl (by first | exact .inl rfl | exact .inr (.inl rfl) | exact .inr (.inr rfl))) a_nil))) (e_cut (e_var rfl (by first | exact .inl rfl | exact .inr (.inl rfl) | exact .inr (.inr rfl))) (o_some (e_op rfl (e_var rfl (by first | exact .inl rfl | exact .inr (.inl rfl) | exact .inr (.inr rfl))) e_int) nofun) o_none))))))
  (ss_cons (s_if (WOk.t (w_and (t_cmp hu rfl (e_op rfl (e_var rfl (by first | exact .inl rfl | exact .inr (.inl rfl) | exact .inr (.inr rfl))) e_int) (e_biB bi_len_ok rfl G.g_len boot_len (a_cons (e_var rfl (by first | exact .inl rfl | exact .inr (.inl rfl) | exact .inr (.inr rfl))) a_nil)) (nomark _)) (w_one_and (t_cmp hu rfl (e_var rfl (by first | exact .inl rfl | exact .inr (.inl rfl) | exact .inr (.inr rfl))) (e_tup a_nil) (nomark _))))) (ss_cons (s_app rfl (by first | exact .inl rfl | exact .inr (.inl rfl) | exact .inr (.inr rfl)) (e_op rfl (e_op rfl (e_cut (e_var rfl (by first | exact .inl rfl | exact .inr (.inl rfl) | exact .inr (.inr rfl))) o_none (o_some (e_var rfl (by first | exact .inl rfl | exact .inr (.inl rfl) | exact .inr (.inr rfl))) nofun)) (e_tup (a_cons (e_cut (e_var rfl (by first | exact .inl rfl | exact .inr (.inl rfl) | exact .inr (.inr rfl))) o_none (o_some (e_neg e_int) nofun)) (a_cons (e_op rfl (e_cut (e_var rfl (by first | exact .inl rfl | exact .inr (.inl rfl) | exact .inr (.inr rfl))) (o_some (e_neg e_int) nofun) o_none) (e_sub hu (e_var rfl (by first | exact .inl rfl | exact .inr (.inl rfl) | exact .inr (.inr rfl))) (e_op rfl (e_var rfl (by first | exact .inl rfl | exact .inr (.inl rfl) | exact .inr (.inr rfl))) e_int) (fun _ _ => rfl))) a_nil)))) (e_cut (e_var rfl (by first | exact .inl rfl | exact .inr (.inl rfl) | exact .inr (.inr rfl))) (o_some (e_op rfl (e_var rfl (by first | exact .inl rfl | exact .inr (.inl rfl) | exact .inr (.inr rfl))) e_int) nofun) o_none)))
  ss_nil) ss_nil)
  (ss_cons (s_ret (e_var rfl (by first | exact .inl rfl | exact .inr (.inl rfl) | exact .inr (.inr rfl))))
  ss_nil)))))))
theorem ok__law_right (G : Gs mg) (A : Al P w K mg base n) (f : Addr) (cdv : Value) (Ar : Around) (outer : List Env) (s : Shared) (H : Hp) (E : XK) (hr : Room n (Ar.deeper (envOfC "_law_right" S__law_right s.heap.objs.size f cdv))) :
    SsOk (cxOf CX0 P w K mg base N__law_right "_law_right" S__law_right f cdv Ar outer s H E).nox (run tb n) (defBody s__law_right) b__law_right :=
  have hu : (Ar.deeper (envOfC "_law_right" S__law_right s.heap.objs.size f cdv)).units + 70 < cLine := by have := hr.un; omega
  have nd : N__law_right.Nodup := sc__law_right.nd
  (ss_cons (s_set nd rfl (by first | exact .inl rfl | exact .inr rfl) (e_call A.f__law_settings hr rfl (a_cons (e_var rfl (by first | exact .inl rfl | exact .inr (.inl rfl) | exact .inr (.inr rfl))) (a_cons (e_var rfl (by first | exact .inl rfl | exact .inr (.inl rfl) | exact .inr (.inr rfl))) a_nil))) nofun)
  (ss_cons (s_par2 rfl nd rfl rfl (by decide) rfl rfl (x_val (e_call A.f_set_lines hr rfl (a_cons (e_var rfl (by first | exact .inl rfl | exact .inr (.inl rfl) | exact .inr (.inr rfl))) (a_cons (e_var rfl (by first | exact .inl rfl | exact .inr (.inl rfl) | exact .inr (.inr rfl))) a_nil))) nofun) (x_val (e_call A.f_lines_used hr rfl (a_cons (e_var rfl (by first | exact .inl rfl | exact .inr (.inl rfl) | exact .inr (.inr rfl))) (a_cons (e_var rfl (by first | exact .inl rfl | exact .inr (.inl rfl) | exact .inr (.inr rfl))) a_nil))) nofun) rfl)
  (ss_cons (s_if (t_not (t_val (e_call A.f__law_same hr rfl (a_cons (e_tup (a_cons (e_call A.f_can_set hr rfl (a_cons (e_var rfl (by first | exact .inl rfl | exact .inr (.inl rfl) | exact .inr (.inr rfl))) (a_cons (e_var rfl (by first | exact .inl rfl | exact .inr (.inl rfl) | exact .inr (.inr rfl))) a_nil))) (a_cons (e_call A.f_settings_many hr rfl (a_cons (e_var rfl (by first | exact .inl rfl | exact .inr (.inl rfl) | exact .inr (.inr rfl))) (a_cons (e_var rfl (by first | exact .inl rfl | exact .inr (.inl rfl) | exact .inr (.inr rfl))) a_nil))) a_nil))) (a_cons (e_tup (a_cons (e_cmp hu rfl (e_var rfl (by first | exact .inl rfl | exact .inr (.inl rfl) | exact .inr (.inr rfl))) (e_lst a_nil) (nomark _)) (a_cons (e_biB bi_len_ok rfl G.g_len boot_len (a_cons (e_var rfl (by first | exact .inl rfl | exact .inr (.inl rfl) | exact .inr (.inr rfl))) a_nil)) a_nil))) a_nil))) (fun _ => rfl))) (ss_cons (s_ret e_bl)
  ss_nil) ss_nil)
  (ss_cons (s_if (WOk.t (w_or (t_cmp hu rfl (e_cmp hu rfl (e_var rfl (by first | exact .inl rfl | exact .inr (.inl rfl) | exact .inr (.inr rfl))) e_non (nomark _)) (e_cmp hu rfl (e_var rfl (by first | exact .inl rfl | exact .inr (.inl rfl) | exact .inr (.inr rfl))) (e_lst a_nil) (nomark _)) (nomark _)) (w_one_or (t_cmp hu rfl (e_cmp hu rfl (e_var rfl (by first | exact .inl rfl | exact .inr (.inl rfl) | exact .inr (.inr rfl))) e_non (nomark _)) (e_cmp hu rfl (e_var rfl (by first | exact .inl rfl | exact .inr (.inl rfl) | exact .inr (.inr rfl))) (e_lst a_nil) (nomark _)) (nomark _))))) (ss_cons (s_ret e_bl)
  ss_nil) ss_nil)
  (ss_cons (s_if (t_cmp hu rfl (e_var rfl (by first | exact .inl rfl | exact .inr (.inl rfl) | exact .inr (.inr rfl))) e_non (nomark _)) (ss_cons (s_set nd rfl (by first | exact .inl rfl | exact .inr rfl) (e_biB (bi_mxg_ok hu rfl) rfl G.g_max (by decide +kernel) (a_cons (e_lc (own := [("setting", 11)]) rfl nd (i_val (e_var rfl (by first | exact .inl rfl | exact .inr (.inl rfl) | exact .inr (.inr rfl)))) (blkOk_by (N := N__law_right) (sc := S__law_right) (by decide +kernel)) rfl (fun s H C cl fp => (g_name nd rfl (by first | exact .inl rfl | exact .inr rfl) (by first | exact .inl rfl | exact .inr rfl))) (fun s H C cl fp => ts_nil) (fun s H C cl fp => (e_biT bi_tuple_ok rfl G.g_tuple boot_tuple (a_cons (e_lc (own := [("row", 12)]) rfl nd (i_val (e_var rfl (by first | exact .inl rfl | exact .inr (.inl rfl) | exact .inr (.inr rfl)))) (blkOk_in (N := N__law_right) (by decide +kernel)) rfl (fun s H C cl fp => (g_name nd rfl (by first | exact .inl rfl | exact .inr rfl) (by first | exact .inl rfl | exact .inr rfl))) (fun s H C cl fp => ts_nil) (fun s H C cl fp => (e_biB bi_len_ok rfl G.g_len boot_len (a_cons (e_var rfl (by first | exact .inl rfl | exact .inr (.inl rfl) | exact .inr (.inr rfl))) a_nil)))) a_nil)))) a_nil)) nofun)
  (ss_cons (s_if (WOk.t (w_or (t_cmp hu rfl (e_var rfl (by first | exact .inl rfl | exact .inr (.inl rfl) | exact .inr (.inr rfl))) (e_var rfl (by first | exact .inl rfl | exact .inr (.inl rfl) | exact .inr (.inr rfl))) (by with_unfolding_all rfl)) (w_one_or (t_cmp hu rfl (e_biT bi_tuple_ok rfl G.g_tuple boot_tuple (a_cons (e_lc (own := [("row", 12)]) rfl nd (i_val (e_var rfl (by first | exact .inl rfl | exact .inr (.inl rfl) | exact .inr (.inr rfl)))) (blkOk_by (N := N__law_right) (sc := S__law_right) (by decide +kernel)) rfl (fun s H C cl fp => (g_name nd rfl (by first | exact .inl rfl | exact .inr rfl) (by first | exact .inl rfl | exact .inr rfl))) (fun s H C cl fp => ts_nil) (fun s H C cl fp => (e_biB bi_len_ok rfl G.g_len boot_len (a_cons (e_var rfl (by first | exact .inl rfl | exact .inr (.inl rfl) | exact .inr (.inr rfl))) a_nil)))) a_nil)) (e_var rfl (by first | exact .inl rfl | exact .inr (.inl rfl) | exact .inr (.inr rfl))) (nomark _))))) (ss_cons (s_ret e_bl)
  ss_nil) ss_nil)
  (ss_cons (s_if (WOk.t (w_or (t_not (t_val (e_call A.f__law_same hr rfl (a_cons (e_var rfl (by first | exact .inl rfl | exact .inr (.inl rfl) | exact .inr (.inr rfl))) (a_cons (e_biB (bi_mng_ok hu rfl) rfl G.g_min (by decide +kernel) (a_cons (e_lc (own := [("setting", 11)]) rfl nd (i_val (e_var rfl (by first | exact .inl rfl | exact .inr (.inl rfl) | exact .inr (.inr rfl)))) (blkOk_by (N := N__law_right) (sc := S__law_right) (by decide +kernel)) rfl (fun s H C cl fp => (g_name nd rfl (by first | exact .inl rfl | exact .inr rfl) (by first | exact .inl rfl | exact .inr rfl))) (fun s H C cl fp => ts_nil) (fun s H C cl fp => (e_call A.f__law_used hr rfl (a_cons (e_var rfl (by first | exact .inl rfl | exact .inr (.inl rfl) | exact .inr (.inr rfl))) a_nil)))) a_nil)) a_nil))) (fun _ => rfl))) (w_one_or (t_cmp hu rfl (e_call A.f__law_used hr rfl (a_cons (e_var rfl (by first | exact .inl rfl | exact .inr (.inl rfl) | exact .inr (.inr rfl))) a_nil)) (e_var rfl (by first | exact .inl rfl | exact .inr (.inl rfl) | exact .inr (.inr rfl))) (nomark _))))) (ss_cons (s_ret e_bl)
  ss_nil) ss_nil)
  ss_nil))) ss_nil)
  (ss_cons (s_set nd rfl (by first | exact .inl rfl | exact .inr rfl) (e_biB (bi_mxg_ok hu rfl) rfl G.g_max (by decide +kernel) (a_cons (e_lc (own := [("many", 7)]) rfl nd (i_rng1 rfl G.g_range (e_op rfl (e_biB bi_len_ok rfl G.g_len boot_len (a_cons (e_var rfl (by first | exact .inl rfl | exact .inr (.inl rfl) | exact .inr (.inr rfl))) a_nil)) e_int)) (blkOk_by (N := N__law_right) (sc := S__law_right) (by decide +kernel)) rfl (fun s H C cl fp => (g_name nd rfl (by first | exact .inl rfl | exact .inr rfl) (by first | exact .inl rfl | exact .inr rfl))) (fun s H C cl fp => (ts_one (t_cmp hu rfl (e_call A.f__law_settings hr rfl (a_cons (e_var rfl (by first | exact .inl rfl | exact .inr (.inl rfl) | exact .inr (.inr rfl))) (a_cons (e_cut (e_var rfl (by first | exact .inl rfl | exact .inr (.inl rfl) | exact .inr (.inr rfl))) o_none (o_some (e_var rfl (by first | exact .inl rfl | exact .inr (.inl rfl) | exact .inr (.inr rfl))) nofun)) a_nil))) (e_lst a_nil) (nomark _)))) (fun s H C cl fp => (e_var rfl (by first | exact .inl rfl | exact .inr (.inl rfl) | exact .inr (.inr rfl))))) a_nil)) nofun)
  (ss_cons (s_if (t_not (t_val (e_call A.f__law_same hr rfl (a_cons (e_call A.f_words_laid hr rfl (a_cons (e_var rfl (by first | exact .inl rfl | exact .inr (.inl rfl) | exact .inr (.inr rfl))) (a_cons (e_var rfl (by first | exact .inl rfl | exact .inr (.inl rfl) | exact .inr (.inr rfl))) a_nil))) (a_cons (e_var rfl (by first | exact .inl rfl | exact .inr (.inl rfl) | exact .inr (.inr rfl))) a_nil))) (fun _ => rfl))) (ss_cons (s_ret e_bl)
  ss_nil) ss_nil)
  (ss_cons (s_set nd rfl (by first | exact .inl rfl | exact .inr rfl) (e_ite (t_cmp hu rfl (e_var rfl (by first | exact .inl rfl | exact .inr (.inl rfl) | exact .inr (.inr rfl))) (e_lst a_nil) (nomark _)) (e_call A.f__law_some hr rfl (a_cons (e_var rfl (by first | exact .inl rfl | exact .inr (.inl rfl) | exact .inr (.inr rfl))) (a_cons (e_var rfl (by first | exact .inl rfl | exact .inr (.inl rfl) | exact .inr (.inr rfl))) a_nil))) (e_op rfl (e_tup (a_cons (e_var rfl (by first | exact .inl rfl | exact .inr (.inl rfl) | exact .inr (.inr rfl))) a_nil)) (e_op rfl (e_tup (a_cons (e_tup a_nil) a_nil)) (e_op rfl (e_biB bi_len_ok rfl G.g_len boot_len (a_cons (e_var rfl (by first | exact .inl rfl | exact .inr (.inl rfl) | exact .inr (.inr rfl))) a_nil)) e_int)))) nofun)
  (ss_cons (s_for PassesOwn.never rfl (i_val (e_call A.f__law_near hr rfl (a_cons (e_var rfl (by first | exact .inl rfl | exact .inr (.inl rfl) | exact .inr (.inr rfl))) (a_cons (e_var rfl (by first | exact .inl rfl | exact .inr (.inl rfl) | exact .inr (.inr rfl))) (a_cons (e_var rfl (by first | exact .inl rfl | exact .inr (.inl rfl) | exact .inr (.inr rfl))) a_nil))))) (g_name nd rfl (by first | exact .inl rfl | exact .inr rfl) (by first | exact .inl rfl | exact .inr rfl)) (ss_cons (s_set nd rfl (by first | exact .inl rfl | exact .inr rfl) (e_and (e_isi (e_var rfl (by first | exact .inl rfl | exact .inr (.inl rfl) | exact .inr (.inr rfl))) rfl G.g_isinstance rfl G.g_tuple boot_tuple) (e_one (e_cmp hu rfl (e_var rfl (by first | exact .inl rfl | exact .inr (.inl rfl) | exact .inr (.inr rfl))) (e_var rfl (by first | exact .inl rfl | exact .inr (.inl rfl) | exact .inr (.inr rfl))) (by with_unfolding_all rfl)))) nofun)
  (ss_cons (s_if (t_not (t_val (e_call A.f__law_same hr rfl (a_cons (e_call A.f_is_setting hr rfl (a_cons (e_var rfl (by first | exact .inl rfl | exact .inr (.inl rfl) | exact .inr (.inr rfl))) (a_cons (e_var rfl (by first | exact .inl rfl | exact .inr (.inl rfl) | exact .inr (.inr rfl))) (a_cons (e_var rfl (by first | exact .inl rfl | exact .inr (.inl rfl) | exact .inr (.inr rfl))) a_nil)))) (a_cons (e_var rfl (by first | exact .inl rfl | exact .inr (.inl rfl) | exact .inr (.inr rfl))) a_nil))) (fun _ => rfl))) (ss_cons (s_ret e_bl)
  ss_nil) ss_nil)
  (ss_cons (s_if (WOk.t (w_and (t_val (e_var rfl (by first | exact .inl rfl | exact .inr (.inl rfl) | exact .inr (.inr rfl))) (fun _ => rfl)) (w_one_and (t_not (t_val (e_call A.f__law_same hr rfl (a_cons (e_call A.f_raggedness hr rfl (a_cons (e_var rfl (by first | exact .inl rfl | exact .inr (.inl rfl) | exact .inr (.inr rfl))) (a_cons (e_var rfl (by first | exact .inl rfl | exact .inr (.inl rfl) | exact .inr (.inr rfl))) (a_cons (e_var rfl (by first | exact .inl rfl | exact .inr (.inl rfl) | exact .inr (.inr rfl))) a_nil)))) (a_cons (e_biT bi_tuple_ok rfl G.g_tuple boot_tuple (a_cons (e_lc (own := [("row", 12), ("measure", 13)]) rfl nd (i_zip rfl G.g_zip (e_var rfl (by first | exact .inl rfl | exact .inr (.inl rfl) | exact .inr (.inr rfl))) (e_var rfl (by first | exact .inl rfl | exact .inr (.inl rfl) | exact .inr (.inr rfl)))) (blkOk_by (N := N__law_right) (sc := S__law_right) (by decide +kernel)) rfl (fun s H C cl fp => (g_tup rfl (gs_cons (g_name nd rfl (by first | exact .inl rfl | exact .inr rfl) (by first | exact .inl rfl | exact .inr rfl)) (gs_cons (g_name nd rfl (by first | exact .inl rfl | exact .inr rfl) (by first | exact .inl rfl | exact .inr rfl)) gs_nil)))) (fun s H C cl fp => ts_nil) (fun s H C cl fp => (e_op rfl (e_var rfl (by first | exact .inl rfl | exact .inr (.inl rfl) | exact .inr (.inr rfl))) (e_call A.f__law_size hr rfl (a_cons (e_var rfl (by first | exact .inl rfl | exact .inr (.inl rfl) | exact .inr (.inr rfl))) a_nil))))) a_nil)) a_nil))) (fun _ => rfl)))))) (ss_cons (s_ret e_bl)
  ss_nil) ss_nil)
  ss_nil))))
  (ss_cons (s_ret e_bl)
  ss_nil))))))))))
theorem ok_law (G : Gs mg) (A : Al P w K mg base n) (f : Addr) (cdv : Value) (Ar : Around) (outer : List Env) (s : Shared) (H : Hp) (E : XK) (hr : Room n (Ar.deeper (envOfC "law" S_law s.heap.objs.size f cdv))) :
    SsOk (cxOf CX0 P w K mg base N_law "law" S_law f cdv Ar outer s H E).nox (run tb n) (defBody s_law) b_law :=
  have hu : (Ar.deeper (envOfC "law" S_law s.heap.objs.size f cdv)).units + 70 < cLine := by have := hr.un; omega
  have nd : N_law.Nodup := sc_law.nd
  (ss_cons (s_set nd rfl (by first | exact .inl rfl | exact .inr rfl) (e_call A.f__law_cup hr rfl (a_cons (e_var rfl (by first | exact .inl rfl | exact .inr (.inl rfl) | exact .inr (.inr rfl))) a_nil)) nofun)
  (ss_cons (s_for PassesOwn.never rfl (i_rng1 rfl G.g_range e_int) (g_name nd rfl (by first | exact .inl rfl | exact .inr rfl) (by first | exact .inl rfl | exact .inr rfl)) (ss_cons (s_asgT (e_call A.f__law_given hr rfl (a_cons (e_var rfl (by first | exact .inl rfl | exact .inr (.inl rfl) | exact .inr (.inr rfl))) (a_cons e_int (a_cons (e_call A.f__law_some hr rfl (a_cons (e_var rfl (by first | exact .inl rfl | exact .inr (.inl rfl) | exact .inr (.inr rfl))) (a_cons (e_lst (a_cons e_int (a_cons e_int a_nil))) a_nil))) (a_cons e_int a_nil))))) nofun (g_tup rfl (gs_cons (g_name nd rfl (by first | exact .inl rfl | exact .inr rfl) (by first | exact .inl rfl | exact .inr rfl)) (gs_cons (g_name nd rfl (by first | exact .inl rfl | exact .inr rfl) (by first | exact .inl rfl | exact .inr rfl)) gs_nil))))
  (ss_cons (s_if (t_not (t_val (e_call A.f__law_right hr rfl (a_cons (e_var rfl (by first | exact .inl rfl | exact .inr (.inl rfl) | exact .inr (.inr rfl))) (a_cons (e_var rfl (by first | exact .inl rfl | exact .inr (.inl rfl) | exact .inr (.inr rfl))) (a_cons (e_var rfl (by first | exact .inl rfl | exact .inr (.inl rfl) | exact .inr (.inr rfl))) a_nil)))) (fun _ => rfl))) (ss_cons (s_ret e_bl)
  ss_nil) ss_nil)
  ss_nil)))
  (ss_cons (s_ret e_bl)
  ss_nil)))
end
/-- where the defs stand -/
structure Fs (K : PySem.W.Frag) (mg : Str → Option Value) : Prop where
  d_is_whole : ∃ (f : Addr) (fd : FuncData), FunD K "is_whole" "is_whole" (defArgs s_is_whole) (defBody s_is_whole) S_is_whole [] [] f fd ∧ mg "is_whole" = some (.ref f)
  d_fits_whole : ∃ (f : Addr) (fd : FuncData), FunD K "fits_whole" "fits_whole" (defArgs s_fits_whole) (defBody s_fits_whole) S_fits_whole [] [] f fd ∧ mg "fits_whole" = some (.ref f)
  d_is_tuple_of : ∃ (f : Addr) (fd : FuncData), FunD K "is_tuple_of" "is_tuple_of" (defArgs s_is_tuple_of) (defBody s_is_tuple_of) S_is_tuple_of [] [] f fd ∧ mg "is_tuple_of" = some (.ref f)
  d_fits_measures : ∃ (f : Addr) (fd : FuncData), FunD K "fits_measures" "fits_measures" (defArgs s_fits_measures) (defBody s_fits_measures) S_fits_measures [] [] f fd ∧ mg "fits_measures" = some (.ref f)
  d_fits_words : ∃ (f : Addr) (fd : FuncData), FunD K "fits_words" "fits_words" (defArgs s_fits_words) (defBody s_fits_words) S_fits_words [] [] f fd ∧ mg "fits_words" = some (.ref f)
  d_need_both : ∃ (f : Addr) (fd : FuncData), FunD K "need_both" "need_both" (defArgs s_need_both) (defBody s_need_both) S_need_both [] [] f fd ∧ mg "need_both" = some (.ref f)
  d_need_words : ∃ (f : Addr) (fd : FuncData), FunD K "need_words" "need_words" (defArgs s_need_words) (defBody s_need_words) S_need_words [] [] f fd ∧ mg "need_words" = some (.ref f)
  d_size_of : ∃ (f : Addr) (fd : FuncData), FunD K "size_of" "size_of" (defArgs s_size_of) (defBody s_size_of) S_size_of [] [] f fd ∧ mg "size_of" = some (.ref f)
  d_filled : ∃ (f : Addr) (fd : FuncData), FunD K "filled" "filled" (defArgs s_filled) (defBody s_filled) S_filled [] [] f fd ∧ mg "filled" = some (.ref f)
  d_does_fit : ∃ (f : Addr) (fd : FuncData), FunD K "does_fit" "does_fit" (defArgs s_does_fit) (defBody s_does_fit) S_does_fit [] [] f fd ∧ mg "does_fit" = some (.ref f)
  d_fits_setting : ∃ (f : Addr) (fd : FuncData), FunD K "fits_setting" "fits_setting" (defArgs s_fits_setting) (defBody s_fits_setting) S_fits_setting [] [] f fd ∧ mg "fits_setting" = some (.ref f)
  d_ways_in : ∃ (f : Addr) (fd : FuncData), FunD K "ways_in" "ways_in" (defArgs s_ways_in) (defBody s_ways_in) S_ways_in [] [] f fd ∧ mg "ways_in" = some (.ref f)
  d_can_set : ∃ (f : Addr) (fd : FuncData), FunD K "can_set" "can_set" (defArgs s_can_set) (defBody s_can_set) S_can_set [] [] f fd ∧ mg "can_set" = some (.ref f)
  d_set_lines : ∃ (f : Addr) (fd : FuncData), FunD K "set_lines" "set_lines" (defArgs s_set_lines) (defBody s_set_lines) S_set_lines [] [] f fd ∧ mg "set_lines" = some (.ref f)
  d_is_setting : ∃ (f : Addr) (fd : FuncData), FunD K "is_setting" "is_setting" (defArgs s_is_setting) (defBody s_is_setting) S_is_setting [] [] f fd ∧ mg "is_setting" = some (.ref f)
  d_lines_used : ∃ (f : Addr) (fd : FuncData), FunD K "lines_used" "lines_used" (defArgs s_lines_used) (defBody s_lines_used) S_lines_used [] [] f fd ∧ mg "lines_used" = some (.ref f)
  d_words_laid : ∃ (f : Addr) (fd : FuncData), FunD K "words_laid" "words_laid" (defArgs s_words_laid) (defBody s_words_laid) S_words_laid [] [] f fd ∧ mg "words_laid" = some (.ref f)
  d_settings_many : ∃ (f : Addr) (fd : FuncData), FunD K "settings_many" "settings_many" (defArgs s_settings_many) (defBody s_settings_many) S_settings_many [] [] f fd ∧ mg "settings_many" = some (.ref f)
  d_raggedness : ∃ (f : Addr) (fd : FuncData), FunD K "raggedness" "raggedness" (defArgs s_raggedness) (defBody s_raggedness) S_raggedness [] [] f fd ∧ mg "raggedness" = some (.ref f)
  d__law_cup : ∃ (f : Addr) (fd : FuncData), FunD K "_law_cup" "_law_cup" (defArgs s__law_cup) (defBody s__law_cup) S__law_cup [] [] f fd ∧ mg "_law_cup" = some (.ref f)
  d__law_roll : ∃ (f : Addr) (fd : FuncData), FunD K "_law_roll" "_law_roll" (defArgs s__law_roll) (defBody s__law_roll) S__law_roll [] [] f fd ∧ mg "_law_roll" = some (.ref f)
  d__law_some : ∃ (f : Addr) (fd : FuncData), FunD K "_law_some" "_law_some" (defArgs s__law_some) (defBody s__law_some) S__law_some [] [] f fd ∧ mg "_law_some" = some (.ref f)
  d__law_same : ∃ (f : Addr) (fd : FuncData), FunD K "_law_same" "_law_same" (defArgs s__law_same) (defBody s__law_same) S__law_same [] [] f fd ∧ mg "_law_same" = some (.ref f)
  d__law_given : ∃ (f : Addr) (fd : FuncData), FunD K "_law_given" "_law_given" (defArgs s__law_given) (defBody s__law_given) S__law_given [] [] f fd ∧ mg "_law_given" = some (.ref f)
  d__law_size : ∃ (f : Addr) (fd : FuncData), FunD K "_law_size" "_law_size" (defArgs s__law_size) (defBody s__law_size) S__law_size [] [] f fd ∧ mg "_law_size" = some (.ref f)
  d__law_settings : ∃ (f : Addr) (fd : FuncData), FunD K "_law_settings" "_law_settings" (defArgs s__law_settings) (defBody s__law_settings) S__law_settings [] [] f fd ∧ mg "_law_settings" = some (.ref f)
  d__law_used : ∃ (f : Addr) (fd : FuncData), FunD K "_law_used" "_law_used" (defArgs s__law_used) (defBody s__law_used) S__law_used [] [] f fd ∧ mg "_law_used" = some (.ref f)
  d__law_near : ∃ (f : Addr) (fd : FuncData), FunD K "_law_near" "_law_near" (defArgs s__law_near) (defBody s__law_near) S__law_near [] [] f fd ∧ mg "_law_near" = some (.ref f)
  d__law_right : ∃ (f : Addr) (fd : FuncData), FunD K "_law_right" "_law_right" (defArgs s__law_right) (defBody s__law_right) S__law_right [] [] f fd ∧ mg "_law_right" = some (.ref f)
  d_law : ∃ (f : Addr) (fd : FuncData), FunD K "law" "law" (defArgs s_law) (defBody s_law) S_law [] [] f fd ∧ mg "law" = some (.ref f)
theorem all_ok {P : Program} {w : World} {K : PySem.W.Frag} {mg : Str → Option Value} {base : Heap} (G : Gs mg) (F : Fs K mg) : ∀ n : Nat, Al P w K mg base n
  | 0 => {
    f_is_whole := by obtain ⟨f, fd, h, hm⟩ := F.d_is_whole; exact ⟨⟨f, fd, ["value"], fn_zero rfl, hm, h.kp, h.bindsN fun _ _ _ _ _ _ us hl => match us, hl with | [_], _ => rfl⟩⟩
    f_fits_whole := by obtain ⟨f, fd, h, hm⟩ := F.d_fits_whole; exact ⟨⟨f, fd, ["value", "low", "high"], fn_zero rfl, hm, h.kp, h.bindsN fun _ _ _ _ _ _ us hl => match us, hl with | [_, _, _], _ => rfl⟩⟩
    f_is_tuple_of := by obtain ⟨f, fd, h, hm⟩ := F.d_is_tuple_of; exact ⟨⟨f, fd, ["value", "least", "most"], fn_zero rfl, hm, h.kp, h.bindsN fun _ _ _ _ _ _ us hl => match us, hl with | [_, _, _], _ => rfl⟩⟩
    f_fits_measures := by obtain ⟨f, fd, h, hm⟩ := F.d_fits_measures; exact ⟨⟨f, fd, ["value"], fn_zero rfl, hm, h.kp, h.bindsN fun _ _ _ _ _ _ us hl => match us, hl with | [_], _ => rfl⟩⟩
    f_fits_words := by obtain ⟨f, fd, h, hm⟩ := F.d_fits_words; exact ⟨⟨f, fd, ["value"], fn_zero rfl, hm, h.kp, h.bindsN fun _ _ _ _ _ _ us hl => match us, hl with | [_], _ => rfl⟩⟩
    f_need_both := by obtain ⟨f, fd, h, hm⟩ := F.d_need_both; exact ⟨⟨f, fd, ["measures", "words"], fn_zero rfl, hm, h.kp, h.bindsN fun _ _ _ _ _ _ us hl => match us, hl with | [_, _], _ => rfl⟩⟩
    f_need_words := by obtain ⟨f, fd, h, hm⟩ := F.d_need_words; exact ⟨⟨f, fd, ["words"], fn_zero rfl, hm, h.kp, h.bindsN fun _ _ _ _ _ _ us hl => match us, hl with | [_], _ => rfl⟩⟩
    f_size_of := by obtain ⟨f, fd, h, hm⟩ := F.d_size_of; exact ⟨⟨f, fd, ["words"], fn_zero rfl, hm, h.kp, h.bindsN fun _ _ _ _ _ _ us hl => match us, hl with | [_], _ => rfl⟩⟩
    f_filled := by obtain ⟨f, fd, h, hm⟩ := F.d_filled; exact ⟨⟨f, fd, ["measures", "words"], fn_zero rfl, hm, h.kp, h.bindsN fun _ _ _ _ _ _ us hl => match us, hl with | [_, _], _ => rfl⟩⟩
    f_does_fit := by obtain ⟨f, fd, h, hm⟩ := F.d_does_fit; exact ⟨⟨f, fd, ["measures", "words"], fn_zero rfl, hm, h.kp, h.bindsN fun _ _ _ _ _ _ us hl => match us, hl with | [_, _], _ => rfl⟩⟩
    f_fits_setting := by obtain ⟨f, fd, h, hm⟩ := F.d_fits_setting; exact ⟨⟨f, fd, ["measures", "words", "value"], fn_zero rfl, hm, h.kp, h.bindsN fun _ _ _ _ _ _ us hl => match us, hl with | [_, _, _], _ => rfl⟩⟩
    f_ways_in := by obtain ⟨f, fd, h, hm⟩ := F.d_ways_in; exact ⟨⟨f, fd, ["measures", "words"], fn_zero rfl, hm, h.kp, h.bindsN fun _ _ _ _ _ _ us hl => match us, hl with | [_, _], _ => rfl⟩⟩
    f_can_set := by obtain ⟨f, fd, h, hm⟩ := F.d_can_set; exact ⟨⟨f, fd, ["measures", "words"], fn_zero rfl, hm, h.kp, h.bindsN fun _ _ _ _ _ _ us hl => match us, hl with | [_, _], _ => rfl⟩⟩
    f_set_lines := by obtain ⟨f, fd, h, hm⟩ := F.d_set_lines; exact ⟨⟨f, fd, ["measures", "words"], fn_zero rfl, hm, h.kp, h.bindsN fun _ _ _ _ _ _ us hl => match us, hl with | [_, _], _ => rfl⟩⟩
    f_is_setting := by obtain ⟨f, fd, h, hm⟩ := F.d_is_setting; exact ⟨⟨f, fd, ["measures", "words", "value"], fn_zero rfl, hm, h.kp, h.bindsN fun _ _ _ _ _ _ us hl => match us, hl with | [_, _, _], _ => rfl⟩⟩
    f_lines_used := by obtain ⟨f, fd, h, hm⟩ := F.d_lines_used; exact ⟨⟨f, fd, ["measures", "words"], fn_zero rfl, hm, h.kp, h.bindsN fun _ _ _ _ _ _ us hl => match us, hl with | [_, _], _ => rfl⟩⟩
    f_words_laid := by obtain ⟨f, fd, h, hm⟩ := F.d_words_laid; exact ⟨⟨f, fd, ["measures", "words"], fn_zero rfl, hm, h.kp, h.bindsN fun _ _ _ _ _ _ us hl => match us, hl with | [_, _], _ => rfl⟩⟩
    f_settings_many := by obtain ⟨f, fd, h, hm⟩ := F.d_settings_many; exact ⟨⟨f, fd, ["measures", "words"], fn_zero rfl, hm, h.kp, h.bindsN fun _ _ _ _ _ _ us hl => match us, hl with | [_, _], _ => rfl⟩⟩
    f_raggedness := by obtain ⟨f, fd, h, hm⟩ := F.d_raggedness; exact ⟨⟨f, fd, ["measures", "words", "setting"], fn_zero rfl, hm, h.kp, h.bindsN fun _ _ _ _ _ _ us hl => match us, hl with | [_, _, _], _ => rfl⟩⟩
    f__law_cup := by obtain ⟨f, fd, h, hm⟩ := F.d__law_cup; exact ⟨⟨f, fd, ["script"], fn_zero rfl, hm, h.kp, h.bindsN fun _ _ _ _ _ _ us hl => match us, hl with | [_], _ => rfl⟩⟩
    f__law_roll := by obtain ⟨f, fd, h, hm⟩ := F.d__law_roll; exact ⟨⟨f, fd, ["cup", "many"], fn_zero rfl, hm, h.kp, h.bindsN fun _ _ _ _ _ _ us hl => match us, hl with | [_, _], _ => rfl⟩⟩
    f__law_some := by obtain ⟨f, fd, h, hm⟩ := F.d__law_some; exact ⟨⟨f, fd, ["cup", "things"], fn_zero rfl, hm, h.kp, h.bindsN fun _ _ _ _ _ _ us hl => match us, hl with | [_, _], _ => rfl⟩⟩
    f__law_same := by obtain ⟨f, fd, h, hm⟩ := F.d__law_same; exact ⟨⟨f, fd, ["told", "due"], fn_zero rfl, hm, h.kp, h.bindsN fun _ _ _ _ _ _ us hl => match us, hl with | [_, _], _ => rfl⟩⟩
    f__law_given := by obtain ⟨f, fd, h, hm⟩ := F.d__law_given; exact ⟨⟨f, fd, ["cup", "lines", "wide", "words"], fn_zero rfl, hm, h.kp, h.bindsN fun _ _ _ _ _ _ us hl => match us, hl with | [_, _, _, _], _ => rfl⟩⟩
    f__law_size := by obtain ⟨f, fd, h, hm⟩ := F.d__law_size; exact ⟨⟨f, fd, ["row"], fn_zero rfl, hm, h.kp, h.bindsN fun _ _ _ _ _ _ us hl => match us, hl with | [_], _ => rfl⟩⟩
    f__law_settings := by obtain ⟨f, fd, h, hm⟩ := F.d__law_settings; exact ⟨⟨f, fd, ["measures", "words"], fn_zero rfl, hm, h.kp, h.bindsN fun _ _ _ _ _ _ us hl => match us, hl with | [_, _], _ => rfl⟩⟩
    f__law_used := by obtain ⟨f, fd, h, hm⟩ := F.d__law_used; exact ⟨⟨f, fd, ["setting"], fn_zero rfl, hm, h.kp, h.bindsN fun _ _ _ _ _ _ us hl => match us, hl with | [_], _ => rfl⟩⟩
    f__law_near := by obtain ⟨f, fd, h, hm⟩ := F.d__law_near; exact ⟨⟨f, fd, ["cup", "setting", "words"], fn_zero rfl, hm, h.kp, h.bindsN fun _ _ _ _ _ _ us hl => match us, hl with | [_, _, _], _ => rfl⟩⟩
    f__law_right := by obtain ⟨f, fd, h, hm⟩ := F.d__law_right; exact ⟨⟨f, fd, ["cup", "measures", "words"], fn_zero rfl, hm, h.kp, h.bindsN fun _ _ _ _ _ _ us hl => match us, hl with | [_, _, _], _ => rfl⟩⟩
    f_law := by obtain ⟨f, fd, h, hm⟩ := F.d_law; exact ⟨⟨f, fd, ["script"], fn_zero rfl, hm, h.kp, h.bindsN fun _ _ _ _ _ _ us hl => match us, hl with | [_], _ => rfl⟩⟩
    }
  | n + 1 => have A : Al P w K mg base n := all_ok G F n
    {
    f_is_whole := by obtain ⟨f, fd, h, hm⟩ := F.d_is_whole; exact ⟨⟨f, fd, ["value"], fn_ok h sc_is_whole rfl rfl rfl (fun cdv Ar outer s H E hr => ok_is_whole G A f cdv Ar outer s H E hr), hm, h.kp, h.bindsN fun _ _ _ _ _ _ us hl => match us, hl with | [_], _ => rfl⟩⟩
    f_fits_whole := by obtain ⟨f, fd, h, hm⟩ := F.d_fits_whole; exact ⟨⟨f, fd, ["value", "low", "high"], fn_ok h sc_fits_whole rfl rfl rfl (fun cdv Ar outer s H E hr => ok_fits_whole G A f cdv Ar outer s H E hr), hm, h.kp, h.bindsN fun _ _ _ _ _ _ us hl => match us, hl with | [_, _, _], _ => rfl⟩⟩
    f_is_tuple_of := by obtain ⟨f, fd, h, hm⟩ := F.d_is_tuple_of; exact ⟨⟨f, fd, ["value", "least", "most"], fn_ok h sc_is_tuple_of rfl rfl rfl (fun cdv Ar outer s H E hr => ok_is_tuple_of G A f cdv Ar outer s H E hr), hm, h.kp, h.bindsN fun _ _ _ _ _ _ us hl => match us, hl with | [_, _, _], _ => rfl⟩⟩
    f_fits_measures := by obtain ⟨f, fd, h, hm⟩ := F.d_fits_measures; exact ⟨⟨f, fd, ["value"], fn_ok h sc_fits_measures rfl rfl rfl (fun cdv Ar outer s H E hr => ok_fits_measures G A f cdv Ar outer s H E hr), hm, h.kp, h.bindsN fun _ _ _ _ _ _ us hl => match us, hl with | [_], _ => rfl⟩⟩
    f_fits_words := by obtain ⟨f, fd, h, hm⟩ := F.d_fits_words; exact ⟨⟨f, fd, ["value"], fn_ok h sc_fits_words rfl rfl rfl (fun cdv Ar outer s H E hr => ok_fits_words G A f cdv Ar outer s H E hr), hm, h.kp, h.bindsN fun _ _ _ _ _ _ us hl => match us, hl with | [_], _ => rfl⟩⟩
    f_need_both := by obtain ⟨f, fd, h, hm⟩ := F.d_need_both; exact ⟨⟨f, fd, ["measures", "words"], fn_ok h sc_need_both rfl rfl rfl (fun cdv Ar outer s H E hr => ok_need_both G A f cdv Ar outer s H E hr), hm, h.kp, h.bindsN fun _ _ _ _ _ _ us hl => match us, hl with | [_, _], _ => rfl⟩⟩
    f_need_words := by obtain ⟨f, fd, h, hm⟩ := F.d_need_words; exact ⟨⟨f, fd, ["words"], fn_ok h sc_need_words rfl rfl rfl (fun cdv Ar outer s H E hr => ok_need_words G A f cdv Ar outer s H E hr), hm, h.kp, h.bindsN fun _ _ _ _ _ _ us hl => match us, hl with | [_], _ => rfl⟩⟩
    f_size_of := by obtain ⟨f, fd, h, hm⟩ := F.d_size_of; exact ⟨⟨f, fd, ["words"], fn_ok h sc_size_of rfl rfl rfl (fun cdv Ar outer s H E hr => ok_size_of G A f cdv Ar outer s H E hr), hm, h.kp, h.bindsN fun _ _ _ _ _ _ us hl => match us, hl with | [_], _ => rfl⟩⟩
    f_filled := by obtain ⟨f, fd, h, hm⟩ := F.d_filled; exact ⟨⟨f, fd, ["measures", "words"], fn_ok h sc_filled rfl rfl rfl (fun cdv Ar outer s H E hr => ok_filled G A f cdv Ar outer s H E hr), hm, h.kp, h.bindsN fun _ _ _ _ _ _ us hl => match us, hl with | [_, _], _ => rfl⟩⟩
    f_does_fit := by obtain ⟨f, fd, h, hm⟩ := F.d_does_fit; exact ⟨⟨f, fd, ["measures", "words"], fn_ok h sc_does_fit rfl rfl rfl (fun cdv Ar outer s H E hr => ok_does_fit G A f cdv Ar outer s H E hr), hm, h.kp, h.bindsN fun _ _ _ _ _ _ us hl => match us, hl with | [_, _], _ => rfl⟩⟩
    f_fits_setting := by obtain ⟨f, fd, h, hm⟩ := F.d_fits_setting; exact ⟨⟨f, fd, ["measures", "words", "value"], fn_ok h sc_fits_setting rfl rfl rfl (fun cdv Ar outer s H E hr => ok_fits_setting G A f cdv Ar outer s H E hr), hm, h.kp, h.bindsN fun _ _ _ _ _ _ us hl => match us, hl with | [_, _, _], _ => rfl⟩⟩
    f_ways_in := by obtain ⟨f, fd, h, hm⟩ := F.d_ways_in; exact ⟨⟨f, fd, ["measures", "words"], fn_ok h sc_ways_in rfl rfl rfl (fun cdv Ar outer s H E hr => ok_ways_in G A f cdv Ar outer s H E hr), hm, h.kp, h.bindsN fun _ _ _ _ _ _ us hl => match us, hl with | [_, _], _ => rfl⟩⟩
    f_can_set := by obtain ⟨f, fd, h, hm⟩ := F.d_can_set; exact ⟨⟨f, fd, ["measures", "words"], fn_ok h sc_can_set rfl rfl rfl (fun cdv Ar outer s H E hr => ok_can_set G A f cdv Ar outer s H E hr), hm, h.kp, h.bindsN fun _ _ _ _ _ _ us hl => match us, hl with | [_, _], _ => rfl⟩⟩
    f_set_lines := by obtain ⟨f, fd, h, hm⟩ := F.d_set_lines; exact ⟨⟨f, fd, ["measures", "words"], fn_ok h sc_set_lines rfl rfl rfl (fun cdv Ar outer s H E hr => ok_set_lines G A f cdv Ar outer s H E hr), hm, h.kp, h.bindsN fun _ _ _ _ _ _ us hl => match us, hl with | [_, _], _ => rfl⟩⟩
    f_is_setting := by obtain ⟨f, fd, h, hm⟩ := F.d_is_setting; exact ⟨⟨f, fd, ["measures", "words", "value"], fn_ok h sc_is_setting rfl rfl rfl (fun cdv Ar outer s H E hr => ok_is_setting G A f cdv Ar outer s H E hr), hm, h.kp, h.bindsN fun _ _ _ _ _ _ us hl => match us, hl with | [_, _, _], _ => rfl⟩⟩
    f_lines_used := by obtain ⟨f, fd, h, hm⟩ := F.d_lines_used; exact ⟨⟨f, fd, ["measures", "words"], fn_ok h sc_lines_used rfl rfl rfl (fun cdv Ar outer s H E hr => ok_lines_used G A f cdv Ar outer s H E hr), hm, h.kp, h.bindsN fun _ _ _ _ _ _ us hl => match us, hl with | [_, _], _ => rfl⟩⟩
    f_words_laid := by obtain ⟨f, fd, h, hm⟩ := F.d_words_laid; exact ⟨⟨f, fd, ["measures", "words"], fn_ok h sc_words_laid rfl rfl rfl (fun cdv Ar outer s H E hr => ok_words_laid G A f cdv Ar outer s H E hr), hm, h.kp, h.bindsN fun _ _ _ _ _ _ us hl => match us, hl with | [_, _], _ => rfl⟩⟩
    f_settings_many := by obtain ⟨f, fd, h, hm⟩ := F.d_settings_many; exact ⟨⟨f, fd, ["measures", "words"], fn_ok h sc_settings_many rfl rfl rfl (fun cdv Ar outer s H E hr => ok_settings_many G A f cdv Ar outer s H E hr), hm, h.kp, h.bindsN fun _ _ _ _ _ _ us hl => match us, hl with | [_, _], _ => rfl⟩⟩
    f_raggedness := by obtain ⟨f, fd, h, hm⟩ := F.d_raggedness; exact ⟨⟨f, fd, ["measures", "words", "setting"], fn_ok h sc_raggedness rfl rfl rfl (fun cdv Ar outer s H E hr => ok_raggedness G A f cdv Ar outer s H E hr), hm, h.kp, h.bindsN fun _ _ _ _ _ _ us hl => match us, hl with | [_, _, _], _ => rfl⟩⟩
    f__law_cup := by obtain ⟨f, fd, h, hm⟩ := F.d__law_cup; exact ⟨⟨f, fd, ["script"], fn_ok h sc__law_cup rfl rfl rfl (fun cdv Ar outer s H E hr => ok__law_cup G A f cdv Ar outer s H E hr), hm, h.kp, h.bindsN fun _ _ _ _ _ _ us hl => match us, hl with | [_], _ => rfl⟩⟩
    f__law_roll := by obtain ⟨f, fd, h, hm⟩ := F.d__law_roll; exact ⟨⟨f, fd, ["cup", "many"], fn_ok h sc__law_roll rfl rfl rfl (fun cdv Ar outer s H E hr => ok__law_roll G A f cdv Ar outer s H E hr), hm, h.kp, h.bindsN fun _ _ _ _ _ _ us hl => match us, hl with | [_, _], _ => rfl⟩⟩
    f__law_some := by obtain ⟨f, fd, h, hm⟩ := F.d__law_some; exact ⟨⟨f, fd, ["cup", "things"], fn_ok h sc__law_some rfl rfl rfl (fun cdv Ar outer s H E hr => ok__law_some G A f cdv Ar outer s H E hr), hm, h.kp, h.bindsN fun _ _ _ _ _ _ us hl => match us, hl with | [_, _], _ => rfl⟩⟩
    f__law_same := by obtain ⟨f, fd, h, hm⟩ := F.d__law_same; exact ⟨⟨f, fd, ["told", "due"], fn_ok h sc__law_same rfl rfl rfl (fun cdv Ar outer s H E hr => ok__law_same G A f cdv Ar outer s H E hr), hm, h.kp, h.bindsN fun _ _ _ _ _ _ us hl => match us, hl with | [_, _], _ => rfl⟩⟩
    f__law_given := by obtain ⟨f, fd, h, hm⟩ := F.d__law_given; exact ⟨⟨f, fd, ["cup", "lines", "wide", "words"], fn_ok h sc__law_given rfl rfl rfl (fun cdv Ar outer s H E hr => ok__law_given G A f cdv Ar outer s H E hr), hm, h.kp, h.bindsN fun _ _ _ _ _ _ us hl => match us, hl with | [_, _, _, _], _ => rfl⟩⟩
    f__law_size := by obtain ⟨f, fd, h, hm⟩ := F.d__law_size; exact ⟨⟨f, fd, ["row"], fn_ok h sc__law_size rfl rfl rfl (fun cdv Ar outer s H E hr => ok__law_size G A f cdv Ar outer s H E hr), hm, h.kp, h.bindsN fun _ _ _ _ _ _ us hl => match us, hl with | [_], _ => rfl⟩⟩
    f__law_settings := by obtain ⟨f, fd, h, hm⟩ := F.d__law_settings; exact ⟨⟨f, fd, ["measures", "words"], fn_ok h sc__law_settings rfl rfl rfl (fun cdv Ar outer s H E hr => ok__law_settings G A f cdv Ar outer s H E hr), hm, h.kp, h.bindsN fun _ _ _ _ _ _ us hl => match us, hl with | [_, _], _ => rfl⟩⟩
    f__law_used := by obtain ⟨f, fd, h, hm⟩ := F.d__law_used; exact ⟨⟨f, fd, ["setting"], fn_ok h sc__law_used rfl rfl rfl (fun cdv Ar outer s H E hr => ok__law_used G A f cdv Ar outer s H E hr), hm, h.kp, h.bindsN fun _ _ _ _ _ _ us hl => match us, hl with | [_], _ => rfl⟩⟩
    f__law_near := by obtain ⟨f, fd, h, hm⟩ := F.d__law_near; exact ⟨⟨f, fd, ["cup", "setting", "words"], fn_ok h sc__law_near rfl rfl rfl (fun cdv Ar outer s H E hr => ok__law_near G A f cdv Ar outer s H E hr), hm, h.kp, h.bindsN fun _ _ _ _ _ _ us hl => match us, hl with | [_, _, _], _ => rfl⟩⟩
    f__law_right := by obtain ⟨f, fd, h, hm⟩ := F.d__law_right; exact ⟨⟨f, fd, ["cup", "measures", "words"], fn_ok h sc__law_right rfl rfl rfl (fun cdv Ar outer s H E hr => ok__law_right G A f cdv Ar outer s H E hr), hm, h.kp, h.bindsN fun _ _ _ _ _ _ us hl => match us, hl with | [_, _, _], _ => rfl⟩⟩
    f_law := by obtain ⟨f, fd, h, hm⟩ := F.d_law; exact ⟨⟨f, fd, ["script"], fn_ok h sc_law rfl rfl rfl (fun cdv Ar outer s H E hr => ok_law G A f cdv Ar outer s H E hr), hm, h.kp, h.bindsN fun _ _ _ _ _ _ us hl => match us, hl with | [_], _ => rfl⟩⟩
    }
def dd_is_whole : He.DefD := ⟨("is_whole", none), "is_whole", "is_whole", defArgs s_is_whole, defBody s_is_whole, defScope s_is_whole, [], []⟩
def dd_fits_whole : He.DefD := ⟨("fits_whole", none), "fits_whole", "fits_whole", defArgs s_fits_whole, defBody s_fits_whole, defScope s_fits_whole, [], []⟩
def dd_is_tuple_of : He.DefD := ⟨("is_tuple_of", none), "is_tuple_of", "is_tuple_of", defArgs s_is_tuple_of, defBody s_is_tuple_of, defScope s_is_tuple_of, [], []⟩
def dd_fits_measures : He.DefD := ⟨("fits_measures", none), "fits_measures", "fits_measures", defArgs s_fits_measures, defBody s_fits_measures, defScope s_fits_measures, [], []⟩
def dd_fits_words : He.DefD := ⟨("fits_words", none), "fits_words", "fits_words", defArgs s_fits_words, defBody s_fits_words, defScope s_fits_words, [], []⟩
def dd_need_both : He.DefD := ⟨("need_both", none), "need_both", "need_both", defArgs s_need_both, defBody s_need_both, defScope s_need_both, [], []⟩
def dd_need_words : He.DefD := ⟨("need_words", none), "need_words", "need_words", defArgs s_need_words, defBody s_need_words, defScope s_need_words, [], []⟩
def dd_size_of : He.DefD := ⟨("size_of", none), "size_of", "size_of", defArgs s_size_of, defBody s_size_of, defScope s_size_of, [], []⟩
def dd_filled : He.DefD := ⟨("filled", none), "filled", "filled", defArgs s_filled, defBody s_filled, defScope s_filled, [], []⟩
def dd_does_fit : He.DefD := ⟨("does_fit", none), "does_fit", "does_fit", defArgs s_does_fit, defBody s_does_fit, defScope s_does_fit, [], []⟩
def dd_fits_setting : He.DefD := ⟨("fits_setting", none), "fits_setting", "fits_setting", defArgs s_fits_setting, defBody s_fits_setting, defScope s_fits_setting, [], []⟩
def dd_ways_in : He.DefD := ⟨("ways_in", none), "ways_in", "ways_in", defArgs s_ways_in, defBody s_ways_in, defScope s_ways_in, [], []⟩
def dd_can_set : He.DefD := ⟨("can_set", none), "can_set", "can_set", defArgs s_can_set, defBody s_can_set, defScope s_can_set, [], []⟩
def dd_set_lines : He.DefD := ⟨("set_lines", none), "set_lines", "set_lines", defArgs s_set_lines, defBody s_set_lines, defScope s_set_lines, [], []⟩
def dd_is_setting : He.DefD := ⟨("is_setting", none), "is_setting", "is_setting", defArgs s_is_setting, defBody s_is_setting, defScope s_is_setting, [], []⟩
def dd_lines_used : He.DefD := ⟨("lines_used", none), "lines_used", "lines_used", defArgs s_lines_used, defBody s_lines_used, defScope s_lines_used, [], []⟩
def dd_words_laid : He.DefD := ⟨("words_laid", none), "words_laid", "words_laid", defArgs s_words_laid, defBody s_words_laid, defScope s_words_laid, [], []⟩
def dd_settings_many : He.DefD := ⟨("settings_many", none), "settings_many", "settings_many", defArgs s_settings_many, defBody s_settings_many, defScope s_settings_many, [], []⟩
def dd_raggedness : He.DefD := ⟨("raggedness", none), "raggedness", "raggedness", defArgs s_raggedness, defBody s_raggedness, defScope s_raggedness, [], []⟩
def dd__law_cup : He.DefD := ⟨("_law_cup", none), "_law_cup", "_law_cup", defArgs s__law_cup, defBody s__law_cup, defScope s__law_cup, [], []⟩
def dd__law_roll : He.DefD := ⟨("_law_roll", none), "_law_roll", "_law_roll", defArgs s__law_roll, defBody s__law_roll, defScope s__law_roll, [], []⟩
def dd__law_some : He.DefD := ⟨("_law_some", none), "_law_some", "_law_some", defArgs s__law_some, defBody s__law_some, defScope s__law_some, [], []⟩
def dd__law_same : He.DefD := ⟨("_law_same", none), "_law_same", "_law_same", defArgs s__law_same, defBody s__law_same, defScope s__law_same, [], []⟩
def dd__law_given : He.DefD := ⟨("_law_given", none), "_law_given", "_law_given", defArgs s__law_given, defBody s__law_given, defScope s__law_given, [], []⟩
def dd__law_size : He.DefD := ⟨("_law_size", none), "_law_size", "_law_size", defArgs s__law_size, defBody s__law_size, defScope s__law_size, [], []⟩
def dd__law_settings : He.DefD := ⟨("_law_settings", none), "_law_settings", "_law_settings", defArgs s__law_settings, defBody s__law_settings, defScope s__law_settings, [], []⟩
def dd__law_used : He.DefD := ⟨("_law_used", none), "_law_used", "_law_used", defArgs s__law_used, defBody s__law_used, defScope s__law_used, [], []⟩
def dd__law_near : He.DefD := ⟨("_law_near", none), "_law_near", "_law_near", defArgs s__law_near, defBody s__law_near, defScope s__law_near, [], []⟩
def dd__law_right : He.DefD := ⟨("_law_right", none), "_law_right", "_law_right", defArgs s__law_right, defBody s__law_right, defScope s__law_right, [], []⟩
def dd_law : He.DefD := ⟨("law", none), "law", "law", defArgs s_law, defBody s_law, defScope s_law, [], []⟩
def fns : List He.DefD := [dd_is_whole, dd_fits_whole, dd_is_tuple_of, dd_fits_measures, dd_fits_words, dd_need_both, dd_need_words, dd_size_of, dd_filled, dd_does_fit, dd_fits_setting, dd_ways_in, dd_can_set, dd_set_lines, dd_is_setting, dd_lines_used, dd_words_laid, dd_settings_many, dd_raggedness, dd__law_cup, dd__law_roll, dd__law_some, dd__law_same, dd__law_given, dd__law_size, dd__law_settings, dd__law_used, dd__law_near, dd__law_right, dd_law]
def fas_0 : List He.Fa := [.glo "is_whole", .glo "fits_whole", .glo "is_tuple_of", .glo "fits_measures", .glo "fits_words", .glo "need_both", .glo "need_words", .glo "size_of", .glo "filled", .glo "does_fit", .glo "fits_setting", .glo "ways_in", .glo "can_set", .glo "set_lines", .glo "is_setting", .glo "lines_used", .glo "words_laid", .glo "settings_many", .glo "raggedness", .glo "_law_cup", .glo "_law_roll", .glo "_law_some", .glo "_law_same", .glo "_law_given", .glo "_law_size", .glo "_law_settings", .glo "_law_used", .glo "_law_near", .glo "_law_right", .glo "law"]
def fas_1 : List He.Fa := [.free "isinstance", .free "int", .free "bool", .free "tuple", .free "len", .int "LINES" 40, .int "WIDE" 200, .free "all", .int "WORDS" 60, .free "str", .int "LONGEST" 30, .str "LETTERS" "abcdefghijklmnopqrstuvwxyz", .free "sum", .free "max", .free "zip", .free "range", .free "enumerate", .free "list", .free "abs", .free "min"]
def fas : List He.Fa := fas_0 ++ fas_1
def loose__0 : List Str := ["TypeFault", "InvalidWord", "InvalidLines", "InvalidPaper", "LETTERS", "is_whole", "fits_whole", "is_tuple_of", "LINES", "WIDE", "WORDS", "LONGEST", "fits_measures", "fits_words", "need_both", "need_words", "size_of", "filled", "does_fit", "fits_setting", "ways_in", "can_set", "set_lines", "is_setting", "lines_used", "words_laid", "settings_many", "raggedness", "_law_cup", "_law_roll"]
def loose__1 : List Str := ["_law_some", "_law_same", "_law_given", "_law_size", "_law_settings", "_law_used", "_law_near", "_law_right"]
def loose_ : List Str := loose__0 ++ loose__1
abbrev R : PySem.W.OpenRow := PySem.W.OpenLaw.row PySem.Challenge.rw_printshop_k83_whole_settings
abbrev hk : PySem.W.Hook := He.hookD 4 fas fns
def ob (s : PySem.W.SharedT) : He.AlD := He.obsDG 4 fas fns (HandSHeadRun.getT s)
theorem ob_eq (s : PySem.W.SharedT) : ob s = hk.obs s.abs := He.obsDG_eq (HandSHeadRun.getT_eq s)
theorem run_ (w : World) : HandSHeadRun.RunEq R (PySem.W.view R.prog [42]) hk ob 4000 loose_ w := by
  intro os
  kernel_rfl
theorem fs_of {K : PySem.W.Frag} {h : Heap} {mg : Str → Option Value} (X : K.In h) (G : h.Ns mainGlobals mg) (c : He.SaysD fas fns K) : Fs K mg where
  d_is_whole := by obtain ⟨fd, F⟩ := c.def_ 0 (d := dd_is_whole) rfl; exact ⟨_, fd, F, He.glo_ok X G (c.fact 0 (f := .glo "is_whole") rfl)⟩
  d_fits_whole := by obtain ⟨fd, F⟩ := c.def_ 1 (d := dd_fits_whole) rfl; exact ⟨_, fd, F, He.glo_ok X G (c.fact 1 (f := .glo "fits_whole") rfl)⟩
  d_is_tuple_of := by obtain ⟨fd, F⟩ := c.def_ 2 (d := dd_is_tuple_of) rfl; exact ⟨_, fd, F, He.glo_ok X G (c.fact 2 (f := .glo "is_tuple_of") rfl)⟩
  d_fits_measures := by obtain ⟨fd, F⟩ := c.def_ 3 (d := dd_fits_measures) rfl; exact ⟨_, fd, F, He.glo_ok X G (c.fact 3 (f := .glo "fits_measures") rfl)⟩
  d_fits_words := by obtain ⟨fd, F⟩ := c.def_ 4 (d := dd_fits_words) rfl; exact ⟨_, fd, F, He.glo_ok X G (c.fact 4 (f := .glo "fits_words") rfl)⟩
  d_need_both := by obtain ⟨fd, F⟩ := c.def_ 5 (d := dd_need_both) rfl; exact ⟨_, fd, F, He.glo_ok X G (c.fact 5 (f := .glo "need_both") rfl)⟩
  d_need_words := by obtain ⟨fd, F⟩ := c.def_ 6 (d := dd_need_words) rfl; exact ⟨_, fd, F, He.glo_ok X G (c.fact 6 (f := .glo "need_words") rfl)⟩
  d_size_of := by obtain ⟨fd, F⟩ := c.def_ 7 (d := dd_size_of) rfl; exact ⟨_, fd, F, He.glo_ok X G (c.fact 7 (f := .glo "size_of") rfl)⟩
  d_filled := by obtain ⟨fd, F⟩ := c.def_ 8 (d := dd_filled) rfl; exact ⟨_, fd, F, He.glo_ok X G (c.fact 8 (f := .glo "filled") rfl)⟩
  d_does_fit := by obtain ⟨fd, F⟩ := c.def_ 9 (d := dd_does_fit) rfl; exact ⟨_, fd, F, He.glo_ok X G (c.fact 9 (f := .glo "does_fit") rfl)⟩
  d_fits_setting := by obtain ⟨fd, F⟩ := c.def_ 10 (d := dd_fits_setting) rfl; exact ⟨_, fd, F, He.glo_ok X G (c.fact 10 (f := .glo "fits_setting") rfl)⟩
  d_ways_in := by obtain ⟨fd, F⟩ := c.def_ 11 (d := dd_ways_in) rfl; exact ⟨_, fd, F, He.glo_ok X G (c.fact 11 (f := .glo "ways_in") rfl)⟩
  d_can_set := by obtain ⟨fd, F⟩ := c.def_ 12 (d := dd_can_set) rfl; exact ⟨_, fd, F, He.glo_ok X G (c.fact 12 (f := .glo "can_set") rfl)⟩
  d_set_lines := by obtain ⟨fd, F⟩ := c.def_ 13 (d := dd_set_lines) rfl; exact ⟨_, fd, F, He.glo_ok X G (c.fact 13 (f := .glo "set_lines") rfl)⟩
  d_is_setting := by obtain ⟨fd, F⟩ := c.def_ 14 (d := dd_is_setting) rfl; exact ⟨_, fd, F, He.glo_ok X G (c.fact 14 (f := .glo "is_setting") rfl)⟩
  d_lines_used := by obtain ⟨fd, F⟩ := c.def_ 15 (d := dd_lines_used) rfl; exact ⟨_, fd, F, He.glo_ok X G (c.fact 15 (f := .glo "lines_used") rfl)⟩
  d_words_laid := by obtain ⟨fd, F⟩ := c.def_ 16 (d := dd_words_laid) rfl; exact ⟨_, fd, F, He.glo_ok X G (c.fact 16 (f := .glo "words_laid") rfl)⟩
  d_settings_many := by obtain ⟨fd, F⟩ := c.def_ 17 (d := dd_settings_many) rfl; exact ⟨_, fd, F, He.glo_ok X G (c.fact 17 (f := .glo "settings_many") rfl)⟩
  d_raggedness := by obtain ⟨fd, F⟩ := c.def_ 18 (d := dd_raggedness) rfl; exact ⟨_, fd, F, He.glo_ok X G (c.fact 18 (f := .glo "raggedness") rfl)⟩
  d__law_cup := by obtain ⟨fd, F⟩ := c.def_ 19 (d := dd__law_cup) rfl; exact ⟨_, fd, F, He.glo_ok X G (c.fact 19 (f := .glo "_law_cup") rfl)⟩
  d__law_roll := by obtain ⟨fd, F⟩ := c.def_ 20 (d := dd__law_roll) rfl; exact ⟨_, fd, F, He.glo_ok X G (c.fact 20 (f := .glo "_law_roll") rfl)⟩
  d__law_some := by obtain ⟨fd, F⟩ := c.def_ 21 (d := dd__law_some) rfl; exact ⟨_, fd, F, He.glo_ok X G (c.fact 21 (f := .glo "_law_some") rfl)⟩
  d__law_same := by obtain ⟨fd, F⟩ := c.def_ 22 (d := dd__law_same) rfl; exact ⟨_, fd, F, He.glo_ok X G (c.fact 22 (f := .glo "_law_same") rfl)⟩
  d__law_given := by obtain ⟨fd, F⟩ := c.def_ 23 (d := dd__law_given) rfl; exact ⟨_, fd, F, He.glo_ok X G (c.fact 23 (f := .glo "_law_given") rfl)⟩
  d__law_size := by obtain ⟨fd, F⟩ := c.def_ 24 (d := dd__law_size) rfl; exact ⟨_, fd, F, He.glo_ok X G (c.fact 24 (f := .glo "_law_size") rfl)⟩
  d__law_settings := by obtain ⟨fd, F⟩ := c.def_ 25 (d := dd__law_settings) rfl; exact ⟨_, fd, F, He.glo_ok X G (c.fact 25 (f := .glo "_law_settings") rfl)⟩
  d__law_used := by obtain ⟨fd, F⟩ := c.def_ 26 (d := dd__law_used) rfl; exact ⟨_, fd, F, He.glo_ok X G (c.fact 26 (f := .glo "_law_used") rfl)⟩
  d__law_near := by obtain ⟨fd, F⟩ := c.def_ 27 (d := dd__law_near) rfl; exact ⟨_, fd, F, He.glo_ok X G (c.fact 27 (f := .glo "_law_near") rfl)⟩
  d__law_right := by obtain ⟨fd, F⟩ := c.def_ 28 (d := dd__law_right) rfl; exact ⟨_, fd, F, He.glo_ok X G (c.fact 28 (f := .glo "_law_right") rfl)⟩
  d_law := by obtain ⟨fd, F⟩ := c.def_ 29 (d := dd_law) rfl; exact ⟨_, fd, F, He.glo_ok X G (c.fact 29 (f := .glo "law") rfl)⟩
theorem gs_of {K : PySem.W.Frag} {h : Heap} {mg : Str → Option Value} (X : K.In h) (G : h.Ns mainGlobals mg) (c : He.SaysD fas fns K) : Gs mg where
  g_isinstance := He.free_ok X G (c.fact 30 (f := .free "isinstance") rfl)
  g_int := He.free_ok X G (c.fact 31 (f := .free "int") rfl)
  g_bool := He.free_ok X G (c.fact 32 (f := .free "bool") rfl)
  g_tuple := He.free_ok X G (c.fact 33 (f := .free "tuple") rfl)
  g_len := He.free_ok X G (c.fact 34 (f := .free "len") rfl)
  g_LINES := He.int_ok X G (c.fact 35 (f := .int "LINES" 40) rfl)
  g_WIDE := He.int_ok X G (c.fact 36 (f := .int "WIDE" 200) rfl)
  g_all := He.free_ok X G (c.fact 37 (f := .free "all") rfl)
  g_WORDS := He.int_ok X G (c.fact 38 (f := .int "WORDS" 60) rfl)
  g_str := He.free_ok X G (c.fact 39 (f := .free "str") rfl)
  g_LONGEST := He.int_ok X G (c.fact 40 (f := .int "LONGEST" 30) rfl)
  g_LETTERS := He.str_ok X G (c.fact 41 (f := .str "LETTERS" "abcdefghijklmnopqrstuvwxyz") rfl)
  g_sum := He.free_ok X G (c.fact 42 (f := .free "sum") rfl)
  g_max := He.free_ok X G (c.fact 43 (f := .free "max") rfl)
  g_zip := He.free_ok X G (c.fact 44 (f := .free "zip") rfl)
  g_range := He.free_ok X G (c.fact 45 (f := .free "range") rfl)
  g_enumerate := He.free_ok X G (c.fact 46 (f := .free "enumerate") rfl)
  g_list := He.free_ok X G (c.fact 47 (f := .free "list") rfl)
  g_abs := He.free_ok X G (c.fact 48 (f := .free "abs") rfl)
  g_min := He.free_ok X G (c.fact 49 (f := .free "min") rfl)
theorem facts {P : Program} {w : World} {K : PySem.W.Frag} {h : Heap} {mg : Str → Option Value} {f : Addr} (X : K.In h) (G : h.Ns mainGlobals mg) (hfa : mg ("law" : Str) = some (.ref f)) (c : He.SaysD fas fns K) :
    ∃ fd : FuncData, (∀ (s : Shared) (v : Value), BindsTo s fd ⟨[v], []⟩ [("script", v)]) ∧ ∀ base : Heap, K.In base → base.Ns mainGlobals mg → FnOk P w K mg base CX0 60 f fd ["script"] (spD K (run tb 60 500)) := by
  have GG := gs_of X G c
  have FF := fs_of X G c
  obtain ⟨f2, fd, F, hm⟩ := FF.d_law
  have e := hfa.symm.trans hm
  cases e
  have b := FunD.bindsA (ps := ["script"]) F fun _ _ _ _ _ _ us hl => match us, hl with | [_], _ => rfl
  refine ⟨fd, fun s v => b s [v] rfl, fun base _ _ => ?_⟩
  have A : Al P w K mg base 59 := all_ok GG FF 59
  exact fn_ok F sc_law rfl rfl rfl (fun cdv Ar outer s H E hr => ok_law GG A f cdv Ar outer s H E hr)
/-- THE LAW, from its plain form -/
theorem holds_of (plain : ∀ ns : List Int, ns.length ≤ 63 → ∃ B, Pz.run tb 60 500 [.scr (ns.map .int)] [] = .ok (.bl true, B)) : PySem.Challenge.rw_printshop_k83_whole_settings.Holds := by
  w_on; o_law
  refine HandSHeadRun.head_any (r := R) (q := PySem.W.view R.prog [42]) (H := hk) (ob := ob) (M := 4000) (loose := loose_) (d := HandSHeadRun.topDef R.prog 42) (kwd := []) ob_eq
    (by kernel_rfl) (fun s => by kernel_rfl) run_ (by kernel_rfl) (by kernel_rfl) (by kernel_rfl) (by rfl) (by first | assumption | decide +kernel) (by decide +kernel) ⟨rfl, rfl, rfl, rfl, rfl, by decide +kernel⟩ ?hw ?hc
  case hw => w_witness2
  case hc =>
    refine L2.walk_ofE (l := PySem.Challenge.rw_printshop_k83_whole_settings) (n := 63) (k := 60) (x := "script") (CX := L2.CX0) rfl (by decide) (by kernel_rfl) ⟨rfl, by decide, by decide⟩ ?F (fun _ _ _ _ z => z)
    intro w mg fa h Y G hmg0
    obtain ⟨K, KX, c⟩ := Y
    have hmg : mg ("law" : PySem.Str) = some (.ref fa) := by
      have e : (HandSHeadRun.topDef R.prog 42).name = ("law" : PySem.Str) := by kernel_rfl
      rw [← e]
      exact hmg0
    obtain ⟨fd, hb, hF⟩ := facts (P := (PySem.Challenge.rw_printshop_k83_whole_settings).prog) (w := w) KX G hmg c
    exact ⟨K, fd, spD K (Pz.run tb 60 500), KX, hb, fun H a ns hl _ hS => law_sp (plain ns hl) hS, hF⟩
end K83
end
section
set_option linter.all false
set_option maxRecDepth 100000
open Pz In
namespace K83
theorem plain (ns : List Int) (hn : ns.length ≤ 63) : ∃ B, Pz.run tb 60 500 [.scr (ns.map .int)] [] = .ok (.bl true, B) := by
  have h : Wp (Pz.run tb 60 500 [.scr (ns.map .int)] []) fun r => r.1 = .bl true := by
    refine wp_run (h := rfl) (by omega) rfl ?_
    obtain ⟨B0, hB0, e0⟩ := cup_of (tb := tb) (b := b__law_cup) rfl rfl (by decide) 59 (by omega) ns hn
    have l2 : 2 ≤ ln := by show 2 ≤ 16777216; omega
    refine wp_next (σ' := [.val (.scr (ns.map .int)), .val (.box 0), .no, .no, .no]) (B' := B0) (by
      simp -implicitDefEqProofs [Pz.start, e0]) ?_
    obtain ⟨σ', B1, ⟨x2, x3, x4, rfl, hB1⟩, e1⟩ := for_inv (f := forB (Pz.run tb 59) (.nm 2) (.cons (.asg (.tp (.cons (.nm 3) (.cons (.nm 4) (.nil)))) (.call 29 (.cons (.var 1) (.cons (.cst (.int 3)) (.cons (.call 1 (.cons (.var 1) (.cons (.lst (.cons (.cst (.int 7)) (.cons (.cst (.int 15)) (.nil)))) (.nil)))) (.cons (.cst (.int 6)) (.nil))))))) (.cons (.ifs (.not (.call 34 (.cons (.var 1) (.cons (.var 3) (.cons (.var 4) (.nil)))))) (.cons (.ret (.cst (.bl false))) (.nil)) (.nil)) (.nil)))) (σ := [.val (.scr (ns.map .int)), .val (.box 0), .no, .no, .no]) (B := B0) ((List.range 5).map fun k : Nat => .int (k : Nat))
      (fun j σ B' => ∃ x2 x3 x4, σ = [.val (.scr (ns.map .int)), .val (.box 0), x2, x3, x4] ∧ okB B')
      ⟨_, _, _, rfl, hB0⟩ (by
        rintro j hj σ B ⟨x2, x3, x4, rfl, hB⟩
        rw [List.getElem_map]
        obtain ⟨c, B1, hc, hB1, e1⟩ := some_l has.some_ has.roll_ 59 (by omega) B [.int 7, .int 15] (by simp) (by simp) hB
        obtain ⟨wide, hwide, rfl⟩ : ∃ m : Nat, m ≤ 200 ∧ c = .int (m : Nat) := by
          simp only [List.mem_cons, List.not_mem_nil, or_false] at hc
          rcases hc with rfl | rfl
          · exact ⟨7, by omega, rfl⟩
          · exact ⟨15, by omega, rfl⟩
        obtain ⟨ms, ws, B2, hm, hml, hmw, hw, hwl, hw6, hB2, e2⟩ := m_given (tb := tb) 56 B1 3 wide 6 (by omega) (by omega) hwide (by omega) hB1
        change Pz.run tb 59 29 [.box 0, .int 3, .int (wide : Nat), .int 6] B1 = _ at e2
        obtain ⟨⟨d, B3⟩, e3, hd, hB3⟩ := m_right (tb := tb) ms hm (by omega) ws hw (by omega) B2 hB2
        have hd : d = .bl true := hd
        subst hd
        refine ⟨_, _, ⟨.val (.int ((List.range 5)[j]'(by simpa using hj) : Nat)), .val (.tup (nD ms)), .val (.tup (sD ws)), rfl, hB3⟩, ?_⟩
        simp -implicitDefEqProofs [l2, e1, e2, e3])
    have hr : rngL 0 5 = (List.range 5).map fun k : Nat => .int (k : Nat) := rngL_nat 5
    have hb5 : bnd 5 = true := bnd_of (by omega) (by omega)
    refine wp_next (σ' := _) (B' := _) (by
      simp -implicitDefEqProofs only [ex_for, ev_bi, evs_cons, evs_nil, ev_cst, kCons1_ok, kCons2_ok, kBi_ok, List.map_cons, List.map_nil, drf_int, opBi_rng, rngOf_1, hb5, if_true, Option.map_some, kOf_s, kFor1_ok, itemsOf_lst, kFor2_s, hr]
      exact e1) ?_
    simp -implicitDefEqProofs [frzAll, frzS]
  obtain ⟨⟨d, B⟩, e, hd⟩ := h
  have hd : d = .bl true := hd
  subst hd
  exact ⟨B, e⟩
end K83
end
open PySem PySem.W PyProof.Rows
theorem PySem.Challenge.cw_printshop_k83_whole_settings_holds : PySem.Challenge.rw_printshop_k83_whole_settings.Holds := by
  exact K83.holds_of K83.plain
