import PyProof.Rows.All
import HandS.ForMost
import HandS.Walk
import HandS.Zip
import HandS.Conv
import KE.SortData
import KE.SortLaws
import HandS.TupMul
import HandS.TupAny
import HandS.Style
import HandS.Deep
import KE.DataCmp
import KE.DataEq
import KE.DataFind
import KE.DataIsa
import KE.DataAny
import KE.DataMinMax
import HandS.TupLen
import HandS.IsInst
import KE.KTupSum
import KE.KDictZip
import HandS.DictComp
import HandS.TupSets
import HandS.Codes
import HandS.HeadHook4
import HandS.HeadEnd
import HandS.Defaults
import HandS.Head2
import PySem.Challenge.RW_copiesjoined_k76_whole_runs_of_puts

section
set_option Elab.async false
set_option linter.all false
set_option maxRecDepth 100000
/-! EvA: data, a small language of expressions and statements, and how it is reckoned (plain Lean functions). -/
namespace EV

/-- data: what the program's values mean -/
inductive D where
  | non | bl (b : Bool) | int (i : Int) | str (x : List Nat) | fn (i : Nat)
  | tup (xs : List D) | lst (xs : List D) | dic (kvs : List (D × D))
  deriving Inhabited

/-- the two numbers of the drawing cup -/
abbrev Cup := Int × Int
inductive R (α : Type) where
  | ok (a : α) (k : Cup)
  | ex (c : Nat) (x : List D) (k : Cup)
  | fail
abbrev M (α : Type) := Cup → R α
def mp {α : Type} (a : α) : M α := fun k => .ok a k
def mf {α : Type} : M α := fun _ => .fail
def mb {α β : Type} (m : M α) (f : α → M β) : M β := fun k => match m k with
  | .ok a k' => f a k'
  | .ex c x k' => .ex c x k'
  | .fail => .fail
def mo {α : Type} : Option α → M α
  | some a => mp a
  | none => mf
theorem mb_mp {α β : Type} (a : α) (f : α → M β) : mb (mp a) f = f a := rfl
theorem mb_mf {α β : Type} (f : α → M β) : mb mf f = mf := rfl
theorem mo_some {α : Type} (a : α) : mo (some a) = mp a := rfl
theorem mo_none {α : Type} : (mo none : M α) = mf := rfl
theorem mb_assoc {α β γ : Type} (m : M α) (f : α → M β) (g : β → M γ) : mb (mb m f) g = mb m fun a => mb (f a) g := by
  funext k
  unfold mb
  cases m k <;> rfl
theorem mb_pure {α : Type} (m : M α) : mb m mp = m := by
  funext k
  unfold mb mp
  cases m k <;> rfl

/-- the greatest length of a list -/
abbrev LIM : Nat := 16777216
/-- the size of texts, lists within the line -/
def mlen (n : Nat) : M Unit := if n ≤ LIM then mp () else mf

/-! ### equality and order of data -/
def b2 (b : Bool) : Int := if b then 1 else 0
mutual
def eqD : D → D → Bool
  | .non, .non => true
  | .bl a, .bl b => a == b
  | .bl a, .int j => b2 a == j
  | .int i, .bl b => i == b2 b
  | .int i, .int j => i == j
  | .str x, .str y => x == y
  | .tup xs, .tup ys => eqL xs ys
  | .lst xs, .lst ys => eqL xs ys
  | _, _ => false
def eqL : List D → List D → Bool
  | [], [] => true
  | x :: xs, y :: ys => eqD x y && eqL xs ys
  | _, _ => false
end
mutual
/-- what can be compared place by place -/
def alikeD : D → D → Bool
  | .non, .non => true
  | .bl _, .bl _ => true
  | .int _, .int _ => true
  | .str _, .str _ => true
  | .tup xs, .tup ys => alikeL xs ys
  | .lst xs, .lst ys => alikeL xs ys
  | _, _ => false
def alikeL : List D → List D → Bool
  | x :: xs, y :: ys => alikeD x y && alikeL xs ys
  | [], _ => true
  | _ :: _, [] => true
end
def ltN : List Nat → List Nat → Bool
  | [], [] => false
  | [], _ :: _ => true
  | _ :: _, [] => false
  | x :: xs, y :: ys => if x == y then ltN xs ys else Nat.blt x y
mutual
def ltD : D → D → Bool
  | .bl a, .bl b => decide (b2 a < b2 b)
  | .int i, .int j => decide (i < j)
  | .str x, .str y => ltN x y
  | .tup xs, .tup ys => ltL xs ys
  | .lst xs, .lst ys => ltL xs ys
  | _, _ => false
def ltL : List D → List D → Bool
  | [], [] => false
  | [], _ :: _ => true
  | _ :: _, [] => false
  | x :: xs, y :: ys => if eqD x y then ltL xs ys else ltD x y
end
mutual
/-- how deep data are nested -/
def depD : D → Nat
  | .tup xs => depL xs + 1
  | .lst xs => depL xs + 1
  | _ => 0
def depL : List D → Nat
  | [] => 0
  | x :: xs => max (depD x) (depL xs)
end
mutual
/-- only plain data within: no dict, no def -/
def plainD : D → Bool
  | .tup xs => plainL xs
  | .lst xs => plainL xs
  | .dic _ => false
  | .fn _ => false
  | _ => true
def plainL : List D → Bool
  | [] => true
  | x :: xs => plainD x && plainL xs
end
/-- what == looks at -/
def okD (x : D) : Bool := plainD x && decide (depD x ≤ 60)
mutual
/-- no list, no dict within -/
def freeD : D → Bool
  | .tup xs => freeL xs
  | .lst _ => false
  | .dic _ => false
  | _ => true
def freeL : List D → Bool
  | [] => true
  | x :: xs => freeD x && freeL xs
end
/-- put in behind all that are not greater -/
def insD {α : Type} (le : α → α → Bool) (x : α) : List α → List α
  | [] => [x]
  | y :: ys => if le x y then x :: y :: ys else y :: insD le x ys
def sortD {α : Type} (le : α → α → Bool) : List α → List α
  | [] => []
  | x :: xs => insD le x (sortD le xs)
/-- all items of some data can be compared with one another, and stand for a sort -/
def sortOk (xs : List D) : Bool :=
  xs.all (fun x => xs.all fun y => alikeD x y) && (xs.all (fun x => match x with | .tup (_ :: _) => true | _ => false) || xs.all (fun x => match x with | .tup _ => false | .non => false | _ => true)) && xs.all okD
def leD (x y : D) : Bool := !ltD y x

/-! ### the language -/
inductive BOp | add | sub | mul | fdiv | mod | pow
  deriving DecidableEq
inductive COp | eq | ne | lt | le | gt | ge | is | isnot | «in» | notin
  deriving DecidableEq
inductive Ty | int | bool | str | tuple | list
  deriving DecidableEq
inductive Bi
  | len | tuple | list | sorted | all | any | sum | max | min | str | int | abs
  | lrange | trange | dict (tu : Bool) | sset | lset | join | get | items (f : Bool) | sitems | titems | skeys | lvalues | index | count
  | strip | startswith | endswith | rfind | split | upper
  deriving DecidableEq
inductive Tg | nm (i : Nat) | tp (ts : List Tg)

mutual
inductive IE
  | k (c : D)
  | v (i : Nat)
  | g (i : Nat)
  | cupg (i : Nat) (b : Bool)
  | tup (es : List IE)
  | lst (es : List IE)
  | dict (es : List (IE × IE))
  | ix (a i : IE)
  | sl (a lo hi : IE)
  | rev (a : IE)
  | bin (o : BOp) (a b : IE)
  | neg (a : IE)
  | not (a : IE)
  | and (a b : IE)
  | or (a b : IE)
  | cmp (o : COp) (a b : IE)
  | cmp2 (o o' : COp) (a b c : IE)
  | ite (c a b : IE)
  | call (f : Nat) (es : List IE)
  | callb (f : Nat) (es : List IE)
  | bi (b : Bi) (es : List IE)
  | bs (b : Bi) (a : IE)
  | m1 (b : Bi) (a k : IE)
  | m2 (b : Bi) (a k l : IE)
  | ist (t : Ty) (a : IE)
  | rg1 (tu : Bool) (a : IE)
  | rg2 (tu : Bool) (a b : IE)
  | comp (e : IE) (t : Tg) (s : Src) (c : IE)
  | comp2 (e : IE) (t : Tg) (s : Src) (t' : Tg) (s' : Src)
  | dcomp (tu : Bool) (ke ve : IE) (t : Tg) (s : Src) (c : IE)
inductive Src
  | pl (e : IE)
  | rng (es : List IE)
  | enum (s : IE)
  | enumz (a b : IE)
  | zip (a b : IE)
  | zipn (a b : IE)
  | items (e : IE)
  | keys (e : IE)
end
inductive IS
  | asg (t : Tg) (e : IE)
  | own (i : Nat) (e : IE)
  | par (ts : List (Nat × Bool)) (es : List IE)
  | cupn (i : Nat) (f : Nat) (es : List IE)
  | setc (i : Nat) (b : Bool) (e : IE)
  | app (i : Nat) (e : IE)
  | sets (i : Nat) (ix e : IE)
  | aug (i : Nat) (e : IE)
  | popi (t i : Nat)
  | exp (e : IE)
  | ret (e : IE)
  | retn (e : IE)
  | if_ (c : IE) (a b : List IS)
  | for_ (t : Tg) (s : Src) (b : List IS)
  | whl (n : Nat) (c : IE) (b : List IS)
  | raise (c : Nat) (es : List IE)
  | frz (i : Nat)
  | cont | pass | never

/-- a slot of a def: nothing; a plain value; a list or dict of its own; the cup -/
inductive Slot | no | val (d : D) | own (d : D) | cup
abbrev Env := List Slot
inductive Arg | val (d : D) | cup
inductive Fl | nx (ρ : Env) | rt (d : D) (fr : Bool) | ct (ρ : Env)
def Env.get (ρ : Env) (i : Nat) : Slot := ρ.getD i .no

/-! ### what the operators do -/
def binD : BOp → D → D → Option D
  | .add, .int i, .int j => some (.int (i + j))
  | .add, .str x, .str y => if x.length + y.length ≤ LIM then some (.str (x ++ y)) else none
  | .add, .tup x, .tup y => if x.length + y.length ≤ LIM then some (.tup (x ++ y)) else none
  | .add, .lst x, .lst y => if x.length + y.length ≤ LIM then some (.lst (x ++ y)) else none
  | .sub, .int i, .int j => some (.int (i - j))
  | .mul, .int i, .int j => if decide (i.natAbs < 2 ^ 64) || decide (j.natAbs < 2 ^ 64) then some (.int (i * j)) else none
  | .mul, .str x, .int j => if decide (-(LIM : Int) ≤ j) && decide (j ≤ LIM) && decide (x.length * j.toNat ≤ LIM) then some (.str ((List.replicate j.toNat x).flatten)) else none
  | .mul, .tup x, .int j => if decide (-(LIM : Int) ≤ j) && decide (j ≤ LIM) && decide (x.length * j.toNat ≤ LIM) then some (.tup ((List.replicate j.toNat x).flatten)) else none
  | .mul, .lst x, .int j => if decide (-(LIM : Int) ≤ j) && decide (j ≤ LIM) && decide (x.length * j.toNat ≤ LIM) then some (.lst ((List.replicate j.toNat x).flatten)) else none
  | .fdiv, .int i, .int j => if decide (0 < j) && decide (j < 1073741824) then some (.int (i / j)) else none
  | .mod, .int i, .int j => if decide (0 < j) then some (.int (i % j)) else none
  | .pow, .int i, .int j => if decide (0 ≤ j) && decide (j ≤ 100) && decide (0 ≤ i) && decide (i ≤ 100) then some (.int (i ^ j.toNat)) else none
  | _, _, _ => none
/-- a place counted from the end -/
def placeOf (n : Nat) (i : Int) : Option Nat := if 0 ≤ i then (if i < n then some i.toNat else none) else if -(n : Int) ≤ i then some (i + n).toNat else none
def lookD (k : D) : List (D × D) → Option D
  | [] => none
  | (a, b) :: r => if eqD a k then some b else lookD k r
def putD (k v : D) (kvs : List (D × D)) : List (D × D) :=
  if kvs.any (fun p => eqD p.1 k) then kvs.map (fun p => if eqD p.1 k then (p.1, v) else p) else kvs ++ [(k, v)]
/-- what may be a key: an int, a text; a tuple of such -/
def keyD : D → Bool
  | .int _ => true
  | .str _ => true
  | _ => false
def keyT : D → Bool
  | .tup xs => xs.all keyD
  | _ => false
/-- a key of the kind that the dict's keys have -/
def lookOk (k : D) : List (D × D) → Bool
  | [] => keyD k || keyT k
  | (a, _) :: _ => (keyD a && keyD k) || (keyT a && keyT k)
def ixD : D → D → Option D
  | .tup xs, .int i => (placeOf xs.length i).bind fun n => xs[n]?
  | .lst xs, .int i => (placeOf xs.length i).bind fun n => xs[n]?
  | .str xs, .int i => (placeOf xs.length i).bind fun n => (xs[n]?).map fun c => .str [c]
  | .dic kvs, k => if lookOk k kvs then lookD k kvs else none
  | _, _ => none
def clampD (n : Nat) (d : Nat) : Option Int → Nat
  | none => d
  | some i => if i < 0 then (i + n).toNat else min i.toNat n
def cutD {α : Type} (xs : List α) (lo hi : Option Int) : List α :=
  (xs.drop (clampD xs.length 0 lo)).take (clampD xs.length xs.length hi - clampD xs.length 0 lo)
def slD : D → Option Int → Option Int → Option D
  | .tup xs, lo, hi => some (.tup (cutD xs lo hi))
  | .lst xs, lo, hi => some (.lst (cutD xs lo hi))
  | .str xs, lo, hi => some (.str (cutD xs lo hi))
  | _, _, _ => none
def revD : D → Option D
  | .lst xs => some (.lst xs.reverse)
  | _ => none
/-- x occurs in y as a text -/
def preN : List Nat → List Nat → Bool
  | [], _ => true
  | _ :: _, [] => false
  | x :: xs, y :: ys => x == y && preN xs ys
def occN (x : List Nat) : List Nat → Bool
  | [] => preN x []
  | y :: ys => preN x (y :: ys) || occN x ys
def inD : D → D → Option Bool
  | k, .tup xs => if okD k && xs.all okD then some (xs.any fun y => eqD y k) else none
  | k, .lst xs => if okD k && xs.all okD then some (xs.any fun y => eqD y k) else none
  | .str x, .str y => some (occN x y)
  | k, .dic kvs => if lookOk k kvs then some (lookD k kvs).isSome else none
  | _, _ => none
def isD : D → D → Option Bool
  | .non, .non => some true
  | .bl a, .bl b => some (a == b)
  | .bl _, .non => some false
  | .int _, .non => some false
  | .str _, .non => some false
  | .tup _, .non => some false
  | .lst _, .non => some false
  | .dic _, .non => some false
  | .fn _, .non => some false
  | .non, .bl _ => some false
  | .int _, .bl _ => some false
  | .str _, .bl _ => some false
  | .tup _, .bl _ => some false
  | .lst _, .bl _ => some false
  | _, _ => none
/-- the two may be put in order -/
def ordO (x y : D) : Bool := alikeD x y && okD x && okD y && (match x with | .non => false | _ => true)
def cmpB : COp → D → D → Option Bool
  | .eq, x, y => if okD x && okD y then some (eqD x y) else none
  | .ne, x, y => if okD x && okD y then some (!eqD x y) else none
  | .lt, x, y => if ordO x y then some (ltD x y) else none
  | .gt, x, y => if ordO x y then some (ltD y x) else none
  | .le, x, y => if ordO x y then some (!ltD y x) else none
  | .ge, x, y => if ordO x y then some (!ltD x y) else none
  | .is, x, y => isD x y
  | .isnot, x, y => (isD x y).map (!·)
  | .in, x, y => inD x y
  | .notin, x, y => (inD x y).map (!·)
def itemsD : D → Option (List D)
  | .tup xs => some xs
  | .lst xs => some xs
  | _ => none
def allInts : List D → Option (List Int)
  | [] => some []
  | .int i :: r => (allInts r).map (i :: ·)
  | _ => none
def allBools : List D → Option (List Bool)
  | [] => some []
  | .bl i :: r => (allBools r).map (i :: ·)
  | _ => none
def allStrs : List D → Option (List (List Nat))
  | [] => some []
  | .str i :: r => (allStrs r).map (i :: ·)
  | _ => none
def maxI (m : Int) (xs : List Int) : Int := xs.foldl max m
def minI (m : Int) (xs : List Int) : Int := xs.foldl min m
def isTy : Ty → D → Option Bool
  | .int, .int _ => some true
  | .int, .bl _ => some true
  | .bool, .bl _ => some true
  | .str, .str _ => some true
  | .tuple, .tup _ => some true
  | .list, .lst _ => some true
  | _, .fn _ => none
  | _, .dic _ => none
  | _, _ => some false
def rangeI (lo : Int) : Nat → List D
  | 0 => []
  | n + 1 => .int lo :: rangeI (lo + 1) n
/-- the ints of range(..) -/
def rngD : List D → Option (List D)
  | [.int j] => if decide (-(LIM : Int) ≤ j) && decide (j ≤ LIM) then some (rangeI 0 j.toNat) else none
  | [.int i, .int j] => if decide (-(LIM : Int) ≤ i) && decide (i ≤ LIM) && decide (j ≤ LIM) && decide (-(LIM : Int) ≤ j) && decide (j - i ≤ LIM) then some (rangeI i (j - i).toNat) else none
  | _ => none
def seqD (tu : Bool) (xs : List D) : D := if tu then .tup xs else .lst xs
/-- the decimal figures of a number -/
def strI (i : Int) : List Nat := (toString i).toList.map Char.toNat
/-- a text that the model can hold -/
def okS (x : List Nat) : Bool := x.all (fun c => decide (c < 1114112)) && decide (x.length ≤ LIM)
def numN (acc : Nat) : List Nat → Option Nat
  | [] => some acc
  | c :: r => if Nat.ble 48 c && Nat.ble c 57 then numN (acc * 10 + (c - 48)) r else none
def joinN (sep : List Nat) : List (List Nat) → List Nat
  | [] => []
  | [x] => x
  | x :: y :: r => x ++ sep ++ joinN sep (y :: r)
def idxD (k : D) : List D → Nat → Option Nat
  | [], _ => none
  | y :: ys, n => if eqD y k then some n else idxD k ys (n + 1)
def cntD (k : D) : List D → Nat
  | [] => 0
  | y :: ys => (if eqD y k then 1 else 0) + cntD k ys
/-- the items that stand not ahead already, in order -/
def firsts : List D → List D → List D
  | [], _ => []
  | x :: xs, seen => if seen.any (fun y => eqD y x) then firsts xs seen else x :: firsts xs (x :: seen)
/-- what may be stored as a key -/
def keyS (kt : D → Bool) (a : D) : Bool := keyD a || (keyT a && !kt a)
/-- .. of one kind -/
def keyF (kt : D → Bool) (tu : Bool) (a : D) : Bool := if tu then keyT a && !kt a else keyD a
def pairsD (kt : D → Bool) (tu : Bool) : List D → Option (List (D × D))
  | [] => some []
  | .tup [a, b] :: r => if keyF kt tu a then (pairsD kt tu r).map ((a, b) :: ·) else none
  | _ => none
def putAll : List (D × D) → List (D × D) → List (D × D)
  | acc, [] => acc
  | acc, (a, b) :: r => putAll (putD a b acc) r
def isIntD : D → Bool
  | .int _ => true
  | _ => false
def isTupI : D → Bool
  | .tup ys => ys.all isIntD
  | _ => false
/-- what a set is made of here: ints, or tuples of ints -/
def setOk (xs : List D) : Bool := decide (xs.length < 64) && (xs.all isIntD || xs.all isTupI)
def lenF : List D → Option D
  | [.tup xs] => some (.int xs.length)
  | [.lst xs] => some (.int xs.length)
  | [.str xs] => some (.int xs.length)
  | [.dic xs] => some (.int xs.length)
  | _ => none
def tupleF : List D → Option D
  | [x] => (itemsD x).map .tup
  | _ => none
def listF : List D → Option D
  | [x] => (itemsD x).map .lst
  | _ => none
def sortedF : List D → Option D
  | [x] => (itemsD x).bind fun xs => if sortOk xs then some (.lst (sortD leD xs)) else none
  | _ => none
def allF : List D → Option D
  | [.lst xs] => (allBools xs).map fun bs => .bl (bs.all id)
  | _ => none
def anyF : List D → Option D
  | [.lst xs] => (allBools xs).map fun bs => .bl (bs.any id)
  | _ => none
def sumF : List D → Option D
  | [x] => (itemsD x).bind fun xs => (allInts xs).map fun is => .int is.sum
  | _ => none
def maxL : List Int → Option D
  | [] => none
  | i :: r => some (.int (maxI i r))
def minL : List Int → Option D
  | [] => none
  | i :: r => some (.int (minI i r))
def maxF : List D → Option D
  | [x] => (itemsD x).bind fun xs => (allInts xs).bind maxL
  | [.int i, .int j] => some (.int (if i < j then j else i))
  | _ => none
def minF : List D → Option D
  | [x] => (itemsD x).bind fun xs => (allInts xs).bind minL
  | [.int i, .int j] => some (.int (if j < i then j else i))
  | _ => none
def strF : List D → Option D
  | [.int i] => if decide (i.natAbs < 10000000000) && okS (strI i) then some (.str (strI i)) else none
  | [.str x] => some (.str x)
  | _ => none
def intF : List D → Option D
  | [.int i] => some (.int i)
  | _ => none
def absF : List D → Option D
  | [.int i] => some (.int i.natAbs)
  | _ => none
def dictF (kt : D → Bool) (tu : Bool) : List D → Option D
  | [.lst xs] => (pairsD kt tu xs).map fun ps => .dic (putAll [] ps)
  | _ => none
def ssetF : List D → Option D
  | [.lst xs] => if decide (xs.length < 64) && xs.all isIntD then some (.lst (sortD leD (firsts xs []))) else none
  | _ => none
def lsetF : List D → Option D
  | [x] => (itemsD x).bind fun xs => if setOk xs then some (.int (firsts xs []).length) else none
  | _ => none
def joinF : List D → Option D
  | [.str s, x] => (itemsD x).bind fun xs => (allStrs xs).bind fun ss => if decide ((ss.map List.length).sum + ss.length * s.length ≤ LIM) && okS s then some (.str (joinN s ss)) else none
  | _ => none
def getF : List D → Option D
  | [.dic kvs, k] => if lookOk k kvs then some ((lookD k kvs).getD .non) else none
  | [.dic kvs, k, d] => if lookOk k kvs then some ((lookD k kvs).getD d) else none
  | _ => none
def indexF : List D → Option D
  | [.lst xs, k] => if okD k && xs.all okD then Option.map (fun n : Nat => D.int (n : Int)) (idxD k xs 0) else none
  | _ => none
def countF : List D → Option D
  | [.lst xs, k] => if okD k && xs.all okD then some (.int (cntD k xs)) else none
  | _ => none
def biD (kt : D → Bool) : Bi → List D → Option D
  | .len, ds => lenF ds
  | .tuple, ds => tupleF ds
  | .list, ds => listF ds
  | .sorted, ds => sortedF ds
  | .all, ds => allF ds
  | .any, ds => anyF ds
  | .sum, ds => sumF ds
  | .max, ds => maxF ds
  | .min, ds => minF ds
  | .str, ds => strF ds
  | .int, ds => intF ds
  | .abs, ds => absF ds
  | .lrange, ds => (rngD ds).map .lst
  | .trange, ds => (rngD ds).map .tup
  | .dict tu, ds => dictF kt tu ds
  | .sset, ds => ssetF ds
  | .lset, ds => lsetF ds
  | .join, ds => joinF ds
  | .get, ds => getF ds
  | .index, ds => indexF ds
  | .count, ds => countF ds
  | _, _ => none
/-- what a walk gives -/
def enumI (n : Int) : List D → List D
  | [] => []
  | x :: xs => .tup [.int n, x] :: enumI (n + 1) xs
def zipI : List D → List D → List D
  | x :: xs, y :: ys => .tup [x, y] :: zipI xs ys
  | _, _ => []
def enumD : D → Option (List D)
  | .lst xs => some (enumI 0 xs)
  | _ => none
def zipD : D → D → Option (List D)
  | .lst xs, .lst ys => some (zipI xs ys)
  | .tup xs, .tup ys => some (zipI xs ys)
  | _, _ => none
def zipT : D → D → Option (List D)
  | .tup xs, .tup ys => some (zipI xs ys)
  | _, _ => none
def walkD : D → Option (List D)
  | .tup xs => some xs
  | .lst xs => some xs
  | .str xs => some (xs.map fun c => .str [c])
  | _ => none

/-- the module's constants; which tuples stand in the written part -/
structure Cfg where
  gl : List D
  kt : D → Bool

/-! ### reckoning -/
mutual
def Tg.bind : Tg → D → Env → Option Env
  | .nm i, d, ρ => some (ρ.set i (.val d))
  | .tp ts, .tup ds, ρ => Tg.binds ts ds ρ
  | _, _, _ => none
def Tg.binds : List Tg → List D → Env → Option Env
  | [], [], ρ => some ρ
  | t :: ts, d :: ds, ρ => (Tg.bind t d ρ).bind fun ρ' => Tg.binds ts ds ρ'
  | _, _, _ => none
end
mutual
def Tg.names : Tg → List Nat
  | .nm i => [i]
  | .tp ts => Tg.namesL ts
def Tg.namesL : List Tg → List Nat
  | [] => []
  | t :: ts => Tg.names t ++ Tg.namesL ts
end
def wipeR (ρ : Env) : List Nat → Env
  | [] => ρ
  | i :: is => (wipeR ρ is).set i .no
def plainSlot : Slot → Bool
  | .own _ => false
  | .cup => false
  | _ => true
/-- a comprehension's own names, forgotten -/
def Tg.opn (t : Tg) (ρ : Env) : Option Env := if t.names.all (fun i => plainSlot (Env.get ρ i)) then some (wipeR ρ t.names) else none
def brw (e : IE) (ρ : Env) (r : M D) : M D := match e with
  | .v i => (match Env.get ρ i with
    | .own d => mp d
    | _ => r)
  | _ => r
/-- a part of a slice: nothing, or an int -/
def partM (e : IE) (r : M D) : M (Option Int) := match e with
  | .k .non => mp none
  | _ => mb r fun d => match d with
    | .int i => mp (some i)
    | _ => mf
def filtL {α : Type} (f : D → M (Option α)) : List D → M (List α)
  | [] => mp []
  | x :: xs => mb (f x) fun o => mb (filtL f xs) fun ys => mp (match o with | some y => y :: ys | none => ys)
def filt2 (f : D → M (List D)) : List D → M (List D)
  | [] => mp []
  | x :: xs => mb (f x) fun o => mb (filt2 f xs) fun ys => mp (o ++ ys)
def okKey0 : D → Bool
  | .int _ => true
  | .str x => okS x
  | _ => false
def okKey : D → Bool
  | .tup xs => xs.all okKey0
  | d => okKey0 d
/-- the keys of a dict -/
def keysM : D → M (List D)
  | .dic kvs => if kvs.all (fun p => okKey p.1) then mp (kvs.map fun p => p.1) else mf
  | _ => mf
def mB : D → M Bool
  | .bl b => mp b
  | _ => mf
abbrev Cal := Nat → List Arg → M (D × Bool)
mutual
def evE (cal : Cal) (C : Cfg) : IE → Env → M D
  | .k c, _ => mp c
  | .v i, ρ => (match Env.get ρ i with | .val d => mp d | _ => mf)
  | .g i, _ => mo C.gl[i]?
  | .cupg i b, ρ => (match Env.get ρ i with | .cup => fun k => .ok (.int (if b then k.2 else k.1)) k | _ => mf)
  | .tup es, ρ => mb (evL cal C es ρ) fun ds => mp (.tup ds)
  | .lst es, ρ => mb (evL cal C es ρ) fun ds => mp (.lst ds)
  | .dict es, ρ => mb (evP cal C es ρ) fun ps => mp (.dic (putAll [] ps))
  | .ix a i, ρ => mb (brw a ρ (evE cal C a ρ)) fun x => mb (evE cal C i ρ) fun y => mo (ixD x y)
  | .sl a lo hi, ρ => mb (brw a ρ (evE cal C a ρ)) fun x => mb (partM lo (evE cal C lo ρ)) fun y => mb (partM hi (evE cal C hi ρ)) fun z => mo (slD x y z)
  | .rev a, ρ => mb (brw a ρ (evE cal C a ρ)) fun x => mo (revD x)
  | .bin o a b, ρ => mb (brw a ρ (evE cal C a ρ)) fun x => mb (brw b ρ (evE cal C b ρ)) fun y => mo (binD o x y)
  | .neg a, ρ => mb (evE cal C a ρ) fun x => (match x with | .int i => mp (.int (-i)) | _ => mf)
  | .not a, ρ => mb (evE cal C a ρ) fun x => mb (mB x) fun b => mp (.bl (!b))
  | .and a b, ρ => mb (evE cal C a ρ) fun x => mb (mB x) fun c => if c then evE cal C b ρ else mp (.bl false)
  | .or a b, ρ => mb (evE cal C a ρ) fun x => mb (mB x) fun c => if c then mp (.bl true) else evE cal C b ρ
  | .cmp o a b, ρ => mb (brw a ρ (evE cal C a ρ)) fun x => mb (brw b ρ (evE cal C b ρ)) fun y => mb (mo (cmpB o x y)) fun c => mp (.bl c)
  | .cmp2 o o' a b c, ρ => mb (evE cal C a ρ) fun x => mb (evE cal C b ρ) fun y => mb (mo (cmpB o x y)) fun d => if d then mb (evE cal C c ρ) fun z => mb (mo (cmpB o' y z)) fun d' => mp (.bl d') else mp (.bl false)
  | .ite c a b, ρ => mb (evE cal C c ρ) fun x => mb (mB x) fun d => if d then evE cal C a ρ else evE cal C b ρ
  | .call f es, ρ => mb (evA cal C es ρ) fun as => mb (cal f as) fun r => mp r.1
  | .callb f es, ρ => mb (evAB cal C es ρ) fun as => mb (cal f as) fun r => if freeD r.1 then mp r.1 else mf
  | .bi b es, ρ => mb (evLB cal C es ρ) fun ds => mo (biD C.kt b ds)
  | .bs b a, ρ => mb (brw a ρ (evE cal C a ρ)) fun x => mo (biD C.kt b [x])
  | .m1 b a k, ρ => mb (brw a ρ (evE cal C a ρ)) fun x => mb (brw k ρ (evE cal C k ρ)) fun y => mo (biD C.kt b [x, y])
  | .m2 b a k l, ρ => mb (brw a ρ (evE cal C a ρ)) fun x => mb (evE cal C k ρ) fun y => mb (evE cal C l ρ) fun z => mo (biD C.kt b [x, y, z])
  | .rg1 tu a, ρ => mb (evE cal C a ρ) fun x => mo ((rngD [x]).map (seqD tu))
  | .rg2 tu a b, ρ => mb (evE cal C a ρ) fun x => mb (evE cal C b ρ) fun y => mo ((rngD [x, y]).map (seqD tu))
  | .ist t a, ρ => mb (brw a ρ (evE cal C a ρ)) fun x => mo ((isTy t x).map .bl)
  | .comp e t s c, ρ => mb (evR cal C s ρ) fun xs => mb (mo (t.opn ρ)) fun ρw => mb (filtL (fun x => mb (mo (t.bind x ρw)) fun ρ' => mb (evE cal C c ρ') fun y => mb (mB y) fun d => if d then mb (evE cal C e ρ') fun z => mp (some z) else mp none) xs) fun ys => mp (.lst ys)
  | .comp2 e t s t' s', ρ => mb (evR cal C s ρ) fun xs => mb (mo (t.opn ρ)) fun ρw => mb (mo (t'.opn ρw)) fun ρw => mb (filt2 (fun x => mb (mo (t.bind x ρw)) fun ρ' => mb (evR cal C s' ρ') fun ys => filtL (fun y => mb (mo (t'.bind y ρ')) fun ρ2 => mb (evE cal C e ρ2) fun z => mp (some z)) ys) xs) fun ys => mb (mlen ys.length) fun _ => mp (.lst ys)
  | .dcomp tu ke ve t s c, ρ => mb (evR cal C s ρ) fun xs => mb (mo (t.opn ρ)) fun ρw => mb (filtL (fun x => mb (mo (t.bind x ρw)) fun ρ' => mb (evE cal C c ρ') fun y => mb (mB y) fun d => if d then mb (evE cal C ke ρ') fun a => mb (evE cal C ve ρ') fun b => if keyF C.kt tu a then mp (some (a, b)) else mf else mp none) xs) fun ys => mp (.dic (putAll [] ys))
termination_by structural e => e
def evL (cal : Cal) (C : Cfg) : List IE → Env → M (List D)
  | [], _ => mp []
  | e :: es, ρ => mb (evE cal C e ρ) fun x => mb (evL cal C es ρ) fun xs => mp (x :: xs)
termination_by structural e => e
def evLB (cal : Cal) (C : Cfg) : List IE → Env → M (List D)
  | [], _ => mp []
  | e :: es, ρ => mb (brw e ρ (evE cal C e ρ)) fun x => mb (evLB cal C es ρ) fun xs => mp (x :: xs)
termination_by structural e => e
def evP (cal : Cal) (C : Cfg) : List (IE × IE) → Env → M (List (D × D))
  | [], _ => mp []
  | (a, b) :: es, ρ => mb (evE cal C a ρ) fun x => mb (evE cal C b ρ) fun y => mb (evP cal C es ρ) fun xs => if keyS C.kt x then mp ((x, y) :: xs) else mf
termination_by structural e => e
def evA (cal : Cal) (C : Cfg) : List IE → Env → M (List Arg)
  | [], _ => mp []
  | e :: es, ρ => mb (match e with | .v i => (match Env.get ρ i with | .cup => mp .cup | .val d => mp (.val d) | _ => mf) | _ => mb (evE cal C e ρ) fun x => mp (.val x)) fun a => mb (evA cal C es ρ) fun as => mp (a :: as)
termination_by structural e => e
def evAB (cal : Cal) (C : Cfg) : List IE → Env → M (List Arg)
  | [], _ => mp []
  | e :: es, ρ => mb (match e with | .v i => (match Env.get ρ i with | .cup => mp .cup | .val d => mp (.val d) | .own d => mp (.val d) | _ => mf) | _ => mb (evE cal C e ρ) fun x => mp (.val x)) fun a => mb (evAB cal C es ρ) fun as => mp (a :: as)
termination_by structural e => e
def evR (cal : Cal) (C : Cfg) : Src → Env → M (List D)
  | .pl e, ρ => mb (brw e ρ (evE cal C e ρ)) fun x => mo (walkD x)
  | .rng es, ρ => mb (evL cal C es ρ) fun xs => mo (rngD xs)
  | .enum e, ρ => mb (brw e ρ (evE cal C e ρ)) fun x => mo (enumD x)
  | .enumz a b, ρ => mb (brw a ρ (evE cal C a ρ)) fun x => mb (brw b ρ (evE cal C b ρ)) fun y => mo ((zipD x y).map (enumI 0))
  | .zip a b, ρ => mb (brw a ρ (evE cal C a ρ)) fun x => mb (brw b ρ (evE cal C b ρ)) fun y => mo (zipD x y)
  | .zipn a b, ρ => mb (brw a ρ (evE cal C a ρ)) fun x => mb (brw b ρ (evE cal C b ρ)) fun y => mo (zipT x y)
  | .items e, ρ => mb (evE cal C e ρ) fun x => (match x with | .dic kvs => mp (kvs.map fun p => .tup [p.1, p.2]) | _ => mf)
  | .keys e, ρ => mb (evE cal C e ρ) keysM
termination_by structural e => e
end
/-- the source of a for: nothing is borrowed -/
def evRn (cal : Cal) (C : Cfg) : Src → Env → M (List D)
  | .pl e, ρ => mb (evE cal C e ρ) fun x => mo (walkD x)
  | .rng es, ρ => mb (evL cal C es ρ) fun xs => mo (rngD xs)
  | .enum e, ρ => mb (evE cal C e ρ) fun x => mo (enumD x)
  | .zip a b, ρ => mb (evE cal C a ρ) fun x => mb (evE cal C b ρ) fun y => mo (zipD x y)
  | .enumz a b, ρ => mb (evE cal C a ρ) fun x => mb (evE cal C b ρ) fun y => mo ((zipD x y).map (enumI 0))
  | .zipn a b, ρ => mb (evE cal C a ρ) fun x => mb (evE cal C b ρ) fun y => mo (zipT x y)
  | .items e, ρ => mb (evE cal C e ρ) fun x => (match x with | .dic kvs => mp (kvs.map fun p => .tup [p.1, p.2]) | _ => mf)
  | .keys e, ρ => mb (evE cal C e ρ) keysM
def whlL (c : Env → M Bool) (b : Env → M Fl) : Nat → Env → M Fl
  | 0, _ => mf
  | n + 1, ρ => mb (c ρ) fun d => if d then mb (b ρ) fun f => (match f with
      | .nx ρ' => whlL c b n ρ'
      | .ct ρ' => whlL c b n ρ'
      | .rt d fr => mp (.rt d fr)) else mp (.nx ρ)
def forL (t : Tg) (b : Env → M Fl) : List D → Env → M Fl
  | [], ρ => mp (.nx ρ)
  | x :: xs, ρ => mb (mo (t.bind x ρ)) fun ρ1 => mb (b ρ1) fun f => (match f with
      | .nx ρ' => forL t b xs ρ'
      | .ct ρ' => forL t b xs ρ'
      | .rt d fr => mp (.rt d fr))
/-- several names get values: a name's own list, or a plain value -/
def bindPar : List (Nat × Bool) → List D → Env → Option Env
  | [], [], ρ => some ρ
  | (i, o) :: ts, d :: ds, ρ => bindPar ts ds (ρ.set i (if o then .own d else .val d))
  | _, _, _ => none
def setL (xs : List D) (i : Int) (d : D) : Option (List D) := (placeOf xs.length i).map fun n => xs.set n d
mutual
def evS (cal : Cal) (C : Cfg) : IS → Env → M Fl
  | .asg t e, ρ => mb (evE cal C e ρ) fun d => mb (mo (t.bind d ρ)) fun ρ' => mp (.nx ρ')
  | .own i e, ρ => mb (evE cal C e ρ) fun d => mp (.nx (ρ.set i (.own d)))
  | .par ts es, ρ => mb (evL cal C es ρ) fun ds => mb (mo (bindPar ts ds ρ)) fun ρ' => mp (.nx ρ')
  | .cupn i f es, ρ => mb (evA cal C es ρ) fun as => mb (cal f as) fun r => (match r with
      | (.lst [.int a, .int b], true) => if ρ.all (fun s => match s with | .cup => false | _ => true) then fun _ => .ok (.nx (ρ.set i .cup)) (a, b) else mf
      | _ => mf)
  | .setc i b e, ρ => mb (evE cal C e ρ) fun d => (match Env.get ρ i, d with
      | .cup, .int n => fun k => .ok (.nx ρ) (if b then (k.1, n) else (n, k.2))
      | _, _ => mf)
  | .app i e, ρ => mb (evE cal C e ρ) fun d => (match Env.get ρ i with
      | .own (.lst xs) => mb (mlen (xs.length + 1)) fun _ => mp (.nx (ρ.set i (.own (.lst (xs ++ [d])))))
      | _ => mf)
  | .sets i ix e, ρ => mb (evE cal C e ρ) fun d => mb (evE cal C ix ρ) fun j => (match Env.get ρ i, j with
      | .own (.lst xs), .int j => mb (mo (setL xs j d)) fun ys => mp (.nx (ρ.set i (.own (.lst ys))))
      | _, _ => mf)
  | .aug i e, ρ => (match Env.get ρ i with
      | .own (.lst xs) => mb (evE cal C e ρ) fun d => mb (mo (itemsD d)) fun ys => mb (mlen (xs.length + ys.length)) fun _ => (match d with | .lst _ => mp (.nx (ρ.set i (.own (.lst (xs ++ ys))))) | _ => mf)
      | .val (.int a) => mb (evE cal C e ρ) fun d => (match d with | .int b => mp (.nx (ρ.set i (.val (.int (a + b))))) | _ => mf)
      | .val (.str a) => mb (evE cal C e ρ) fun d => (match d with | .str b => mb (mlen (a.length + b.length)) fun _ => mp (.nx (ρ.set i (.val (.str (a ++ b))))) | _ => mf)
      | _ => mf)
  | .popi t i, ρ => (match Env.get ρ i with
      | .own (.lst xs) => (match xs.reverse with
        | x :: r => mp (.nx ((ρ.set i (.own (.lst r.reverse))).set t (.val x)))
        | [] => mf)
      | _ => mf)
  | .exp e, ρ => mb (evE cal C e ρ) fun _ => mp (.nx ρ)
  | .ret e, ρ => mb (evE cal C e ρ) fun d => mp (.rt d false)
  | .retn e, ρ => mb (evE cal C e ρ) fun d => mp (.rt d true)
  | .if_ c a b, ρ => mb (evE cal C c ρ) fun x => mb (mB x) fun d => if d then evSs cal C a ρ else evSs cal C b ρ
  | .for_ t s b, ρ => mb (evRn cal C s ρ) fun xs => forL t (evSs cal C b) xs ρ
  | .whl n c b, ρ => whlL (fun ρ => mb (evE cal C c ρ) mB) (evSs cal C b) n ρ
  | .raise c es, ρ => mb (evL cal C es ρ) fun ds k => .ex c ds k
  | .frz i, ρ => (match Env.get ρ i with
      | .own d => mp (.nx (ρ.set i (.val d)))
      | .val d => mp (.nx ρ)
      | _ => mf)
  | .cont, ρ => mp (.ct ρ)
  | .pass, ρ => mp (.nx ρ)
  | .never, _ => mf
termination_by structural s => s
def evSs (cal : Cal) (C : Cfg) : List IS → Env → M Fl
  | [], ρ => mp (.nx ρ)
  | s :: r, ρ => mb (evS cal C s ρ) fun f => (match f with
      | .nx ρ' => evSs cal C r ρ'
      | .ct ρ' => mp (.ct ρ')
      | .rt d fr => mp (.rt d fr))
termination_by structural s => s
end
structure Fn where
  np : Nat
  ns : Nat
  body : List IS
def argSlot : Arg → Slot
  | .val d => .val d
  | .cup => .cup
def run (fns : List Fn) (C : Cfg) : Nat → Cal
  | 0, _, _ => mf
  | n + 1, f, as => match fns[f]? with
    | none => mf
    | some fn => if as.length = fn.np then mb (evSs (run fns C n) C fn.body (as.map argSlot ++ List.replicate (fn.ns - fn.np) .no)) fun fl => (match fl with
        | .nx _ => mp (.non, false)
        | .rt d fr => mp (d, fr)
        | .ct _ => mf) else mf
end EV
end

section
set_option Elab.async false
set_option linter.all false
set_option maxRecDepth 100000
/-! EvB: what a datum is in the heap. -/
namespace EV
open PySem PySem.Spec PyProof.Rows L2

/-- the written part, where the defs stand -/
structure G where
  K : PySem.W.Frag
  fa : Nat → Addr
  kt : D → Bool

/-- a tuple of the written part -/
def SqK (K : PySem.W.Frag) (a : Addr) (xs : List V) : Prop :=
  ∃ (o : Obj) (its : Array Value) (n : Nat), K.lookup a = some o ∧ o.cls = .type "tuple" ∧ o.data = .seq its n ∧ its.size ≤ sizeLine ∧ Vals xs its.toList
/-- a tuple of plain data: tracked, or a constant of the module -/
def Tp (g : G) (H : Hp) (ds : List D) (a : Addr) (vs : List V) : Prop := H a = some (.tup vs) ∨ (g.kt (.tup ds) = true ∧ SqK g.K a vs)
theorem Tp.sq {g : G} {H : Hp} {ds : List D} {a : Addr} {vs : List V} (h : Tp g H ds a vs) : SqT g.K H a vs := by
  rcases h with h | ⟨_, h⟩
  · exact .inl (.inl h)
  · exact .inr h

def strL (x : List Nat) : Str := ⟨x.toArray⟩
def kOf : D → Option Key
  | .int i => some (.inl i)
  | .str x => some (.inr (strL x))
  | _ => none
def ksOf : List D → Option (List Key)
  | [] => some []
  | d :: ds => (kOf d).bind fun k => (ksOf ds).map (k :: ·)
def kTOf : D → Option (List Key)
  | .tup xs => ksOf xs
  | _ => none

mutual
def Rp (g : G) (N : Addr → Prop) (H : Hp) : D → V → Prop
  | .non, v => v = .non
  | .bl b, v => v = .bl b
  | .int i, v => v = .int i
  | .str x, v => v = .str (strL x) ∧ okS x = true
  | .fn i, v => v = .ref (g.fa i)
  | .tup ds, v => ∃ a vs, v = .ref a ∧ Tp g H ds a vs ∧ Rps g N H ds vs
  | .lst ds, v => ∃ a vs, v = .ref a ∧ N a ∧ Rd H a (.lst vs) ∧ Rps g N H ds vs
  | .dic kvs, v => ∃ a, v = .ref a ∧ N a ∧ ((∃ kv, Rd H a (.dK kv) ∧ kvs.map (fun p => kOf p.1) = kv.map (fun p => some p.1) ∧ RpP g N H kvs (kv.map (·.2))) ∨
      (∃ kv, Rd H a (.dT kv) ∧ kvs.map (fun p => kTOf p.1) = kv.map (fun p => some p.1) ∧ RpP g N H kvs (kv.map (·.2))))
def Rps (g : G) (N : Addr → Prop) (H : Hp) : List D → List V → Prop
  | [], vs => vs = []
  | d :: ds, vs => ∃ v r, vs = v :: r ∧ Rp g N H d v ∧ Rps g N H ds r
def RpP (g : G) (N : Addr → Prop) (H : Hp) : List (D × D) → List V → Prop
  | [], vs => vs = []
  | (_, d) :: ds, vs => ∃ v r, vs = v :: r ∧ Rp g N H d v ∧ RpP g N H ds r
end
/-- the same, another word about the outermost object -/
def RpT (g : G) (T N : Addr → Prop) (H : Hp) : D → V → Prop
  | .lst ds, v => ∃ a vs, v = .ref a ∧ T a ∧ Rd H a (.lst vs) ∧ Rps g N H ds vs
  | .dic kvs, v => ∃ a, v = .ref a ∧ T a ∧ ((∃ kv, Rd H a (.dK kv) ∧ kvs.map (fun p => kOf p.1) = kv.map (fun p => some p.1) ∧ RpP g N H kvs (kv.map (·.2))) ∨
      (∃ kv, Rd H a (.dT kv) ∧ kvs.map (fun p => kTOf p.1) = kv.map (fun p => some p.1) ∧ RpP g N H kvs (kv.map (·.2))))
  | d, v => Rp g N H d v

/-- what stood stands: tuples, and what N tells of -/
structure Ex (g : G) (N : Addr → Prop) (H H' : Hp) : Prop where
  tup : ∀ a vs, H a = some (.tup vs) → H' a = some (.tup vs)
  lst : ∀ a vs, N a → Rd H a (.lst vs) → Rd H' a (.lst vs)
  dk : ∀ a kv, N a → Rd H a (.dK kv) → Rd H' a (.dK kv)
  dt : ∀ a kv, N a → Rd H a (.dT kv) → Rd H' a (.dT kv)
theorem Ex.refl {g : G} {N : Addr → Prop} {H : Hp} : Ex g N H H := ⟨fun _ _ h => h, fun _ _ _ h => h, fun _ _ _ h => h, fun _ _ _ h => h⟩
section
variable {g : G} {N N' : Addr → Prop} {H H' : Hp}
mutual
theorem Rp.mono (hN : ∀ a, N a → N' a) (e : Ex g N H H') : ∀ {d : D} {v : V}, Rp g N H d v → Rp g N' H' d v
  | .non, _, h => by simpa only [Rp] using h
  | .bl _, _, h => by simpa only [Rp] using h
  | .int _, _, h => by simpa only [Rp] using h
  | .str _, _, h => by simpa only [Rp] using h
  | .fn _, _, h => by simpa only [Rp] using h
  | .tup ds, v, h => by
    simp only [Rp] at h ⊢
    obtain ⟨a, vs, e1, h1, h2⟩ := h
    exact ⟨a, vs, e1, h1.imp (e.tup a vs) fun h => h, Rps.mono hN e h2⟩
  | .lst ds, v, h => by
    simp only [Rp] at h ⊢
    obtain ⟨a, vs, e1, n, h1, h2⟩ := h
    exact ⟨a, vs, e1, hN a n, e.lst a vs n h1, Rps.mono hN e h2⟩
  | .dic kvs, v, h => by
    simp only [Rp] at h ⊢
    obtain ⟨a, e1, n, h⟩ := h
    refine ⟨a, e1, hN a n, ?_⟩
    rcases h with ⟨kv, h1, h2, h3⟩ | ⟨kv, h1, h2, h3⟩
    · exact .inl ⟨kv, e.dk a kv n h1, h2, RpP.mono hN e h3⟩
    · exact .inr ⟨kv, e.dt a kv n h1, h2, RpP.mono hN e h3⟩
theorem Rps.mono (hN : ∀ a, N a → N' a) (e : Ex g N H H') : ∀ {d : List D} {v : List V}, Rps g N H d v → Rps g N' H' d v
  | [], _, h => by simpa only [Rps] using h
  | d :: ds, v, h => by
    simp only [Rps] at h ⊢
    obtain ⟨x, r, e1, h1, h2⟩ := h
    exact ⟨x, r, e1, Rp.mono hN e h1, Rps.mono hN e h2⟩
theorem RpP.mono (hN : ∀ a, N a → N' a) (e : Ex g N H H') : ∀ {d : List (D × D)} {v : List V}, RpP g N H d v → RpP g N' H' d v
  | [], _, h => by simpa only [RpP] using h
  | (_, d) :: ds, v, h => by
    simp only [RpP] at h ⊢
    obtain ⟨x, r, e1, h1, h2⟩ := h
    exact ⟨x, r, e1, Rp.mono hN e h1, RpP.mono hN e h2⟩
end
theorem Rp.toT {d : D} {v : V} (h : Rp g N H d v) : RpT g N N H d v := by
  cases d <;> (simp only [RpT, Rp] at h ⊢; exact h)
theorem RpT.toRp {d : D} {v : V} (h : RpT g N N H d v) : Rp g N H d v := by
  cases d <;> (simp only [RpT, Rp] at h ⊢; exact h)
theorem RpT.mono {T T' : Addr → Prop} (hT : ∀ a, T a → T' a) (hN : ∀ a, N a → N' a) (e : Ex g (fun a => N a ∨ T a) H H') {d : D} {v : V} (h : RpT g T N H d v) : RpT g T' N' H' d v := by
  have e' : Ex g N H H' := ⟨e.tup, fun a vs n => e.lst a vs (.inl n), fun a vs n => e.dk a vs (.inl n), fun a vs n => e.dt a vs (.inl n)⟩
  cases d with
  | lst ds =>
    simp only [RpT] at h ⊢
    obtain ⟨a, vs, e1, n, h1, h2⟩ := h
    exact ⟨a, vs, e1, hT a n, e.lst a vs (.inr n) h1, Rps.mono hN e' h2⟩
  | dic kvs =>
    simp only [RpT] at h ⊢
    obtain ⟨a, e1, n, h⟩ := h
    refine ⟨a, e1, hT a n, ?_⟩
    rcases h with ⟨kv, h1, h2, h3⟩ | ⟨kv, h1, h2, h3⟩
    · exact .inl ⟨kv, e.dk a kv (.inr n) h1, h2, RpP.mono hN e' h3⟩
    · exact .inr ⟨kv, e.dt a kv (.inr n) h1, h2, RpP.mono hN e' h3⟩
  | _ => simp only [RpT] at h ⊢; exact Rp.mono hN e' h
theorem Rps.length : ∀ {ds : List D} {vs : List V}, Rps g N H ds vs → ds.length = vs.length
  | [], vs, h => by simp only [Rps] at h; subst h; rfl
  | d :: ds, vs, h => by
    simp only [Rps] at h
    obtain ⟨v, r, rfl, _, h2⟩ := h
    simp only [List.length_cons, Rps.length h2]
theorem Rps.get : ∀ {ds : List D} {vs : List V} {i : Nat} {d : D}, Rps g N H ds vs → ds[i]? = some d → ∃ v, vs[i]? = some v ∧ Rp g N H d v
  | [], vs, i, d, h, e => by simp at e
  | x :: ds, vs, 0, d, h, e => by
    simp only [Rps] at h
    obtain ⟨v, r, rfl, h1, _⟩ := h
    simp at e; subst e
    exact ⟨v, rfl, h1⟩
  | x :: ds, vs, i + 1, d, h, e => by
    simp only [Rps] at h
    obtain ⟨v, r, rfl, _, h2⟩ := h
    obtain ⟨w, h3, h4⟩ := Rps.get (i := i) h2 (by simpa using e)
    exact ⟨w, by simpa using h3, h4⟩
theorem Rps.append : ∀ {ds es : List D} {vs us : List V}, Rps g N H ds vs → Rps g N H es us → Rps g N H (ds ++ es) (vs ++ us)
  | [], es, vs, us, h, h' => by simp only [Rps] at h; subst h; exact h'
  | d :: ds, es, vs, us, h, h' => by
    simp only [Rps] at h
    obtain ⟨v, r, rfl, h1, h2⟩ := h
    simp only [List.cons_append, Rps]
    exact ⟨v, _, rfl, h1, Rps.append h2 h'⟩
theorem Rps.nil : Rps g N H [] [] := by simp only [Rps]
theorem Rps.cons {d : D} {v : V} {ds : List D} {vs : List V} (h : Rp g N H d v) (h' : Rps g N H ds vs) : Rps g N H (d :: ds) (v :: vs) := by
  simp only [Rps]; exact ⟨v, vs, rfl, h, h'⟩
theorem Rps.uncons {d : D} {v : V} {ds : List D} {vs : List V} (h : Rps g N H (d :: ds) (v :: vs)) : Rp g N H d v ∧ Rps g N H ds vs := by
  simp only [Rps] at h
  obtain ⟨_, _, e, h1, h2⟩ := h
  cases e
  exact ⟨h1, h2⟩
theorem Rps.take : ∀ {ds : List D} {vs : List V} (n : Nat), Rps g N H ds vs → Rps g N H (ds.take n) (vs.take n)
  | [], vs, n, h => by simp only [Rps] at h; subst h; simp [Rps]
  | d :: ds, vs, 0, h => by simp [Rps]
  | d :: ds, vs, n + 1, h => by
    simp only [Rps] at h
    obtain ⟨v, r, rfl, h1, h2⟩ := h
    simp only [List.take_succ_cons]
    exact Rps.cons h1 (Rps.take n h2)
theorem Rps.drop : ∀ {ds : List D} {vs : List V} (n : Nat), Rps g N H ds vs → Rps g N H (ds.drop n) (vs.drop n)
  | [], vs, n, h => by simp only [Rps] at h; subst h; simp [Rps]
  | d :: ds, vs, 0, h => by simpa using h
  | d :: ds, vs, n + 1, h => by
    simp only [Rps] at h
    obtain ⟨v, r, rfl, h1, h2⟩ := h
    simpa only [List.drop_succ_cons] using Rps.drop n h2
theorem Rps.reverse : ∀ {ds : List D} {vs : List V}, Rps g N H ds vs → Rps g N H ds.reverse vs.reverse
  | [], vs, h => by simp only [Rps] at h; subst h; simp [Rps]
  | d :: ds, vs, h => by
    simp only [Rps] at h
    obtain ⟨v, r, rfl, h1, h2⟩ := h
    simp only [List.reverse_cons]
    exact (Rps.reverse h2).append (Rps.cons h1 Rps.nil)
theorem Rps.set : ∀ {ds : List D} {vs : List V} {d : D} {v : V} (n : Nat), Rps g N H ds vs → Rp g N H d v → Rps g N H (ds.set n d) (vs.set n v)
  | [], vs, d, v, n, h, _ => by simp only [Rps] at h; subst h; simp [Rps]
  | x :: ds, vs, d, v, 0, h, h' => by
    simp only [Rps] at h
    obtain ⟨w, r, rfl, h1, h2⟩ := h
    exact Rps.cons h' h2
  | x :: ds, vs, d, v, n + 1, h, h' => by
    simp only [Rps] at h
    obtain ⟨w, r, rfl, h1, h2⟩ := h
    exact Rps.cons h1 (Rps.set n h2 h')
theorem Rps.flatRep {ds : List D} {vs : List V} (h : Rps g N H ds vs) : ∀ n, Rps g N H (List.replicate n ds).flatten (List.replicate n vs).flatten
  | 0 => by simp [Rps]
  | n + 1 => by
    simp only [List.replicate_succ, List.flatten_cons]
    exact h.append (Rps.flatRep h n)
/-- of ints -/
theorem Rps.ints : ∀ {ds : List D} {vs : List V} {is : List Int}, Rps g N H ds vs → allInts ds = some is → vs = is.map V.int
  | [], vs, is, h, e => by simp only [Rps] at h; simp only [allInts] at e; cases e; exact h
  | d :: ds, vs, is, h, e => by
    simp only [Rps] at h
    obtain ⟨v, r, rfl, h1, h2⟩ := h
    cases d <;> simp only [allInts] at e <;> try (cases e)
    obtain ⟨js, e1, e2⟩ := Option.map_eq_some_iff.mp e
    subst e2
    simp only [Rp] at h1
    rw [h1, Rps.ints h2 e1, List.map_cons]
theorem Rps.bools : ∀ {ds : List D} {vs : List V} {is : List Bool}, Rps g N H ds vs → allBools ds = some is → vs = is.map V.bl
  | [], vs, is, h, e => by simp only [Rps] at h; simp only [allBools] at e; cases e; exact h
  | d :: ds, vs, is, h, e => by
    simp only [Rps] at h
    obtain ⟨v, r, rfl, h1, h2⟩ := h
    cases d <;> simp only [allBools] at e <;> try (cases e)
    obtain ⟨js, e1, e2⟩ := Option.map_eq_some_iff.mp e
    subst e2
    simp only [Rp] at h1
    rw [h1, Rps.bools h2 e1, List.map_cons]
theorem Rps.strs : ∀ {ds : List D} {vs : List V} {is : List (List Nat)}, Rps g N H ds vs → allStrs ds = some is → vs = (is.map strL).map V.str ∧ ∀ x ∈ is, okS x = true
  | [], vs, is, h, e => by simp only [Rps] at h; simp only [allStrs] at e; cases e; exact ⟨h, by simp⟩
  | d :: ds, vs, is, h, e => by
    simp only [Rps] at h
    obtain ⟨v, r, rfl, h1, h2⟩ := h
    cases d <;> simp only [allStrs] at e <;> try (cases e)
    obtain ⟨js, e1, e2⟩ := Option.map_eq_some_iff.mp e
    subst e2
    simp only [Rp] at h1
    obtain ⟨h3, h4⟩ := Rps.strs h2 e1
    refine ⟨by rw [h1.1, h3]; simp, ?_⟩
    intro x hx
    rcases List.mem_cons.mp hx with e | e
    · rw [e]; exact h1.2
    · exact h4 x e
end

/-! ### as the layer's data -/
mutual
def toPy : D → PyData
  | .non => .none
  | .bl b => .bool b
  | .int i => .int i
  | .str x => .str (strL x)
  | .fn _ => .none
  | .tup xs => .tuple (toPyL xs)
  | .lst xs => .list (toPyL xs)
  | .dic _ => .none
def toPyL : List D → List PyData
  | [] => []
  | x :: xs => toPy x :: toPyL xs
end
section
variable {g : G} {N : Addr → Prop} {H : Hp}
mutual
theorem Rp.dp : ∀ {d : D} {v : V}, Rp g N H d v → plainD d = true → Dp g.K H v (toPy d)
  | .non, v, h, _ => by simp only [Rp] at h; subst h; simp only [toPy]; exact .non
  | .bl b, v, h, _ => by simp only [Rp] at h; subst h; simp only [toPy]; exact .bl b
  | .int i, v, h, _ => by simp only [Rp] at h; subst h; simp only [toPy]; exact .int i
  | .str x, v, h, _ => by simp only [Rp] at h; rw [h.1]; simp only [toPy]; exact .str _
  | .fn i, v, h, p => by simp [plainD] at p
  | .tup ds, v, h, p => by
    simp only [Rp] at h
    obtain ⟨a, vs, rfl, h1, h2⟩ := h
    simp only [toPy]
    exact .tup h1.sq (Rps.dp h2 (by simpa only [plainD] using p))
  | .lst ds, v, h, p => by
    simp only [Rp] at h
    obtain ⟨a, vs, rfl, _, h1, h2⟩ := h
    simp only [toPy]
    exact .lst (.inl h1) (Rps.dp h2 (by simpa only [plainD] using p))
  | .dic _, v, h, p => by simp [plainD] at p
theorem Rps.dp : ∀ {d : List D} {v : List V}, Rps g N H d v → plainL d = true → DpAll g.K H v (toPyL d)
  | [], v, h, _ => by simp only [Rps] at h; subst h; simp only [toPyL]; exact .nil
  | d :: ds, v, h, p => by
    simp only [Rps] at h
    obtain ⟨x, r, rfl, h1, h2⟩ := h
    simp only [plainL, Bool.and_eq_true] at p
    simp only [toPyL]
    exact .cons (Rp.dp h1 p.1) (Rps.dp h2 p.2)
end
theorem RpT.dp {T : Addr → Prop} {d : D} {v : V} (h : RpT g T N H d v) (p : plainD d = true) : Dp g.K H v (toPy d) := by
  cases d with
  | lst ds =>
    simp only [RpT] at h
    obtain ⟨a, vs, rfl, _, h1, h2⟩ := h
    simp only [toPy]
    exact .lst (.inl h1) (Rps.dp h2 (by simpa only [plainD] using p))
  | dic _ => simp [plainD] at p
  | _ => simp only [RpT] at h; exact Rp.dp h p
mutual
theorem Rp.lay : ∀ {d : D} {v : V}, Rp g N H d v → plainD d = true → (toPy d).canLay0 = true
  | .non, v, h, _ => by simp only [toPy, PyData.canLay0]
  | .bl b, v, h, _ => by simp only [toPy, PyData.canLay0]
  | .int i, v, h, _ => by simp only [toPy, PyData.canLay0]
  | .str x, v, h, _ => by
    simp only [Rp] at h
    have h2 := h.2
    simp only [okS, Bool.and_eq_true] at h2
    simp only [toPy, PyData.canLay0, PyData.strOk, strL]
    simpa using h2.1
  | .fn i, v, h, p => by simp [plainD] at p
  | .tup ds, v, h, p => by
    simp only [Rp] at h
    obtain ⟨a, vs, rfl, h1, h2⟩ := h
    simp only [toPy, PyData.canLay0]
    exact Rps.lay h2 (by simpa only [plainD] using p)
  | .lst ds, v, h, p => by
    simp only [Rp] at h
    obtain ⟨a, vs, rfl, _, h1, h2⟩ := h
    simp only [toPy, PyData.canLay0]
    exact Rps.lay h2 (by simpa only [plainD] using p)
  | .dic _, v, h, p => by simp [plainD] at p
theorem Rps.lay : ∀ {d : List D} {v : List V}, Rps g N H d v → plainL d = true → PyData.canLayAll0 (toPyL d) = true
  | [], v, h, _ => by simp only [toPyL, PyData.canLayAll0]
  | d :: ds, v, h, p => by
    simp only [Rps] at h
    obtain ⟨x, r, rfl, h1, h2⟩ := h
    simp only [plainL, Bool.and_eq_true] at p
    simp only [toPyL, PyData.canLayAll0, Bool.and_eq_true]
    exact ⟨Rp.lay h1 p.1, Rps.lay h2 p.2⟩
end
theorem RpT.lay {T : Addr → Prop} {d : D} {v : V} (h : RpT g T N H d v) (p : plainD d = true) : (toPy d).canLay0 = true := by
  cases d with
  | lst ds =>
    simp only [RpT] at h
    obtain ⟨a, vs, rfl, _, h1, h2⟩ := h
    simp only [toPy, PyData.canLay0]
    exact Rps.lay h2 (by simpa only [plainD] using p)
  | dic _ => simp [plainD] at p
  | _ => simp only [RpT] at h; exact Rp.lay h p
mutual
theorem dep_py : ∀ d : D, (toPy d).depth ≤ depD d
  | .non => by simp [toPy, PyData.depth]
  | .bl b => by simp [toPy, PyData.depth]
  | .int i => by simp [toPy, PyData.depth]
  | .str x => by simp [toPy, PyData.depth]
  | .fn i => by simp [toPy, PyData.depth]
  | .dic _ => by simp [toPy, PyData.depth]
  | .tup ds => by
    have := depL_py ds
    simp only [toPy, PyData.depth, depD]
    omega
  | .lst ds => by
    have := depL_py ds
    simp only [toPy, PyData.depth, depD]
    omega
theorem depL_py : ∀ d : List D, PyData.depthAll (toPyL d) ≤ depL d
  | [] => by simp [toPyL, PyData.depthAll]
  | d :: ds => by
    have := dep_py d
    have := depL_py ds
    simp only [toPyL, PyData.depthAll, depL]
    omega
end
mutual
theorem eqv_py : ∀ {x y : D}, plainD x = true → plainD y = true → PyData.eqv (toPy x) (toPy y) = eqD x y
  | x, y, hx, hy => by
    cases x <;> cases y <;> simp only [plainD, Bool.false_eq_true] at hx hy <;> simp only [toPy, PyData.eqv, eqD] <;> first
      | rfl
      | (rename_i a b; cases a <;> rfl)
      | (rename_i a b; cases b <;> rfl)
      | exact eqv_pyL hx hy
      | (rename_i a b
         by_cases e : a = b
         · subst e; simp
         · have : strL a ≠ strL b := fun q => e (by injection q with q; simpa using q)
           rw [beq_eq_false_iff_ne.mpr this, beq_eq_false_iff_ne.mpr e])
theorem eqv_pyL : ∀ {x y : List D}, plainL x = true → plainL y = true → PyData.eqvAll (toPyL x) (toPyL y) = eqL x y
  | [], [], _, _ => by simp only [toPyL, PyData.eqvAll, eqL]
  | [], _ :: _, _, _ => by simp only [toPyL, PyData.eqvAll, eqL]
  | _ :: _, [], _, _ => by simp only [toPyL, PyData.eqvAll, eqL]
  | x :: xs, y :: ys, hx, hy => by
    simp only [plainL, Bool.and_eq_true] at hx hy
    simp only [toPyL, PyData.eqvAll, eqL]
    rw [eqv_py hx.1 hy.1, eqv_pyL hx.2 hy.2]
end
end
end EV
end

section
set_option Elab.async false
set_option linter.all false
set_option maxRecDepth 100000
/-! EvC: the operators, by data. -/
namespace EV
open PySem PySem.Spec PyProof.Rows L2

theorem sameEx {g : G} {N : Addr → Prop} {H H' : Hp} (h : Same H H') : Ex g N H H' := by
  have rd : ∀ a u, Rd H a u → Rd H' a u := fun a u r => by
    rcases r with r | ⟨o, r⟩
    · exact .inl (h _ _ r)
    · exact .inr ⟨o, h _ _ r⟩
  exact ⟨fun a vs q => h _ _ q, fun a vs _ q => rd a _ q, fun a vs _ q => rd a _ q, fun a vs _ q => rd a _ q⟩
theorem sameNew {H : Hp} {p : Addr} {o : HO} (h : H p = none) : Same H (upd H p o) := fun b u q => by
  rw [upd_ne (ne_of_none q h)]; exact q
/-- what may be meant behind an operation: what was, and new objects -/
abbrev NN (N : Addr → Prop) (H : Hp) : Addr → Prop := fun a => N a ∨ H a = none
/-- an operation of two values, by data; the outcome a new object or plain -/
def r2F (g : G) (f : D → D → Option D) : R2 := fun v u H Q => ∃ (T N : Addr → Prop) (x y d : D), RpT g T N H x v ∧ RpT g T N H y u ∧ f x y = some d ∧
  ∀ w H', Same H H' → RpT g (fun a => H a = none) (NN N H) H' d w → Q w H'
/-- the outcome an item, perhaps -/
def r2N (g : G) (f : D → D → Option D) : R2 := fun v u H Q => ∃ (T N : Addr → Prop) (x y d : D), RpT g T N H x v ∧ RpT g T N H y u ∧ f x y = some d ∧
  ∀ w H', Same H H' → Rp g (NN N H) H' d w → Q w H'
/-- the outcome a truth value -/
def r2B (g : G) (f : D → D → Option Bool) : R2 := fun v u H Q => ∃ (T N : Addr → Prop) (x y : D) (b : Bool), RpT g T N H x v ∧ RpT g T N H y u ∧ f x y = some b ∧ Q (.bl b) H

section
variable {X : Cx} {g : G} {pins : List (Addr × Obj)} {σ : L2.St} {H : Hp} {s : Shared}
theorem rd_lstM {l : Addr} {xs : List V} (I : Inv X pins σ H s) (hH : Rd H l (.lst xs)) : xs.length ≤ sizeLine ∧ ∃ (its : List Value) (n : Nat), Vals xs its ∧ xs.length = its.length ∧ s.heap.get? l = some { cls := .type "list", data := .seq its.toArray n } := by
  obtain ⟨z, its, n, r, e⟩ := hH.ok I.hok
  exact ⟨z, its, n, r, r.length, e⟩
def rCatL : R2 := fun x y H Q => ∃ l b xs zs, x = .ref l ∧ y = .ref b ∧ Rd H l (.lst xs) ∧ Rd H b (.lst zs) ∧ xs.length + zs.length ≤ sizeLine ∧ ∀ p, H p = none → Q (.ref p) (upd H p (.lst (xs ++ zs)))
theorem op_catL : OpR X (binaryOp .Add) rCatL := by
  intro pins s σ H x y v u Q I rx ry h
  obtain ⟨l, b, xs, zs, rfl, rfl, hH, hB, hz, q⟩ := h
  cases rx
  cases ry
  obtain ⟨z, its, n, r, hl, e⟩ := rd_lstM I hH
  obtain ⟨z2, its2, n2, r2, hl2, e2⟩ := rd_lstM I hB
  refine PySem.P.add_list e e2 ?_ (by rw [List.size_toArray, List.size_toArray]; omega)
  have ea : its.toArray ++ its2.toArray = (its ++ its2).toArray := by simp
  rw [ea]
  exact ⟨.ref _, _, I.lnew (t' := s.toks) (r.append r2) (by rw [List.length_append]; omega), rfl, q _ I.fresh⟩
def rRepL : R2 := fun x y H Q => ∃ l k xs, x = .ref l ∧ y = .int k ∧ Rd H l (.lst xs) ∧ -(2 ^ 63) ≤ k ∧ k < 2 ^ 63 ∧ xs.length * k.toNat ≤ sizeLine ∧
  ∀ p, H p = none → Q (.ref p) (upd H p (.lst (List.replicate k.toNat xs).flatten))
theorem op_repL : OpR X (binaryOp .Mult) rRepL := by
  intro pins s σ H x y v u Q I rx ry h
  obtain ⟨l, k, xs, rfl, rfl, hH, h1, h2, hz, q⟩ := h
  cases rx
  obtain ⟨t, rfl⟩ := ry
  obtain ⟨z, its, n, r, hl, e⟩ := rd_lstM I hH
  have hlen : its.toArray.size * k.toNat ≤ sizeLine := by rw [List.size_toArray, ← hl]; exact hz
  have hcap : ¬ its.toArray.size * k.toNat > (2 ^ 63 - 1) / 8 := by
    have : (sizeLine : Nat) ≤ (2 ^ 63 - 1) / 8 := by decide
    omega
  have hfit : ¬ (!Builtin.List.listFitsIndex k) = true := by
    rw [fitsIndex_both h1 h2]
    exact Bool.false_ne_true
  have hlong : ¬ Builtin.List.listTooLong (its.toArray.size * k.toNat) = true := by
    rw [notLongL hlen]
    exact Bool.false_ne_true
  have hnew : List.foldl (fun x1 x2 => x1 ++ x2) #[] (List.replicate (if its.toArray.isEmpty = true then 0 else k.toNat) its.toArray) = (List.replicate k.toNat its).flatten.toArray := by
    have f0 : ∀ m : Nat, List.foldl (fun x1 x2 => x1 ++ x2) #[] (List.replicate m its.toArray) = (List.replicate m its).flatten.toArray := fun m => by
      have := foldl_rep its m []
      rw [List.nil_append] at this
      exact this
    rw [f0]
    cases its with
    | nil => simp
    | cons a r' => rw [if_neg (by simp)]
  refine wpAny_binaryOp_repeat_ref (T := "list") (U := "int") (by decide) ⟨_, e, rfl⟩ (fun s' => typeIs_int s' k t) noFill_list_mul F.fills_int_mul F.slot_int_rmul repeat_list F.slot_int_index.lookup (call_meets F.slot_int_rmul (typeIs_int s k t) F.entry_int_rmul (F.args_int_rmul_2 _ _) (int___rmul___int_list k t l its.toArray n)
      ⟨e, rfl, ⟨_, e, rfl⟩, call_meets F.slot_list_mul ⟨_, e, rfl⟩ F.entry_list_mul (F.args_list_mul_2 _ _) (AutoListH.list___mul___list_int_3 l its.toArray n k t hfit hcap hlong) ⟨e, ?_⟩⟩)
  rw [hnew]
  exact ⟨.ref _, _, I.lnew (t' := s.toks) (r.rep k.toNat) (by rw [PyProof.Rows.lm_len_rep_flat, Nat.mul_comm]; exact hz), rfl, q _ I.fresh⟩

theorem tuple_mul1 (l : Addr) (items : Array Value) (n : Nat) (dd : Option Addr) (sl : Array (Option Value)) (x : Int) (u : Tok) (c0 : (decide (x < -(2 ^ 63)) || decide (x ≥ 2 ^ 63)) = false) (c1 : (items.isEmpty || x == 1) = true) :
    Meets (Builtin.«tuple.__mul__» ⟨[.ref l, .int x u], []⟩) (fun _ R s => s.heap.get? l = some { cls := .type "tuple", dict := dd, data := .seq items n, slots := sl } ∧
      R (.ok (.ret (Value.ref l))) s) :=
  .of_wp fun prog w A R s h => by
    obtain ⟨hp, g, d, tk, os⟩ := s
    obtain ⟨hl, h⟩ := h
    have f1 := AutoSeq1.idx_int
    wp_walk using wpAny_loadPart' hl
    repeat (first
      | (refine wpAny_ite_false (decide_eq_false (by rw [c0]; exact Bool.false_ne_true)) ?_; wp_walk using wpAny_loadPart' hl)
      | (refine wpAny_ite_true (decide_eq_true (by rw [c1])) ?_; wp_walk using wpAny_loadPart' hl))
    exact ⟨_, rfl, h⟩
theorem tuple_mul0 (l : Addr) (items : Array Value) (n : Nat) (dd : Option Addr) (sl : Array (Option Value)) (x : Int) (u : Tok) (c0 : (decide (x < -(2 ^ 63)) || decide (x ≥ 2 ^ 63)) = false) (c1 : (items.isEmpty || x == 1) = false) (c2 : (decide (x ≤ 0) || items.isEmpty) = true) :
    Meets (Builtin.«tuple.__mul__» ⟨[.ref l, .int x u], []⟩) (fun _ R s => s.heap.get? l = some { cls := .type "tuple", dict := dd, data := .seq items n, slots := sl } ∧
      R (.ok (.ret (Value.ref s.heap.objs.size))) { s with heap := s.heap.push { cls := Value.type "tuple", data := Data.seq #[] }, toks := s.toks }) :=
  .of_wp fun prog w A R s h => by
    obtain ⟨hp, g, d, tk, os⟩ := s
    obtain ⟨hl, h⟩ := h
    have f1 := AutoSeq1.idx_int
    have hsz : (#[] : Array Value).size ≤ sizeLine := by decide
    wp_walk using wpAny_loadPart' hl
    repeat (first
      | (refine wpAny_ite_false (decide_eq_false (by rw [c0]; exact Bool.false_ne_true)) ?_; wp_walk using wpAny_loadPart' hl)
      | (refine wpAny_ite_false (decide_eq_false (by rw [c1]; exact Bool.false_ne_true)) ?_; wp_walk using wpAny_loadPart' hl)
      | (refine wpAny_ite_true (decide_eq_true (by rw [c2])) ?_; wp_walk using wpAny_loadPart' hl)
      | (refine wpAny_ite_false (decide_eq_false (Nat.not_lt.mpr hsz)) ?_; wp_walk using wpAny_loadPart' hl))
    exact ⟨_, rfl, h⟩
/-- tuple * int -/
def rRepU (K : PySem.W.Frag) : R2 := fun x y H Q => ∃ l k xs, x = .ref l ∧ y = .int k ∧ SqT K H l xs ∧ -(2 ^ 62) ≤ k ∧ k ≤ 16777216 ∧ xs.length * k.toNat ≤ sizeLine ∧
  (xs = [] ∨ k = 1 → Q (.ref l) H) ∧ (¬ (xs = [] ∨ k = 1) → ∀ p, H p = none → Q (.ref p) (upd H p (.tup (List.replicate k.toNat xs).flatten)))
theorem op_repU : OpR X (binaryOp .Mult) (rRepU X.K) := by
  intro pins s σ H x y v u Q I rx ry h
  obtain ⟨l, k, xs, rfl, rfl, hT, h1, h2, hz, q1, q2⟩ := h
  cases rx
  obtain ⟨t, rfl⟩ := ry
  obtain ⟨its, r, ⟨⟨cls, dd, data, sl⟩, ho, hc, n, hd⟩, hs⟩ := I.tuple hT
  simp only at hc hd
  subst hc hd
  have hle : its.length = xs.length := r.length.symm
  have c0 : (decide (k < -(2 ^ 63)) || decide (k ≥ 2 ^ 63)) = false := by
    rw [decide_eq_false (by omega), decide_eq_false (by omega)] <;> rfl
  by_cases hq : xs = [] ∨ k = 1
  · have c1 : (its.toArray.isEmpty || k == 1) = true := by
      rcases hq with e | e
      · subst e
        have : its = [] := List.eq_nil_of_length_eq_zero (by simpa using hle)
        subst this; simp
      · subst e; simp
    exact wpAny_binaryOp_repeat_ref (T := "tuple") (U := "int") (by decide) ⟨_, ho, rfl⟩ (fun s' => typeIs_int s' k t) noFill_tuple_mul F.fills_int_mul F.slot_int_rmul repeat_tuple F.slot_int_index.lookup (call_meets F.slot_int_rmul (typeIs_int s k t) F.entry_int_rmul (F.args_int_rmul_2 _ _) (int_rmul_tuple k t l its.toArray n dd sl) ⟨ho, rfl, ⟨_, ho, rfl⟩, call_meets F.slot_tuple_mul ⟨_, ho, rfl⟩ F.entry_tuple_mul (F.args_tuple_mul_2 _ _) (tuple_mul1 l its.toArray n dd sl k t c0 c1) ⟨ho, ⟨.ref l, H, I, rfl, q1 hq⟩⟩⟩)
  · have hne : its ≠ [] := fun e => hq (.inl (by subst e; exact List.eq_nil_of_length_eq_zero (by simpa using hle.symm)))
    have hi : its.toArray.isEmpty = false := by
      cases its with
      | nil => exact absurd rfl hne
      | cons a b => rfl
    have c1 : (its.toArray.isEmpty || k == 1) = false := by
      rw [hi, Bool.false_or]
      exact beq_eq_false_iff_ne.mpr fun e => hq (.inr e)
    by_cases h0 : k ≤ 0
    · have c2 : (decide (k ≤ 0) || its.toArray.isEmpty) = true := by rw [decide_eq_true h0]; rfl
      refine wpAny_binaryOp_repeat_ref (T := "tuple") (U := "int") (by decide) ⟨_, ho, rfl⟩ (fun s' => typeIs_int s' k t) noFill_tuple_mul F.fills_int_mul F.slot_int_rmul repeat_tuple F.slot_int_index.lookup (call_meets F.slot_int_rmul (typeIs_int s k t) F.entry_int_rmul (F.args_int_rmul_2 _ _) (int_rmul_tuple k t l its.toArray n dd sl) ⟨ho, rfl, ⟨_, ho, rfl⟩, call_meets F.slot_tuple_mul ⟨_, ho, rfl⟩ F.entry_tuple_mul (F.args_tuple_mul_2 _ _) (tuple_mul0 l its.toArray n dd sl k t c0 c1 c2) ⟨ho, ?_⟩⟩)
      have e0 : k.toNat = 0 := by omega
      have q3 := q2 hq s.heap.objs.size (I.hok.fresh (Nat.le_refl _))
      rw [e0] at q3
      refine ⟨.ref s.heap.objs.size, _, I.laid (t' := s.toks) (o := .tup []) (fun b ob q => Heap.get?_push_of_some _ q) (Nat.le_refl _) ?_, rfl, q3⟩
      exact ⟨Nat.zero_le _, [], .nil, IsTup.new _ _⟩
    · have hsz0 : its.toArray.size = xs.length := by rw [List.size_toArray, hle]
      have hzi : ((xs.length : Nat) : Int) * k ≤ 16777216 := by
        have e : k = (k.toNat : Int) := by omega
        have e2 : ((xs.length * k.toNat : Nat) : Int) = (xs.length : Int) * (k.toNat : Int) := Int.natCast_mul ..
        rw [sizeLine_eq] at hz
        rw [e, ← e2]
        omega
      have flen : (List.replicate k.toNat its).flatten.length ≤ sizeLine := by
        rw [PyProof.Rows.lm_len_rep_flat, hle, Nat.mul_comm]
        exact hz
      have c2 : (decide (k ≤ 0) || its.toArray.isEmpty) = false := by
        rw [hi, Bool.or_false]
        exact decide_eq_false h0
      have c4 : Builtin.Tuple.tupleTooMany (((its.toArray.size : Nat) : Int) * k) = false := by
        unfold Builtin.Tuple.tupleTooMany
        rw [sizeLine_eq, hsz0]
        exact decide_eq_false (by omega)
      refine wpAny_binaryOp_repeat_ref (T := "tuple") (U := "int") (by decide) ⟨_, ho, rfl⟩ (fun s' => typeIs_int s' k t) noFill_tuple_mul F.fills_int_mul F.slot_int_rmul repeat_tuple F.slot_int_index.lookup (call_meets F.slot_int_rmul (typeIs_int s k t) F.entry_int_rmul (F.args_int_rmul_2 _ _) (int_rmul_tuple k t l its.toArray n dd sl) ⟨ho, rfl, ⟨_, ho, rfl⟩, call_meets F.slot_tuple_mul ⟨_, ho, rfl⟩ F.entry_tuple_mul (F.args_tuple_mul_2 _ _) (tuple_mulW l its.toArray n dd sl k t c0 c1 c2 (by rw [hsz0]; omega) c4 (by rw [size_rep, List.size_toArray]; exact flen)) ⟨ho, ?_⟩⟩)
      rw [size_rep]
      refine ⟨.ref s.heap.objs.size, _, I.laid (t' := s.toks) (o := .tup (List.replicate k.toNat xs).flatten) (fun b ob q => Heap.get?_push_of_some _ q) (Nat.le_refl _) ?_, rfl, q2 hq _ (I.hok.fresh (Nat.le_refl _))⟩
      exact ⟨by rw [PyProof.Rows.lm_len_rep_flat, Nat.mul_comm]; exact hz, _, r.rep k.toNat, IsTup.new _ _⟩

def opOf : BOp → Operator
  | .add => .Add | .sub => .Sub | .mul => .Mult | .fdiv => .FloorDiv | .mod => .Mod | .pow => .Pow
theorem okS_app {x y : List Nat} (hx : okS x = true) (hy : okS y = true) (h : x.length + y.length ≤ LIM) : okS (x ++ y) = true := by
  simp only [okS, Bool.and_eq_true, decide_eq_true_eq] at hx hy ⊢
  refine ⟨?_, by rw [List.length_append]; exact h⟩
  rw [List.all_append, hx.1, hy.1]; rfl
theorem okS_len {x : List Nat} (hx : okS x = true) : x.length ≤ LIM := by
  simp only [okS, Bool.and_eq_true, decide_eq_true_eq] at hx
  exact hx.2
theorem okS_rep {x : List Nat} (hx : okS x = true) (n : Nat) (h : x.length * n ≤ LIM) : okS (List.replicate n x).flatten = true := by
  simp only [okS, Bool.and_eq_true, decide_eq_true_eq] at hx ⊢
  refine ⟨?_, by rw [PyProof.Rows.lm_len_rep_flat, Nat.mul_comm]; exact h⟩
  rw [List.all_eq_true]
  intro c hc
  obtain ⟨l, hl, hc⟩ := List.mem_flatten.mp hc
  rw [(List.mem_replicate.mp hl).2] at hc
  exact List.all_eq_true.mp hx.1 c hc
theorem strL_app (x y : List Nat) : strL x ++ strL y = strL (x ++ y) := by
  show Str.append _ _ = _
  simp [Str.append, strL]
theorem strL_len (x : List Nat) : (strL x).length = x.length := by simp [strL, Str.length]
theorem LIM_eq : sizeLine = LIM := sizeLine_eq
theorem foldl_cpsA (x : List Nat) : ∀ (n : Nat) (acc : List Nat), (List.replicate n x.toArray).foldl (· ++ ·) acc.toArray = (acc ++ (List.replicate n x).flatten).toArray
  | 0, acc => by simp
  | n + 1, acc => by
    rw [List.replicate_succ, List.foldl_cons, List.replicate_succ, List.flatten_cons, ← List.append_assoc, ← foldl_cpsA x n (acc ++ x)]
    simp
theorem foldl_cps (x : List Nat) (n : Nat) : (List.replicate n x.toArray).foldl (· ++ ·) #[] = (List.replicate n x).flatten.toArray := by
  have := foldl_cpsA x n []
  rw [List.nil_append] at this
  exact this
theorem Rp_str {g : G} {N : Addr → Prop} {H : Hp} {x : List Nat} (h : okS x = true) : Rp g N H (.str x) (.str (strL x)) := by simp only [Rp]; exact ⟨trivial, h⟩
theorem Rp_toT {g : G} {T N : Addr → Prop} {H : Hp} {d : D} {v : V} (h : Rp g N H d v) (hd : match d with | .lst _ => False | .dic _ => False | _ => True) : RpT g T N H d v := by
  cases d <;> first | exact hd.elim | (simp only [RpT]; exact h)
theorem int_up {p : Nat} : -(2 ^ 63 : Int) ≤ p := by omega

theorem op_bin (hK : X.K = g.K) (o : BOp) : OpR X (binaryOp (opOf o)) (r2F g (binD o)) := by
  intro pins s σ H x y v u Q I rx ry h
  obtain ⟨T, N, dx, dy, d, hx, hy, e, q⟩ := h
  unfold binD at e
  split at e <;> first
    | cases e
    | skip
  · -- int + int
    simp only [RpT, Rp] at hx hy
    subst hx hy
    exact op_add pins s σ H _ _ v u Q I rx ry ⟨_, _, rfl, rfl, q _ H (Same.refl H) (by simp only [RpT, Rp])⟩
  · -- str + str
    rename_i x y
    simp only [RpT, Rp] at hx hy
    obtain ⟨rfl, hx⟩ := hx
    obtain ⟨rfl, hy⟩ := hy
    split at e
    · rename_i hl
      cases e
      refine op_add_str pins s σ H _ _ v u Q I rx ry ⟨_, _, rfl, rfl, by rw [strL_len, strL_len, LIM_eq]; exact hl, ?_⟩
      rw [strL_app]
      exact q _ H (Same.refl H) (Rp_toT (Rp_str (okS_app hx hy hl)) trivial)
    · cases e
  · -- tuple + tuple
    rename_i x y
    simp only [RpT, Rp] at hx hy
    obtain ⟨a, xs, rfl, h1, h2⟩ := hx
    obtain ⟨b, ys, rfl, h3, h4⟩ := hy
    split at e
    · rename_i hl
      cases e
      have l1 := h2.length
      have l2 := h4.length
      refine op_catA pins s σ H _ _ v u Q I rx ry ⟨a, b, xs, ys, rfl, rfl, by rw [hK]; exact h1.sq, by rw [hK]; exact h3.sq, by rw [← l1, ← l2, LIM_eq]; exact hl, fun e0 => ?_, fun _ e0 => ?_, fun _ _ p hp => ?_⟩
      · subst e0
        have : x = [] := List.eq_nil_of_length_eq_zero (by simpa using l1)
        subst this
        exact q _ H (Same.refl H) (by simp only [RpT, Rp]; exact ⟨b, ys, rfl, h3, h4.mono (fun _ => .inl) Ex.refl⟩)
      · subst e0
        have : y = [] := List.eq_nil_of_length_eq_zero (by simpa using l2)
        subst this
        rw [List.append_nil] at q
        exact q _ H (Same.refl H) (by simp only [RpT, Rp]; exact ⟨a, xs, rfl, h1, h2.mono (fun _ => .inl) Ex.refl⟩)
      · refine q _ _ (sameNew hp) (by simp only [RpT, Rp]; exact ⟨p, xs ++ ys, rfl, Or.inl upd_same, ((h2.append h4).mono (fun _ => .inl) (sameEx (sameNew hp)))⟩)
    · cases e
  · -- list + list
    rename_i x y
    simp only [RpT] at hx hy
    obtain ⟨a, xs, rfl, t1, h1, h2⟩ := hx
    obtain ⟨b, ys, rfl, t2, h3, h4⟩ := hy
    split at e
    · rename_i hl
      cases e
      have l1 := h2.length
      have l2 := h4.length
      refine op_catL pins s σ H _ _ v u Q I rx ry ⟨a, b, xs, ys, rfl, rfl, h1, h3, by rw [← l1, ← l2, LIM_eq]; exact hl, fun p hp => ?_⟩
      exact q _ _ (sameNew hp) (by simp only [RpT]; exact ⟨p, xs ++ ys, rfl, hp, .inl upd_same, ((h2.append h4).mono (fun _ => .inl) (sameEx (sameNew hp)))⟩)
    · cases e
  · -- int - int
    simp only [RpT, Rp] at hx hy
    subst hx hy
    exact op_sub pins s σ H _ _ v u Q I rx ry ⟨_, _, rfl, rfl, q _ H (Same.refl H) (by simp only [RpT, Rp])⟩
  · -- int * int
    rename_i i j
    simp only [RpT, Rp] at hx hy
    subst hx hy
    split at e
    · rename_i hc
      cases e
      have hc' : CMul i j := by
        simp only [Bool.or_eq_true, decide_eq_true_eq] at hc
        rcases hc with hc | hc
        · exact .inl (by omega)
        · exact .inr (by omega)
      exact op_mul pins s σ H _ _ v u Q I rx ry ⟨_, _, rfl, rfl, hc', q _ H (Same.refl H) (by simp only [RpT, Rp])⟩
    · cases e
  · -- str * int
    rename_i x j
    simp only [RpT, Rp] at hx hy
    obtain ⟨rfl, hx⟩ := hx
    subst hy
    split at e
    · rename_i hl
      cases e
      simp only [Bool.and_eq_true, decide_eq_true_eq] at hl
      obtain ⟨⟨hl1, hl2⟩, hl3⟩ := hl
      have hLIM : LIM = 16777216 := rfl
      obtain ⟨t, rfl⟩ := rx
      obtain ⟨t', rfl⟩ := ry
      have hxl := okS_len hx
      have fin : ∀ {z : List Nat} {tk : Nat}, z = (List.replicate j.toNat x).flatten → EP X pins σ Q (.str (strL z) tk) { s with toks := s.toks + 1 } := fun {z tk} ez => by
        subst ez
        exact ⟨.str _, H, I.tok _, ⟨_, rfl⟩, q _ H (Same.refl H) (Rp_toT (Rp_str (okS_rep hx _ hl3)) trivial)⟩
      refine PySem.P.mul_str (by rw [decide_eq_false (by omega), decide_eq_false (by omega)] <;> rfl) (fun h1 h2 => ?_) (fun h1 h2 => ?_) ?_
      · rw [strL_len]
        have e : j = (j.toNat : Int) := by omega
        have e2 : ((x.length * j.toNat : Nat) : Int) = (x.length : Int) * (j.toNat : Int) := Int.natCast_mul ..
        have h3 : (x.length : Int) ≤ (2 ^ 63 - 1) / j := (Int.le_ediv_iff_mul_le (by omega)).mpr (by rw [e, ← e2]; omega)
        omega
      · rw [strL_len]
        unfold Builtin.Str.tooLong
        rw [LIM_eq]
        exact decide_eq_false (by omega)
      · split
        · rename_i h0
          have e0 : j.toNat = 0 := by omega
          refine ⟨by decide, ?_⟩
          exact fin (z := []) (by rw [e0]; rfl)
        · split
          · rename_i h0 h1
            refine ⟨.str (strL x), H, I, ⟨_, rfl⟩, ?_⟩
            have e0 : (List.replicate j.toNat x).flatten = x := by
              simp only [Bool.or_eq_true, beq_iff_eq, strL_len] at h1
              rcases h1 with e | e
              · subst e; simp
              · have : x = [] := List.eq_nil_of_length_eq_zero e
                subst this; simp
            rw [e0] at q
            exact q _ H (Same.refl H) (Rp_toT (Rp_str hx) trivial)
          · refine ⟨?_, ?_⟩
            · rw [show (strL x).cps = x.toArray from rfl, foldl_cps]
              show (List.replicate j.toNat x).flatten.toArray.size ≤ _
              rw [List.size_toArray, PyProof.Rows.lm_len_rep_flat, Nat.mul_comm, LIM_eq]
              exact hl3
            · rw [show (strL x).cps = x.toArray from rfl, foldl_cps]
              exact fin rfl
    · cases e
  · -- tuple * int
    rename_i x j
    simp only [RpT, Rp] at hx hy
    obtain ⟨a, xs, rfl, h1, h2⟩ := hx
    subst hy
    split at e
    · rename_i hl
      cases e
      simp only [Bool.and_eq_true, decide_eq_true_eq] at hl
      obtain ⟨⟨hl1, hl2⟩, hl3⟩ := hl
      have hLIM : LIM = 16777216 := rfl
      have l1 := h2.length
      refine op_repU pins s σ H _ _ v u Q I rx ry ⟨a, j, xs, rfl, rfl, by rw [hK]; exact h1.sq, by omega, by omega, by rw [← l1, LIM_eq]; exact hl3, fun hh => ?_, fun hh p hp => ?_⟩
      · have e0 : (List.replicate j.toNat x).flatten = x := by
          rcases hh with e | e
          · subst e
            have : x = [] := List.eq_nil_of_length_eq_zero (by simpa using l1)
            subst this; simp
          · subst e; simp
        rw [e0] at q
        exact q _ H (Same.refl H) (by simp only [RpT, Rp]; exact ⟨a, xs, rfl, h1, h2.mono (fun _ => .inl) Ex.refl⟩)
      · exact q _ _ (sameNew hp) (by simp only [RpT, Rp]; exact ⟨p, _, rfl, Or.inl upd_same, ((h2.flatRep _).mono (fun _ => .inl) (sameEx (sameNew hp)))⟩)
    · cases e
  · -- list * int
    rename_i x j
    simp only [RpT] at hx hy
    obtain ⟨a, xs, rfl, t1, h1, h2⟩ := hx
    simp only [Rp] at hy
    subst hy
    split at e
    · rename_i hl
      cases e
      simp only [Bool.and_eq_true, decide_eq_true_eq] at hl
      obtain ⟨⟨hl1, hl2⟩, hl3⟩ := hl
      have hLIM : LIM = 16777216 := rfl
      have l1 := h2.length
      refine op_repL pins s σ H _ _ v u Q I rx ry ⟨a, j, xs, rfl, rfl, h1, by omega, by omega, by rw [← l1, LIM_eq]; exact hl3, fun p hp => ?_⟩
      exact q _ _ (sameNew hp) (by simp only [RpT]; exact ⟨p, _, rfl, hp, .inl upd_same, ((h2.flatRep _).mono (fun _ => .inl) (sameEx (sameNew hp)))⟩)
    · cases e
  · -- int // int
    rename_i i j
    simp only [RpT, Rp] at hx hy
    subst hx hy
    split at e
    · rename_i hc
      cases e
      simp only [Bool.and_eq_true, decide_eq_true_eq] at hc
      exact op_fdiv pins s σ H _ _ v u Q I rx ry ⟨_, _, rfl, rfl, hc, q _ H (Same.refl H) (by simp only [RpT, Rp])⟩
    · cases e
  · -- int % int
    rename_i i j
    simp only [RpT, Rp] at hx hy
    subst hx hy
    split at e
    · rename_i hc
      cases e
      simp only [decide_eq_true_eq] at hc
      exact op_mod pins s σ H _ _ v u Q I rx ry ⟨_, _, rfl, rfl, hc, q _ H (Same.refl H) (by simp only [RpT, Rp])⟩
    · cases e
  · -- int ** int
    rename_i i j
    simp only [RpT, Rp] at hx hy
    subst hx hy
    split at e
    · rename_i hc
      cases e
      simp only [Bool.and_eq_true, decide_eq_true_eq] at hc
      exact op_pow pins s σ H _ _ v u Q I rx ry ⟨_, _, rfl, rfl, ⟨by omega, by omega, by omega⟩, q _ H (Same.refl H) (by simp only [RpT, Rp])⟩
    · cases e
end
end EV
end

section
set_option Elab.async false
set_option linter.all false
set_option maxRecDepth 100000
/-! EvD: comparisons, by data. -/
namespace EV
open PySem PySem.Spec PyProof.Rows L2
mutual
theorem plain_py : ∀ {d : D}, plainD d = true → (toPy d).plain = true
  | .non, _ => rfl
  | .bl _, _ => rfl
  | .int _, _ => rfl
  | .str _, _ => rfl
  | .fn _, h => by simp [plainD] at h
  | .dic _, h => by simp [plainD] at h
  | .tup ds, h => by
    simp only [toPy, PyData.plain]
    exact plain_pyL (by simpa only [plainD] using h)
  | .lst ds, h => by
    simp only [toPy, PyData.plain]
    exact plain_pyL (by simpa only [plainD] using h)
theorem plain_pyL : ∀ {d : List D}, plainL d = true → PyData.plainAll (toPyL d) = true
  | [], _ => rfl
  | d :: ds, h => by
    simp only [plainL, Bool.and_eq_true] at h
    simp only [toPyL, PyData.plainAll, Bool.and_eq_true]
    exact ⟨plain_py h.1, plain_pyL h.2⟩
end
mutual
theorem alike_py : ∀ {x y : D}, alikeD x y = true → PySem.W.alike (toPy x) (toPy y) = true
  | x, y, h => by
    cases x <;> cases y <;> simp only [alikeD, Bool.false_eq_true] at h <;> simp only [toPy, PySem.W.alike] <;> exact alike_pyL h
theorem alike_pyL : ∀ {x y : List D}, alikeL x y = true → PySem.W.alikeAll (toPyL x) (toPyL y) = true
  | [], [], _ => rfl
  | [], _ :: _, _ => rfl
  | _ :: _, [], _ => rfl
  | x :: xs, y :: ys, h => by
    simp only [alikeL, Bool.and_eq_true] at h
    simp only [toPyL, PySem.W.alikeAll, Bool.and_eq_true]
    exact ⟨alike_py h.1, alike_pyL h.2⟩
end
mutual
theorem alike_symm : ∀ {x y : D}, alikeD x y = true → alikeD y x = true
  | x, y, h => by
    cases x <;> cases y <;> simp only [alikeD, Bool.false_eq_true] at h ⊢ <;> exact alike_symmL h
theorem alike_symmL : ∀ {x y : List D}, alikeL x y = true → alikeL y x = true
  | [], [], _ => rfl
  | [], _ :: _, _ => rfl
  | _ :: _, [], _ => rfl
  | x :: xs, y :: ys, h => by
    simp only [alikeL, Bool.and_eq_true] at h ⊢
    exact ⟨alike_symm h.1, alike_symmL h.2⟩
end
theorem ltN_eq : ∀ x y : List Nat, ltN x y = decide (x < y)
  | [], [] => by simp [ltN]
  | [], _ :: _ => by simp [ltN]
  | _ :: _, [] => by simp [ltN]
  | x :: xs, y :: ys => by
    simp only [ltN, ltN_eq xs ys]
    by_cases e : x = y
    · subst e; simp
    · rw [if_neg (by simpa using e)]
      by_cases l : x < y
      · have : Nat.blt x y = true := by simpa [Nat.blt_eq] using l
        rw [this]
        exact (decide_eq_true (List.cons_lt_cons_iff.mpr (.inl l))).symm
      · have : Nat.blt x y = false := by
          cases q : Nat.blt x y with
          | false => rfl
          | true => exact absurd (Nat.blt_eq.mp q) l
        rw [this]
        refine (decide_eq_false fun h => ?_).symm
        rcases List.cons_lt_cons_iff.mp h with h | ⟨h, _⟩
        · exact l h
        · exact e h
mutual
theorem lt_py : ∀ {x y : D}, alikeD x y = true → plainD x = true → plainD y = true → PySem.W.dataLt (toPy x) (toPy y) = ltD x y
  | x, y, h, hx, hy => by
    cases x <;> cases y <;> simp only [alikeD, Bool.false_eq_true] at h <;> simp only [toPy, ltD] <;> simp only [plainD] at hx hy
    · rfl
    · rw [PySem.W.dataLt_bool]
      rename_i a b
      cases a <;> cases b <;> rfl
    · rw [PySem.W.dataLt_int]
    · rw [PySem.W.dataLt_str, ltN_eq]
      simp only [strL]
      congr
    · rw [PySem.W.dataLt_tuple]; exact lt_pyL h hx hy
    · rw [PySem.W.dataLt_list]; exact lt_pyL h hx hy
theorem lt_pyL : ∀ {x y : List D}, alikeL x y = true → plainL x = true → plainL y = true → PyProof.Rows.lexLt itemOrd (PySem.W.keyToksAll (toPyL x)) (PySem.W.keyToksAll (toPyL y)) = ltL x y
  | [], [], _, _, _ => by decide +kernel
  | [], y :: ys, _, _, _ => by
    simp only [toPyL, PySem.W.keyToksAll, ltL]
    simp [PyProof.Rows.lexLt, itemOrd, itemLt]
  | x :: xs, [], _, _, _ => by
    simp only [toPyL, PySem.W.keyToksAll, ltL]
    simp [PyProof.Rows.lexLt, itemOrd, itemLt]
  | x :: xs, y :: ys, h, hx, hy => by
    simp only [alikeL, plainL, Bool.and_eq_true] at h hx hy
    simp only [toPyL, ltL]
    by_cases e : eqD x y = true
    · rw [PySem.W.dataLt_all_yes (alike_py h.1) (by rw [eqv_py hx.1 hy.1]; exact e), if_pos e]
      exact lt_pyL h.2 hx.2 hy.2
    · rw [PySem.W.dataLt_all_no (alike_py h.1) (by rw [eqv_py hx.1 hy.1]; simpa using e), if_neg e]
      exact lt_py h.1 hx.1 hy.1
end

def copOf : COp → CmpOp
  | .eq => .Eq | .ne => .NotEq | .lt => .Lt | .le => .LtE | .gt => .Gt | .ge => .GtE | .is => .Is | .isnot => .IsNot | .in => .In | .notin => .NotIn
theorem okD_plain {x : D} (h : okD x = true) : plainD x = true := (Bool.and_eq_true_iff.mp h).1
theorem okD_dep {x : D} (h : okD x = true) : (toPy x).depth ≤ 60 := Nat.le_trans (dep_py x) (of_decide_eq_true (Bool.and_eq_true_iff.mp h).2)
section
variable {X : Cx} {g : G}
theorem okL_plain : ∀ {xs : List D}, xs.all okD = true → plainL xs = true
  | [], _ => rfl
  | x :: xs, h => by
    simp only [List.all_cons, Bool.and_eq_true] at h
    simp only [plainL, Bool.and_eq_true]
    exact ⟨okD_plain h.1, okL_plain h.2⟩
theorem any_py {k : D} (hk : plainD k = true) : ∀ {xs : List D}, plainL xs = true → ((toPyL xs).any fun z => PyData.eqv z (toPy k)) = xs.any fun y => eqD y k
  | [], _ => rfl
  | x :: xs, h => by
    simp only [plainL, Bool.and_eq_true] at h
    simp only [toPyL, List.any_cons]
    rw [eqv_py h.1 hk, any_py hk h.2]
end
end EV
end

section
set_option Elab.async false
set_option linter.all false
set_option maxRecDepth 100000
/-! EvE: dicts, by data. -/
namespace EV
open PySem PySem.Spec PyProof.Rows L2

theorem strL_inj {x y : List Nat} : strL x = strL y ↔ x = y := by
  constructor
  · intro h; injection h with h; simpa using h
  · intro h; rw [h]
theorem kOf_eq {a b : D} {ka kb : Key} (ha : kOf a = some ka) (hb : kOf b = some kb) : eqD a b = decide (ka = kb) := by
  cases a <;> simp only [kOf] at ha <;> try (cases ha)
  all_goals (cases b <;> simp only [kOf] at hb <;> try (cases hb))
  all_goals simp only [eqD]
  · rw [key_ll]
  · rw [key_lr]
  · rw [key_rl]
  · rw [key_rr, decide_eq_decide.mpr strL_inj]
    rename_i x y
    by_cases e : x = y
    · subst e; simp
    · rw [decide_eq_false e]; exact beq_eq_false_iff_ne.mpr e
theorem ksOf_eq : ∀ {a b : List D} {ka kb : List Key}, ksOf a = some ka → ksOf b = some kb → eqL a b = decide (ka = kb)
  | [], [], ka, kb, ha, hb => by simp only [ksOf] at ha hb; cases ha; cases hb; simp [eqL]
  | [], b :: bs, ka, kb, ha, hb => by
    simp only [ksOf] at ha; cases ha
    simp only [ksOf, Option.bind_eq_some_iff, Option.map_eq_some_iff] at hb
    obtain ⟨k, _, r, _, rfl⟩ := hb
    simp [eqL]
  | a :: as, [], ka, kb, ha, hb => by
    simp only [ksOf] at hb; cases hb
    simp only [ksOf, Option.bind_eq_some_iff, Option.map_eq_some_iff] at ha
    obtain ⟨k, _, r, _, rfl⟩ := ha
    simp [eqL]
  | a :: as, b :: bs, ka, kb, ha, hb => by
    simp only [ksOf, Option.bind_eq_some_iff, Option.map_eq_some_iff] at ha hb
    obtain ⟨k, h1, r, h2, rfl⟩ := ha
    obtain ⟨k', h3, r', h4, rfl⟩ := hb
    simp only [eqL, kOf_eq h1 h3, ksOf_eq h2 h4]
    by_cases e1 : k = k' <;> by_cases e2 : r = r' <;> simp [e1, e2]
theorem kTOf_eq {a b : D} {ka kb : List Key} (ha : kTOf a = some ka) (hb : kTOf b = some kb) : eqD a b = decide (ka = kb) := by
  cases a <;> simp only [kTOf] at ha <;> try (cases ha; done)
  cases b <;> simp only [kTOf] at hb <;> try (cases hb; done)
  simp only [eqD]
  exact ksOf_eq ha hb
theorem keyD_of {a : D} (h : keyD a = true) : ∃ k, kOf a = some k := by
  cases a <;> simp only [keyD, Bool.false_eq_true] at h <;> exact ⟨_, rfl⟩
theorem ksOf_of : ∀ {xs : List D}, xs.all keyD = true → ∃ k, ksOf xs = some k
  | [], _ => ⟨[], rfl⟩
  | x :: xs, h => by
    simp only [List.all_cons, Bool.and_eq_true] at h
    obtain ⟨k, e⟩ := keyD_of h.1
    obtain ⟨r, e2⟩ := ksOf_of h.2
    exact ⟨k :: r, by simp [ksOf, e, e2]⟩
theorem keyT_of {a : D} (h : keyT a = true) : ∃ k, kTOf a = some k := by
  cases a <;> simp only [keyT, Bool.false_eq_true] at h
  exact ksOf_of h
theorem of_kOf {a : D} {k : Key} (h : kOf a = some k) : keyD a = true := by
  cases a <;> simp only [kOf] at h <;> first | rfl | cases h
section
variable {g : G} {N : Addr → Prop} {H : Hp}
theorem kOf_v {a : D} {k : Key} {v : V} (h : kOf a = some k) (r : Rp g N H a v) : v = kV k := by
  cases a <;> simp only [kOf] at h <;> cases h <;> simp only [Rp] at r
  · exact r
  · exact r.1
theorem ksOf_v : ∀ {a : List D} {k : List Key} {v : List V}, ksOf a = some k → Rps g N H a v → v = k.map kV
  | [], k, v, h, r => by simp only [ksOf] at h; cases h; simp only [Rps] at r; exact r
  | a :: as, k, v, h, r => by
    simp only [ksOf, Option.bind_eq_some_iff, Option.map_eq_some_iff] at h
    obtain ⟨k1, h1, r1, h2, rfl⟩ := h
    simp only [Rps] at r
    obtain ⟨x, y, rfl, q1, q2⟩ := r
    rw [kOf_v h1 q1, ksOf_v h2 q2, List.map_cons]
/-- what is found in the data is found in the dict -/
theorem look_rel {κ : Type} [DecidableEq κ] {f : D → Option κ} (hf : ∀ {a b : D} {ka kb : κ}, f a = some ka → f b = some kb → eqD a b = decide (ka = kb)) {k : D} {k' : κ} (hk : f k = some k') :
    ∀ {kvs : List (D × D)} {kv : List (κ × V)}, kvs.map (fun p => f p.1) = kv.map (fun p => some p.1) → RpP g N H kvs (kv.map (·.2)) →
      (lookD k kvs = none ∧ valV kv k' = none) ∨ ∃ d v, lookD k kvs = some d ∧ valV kv k' = some v ∧ Rp g N H d v
  | [], [], _, _ => .inl ⟨rfl, rfl⟩
  | [], _ :: _, h, _ => by simp at h
  | _ :: _, [], h, _ => by simp at h
  | (a, d) :: kvs, (ka, v) :: kv, h, r => by
    simp only [List.map_cons, List.cons.injEq] at h
    simp only [List.map_cons, RpP] at r
    obtain ⟨v', r', e, r1, r2⟩ := r
    cases e
    simp only [lookD]
    rw [hf h.1 hk]
    by_cases e : ka = k'
    · rw [decide_eq_true e, valV_pos (p := (ka, v)) e]
      exact .inr ⟨d, v, rfl, rfl, r1⟩
    · rw [decide_eq_false e, valV_neg (p := (ka, v)) e]
      exact look_rel hf hk h.2 r2
end
section
variable {P : Program} {w : World} {h : Heap} {a : Addr}
theorem empty_H (e : h.DictOf (mixKind P w) a []) : h.DictOfH (tupleKind (mixKind P w)) a [] := by
  obtain ⟨o, es, ep, h1, h2, h3, h4, h5, h6⟩ := e
  refine ⟨o, es, ep, h1, h2, h3, ?_, by simp, by simp⟩
  cases hh : es.toList with
  | nil => rfl
  | cons x xs => rw [hh] at h5; cases h5
theorem empty_K (e : h.DictOfH (tupleKind (mixKind P w)) a []) : h.DictOf (mixKind P w) a [] := by
  obtain ⟨o, es, ep, h1, h2, h3, h4, h5, h6⟩ := e
  have : es = #[] := by
    cases es with
    | mk l => simp only [List.map_nil] at h4; subst h4; rfl
  subst this
  refine ⟨o, #[], ep, h1, h2, h3, ?_, ?_, by simp⟩
  · intro x hx
    simp at hx
  · exact .nil
end

/-- an object that is read: what the layer tells of it, as a dict with plain keys or with tuples as keys -/
def LookR {κ : Type} [DecidableEq κ] (g : G) (N : Addr → Prop) (H : Hp) (k : D) (kvs : List (D × D)) (kv : List (κ × V)) (k' : κ) : Prop :=
  (lookD k kvs = none ∧ valV kv k' = none) ∨ ∃ d v, lookD k kvs = some d ∧ valV kv k' = some v ∧ Rp g N H d v
section
variable {X : Cx} {g : G} {pins : List (Addr × Obj)} {σ : L2.St} {H : Hp} {s : Shared} {T N : Addr → Prop}
theorem key_is (hK : X.K = g.K) (I : Inv X pins σ H s) {ds : List D} {ks : List Key} {v : V} {u : Value} (h : ksOf ds = some ks) (r : Rp g N H (.tup ds) v) (ru : RelV v u) :
    ∃ b, v = .ref b ∧ u = .ref b ∧ (tupleKind (mixKind X.prog X.w)).is s.heap ks b ∧ ((g.kt (.tup ds) = false) → H b = some (.tup (ks.map kV))) := by
  simp only [Rp] at r
  obtain ⟨b, vs, rfl, t, r⟩ := r
  have e := ksOf_v h r
  subst e
  cases ru
  have q : SqT X.K H b (ks.map kV) := by rw [hK]; exact t.sq
  obtain ⟨its, rv, ⟨o, h1, h2, n, h3⟩, _⟩ := I.tuple q
  refine ⟨b, rfl, rfl, ⟨o, its.toArray, n, h1, h2, h3, by simpa using items_are rv⟩, fun hk => ?_⟩
  rcases t with t | ⟨t, _⟩
  · exact t
  · rw [hk] at t; cases t
theorem dic_open (hK : X.K = g.K) (I : Inv X pins σ H s) {kvs : List (D × D)} {x y : V} {u : Value} {k : D} {T' : Addr → Prop} (hd : RpT g T N H (.dic kvs) x) (hk : RpT g T' N H k y) (ry : RelV y u) (ok : lookOk k kvs = true) :
    ∃ a, x = .ref a ∧ T a ∧ (a == sysModules) = false ∧ ((∃ (kv : List (Key × V)) (k' : Key) (vs : List (Key × Value)), y = kV k' ∧ KV kv vs ∧ s.heap.DictOf (mixKind X.prog X.w) a vs ∧ LookR g N H k kvs kv k') ∨
      (∃ (kv : List (List Key × V)) (ks : List Key) (b : Addr) (xs : List (List Key × Addr × Value)), u = .ref b ∧ (tupleKind (mixKind X.prog X.w)).is s.heap ks b ∧ KT H kv xs ∧ s.heap.DictOfH (tupleKind (mixKind X.prog X.w)) a xs ∧ LookR g N H k kvs kv ks)) := by
  simp only [RpT] at hd
  obtain ⟨a, rfl, ta, hd⟩ := hd
  -- of the key
  have kD : keyD k = true → ∃ k', kOf k = some k' ∧ y = kV k' := fun h => by
    obtain ⟨k', e⟩ := keyD_of h
    refine ⟨k', e, ?_⟩
    have : Rp g N H k y := by
      cases k <;> simp only [keyD, Bool.false_eq_true] at h <;> simpa only [RpT] using hk
    exact kOf_v e this
  have kT : keyT k = true → ∃ ks b, kTOf k = some ks ∧ y = .ref b ∧ u = .ref b ∧ (tupleKind (mixKind X.prog X.w)).is s.heap ks b := fun h => by
    obtain ⟨ks, e⟩ := keyT_of h
    cases k <;> simp only [keyT, Bool.false_eq_true] at h
    simp only [RpT] at hk
    obtain ⟨b, e1, e2, e3, _⟩ := key_is hK I e hk ry
    exact ⟨ks, b, e, e1, e2, e3⟩
  rcases hd with ⟨kv, h1, h2, h3⟩ | ⟨kv, h1, h2, h3⟩
  · obtain ⟨z, sm, vs, rel, dd⟩ := dk_rd I.hok h1
    refine ⟨a, rfl, ta, sm, ?_⟩
    by_cases hkd : keyD k = true
    · obtain ⟨k', e1, e2⟩ := kD hkd
      exact .inl ⟨kv, k', vs, e2, rel, dd, look_rel (fun a b => kOf_eq a b) e1 h2 h3⟩
    · have e0 : kvs = [] ∧ keyT k = true := by
        cases kvs with
        | nil => simp only [lookOk, Bool.or_eq_true] at ok; exact ⟨rfl, ok.resolve_left hkd⟩
        | cons p r =>
          exfalso
          simp only [lookOk, Bool.or_eq_true, Bool.and_eq_true] at ok
          cases kv with
          | nil => simp at h2
          | cons q r' =>
            simp only [List.map_cons, List.cons.injEq] at h2
            have := of_kOf h2.1
            rcases ok with ⟨_, o⟩ | ⟨o, _⟩
            · exact hkd o
            · cases hp : p.1 <;> rw [hp] at this o <;> simp [keyD, keyT] at this o
      obtain ⟨e0, ht⟩ := e0
      subst e0
      obtain ⟨ks, b, e1, e2, e3, e4⟩ := kT ht
      have : kv = [] := by
        cases kv with
        | nil => rfl
        | cons _ _ => simp at h2
      subst this
      cases rel
      exact .inr ⟨[], ks, b, [], e3, e4, .nil, empty_H dd, .inl ⟨rfl, rfl⟩⟩
  · obtain ⟨z, sm, xs, rel, dd⟩ := dt_rd I.hok h1
    refine ⟨a, rfl, ta, sm, ?_⟩
    by_cases hkt : keyT k = true
    · obtain ⟨ks, b, e1, e2, e3, e4⟩ := kT hkt
      exact .inr ⟨kv, ks, b, xs, e3, e4, rel, dd, look_rel (fun a b => kTOf_eq a b) e1 h2 h3⟩
    · have e0 : kvs = [] ∧ keyD k = true := by
        cases kvs with
        | nil => simp only [lookOk, Bool.or_eq_true] at ok; exact ⟨rfl, ok.resolve_right hkt⟩
        | cons p r =>
          exfalso
          simp only [lookOk, Bool.or_eq_true, Bool.and_eq_true] at ok
          cases kv with
          | nil => simp at h2
          | cons q r' =>
            simp only [List.map_cons, List.cons.injEq] at h2
            have : keyD p.1 = false := by
              cases hp : p.1 <;> rw [hp] at h2 <;> simp [kTOf] at h2 <;> rfl
            rcases ok with ⟨o, _⟩ | ⟨_, o⟩
            · rw [this] at o; cases o
            · exact hkt o
      obtain ⟨e0, ht⟩ := e0
      subst e0
      obtain ⟨k', e1, e2⟩ := kD ht
      have : kv = [] := by
        cases kv with
        | nil => rfl
        | cons _ _ => simp at h2
      subst this
      cases rel
      exact .inl ⟨[], k', [], e2, .nil, empty_K dd, .inl ⟨rfl, rfl⟩⟩
theorem look_some {κ : Type} [DecidableEq κ] {k : D} {kvs : List (D × D)} {kv : List (κ × V)} {k' : κ} (h : LookR g N H k kvs kv k') : (lookD k kvs).isSome = (valV kv k').isSome := by
  rcases h with ⟨h1, h2⟩ | ⟨d, v, h1, h2, _⟩ <;> rw [h1, h2] <;> rfl
/-- k in d, d[k] -/
theorem dic_in (hK : X.K = g.K) (hu : X.A.units + 1 < cLine) (I : Inv X pins σ H s) {kvs : List (D × D)} {x y : V} {u v : Value} {k : D} {T' : Addr → Prop} {Q : Value → Shared → Prop} (hd : RpT g T N H (.dic kvs) x) (hk : RpT g T' N H k y) (rx : RelV x v) (ry : RelV y u) (ok : lookOk k kvs = true)
    (h : ∀ s', Inv X pins σ H s' → Q (.bool (lookD k kvs).isSome) s') : wpAny (model X.prog X.w) X.A (compareOp .In u v) Q X.xe s := by
  obtain ⟨a, rfl, _, sm, ⟨kv, k', vs, ey, rel, dd, l⟩ | ⟨kv, ks, b, xs, eb, kb, rel, dd, l⟩⟩ := dic_open hK I hd hk ry ok
  · subst ey
    cases rx
    refine wpAny_in_of (kV_is ry) sm dd.mapOf ?_
    rw [← (rel.val k').isSome_eq, ← look_some l]
    exact h _ (I.tok _)
  · subst eb
    cases rx
    refine wpAny_in_heap (tupleKind_room_in1 hu) kb sm dd ?_
    have q := (rel.val ks).isSome_eq
    rw [Option.isSome_map] at q
    rw [← q, ← look_some l]
    exact h _ (I.tok _)
theorem dic_notIn (hK : X.K = g.K) (hu : X.A.units + 1 < cLine) (I : Inv X pins σ H s) {kvs : List (D × D)} {x y : V} {u v : Value} {k : D} {T' : Addr → Prop} {Q : Value → Shared → Prop} (hd : RpT g T N H (.dic kvs) x) (hk : RpT g T' N H k y) (rx : RelV x v) (ry : RelV y u) (ok : lookOk k kvs = true)
    (h : ∀ s', Inv X pins σ H s' → Q (.bool (!(lookD k kvs).isSome)) s') : wpAny (model X.prog X.w) X.A (compareOp .NotIn u v) Q X.xe s := by
  obtain ⟨a, rfl, _, sm, ⟨kv, k', vs, ey, rel, dd, l⟩ | ⟨kv, ks, b, xs, eb, kb, rel, dd, l⟩⟩ := dic_open hK I hd hk ry ok
  · subst ey
    cases rx
    refine wpAny_notIn_of (kV_is ry) sm dd.mapOf ?_
    rw [← (rel.val k').isSome_eq, ← look_some l]
    exact h _ (I.tok _)
  · subst eb
    cases rx
    refine wpAny_notIn_heap (tupleKind_room_in1 hu) kb sm dd ?_
    have q := (rel.val ks).isSome_eq
    rw [Option.isSome_map] at q
    rw [← q, ← look_some l]
    exact h _ (I.tok _)
theorem dic_get (hK : X.K = g.K) (hu : X.A.units + 1 < cLine) (I : Inv X pins σ H s) {kvs : List (D × D)} {x y : V} {u v : Value} {k d : D} {T' : Addr → Prop} {Q : Value → Shared → Prop} (hd : RpT g T N H (.dic kvs) x) (hk : RpT g T' N H k y) (rx : RelV x v) (ry : RelV y u) (ok : lookOk k kvs = true)
    (e : lookD k kvs = some d) (h : ∀ z w' s', Inv X pins σ H s' → Rp g N H d z → RelV z w' → Q w' s') : wpAny (model X.prog X.w) X.A (getItem v u) Q X.xe s := by
  obtain ⟨a, rfl, _, sm, ⟨kv, k', vs, ey, rel, dd, l⟩ | ⟨kv, ks, b, xs, eb, kb, rel, dd, l⟩⟩ := dic_open hK I hd hk ry ok
  · subst ey
    cases rx
    rcases l with ⟨l, _⟩ | ⟨d', z, l, l2, r⟩
    · rw [e] at l; cases l
    · rw [e] at l; cases l
      obtain ⟨w', hw, rw'⟩ := RelO.some_of (v := z) (o := valueAt vs k') (by rw [← l2]; exact rel.val k')
      exact wpAny_getItem_of (kV_is ry) dd.mapOf hw (h z w' _ (I.tok _) r rw')
  · subst eb
    cases rx
    rcases l with ⟨l, _⟩ | ⟨d', z, l, l2, r⟩
    · rw [e] at l; cases l
    · rw [e] at l; cases l
      obtain ⟨w', hw, rw'⟩ := RelO.some_of (v := z) (o := (atKey xs ks).map (·.2)) (by rw [← l2]; exact rel.val ks)
      obtain ⟨p, hp, hp2⟩ := Option.map_eq_some_iff.mp hw
      refine wpAny_getItem_heap (tupleKind_room_in1 hu) kb dd hp ?_
      rw [hp2]
      exact h z w' _ (I.tok _) r rw'
theorem dic_get1 (hK : X.K = g.K) (hu : X.A.units + 1 < cLine) (I : Inv X pins σ H s) {kvs : List (D × D)} {x y : V} {u v : Value} {k : D} {T' : Addr → Prop} {Q : Value → Shared → Prop} (hd : RpT g T N H (.dic kvs) x) (hk : RpT g T' N H k y) (rx : RelV x v) (ry : RelV y u) (ok : lookOk k kvs = true)
    (h : ∀ z w' s', Inv X pins σ H s' → Rp g N H ((lookD k kvs).getD .non) z → RelV z w' → Q w' s') : wpAny (model X.prog X.w) X.A (call (.builtin "dict.get") [v, u]) Q X.xe s := by
  have nonR : Rp g N H .non .non := by simp only [Rp]
  obtain ⟨a, rfl, _, sm, ⟨kv, k', vs, ey, rel, dd, l⟩ | ⟨kv, ks, b, xs, eb, kb, rel, dd, l⟩⟩ := dic_open hK I hd hk ry ok
  · subst ey
    cases rx
    refine call_meetsIn PySem.F.slot_dict_get dd.typeIs PySem.F.entry_dict_get (PySem.F.args_dict_get_2 _ _) (meets_dict_get (mixKind X.prog X.w) a (kV_is ry) sm) ⟨_, dd.mapOf, h ((valV kv k').getD .non) _ _ (I.tok _) ?_ ((rel.val k').getD rfl)⟩
    rcases l with ⟨l, l2⟩ | ⟨d', z, l, l2, r⟩ <;> rw [l, l2]
    · exact nonR
    · exact r
  · subst eb
    cases rx
    refine call_meetsIn PySem.F.slot_dict_get dd.typeIs PySem.F.entry_dict_get (PySem.F.args_dict_get_2 _ _) (meetsH_dict_get (tupleKind (mixKind X.prog X.w)) a b sm) ⟨tupleKind_room_in1 hu, ks, xs, kb, dd, h ((valV kv ks).getD .non) _ _ (I.tok _) ?_ ((rel.val ks).getD rfl)⟩
    rcases l with ⟨l, l2⟩ | ⟨d', z, l, l2, r⟩ <;> rw [l, l2]
    · exact nonR
    · exact r
theorem dic_get2 (hK : X.K = g.K) (hu : X.A.units + 1 < cLine) (I : Inv X pins σ H s) {kvs : List (D × D)} {x y z0 : V} {u v w0 : Value} {k d0 : D} {T' : Addr → Prop} {Q : Value → Shared → Prop} (hd : RpT g T N H (.dic kvs) x) (hk : RpT g T' N H k y) (h0 : Rp g N H d0 z0) (rx : RelV x v) (ry : RelV y u) (r0 : RelV z0 w0) (ok : lookOk k kvs = true)
    (h : ∀ z w' s', Inv X pins σ H s' → Rp g N H ((lookD k kvs).getD d0) z → RelV z w' → Q w' s') : wpAny (model X.prog X.w) X.A (call (.builtin "dict.get") [v, u, w0]) Q X.xe s := by
  obtain ⟨a, rfl, _, sm, ⟨kv, k', vs, ey, rel, dd, l⟩ | ⟨kv, ks, b, xs, eb, kb, rel, dd, l⟩⟩ := dic_open hK I hd hk ry ok
  · subst ey
    cases rx
    refine call_meetsIn PySem.F.slot_dict_get dd.typeIs PySem.F.entry_dict_get (PySem.F.args_dict_get_3 _ _ _) (meets_dict_get_default (mixKind X.prog X.w) a (kV_is ry) sm w0) ⟨_, dd.mapOf, h ((valV kv k').getD z0) _ _ (I.tok _) ?_ ((rel.val k').getD r0)⟩
    rcases l with ⟨l, l2⟩ | ⟨d', z, l, l2, r⟩ <;> rw [l, l2]
    · exact h0
    · exact r
  · subst eb
    cases rx
    refine call_meetsIn PySem.F.slot_dict_get dd.typeIs PySem.F.entry_dict_get (PySem.F.args_dict_get_3 _ _ _) (meetsH_dict_get_default (tupleKind (mixKind X.prog X.w)) a b sm w0) ⟨tupleKind_room_in1 hu, ks, xs, kb, dd, h ((valV kv ks).getD z0) _ _ (I.tok _) ?_ ((rel.val ks).getD r0)⟩
    rcases l with ⟨l, l2⟩ | ⟨d', z, l, l2, r⟩ <;> rw [l, l2]
    · exact h0
    · exact r
end
end EV
end

section
set_option Elab.async false
set_option linter.all false
set_option maxRecDepth 100000
/-! EvF: comparisons, subscripts, slices. -/
namespace EV
open PySem PySem.Spec PyProof.Rows L2
theorem preN_iff : ∀ x y : List Nat, preN x y = true ↔ y.take x.length = x
  | [], y => by simp [preN]
  | x :: xs, [] => by simp [preN]
  | x :: xs, y :: ys => by
    simp only [preN, Bool.and_eq_true, beq_iff_eq, List.length_cons, List.take_succ_cons, List.cons.injEq, preN_iff xs ys]
    constructor
    · rintro ⟨rfl, h⟩; exact ⟨rfl, h⟩
    · rintro ⟨rfl, h⟩; exact ⟨rfl, h⟩
theorem occN_iff (x : List Nat) : ∀ y : List Nat, occN x y = true ↔ ∃ i, i + x.length ≤ y.length ∧ (y.drop i).take x.length = x
  | [] => by
    simp only [occN, preN_iff]
    constructor
    · intro h
      have : x = [] := by simpa using h.symm
      subst this
      exact ⟨0, by simp, by simp⟩
    · rintro ⟨i, h1, h2⟩
      simpa using h2
  | y :: ys => by
    simp only [occN, Bool.or_eq_true, preN_iff, occN_iff x ys]
    constructor
    · rintro (h | ⟨i, h1, h2⟩)
      · refine ⟨0, ?_, by simpa using h⟩
        have := congrArg List.length h
        rw [List.length_take] at this
        omega
      · exact ⟨i + 1, by simp only [List.length_cons]; omega, by simpa using h2⟩
    · rintro ⟨i, h1, h2⟩
      cases i with
      | zero => exact .inl (by simpa using h2)
      | succ i => exact .inr ⟨i, by simp only [List.length_cons] at h1; omega, by simpa using h2⟩
theorem occ_eq (x y : List Nat) : (!(Builtin.Str.occurrences (strL y) (strL x) 0 (strL y).length 1).isEmpty) = occN x y := by
  refine Bool.eq_iff_iff.mpr ?_
  rw [StrLaws.found_iff, occN_iff]
  refine exists_congr fun i => ?_
  rw [strL_len, strL_len]
  refine and_congr Iff.rfl ?_
  unfold Builtin.Str.subAt
  rw [beq_iff_eq, strL_len, ← Array.toList_inj]
  simp only [strL, Array.toList_extract, List.extract_eq_take_drop, Nat.add_sub_cancel_left]

section
variable {X : Cx} {g : G} {pins : List (Addr × Obj)} {σ : L2.St} {H : Hp} {s : Shared} {T N : Addr → Prop} {dx dy : D} {x y : V} {v u : Value} {Q : VK}
theorem is_case (hx : RpT g T N H dx x) (hy : RpT g T N H dy y) (rx : RelV x v) (ry : RelV y u) {c : Bool} (e : isD dx dy = some c) :
    (u = .none ∨ ∃ b, u = .bool b) ∧ (c = true → v = u) ∧ (c = false → v ≠ u) ∧ plainIs v u = true := by
  unfold isD at e
  split at e <;> first
    | cases e
    | skip
  all_goals simp only [RpT, Rp] at hx hy
  all_goals subst hy
  all_goals cases ry
  all_goals first
    | (subst hx; cases rx; exact ⟨.inl rfl, fun _ => rfl, (fun h => by cases h), rfl⟩)
    | (subst hx; cases rx; exact ⟨.inl rfl, (fun h => by cases h), (fun _ h => by cases h), rfl⟩)
    | (subst hx; cases rx; exact ⟨.inr ⟨_, rfl⟩, (fun h => by cases h), (fun _ h => by cases h), rfl⟩)
    | (subst hx; obtain ⟨t, rfl⟩ := rx; exact ⟨.inl rfl, (fun h => by cases h), (fun _ h => by cases h), rfl⟩)
    | (subst hx; obtain ⟨t, rfl⟩ := rx; exact ⟨.inr ⟨_, rfl⟩, (fun h => by cases h), (fun _ h => by cases h), rfl⟩)
    | (obtain ⟨rfl, _⟩ := hx; obtain ⟨t, rfl⟩ := rx; exact ⟨.inl rfl, (fun h => by cases h), (fun _ h => by cases h), rfl⟩)
    | (obtain ⟨rfl, _⟩ := hx; obtain ⟨t, rfl⟩ := rx; exact ⟨.inr ⟨_, rfl⟩, (fun h => by cases h), (fun _ h => by cases h), rfl⟩)
    | (obtain ⟨a, _, rfl, _⟩ := hx; cases rx; exact ⟨.inl rfl, (fun h => by cases h), (fun _ h => by cases h), rfl⟩)
    | (obtain ⟨a, _, rfl, _⟩ := hx; cases rx; exact ⟨.inr ⟨_, rfl⟩, (fun h => by cases h), (fun _ h => by cases h), rfl⟩)
    | (obtain ⟨a, rfl, _⟩ := hx; cases rx; exact ⟨.inl rfl, (fun h => by cases h), (fun _ h => by cases h), rfl⟩)
    | (obtain ⟨a, rfl, _⟩ := hx; cases rx; exact ⟨.inr ⟨_, rfl⟩, (fun h => by cases h), (fun _ h => by cases h), rfl⟩)
    | (subst hx; cases rx; rename_i a b; exact ⟨.inr ⟨_, rfl⟩, (fun h => by simpa using h), (fun h q => by injection q with q; simp [q] at h), rfl⟩)
theorem is_any (hx : RpT g T N H dx x) (hy : RpT g T N H dy y) (rx : RelV x v) (ry : RelV y u) {c : Bool} (e : isD dx dy = some c) (fin : EP X pins σ Q (.bool c) s) :
    wpAny (model X.prog X.w) X.A (compareOp .Is v u) (EP X pins σ Q) X.xe s := by
  obtain ⟨_, h1, h2, h3⟩ := is_case hx hy rx ry e
  cases c with
  | true =>
    have := h1 rfl
    subst this
    exact wpAny_is_self h3 fin
  | false => exact wpAny_is_other h3 (h2 rfl) fin
theorem isnot_any (hx : RpT g T N H dx x) (hy : RpT g T N H dy y) (rx : RelV x v) (ry : RelV y u) {c : Bool} (e : isD dx dy = some c) (fin : EP X pins σ Q (.bool (!c)) s) :
    wpAny (model X.prog X.w) X.A (compareOp .IsNot v u) (EP X pins σ Q) X.xe s := by
  obtain ⟨_, h1, h2, h3⟩ := is_case hx hy rx ry e
  cases c with
  | true =>
    have := h1 rfl
    subst this
    exact wpAny_isNot_self h3 fin
  | false => exact wpAny_isNot_other h3 (h2 rfl) fin
end
section
variable {X : Cx} {g : G}
theorem op_cmp (hK : X.K = g.K) (hu : X.A.units + 200 < cLine) (o : COp) : OpR X (compareOp (copOf o)) (r2B g (cmpB o)) := by
  intro pins s σ H x y v u Q I rx ry h
  obtain ⟨T, N, dx, dy, b, hx, hy, e, q⟩ := h
  have rd : ∀ {d : D} {x : V} {v : Value}, RpT g T N H d x → RelV x v → plainD d = true → ∃ as, Reads s.heap v (toPy d) as := fun {d x v} hd r p => by
    have := hd.dp p
    rw [← hK] at this
    exact Dp.reads I _ _ _ this r
  have room : ∀ {d e : D}, okD d = true → X.A.units + min (toPy d).depth (toPy e).depth < cLine := fun {d e} h1 => by
    have a := okD_dep h1
    have b : min (toPy d).depth (toPy e).depth ≤ (toPy d).depth := Nat.min_le_left _ _
    omega
  have room1 : ∀ {d : D} {es : List PyData}, okD d = true → X.A.units + 1 + min (PyData.depthAll es) (toPy d).depth < cLine := fun {d es} h1 => by
    have a := okD_dep h1
    have b : min (PyData.depthAll es) (toPy d).depth ≤ (toPy d).depth := Nat.min_le_right _ _
    omega
  have fin : EP X pins σ Q (.bool b) s := ⟨.bl b, H, I, rfl, q⟩
  have ord : ∀ {c : Bool}, (if ordO dx dy = true then some c else none) = some b → alikeD dx dy = true ∧ okD dx = true ∧ okD dy = true ∧ toPy dx ≠ .none ∧ c = b := fun {c} e => by
    split at e
    · rename_i ho
      simp only [ordO, Bool.and_eq_true] at ho
      obtain ⟨⟨⟨h1, h2⟩, h3⟩, h4⟩ := ho
      refine ⟨h1, h2, h3, fun z => ?_, Option.some.inj e⟩
      cases dx <;> simp only [toPy] at z <;> first | cases z | skip
      all_goals first | (simp at h4; done) | simp [okD, plainD] at h2
    · cases e
  cases o <;> simp only [cmpB] at e <;> simp only [copOf]
  · -- ==
    split at e
    · rename_i ho
      cases e
      simp only [Bool.and_eq_true] at ho
      obtain ⟨as, r1⟩ := rd hx rx (okD_plain ho.1)
      obtain ⟨bs, r2⟩ := rd hy ry (okD_plain ho.2)
      exact SeqAt.eq_plain r1 r2 (plain_py (okD_plain ho.1)) (plain_py (okD_plain ho.2)) (room ho.1) (by rw [eqv_py (okD_plain ho.1) (okD_plain ho.2)]; exact fin)
    · cases e
  · -- !=
    split at e
    · rename_i ho
      cases e
      simp only [Bool.and_eq_true] at ho
      obtain ⟨as, r1⟩ := rd hx rx (okD_plain ho.1)
      obtain ⟨bs, r2⟩ := rd hy ry (okD_plain ho.2)
      exact SeqAt.ne_plain r1 r2 (plain_py (okD_plain ho.1)) (plain_py (okD_plain ho.2)) (room ho.1) (by rw [eqv_py (okD_plain ho.1) (okD_plain ho.2)]; exact fin)
    · cases e
  · obtain ⟨h1, h2, h3, h4, rfl⟩ := ord e
    obtain ⟨as, r1⟩ := rd hx rx (okD_plain h2)
    obtain ⟨bs, r2⟩ := rd hy ry (okD_plain h3)
    exact PySem.W.lt_data r1 r2 (alike_py h1) h4 (room h2) (by rw [lt_py h1 (okD_plain h2) (okD_plain h3)]; exact fin)
  · obtain ⟨h1, h2, h3, h4, rfl⟩ := ord e
    obtain ⟨as, r1⟩ := rd hx rx (okD_plain h2)
    obtain ⟨bs, r2⟩ := rd hy ry (okD_plain h3)
    exact PySem.W.le_data r1 r2 (alike_py h1) h4 (room h2) (by rw [lt_py (alike_symm h1) (okD_plain h3) (okD_plain h2)]; exact fin)
  · obtain ⟨h1, h2, h3, h4, rfl⟩ := ord e
    obtain ⟨as, r1⟩ := rd hx rx (okD_plain h2)
    obtain ⟨bs, r2⟩ := rd hy ry (okD_plain h3)
    exact PySem.W.gt_data r1 r2 (alike_py h1) h4 (room h2) (by rw [lt_py (alike_symm h1) (okD_plain h3) (okD_plain h2)]; exact fin)
  · obtain ⟨h1, h2, h3, h4, rfl⟩ := ord e
    obtain ⟨as, r1⟩ := rd hx rx (okD_plain h2)
    obtain ⟨bs, r2⟩ := rd hy ry (okD_plain h3)
    exact PySem.W.ge_data r1 r2 (alike_py h1) h4 (room h2) (by rw [lt_py h1 (okD_plain h2) (okD_plain h3)]; exact fin)
  · -- is
    exact is_any hx hy rx ry e fin
  · obtain ⟨c, e', rfl⟩ := Option.map_eq_some_iff.mp e
    exact isnot_any hx hy rx ry e' fin
  · -- in
    unfold inD at e
    split at e
    · rename_i k xs
      split at e
      · rename_i ho
        cases e
        simp only [Bool.and_eq_true] at ho
        obtain ⟨as, r1⟩ := rd hx rx (okD_plain ho.1)
        obtain ⟨bs, r2⟩ := rd hy ry (by simp only [plainD]; exact okL_plain ho.2)
        simp only [toPy] at r2
        exact SeqAt.in_tuple_data r2 r1 (plain_pyL (okL_plain ho.2)) (plain_py (okD_plain ho.1)) (room1 ho.1) (by rw [any_py (okD_plain ho.1) (okL_plain ho.2)]; exact fin)
      · cases e
    · rename_i k xs
      split at e
      · rename_i ho
        cases e
        simp only [Bool.and_eq_true] at ho
        obtain ⟨as, r1⟩ := rd hx rx (okD_plain ho.1)
        obtain ⟨bs, r2⟩ := rd hy ry (by simp only [plainD]; exact okL_plain ho.2)
        simp only [toPy] at r2
        exact SeqAt.in_list_data r2 r1 (plain_pyL (okL_plain ho.2)) (plain_py (okD_plain ho.1)) (room1 ho.1) (by rw [any_py (okD_plain ho.1) (okL_plain ho.2)]; exact fin)
      · cases e
    · cases e
      simp only [RpT, Rp] at hx hy
      obtain ⟨rfl, _⟩ := hx
      obtain ⟨rfl, _⟩ := hy
      exact op_in_str pins s σ H _ _ v u Q I rx ry ⟨_, _, rfl, rfl, by rw [occ_eq]; exact q⟩
    · split at e
      · rename_i ho
        cases e
        exact dic_in hK (by omega) I hy hx ry rx ho fun s' I' => ⟨.bl _, H, I', rfl, q⟩
      · cases e
    · cases e
  · obtain ⟨c, e', rfl⟩ := Option.map_eq_some_iff.mp e
    clear e
    unfold inD at e'
    split at e'
    · rename_i k xs
      split at e'
      · rename_i ho
        cases e'
        simp only [Bool.and_eq_true] at ho
        obtain ⟨as, r1⟩ := rd hx rx (okD_plain ho.1)
        obtain ⟨bs, r2⟩ := rd hy ry (by simp only [plainD]; exact okL_plain ho.2)
        simp only [toPy] at r2
        exact SeqAt.notIn_tuple_data r2 r1 (plain_pyL (okL_plain ho.2)) (plain_py (okD_plain ho.1)) (room1 ho.1) (by rw [any_py (okD_plain ho.1) (okL_plain ho.2)]; exact fin)
      · cases e'
    · rename_i k xs
      split at e'
      · rename_i ho
        cases e'
        simp only [Bool.and_eq_true] at ho
        obtain ⟨as, r1⟩ := rd hx rx (okD_plain ho.1)
        obtain ⟨bs, r2⟩ := rd hy ry (by simp only [plainD]; exact okL_plain ho.2)
        simp only [toPy] at r2
        exact SeqAt.notIn_list_data r2 r1 (plain_pyL (okL_plain ho.2)) (plain_py (okD_plain ho.1)) (room1 ho.1) (by rw [any_py (okD_plain ho.1) (okL_plain ho.2)]; exact fin)
      · cases e'
    · cases e'
      simp only [RpT, Rp] at hx hy
      obtain ⟨rfl, _⟩ := hx
      obtain ⟨rfl, _⟩ := hy
      exact op_notin_str pins s σ H _ _ v u Q I rx ry ⟨_, _, rfl, rfl, by rw [occ_eq]; exact q⟩
    · split at e'
      · rename_i ho
        cases e'
        exact dic_notIn hK (by omega) I hy hx ry rx ho fun s' I' => ⟨.bl _, H, I', rfl, q⟩
      · cases e'
    · cases e'
end
end EV
end

section
set_option Elab.async false
set_option linter.all false
set_option maxRecDepth 100000
/-! EvG: subscripts, slices, built-in functions. -/
namespace EV
open PySem PySem.Spec PyProof.Rows L2
section
variable {X : Cx} {g : G}
theorem okS_get {x : List Nat} {i c : Nat} (h : okS x = true) (e : x[i]? = some c) : okS [c] = true := by
  simp only [okS, Bool.and_eq_true, decide_eq_true_eq, List.all_eq_true] at h ⊢
  refine ⟨fun d hd => ?_, by show 1 ≤ 16777216; omega⟩
  have : d = c := by simpa using hd
  subst this
  exact h.1 d (List.mem_of_getElem? e)
theorem okS_sub {x y : List Nat} (h : okS x = true) (hs : ∀ c ∈ y, c ∈ x) (hl : y.length ≤ x.length) : okS y = true := by
  simp only [okS, Bool.and_eq_true, decide_eq_true_eq, List.all_eq_true] at h ⊢
  exact ⟨fun d hd => h.1 d (hs d hd), by omega⟩
theorem at_of {α : Type} {xs : List α} {i : Int} {x : α} (h : ((placeOf xs.length i).bind fun n => xs[n]?) = some x) : atI xs i = some x := h
theorem ix_D (hK : X.K = g.K) (hu : X.A.units + 1 < cLine) : IxR X (r2N g ixD) := by
  intro value slice pins s σ H x y v u Q I rx ry h hs
  obtain ⟨T, N, dx, dy, d, hx, hy, e, q⟩ := h
  unfold ixD at e
  split at e
  · rename_i xs i
    simp only [RpT, Rp] at hx hy
    obtain ⟨a, vs, rfl, h1, h2⟩ := hx
    subst hy
    obtain ⟨n, e1, e2⟩ := Option.bind_eq_some_iff.mp e
    obtain ⟨z, e3, e4⟩ := h2.get e2
    exact ix_tup value slice pins s σ H _ _ v u Q I rx ry ⟨a, vs, i, z, rfl, rfl, by rw [hK]; exact h1.sq, (by
      show ((ixN vs.length i).bind fun j => vs[j]?) = some z
      rw [← h2.length, show ixN xs.length i = some n from e1]
      exact e3), q z H (Same.refl H) (e4.mono (fun _ => .inl) Ex.refl)⟩ hs
  · rename_i xs i
    simp only [RpT] at hx hy
    simp only [Rp] at hy
    obtain ⟨a, vs, rfl, _, h1, h2⟩ := hx
    subst hy
    obtain ⟨n, e1, e2⟩ := Option.bind_eq_some_iff.mp e
    obtain ⟨z, e3, e4⟩ := h2.get e2
    exact ix_list value slice pins s σ H _ _ v u Q I rx ry ⟨a, vs, i, z, rfl, rfl, .inl h1, (by
      show ((ixN vs.length i).bind fun j => vs[j]?) = some z
      rw [← h2.length, show ixN xs.length i = some n from e1]
      exact e3), q z H (Same.refl H) (e4.mono (fun _ => .inl) Ex.refl)⟩ hs
  · rename_i xs i
    simp only [RpT, Rp] at hx hy
    obtain ⟨rfl, ox⟩ := hx
    subst hy
    obtain ⟨n, e1, e2⟩ := Option.bind_eq_some_iff.mp e
    obtain ⟨c, e3, rfl⟩ := Option.map_eq_some_iff.mp e2
    exact ix_str value slice pins s σ H _ _ v u Q I rx ry ⟨strL xs, i, c, rfl, rfl, by rw [strL_len, LIM_eq]; exact okS_len ox, (by
      show ((ixN xs.length i).bind fun j => xs[j]?) = some c
      rw [show ixN xs.length i = some n from e1]
      exact e3), q (.str (strL [c])) H (Same.refl H) (Rp_str (okS_get ox e3))⟩ hs
  · rename_i kvs k
    split at e
    · rename_i ho
      have hty : ∃ a, v = .ref a ∧ s.TypeIs (.ref a) "dict" := by
        obtain ⟨a, rfl, _, _, ⟨kv, k', vs, _, _, dd, _⟩ | ⟨kv, ks, b, xs, _, _, _, dd, _⟩⟩ := dic_open hK I hx hy ry ho
        · cases rx; exact ⟨a, rfl, dd.typeIs⟩
        · cases rx; exact ⟨a, rfl, dd.typeIs⟩
      obtain ⟨a, rfl, ty⟩ := hty
      exact tail_any ty PySem.F.slot_dict_getitem.lookup (dic_get hK hu I hx hy rx ry ho e fun z w' s' I' r r' => ⟨z, H, I', r', q z H (Same.refl H) (r.mono (fun _ => .inl) Ex.refl)⟩) hs
    · cases e
  · cases e
/-- a slice by data -/
def rSlD (g : G) : V → Option Int → Option Int → Hp → VK → Prop := fun v lo hi H Q => ∃ (T N : Addr → Prop) (x d : D), RpT g T N H x v ∧ slD x lo hi = some d ∧
  ∀ w H', Same H H' → RpT g (fun a => H a = none) (NN N H) H' d w → Q w H'
theorem cut_eq {α : Type} (xs : List α) (lo hi : Option Int) : cutD xs lo hi = (xs.drop (HT.sIx xs.length 0 lo)).take (HT.sIx xs.length xs.length hi - HT.sIx xs.length 0 lo) := by
  unfold cutD
  have : ∀ n d o, clampD n d o = HT.sIx n d o := fun n d o => by cases o <;> rfl
  rw [this, this]
theorem rps_cut {N : Addr → Prop} {H : Hp} {ds : List D} {vs : List V} (h : Rps g N H ds vs) (lo hi : Option Int) : Rps g N H (cutD ds lo hi) (cutV vs lo hi) := by
  rw [cut_eq]
  unfold cutV
  rw [h.length]
  exact (h.drop _).take _
theorem sl_D (hK : X.K = g.K) : SlR X (rSlD g) := by
  intro pins s σ H x v vl vu lo hi sl Q I rx hs pl pu h
  obtain ⟨T, N, dx, d, hx, e, q⟩ := h
  unfold slD at e
  split at e
  · rename_i xs
    cases e
    simp only [RpT, Rp] at hx
    obtain ⟨a, vs, rfl, h1, h2⟩ := hx
    refine sl_tupA pins s σ H _ v vl vu lo hi sl Q I rx hs pl pu ⟨a, vs, rfl, by rw [hK]; exact h1.sq, fun hw => ?_, fun _ p hp => ?_⟩
    · have e0 : cutD xs lo hi = xs := by
        rw [cut_eq, h2.length, hw.1, hw.2, ← h2.length]
        simp
      rw [e0] at q
      exact q _ H (Same.refl H) (by simp only [RpT, Rp]; exact ⟨a, vs, rfl, h1, h2.mono (fun _ => .inl) Ex.refl⟩)
    · exact q _ _ (sameNew hp) (by simp only [RpT, Rp]; exact ⟨p, _, rfl, Or.inl upd_same, (rps_cut h2 lo hi).mono (fun _ => .inl) (sameEx (sameNew hp))⟩)
  · rename_i xs
    cases e
    simp only [RpT] at hx
    obtain ⟨a, vs, rfl, _, h1, h2⟩ := hx
    refine sl_list pins s σ H _ v vl vu lo hi sl Q I rx hs pl pu ⟨a, vs, rfl, .inl h1, fun p hp => ?_⟩
    exact q _ _ (sameNew hp) (by simp only [RpT]; exact ⟨p, _, rfl, hp, .inl upd_same, (rps_cut h2 lo hi).mono (fun _ => .inl) (sameEx (sameNew hp))⟩)
  · rename_i xs
    cases e
    simp only [RpT, Rp] at hx
    obtain ⟨rfl, ox⟩ := hx
    refine sl_str pins s σ H _ v vl vu lo hi sl Q I rx hs pl pu ⟨strL xs, rfl, by rw [strL_len, LIM_eq]; exact okS_len ox, ?_⟩
    have e0 : cutS (strL xs) lo hi = strL (cutD xs lo hi) := by
      rw [cut_eq]
      unfold cutS
      rw [strL_len]
      rfl
    rw [e0]
    refine q _ H (Same.refl H) (Rp_toT (Rp_str (okS_sub ox (fun c hc => ?_) ?_)) trivial)
    · rw [cut_eq] at hc
      exact List.mem_of_mem_drop (List.mem_of_mem_take hc)
    · rw [cut_eq, List.length_take, List.length_drop]
      omega
  · cases e
end
end EV
end

section
set_option Elab.async false
set_option linter.all false
set_option maxRecDepth 100000
/-! EvH: sorting. -/
namespace EV
open PySem PySem.Spec PyProof.Rows L2
section
open PySem.W
variable {α : Type} {le : α → α → Bool}
theorem ins_mem (x z : α) : ∀ l : List α, z ∈ insD le x l ↔ z = x ∨ z ∈ l
  | [] => by simp [insD]
  | y :: ys => by
    unfold insD
    split
    · simp
    · simp only [List.mem_cons, ins_mem x z ys]
      constructor
      · rintro (h | h | h)
        · exact .inr (.inl h)
        · exact .inl h
        · exact .inr (.inr h)
      · rintro (h | h | h)
        · exact .inr (.inl h)
        · exact .inl h
        · exact .inr (.inr h)
theorem ins_sorted (h : TotalLe le) (x : α) : ∀ l : List α, l.Pairwise (fun a b => le a b = true) → (insD le x l).Pairwise (fun a b => le a b = true)
  | [], _ => by simp [insD]
  | y :: ys, p => by
    unfold insD
    cases e : le x y with
    | true =>
      simp only [if_true]
      refine List.pairwise_cons.mpr ⟨fun z hz => ?_, p⟩
      rcases List.mem_cons.mp hz with rfl | hz
      · exact e
      · exact h.trans _ _ _ e ((List.pairwise_cons.mp p).1 z hz)
    | false =>
      simp only [Bool.false_eq_true, if_false]
      refine List.pairwise_cons.mpr ⟨fun z hz => ?_, ins_sorted h x ys (List.pairwise_cons.mp p).2⟩
      rcases (ins_mem x z ys).mp hz with rfl | hz
      · exact (h.total y z).resolve_right (by rw [e]; exact Bool.false_ne_true)
      · exact (List.pairwise_cons.mp p).1 z hz
theorem ins_filter (h : TotalLe le) (c x : α) : ∀ l : List α, l.Pairwise (fun a b => le a b = true) → (insD le x l).filter (sameRank le c) = (x :: l).filter (sameRank le c)
  | [], _ => by simp [insD]
  | y :: ys, p => by
    unfold insD
    cases e : le x y with
    | true => simp only [if_true]
    | false =>
      simp only [Bool.false_eq_true, if_false]
      rw [List.filter_cons, ins_filter h c x ys (List.pairwise_cons.mp p).2]
      by_cases hx : sameRank le c x = true
      · have hy : sameRank le c y = false := by
          cases q : sameRank le c y with
          | false => rfl
          | true =>
            exfalso
            unfold sameRank at hx q
            simp only [Bool.and_eq_true] at hx q
            have := h.trans x c y hx.2 q.1
            rw [e] at this; cases this
        rw [hy]
        simp only [Bool.false_eq_true, if_false, List.filter_cons, hx, if_true, hy]
      · have hx' : sameRank le c x = false := by simpa using hx
        simp only [List.filter_cons, hx', Bool.false_eq_true, if_false]
theorem sort_sorted (h : TotalLe le) : ∀ l : List α, (sortD le l).Pairwise (fun a b => le a b = true)
  | [] => by simp [sortD]
  | x :: xs => by
    unfold sortD
    exact ins_sorted h x _ (sort_sorted h xs)
theorem sort_filter (h : TotalLe le) (c : α) : ∀ l : List α, (sortD le l).filter (sameRank le c) = l.filter (sameRank le c)
  | [] => by simp [sortD]
  | x :: xs => by
    unfold sortD
    rw [ins_filter h c x _ (sort_sorted h xs), List.filter_cons, List.filter_cons, sort_filter h c xs]
theorem sort_merge (h : TotalLe le) (l : List α) : sortD le l = l.mergeSort le :=
  sort_unique h (sort_sorted h l) fun c => sort_filter h c l
theorem sort_mem (z : α) : ∀ l : List α, z ∈ sortD le l ↔ z ∈ l
  | [] => by simp [sortD]
  | x :: xs => by
    unfold sortD
    rw [ins_mem, List.mem_cons, sort_mem z xs]
theorem ins_congr {le' : α → α → Bool} (x : α) : ∀ l : List α, (∀ y ∈ l, le x y = le' x y) → insD le x l = insD le' x l
  | [], _ => rfl
  | y :: ys, h => by
    unfold insD
    rw [h y (List.mem_cons_self ..), ins_congr x ys fun z hz => h z (List.mem_cons_of_mem _ hz)]
theorem sort_congr' {le' : α → α → Bool} : ∀ l : List α, (∀ x ∈ l, ∀ y ∈ l, le x y = le' x y) → sortD le l = sortD le' l
  | [], _ => rfl
  | x :: xs, h => by
    unfold sortD
    rw [sort_congr' xs fun a ha b hb => h a (List.mem_cons_of_mem _ ha) b (List.mem_cons_of_mem _ hb)]
    exact ins_congr x _ fun y hy => h x (List.mem_cons_self ..) y (List.mem_cons_of_mem _ ((sort_mem y xs).mp hy))
end
open PySem.W in
theorem total_py : TotalLe (dataLe false toPy) := sortLe_total _ false _

section
open PySem.W
variable {prog : Program} {w : World} {A : Around} {E : Value → Shared → Prop} {s : Shared} {β : Type} {vs : List Value} {bs : List β} {enc : β → PyData} {R : Value → β → Prop}
theorem sorted_seq {a : Addr} {T : String} {o : Obj} {n : Nat} {Q : Value → Shared → Prop} (hT : T = "list" ∨ T = "tuple") (ho : s.heap.get? a = some o) (hc : o.cls = .type T) (hd : o.data = .seq vs.toArray n)
    (e : EachIs R vs bs) (er : EachIs (fun v b => ∃ as, Reads s.heap v (enc b) as) vs bs) (hal : AllAlike (bs.map enc)) (hk : Sortable (bs.map enc)) (hL : bs.length ≤ sizeLine) (hu : ∀ b, b ∈ bs → A.units + 2 + (enc b).depth < cLine)
    (h : ∀ (h1 h' : Heap) (p : Addr) (out : List Value) (n' : Nat), (∀ b o, s.heap.get? b = some o → h1.get? b = some o) → (∀ b o, h1.get? b = some o → h'.get? b = some o) → h1.objs.size ≤ p → h'.get? p = some (seqObj "list" (List.toArray out) n') → out.length = bs.length → EachIs R out (bs.mergeSort (dataLe false enc)) → Q (.ref p) { s with heap := h' }) :
    wpAny (model prog w) A (call (.builtin "sorted") [.ref a]) Q E s := by
  have hLv : vs.length ≤ sizeLine := by rw [e.length]; exact hL
  refine call_function_entry_kw kind_sorted plain_sorted entry_sorted (args_sorted1 _) ?_
  unfold Builtin.«sorted»
  refine wpAny_bind (m := checkCount "sorted" 1 1 _) (wpAny_pure ?_)
  refine wpAny_bind (wpAny_collect_seq a hT ho hc hd (fun h1 k1 => ?_) (by simpa using hLv))
  refine wpAny_bind (wpAny_newList ?_ (by simpa using hLv))
  have hat : (h1.push (seqObj "list" vs.toArray 0)).get? h1.objs.size = some (seqObj "list" vs.toArray 0) := Heap.get?_push_size _ rfl
  have k3 : ∀ b ob, h1.get? b = some ob → (h1.push (seqObj "list" vs.toArray 0)).get? b = some ob := fun b ob q => Heap.get?_push_of_some _ q
  have ne3 : ∀ b ob, h1.get? b = some ob → b ≠ h1.objs.size := fun b ob q => Nat.ne_of_lt (Heap.lt_size q)
  show wpAny _ _ _ _ _ { s with heap := h1.push (seqObj "list" vs.toArray 0) }
  refine wpAny_bind (wpAny_holding (wpAny_call_entry_kw slot_list_sort ⟨_, hat, rfl⟩ entry_list_sort ?body (args_list_sort _)))
  case body =>
    have er' : EachIs (fun v b => ∃ as, Reads (sortingHeap (h1.push (seqObj "list" vs.toArray 0)) h1.objs.size vs) v (enc b) as) vs bs := er.mono fun _ _ ⟨as, r⟩ => ⟨as, PyProof.Rows.Reads.keeps (fun b ob q => sortingHeap_old (ne3 b ob (k1 b ob q)) (k3 b ob (k1 b ob q))) r⟩
    show wpAny (model prog w) A.in1.in1 (Builtin.«list.sort» ⟨[.ref h1.objs.size], []⟩) _ _ _
    refine list_sort_vals (κ := dataKind (sortingHeap (h1.push (seqObj "list" vs.toArray 0)) h1.objs.size vs) (bs.map enc)) hat (SortsAt.data (s := { s with heap := sortingHeap (h1.push (seqObj "list" vs.toArray 0)) h1.objs.size vs }) (each_map (R := fun v d => ∃ as, Reads (sortingHeap (h1.push (seqObj "list" vs.toArray 0)) h1.objs.size vs) v d as) enc er') hal hk (bound_map hu)) hLv ?_
    refine ⟨_, rfl, wpAny_pure ⟨_, rfl, ?_⟩⟩
    obtain ⟨c, hcc⟩ := sortedHeap_at (out := List.toArray (sortVals (dataKind (sortingHeap (h1.push (seqObj "list" vs.toArray 0)) h1.objs.size vs) (bs.map enc)) false vs vs)) (vs := vs) hat
    refine h h1 _ h1.objs.size _ c k1 (fun b ob q => ?_) (Nat.le_refl _) hcc (by rw [sortVals_length false rfl]; exact e.length) (sortVals_data false e er' hal)
    rw [sortedHeap_old (ne3 b ob q) (Heap.lt_size (k3 b ob q))]
    exact k3 b ob q
end
end EV
end

section
set_option Elab.async false
set_option linter.all false
set_option maxRecDepth 100000
/-! EvI: built-in functions, by data. -/
namespace EV
open PySem PySem.Spec PyProof.Rows L2
def RpL (g : G) (T N : Addr → Prop) (H : Hp) : List D → List V → Prop
  | [], vs => vs = []
  | d :: ds, vs => ∃ v r, vs = v :: r ∧ RpT g T N H d v ∧ RpL g T N H ds r
/-- a built-in call by data -/
def rBi (g : G) (b : Bi) : List V → Hp → VK → Prop := fun vs H Q => ∃ (T N : Addr → Prop) (ds : List D) (d : D), RpL g T N H ds vs ∧ biD g.kt b ds = some d ∧
  ∀ w H', Same H H' → RpT g (fun a => H a = none) (NN N H) H' d w → Q w H'
section
variable {X : Cx} {g : G} {T N : Addr → Prop} {H : Hp}
theorem rpl1 {d : D} {vs : List V} (h : RpL g T N H [d] vs) : ∃ v, vs = [v] ∧ RpT g T N H d v := by
  simp only [RpL] at h
  obtain ⟨v, r, rfl, h1, rfl⟩ := h
  exact ⟨v, rfl, h1⟩
theorem rpl2 {d e : D} {vs : List V} (h : RpL g T N H [d, e] vs) : ∃ v u, vs = [v, u] ∧ RpT g T N H d v ∧ RpT g T N H e u := by
  simp only [RpL] at h
  obtain ⟨v, r, rfl, h1, u, r', rfl, h2, rfl⟩ := h
  exact ⟨v, u, rfl, h1, h2⟩
theorem rpT_int {T' : Addr → Prop} (i : Int) : RpT g T' N H (.int i) (.int i) := by simp only [RpT, Rp]
theorem rpT_bl {T' : Addr → Prop} (i : Bool) : RpT g T' N H (.bl i) (.bl i) := by simp only [RpT, Rp]
/-- the items of a list or a tuple -/
theorem items_of' {d : D} {v : V} {xs : List D} (h : RpT g T N H d v) (e : itemsD d = some xs) : ∃ a vs, v = .ref a ∧ Rps g N H xs vs ∧ ((d = .lst xs ∧ Rd H a (.lst vs)) ∨ (d = .tup xs ∧ Tp g H xs a vs)) := by
  cases d <;> simp only [itemsD] at e <;> try (cases e; done)
  · cases e
    simp only [RpT, Rp] at h
    obtain ⟨a, vs, rfl, h1, h2⟩ := h
    exact ⟨a, vs, rfl, h2, .inr ⟨rfl, h1⟩⟩
  · cases e
    simp only [RpT] at h
    obtain ⟨a, vs, rfl, _, h1, h2⟩ := h
    exact ⟨a, vs, rfl, h2, .inl ⟨rfl, h1⟩⟩
theorem ints_plain : ∀ {xs : List D} {is : List Int}, allInts xs = some is → plainL xs = true ∧ toPyL xs = is.map PyData.int ∧ depL xs = 0
  | [], is, e => by simp only [allInts] at e; cases e; exact ⟨rfl, rfl, rfl⟩
  | d :: ds, is, e => by
    cases d <;> simp only [allInts] at e <;> try (cases e; done)
    obtain ⟨js, e1, rfl⟩ := Option.map_eq_some_iff.mp e
    obtain ⟨h1, h2, h3⟩ := ints_plain e1
    exact ⟨by simp only [plainL, plainD, h1, Bool.and_self], by simp only [toPyL, toPy, h2, List.map_cons], by simp only [depL, depD, h3, Nat.max_self]⟩
variable {pins : List (Addr × Obj)} {σ : L2.St} {s : Shared}
/-- .. as the library reads them -/
theorem reads_items (hK : X.K = g.K) (I : Inv X pins σ H s) {d : D} {v : V} {u : Value} {xs : List D} (h : RpT g T N H d v) (ru : RelV v u) (e : itemsD d = some xs) (hp : plainL xs = true) :
    ∃ a its as, u = .ref a ∧ ReadsAll s.heap its (toPyL xs) as ∧ ((d = .lst xs ∧ s.heap.IsList a its.toArray) ∨ (d = .tup xs ∧ s.heap.IsTuple a its.toArray)) ∧ its.length ≤ sizeLine := by
  obtain ⟨a, vs, rfl, h2, h1⟩ := items_of' h e
  cases ru
  rcases h1 with ⟨rfl, h1⟩ | ⟨rfl, h1⟩
  · obtain ⟨z, its, n, r, hl, ho⟩ := rd_lstM I h1
    have dp := h2.dp hp
    rw [← hK] at dp
    obtain ⟨as, ra⟩ := Dp.readsAll I _ _ _ dp r
    exact ⟨a, its, as, rfl, ra, .inl ⟨rfl, _, ho, rfl, _, rfl⟩, by omega⟩
  · have q : SqT X.K H a vs := by rw [hK]; exact h1.sq
    obtain ⟨its, r, it, z⟩ := I.tuple q
    have dp := h2.dp hp
    rw [← hK] at dp
    obtain ⟨as, ra⟩ := Dp.readsAll I _ _ _ dp r
    have := r.length
    exact ⟨a, its, as, rfl, ra, .inr ⟨rfl, it⟩, by omega⟩
end
section
variable {X : Cx} {g : G}
theorem ref1 {a : Addr} {us : List Value} (r : Vals [.ref a] us) : us = [.ref a] := by
  obtain ⟨u, rfl, ru⟩ := vals1 r
  cases ru; rfl
theorem cb_len (hK : X.K = g.K) : CallR X (.builtin "len") (rBi g .len) := by
  intro pins s σ H xs us Q I r h
  obtain ⟨T, N, ds, d, hd, e, q⟩ := h
  simp only [biD] at e
  unfold lenF at e
  split at e
  · cases e
    obtain ⟨v, rfl, hv⟩ := rpl1 hd
    simp only [RpT, Rp] at hv
    obtain ⟨a, vs, rfl, h1, h2⟩ := hv
    exact call_len pins s σ H _ us Q I r ⟨_, vs.length, rfl, .inr ⟨vs, by rw [hK]; exact h1.sq, rfl⟩, by rw [← h2.length]; exact q _ H (Same.refl H) (rpT_int _)⟩
  · cases e
    obtain ⟨v, rfl, hv⟩ := rpl1 hd
    simp only [RpT] at hv
    obtain ⟨a, vs, rfl, _, h1, h2⟩ := hv
    exact call_len pins s σ H _ us Q I r ⟨_, vs.length, rfl, .inl ⟨vs, .inl h1, rfl⟩, by rw [← h2.length]; exact q _ H (Same.refl H) (rpT_int _)⟩
  · cases e
    obtain ⟨v, rfl, hv⟩ := rpl1 hd
    simp only [RpT, Rp] at hv
    obtain ⟨rfl, ox⟩ := hv
    exact call_len pins s σ H _ us Q I r ⟨_, _, rfl, ⟨by rw [strL_len, LIM_eq]; exact okS_len ox, (strL_len _).symm⟩, q _ H (Same.refl H) (rpT_int _)⟩
  · cases e
    obtain ⟨v, rfl, hv⟩ := rpl1 hd
    simp only [RpT] at hv
    obtain ⟨a, rfl, _, ⟨kv, h1, h2, h3⟩ | ⟨kv, h1, h2, h3⟩⟩ := hv
    · have el := (congrArg List.length h2).symm
      rw [List.length_map, List.length_map] at el
      rw [ref1 r]
      exact d_len I h1 fun t s' I' => ⟨.int _, H, I', ⟨t, rfl⟩, by rw [el]; exact q _ H (Same.refl H) (rpT_int _)⟩
    · have el := (congrArg List.length h2).symm
      rw [List.length_map, List.length_map] at el
      rw [ref1 r]
      obtain ⟨z, sm, xs, rel, dd⟩ := dt_rd I.hok h1
      have hl : kv.length = xs.length := Paired.length rel
      refine call_len_dictH sm dd (by rw [sizeLine_eq] at z; omega) ?_
      rw [← hl, el]
      exact ⟨.int _, H, I.tok _, ⟨_, rfl⟩, q _ H (Same.refl H) (rpT_int _)⟩
  · cases e
theorem cb_tuple (hK : X.K = g.K) : CallR X (.type "tuple") (rBi g .tuple) := by
  intro pins s σ H xs us Q I r h
  obtain ⟨T, N, ds, d, hd, e, q⟩ := h
  simp only [biD] at e
  unfold tupleF at e
  split at e
  · obtain ⟨ys, e1, rfl⟩ := Option.map_eq_some_iff.mp e
    obtain ⟨v, rfl, hv⟩ := rpl1 hd
    obtain ⟨a, vs, rfl, h2, ⟨rfl, h1⟩ | ⟨rfl, h1⟩⟩ := items_of' hv e1
    · refine call_tuple_of pins s σ H _ us Q I r ⟨a, vs, rfl, .inl ⟨.inl h1, fun p hp => ?_⟩⟩
      exact q _ _ (sameNew hp) (by simp only [RpT, Rp]; exact ⟨p, _, rfl, Or.inl upd_same, h2.mono (fun _ => .inl) (sameEx (sameNew hp))⟩)
    · refine call_tuple_of pins s σ H _ us Q I r ⟨a, vs, rfl, .inr ⟨by rw [hK]; exact h1.sq, ?_⟩⟩
      exact q _ H (Same.refl H) (by simp only [RpT, Rp]; exact ⟨a, vs, rfl, h1, h2.mono (fun _ => .inl) Ex.refl⟩)
  · cases e
theorem cb_list (hK : X.K = g.K) : CallR X (.type "list") (rBi g .list) := by
  intro pins s σ H xs us Q I r h
  obtain ⟨T, N, ds, d, hd, e, q⟩ := h
  simp only [biD] at e
  unfold listF at e
  split at e
  · obtain ⟨ys, e1, rfl⟩ := Option.map_eq_some_iff.mp e
    obtain ⟨v, rfl, hv⟩ := rpl1 hd
    obtain ⟨a, vs, rfl, h2, h1⟩ := items_of' hv e1
    refine call_list_of pins s σ H _ us Q I r ⟨a, vs, rfl, ?_, fun p hp => ?_⟩
    · rcases h1 with ⟨_, h1⟩ | ⟨_, h1⟩
      · exact .inl (.inl h1)
      · exact .inr (by rw [hK]; exact h1.sq)
    · exact q _ _ (sameNew hp) (by simp only [RpT]; exact ⟨p, _, rfl, hp, .inl upd_same, h2.mono (fun _ => .inl) (sameEx (sameNew hp))⟩)
  · cases e
theorem cb_all (hK : X.K = g.K) (hc : X.calm = true) : CallR X (.builtin "all") (rBi g .all) := by
  intro pins s σ H xs us Q I r h
  obtain ⟨T, N, ds, d, hd, e, q⟩ := h
  simp only [biD] at e
  unfold allF at e
  split at e
  · obtain ⟨bs, e1, rfl⟩ := Option.map_eq_some_iff.mp e
    obtain ⟨v, rfl, hv⟩ := rpl1 hd
    simp only [RpT] at hv
    obtain ⟨a, vs, rfl, _, h1, h2⟩ := hv
    rw [h2.bools e1] at h1
    exact cr_all hc pins s σ H _ us Q I r ⟨a, bs, rfl, .inl h1, q _ H (Same.refl H) (rpT_bl _)⟩
  · cases e
theorem cb_any (hK : X.K = g.K) (hc : X.calm = true) : CallR X (.builtin "any") (rBi g .any) := by
  intro pins s σ H xs us Q I r h
  obtain ⟨T, N, ds, d, hd, e, q⟩ := h
  simp only [biD] at e
  unfold anyF at e
  split at e
  · obtain ⟨bs, e1, rfl⟩ := Option.map_eq_some_iff.mp e
    obtain ⟨v, rfl, hv⟩ := rpl1 hd
    simp only [RpT] at hv
    obtain ⟨a, vs, rfl, _, h1, h2⟩ := hv
    rw [h2.bools e1] at h1
    exact cr_any hc pins s σ H _ us Q I r ⟨a, bs, rfl, .inl h1, q _ H (Same.refl H) (rpT_bl _)⟩
  · cases e
theorem cb_sum (hK : X.K = g.K) (hc : X.calm = true) : CallR X (.builtin "sum") (rBi g .sum) := by
  intro pins s σ H xs us Q I r h
  obtain ⟨T, N, ds, d, hd, e, q⟩ := h
  simp only [biD] at e
  unfold sumF at e
  split at e
  · obtain ⟨ys, e1, e⟩ := Option.bind_eq_some_iff.mp e
    obtain ⟨is, e2, rfl⟩ := Option.map_eq_some_iff.mp e
    obtain ⟨v, rfl, hv⟩ := rpl1 hd
    obtain ⟨a, vs, rfl, h2, ⟨rfl, h1⟩ | ⟨rfl, h1⟩⟩ := items_of' hv e1
    · rw [h2.ints e2] at h1
      exact cr_sum hc pins s σ H _ us Q I r ⟨a, is, rfl, .inl h1, q _ H (Same.refl H) (rpT_int _)⟩
    · rw [h2.ints e2] at h1
      have sq : SqT X.K H a (is.map V.int) := by rw [hK]; exact h1.sq
      obtain ⟨its, rv, it, z⟩ := I.tuple sq
      have hi : IntsAre its is := intsAre_of rv
      obtain ⟨ys, hx⟩ := hi.allInts.items
      have hn : numsOf its.toArray.toList = is := by rw [show its.toArray.toList = its from rfl, hi.numsOf]
      have it' : s.heap.IsTuple a its.toArray := it
      rw [hx] at it' hn
      rw [nums_intItems] at hn
      rw [ref1 r]
      refine PySem.W.ktm_sumG (I.ok.hd hc) it' fun h' tk t' k => ⟨.int is.sum, H, I.kept k, ⟨t', ?_⟩, q _ H (Same.refl H) (rpT_int _)⟩
      rw [preSum_eq, List.take_of_length_le (by simp), hn]
  · cases e
theorem cb_max (hK : X.K = g.K) (hc : X.calm = true) (hu : X.A.units + 200 < cLine) : CallR X (.builtin "max") (rBi g .max) := by
  intro pins s σ H xs us Q I r h
  obtain ⟨T, N, ds, d, hd, e, q⟩ := h
  simp only [biD] at e
  unfold maxF at e
  split at e
  · obtain ⟨ys, e1, e⟩ := Option.bind_eq_some_iff.mp e
    obtain ⟨is, e2, e⟩ := Option.bind_eq_some_iff.mp e
    obtain ⟨v, rfl, hv⟩ := rpl1 hd
    obtain ⟨u, rfl, ru⟩ := vals1 r
    obtain ⟨hp, hy, hdp⟩ := ints_plain e2
    obtain ⟨a, its, as, rfl, ra, hl, _⟩ := reads_items hK I hv ru e1 hp
    cases is with
    | nil => simp only [maxL] at e; cases e
    | cons i is =>
      simp only [maxL] at e
      cases e
      have hy' : toPyL ys = PyData.int i :: is.map PyData.int := hy
      rw [hy'] at ra
      have al : PySem.W.AlikeAll (PyData.int i :: is.map PyData.int) := by
        refine ⟨fun x hx y hy => ?_, fun x hx => ?_⟩
        · obtain ⟨m, rfl⟩ : ∃ m, x = PyData.int m := by rcases List.mem_cons.mp hx with h | h; exact ⟨_, h⟩; obtain ⟨m, _, rfl⟩ := List.mem_map.mp h; exact ⟨m, rfl⟩
          obtain ⟨k, rfl⟩ : ∃ m, y = PyData.int m := by rcases List.mem_cons.mp hy with h | h; exact ⟨_, h⟩; obtain ⟨m, _, rfl⟩ := List.mem_map.mp h; exact ⟨m, rfl⟩
          rfl
        · obtain ⟨m, rfl⟩ : ∃ m, x = PyData.int m := by rcases List.mem_cons.mp hx with h | h; exact ⟨_, h⟩; obtain ⟨m, _, rfl⟩ := List.mem_map.mp h; exact ⟨m, rfl⟩
          intro z; cases z
      have dp : X.A.units + 1 + PyData.depthAll (PyData.int i :: is.map PyData.int) < cLine := by
        have := PySem.W.depth_ints (i :: is)
        rw [List.map_cons] at this
        rw [this]; omega
      have fin : ∀ (h' : Heap) (tk : Nat) (v : Value) bs, Reads h' v (PySem.W.maxD (PyData.int i) (is.map .int)) bs → (∀ b o, s.heap.get? b = some o → h'.get? b = some o) → EP X pins σ Q v { s with heap := h', toks := tk } := fun h' tk v bs r k => by
        rw [PySem.W.maxD_ints] at r
        cases r
        exact ⟨.int _, H, I.kept k, ⟨_, rfl⟩, q _ H (Same.refl H) (rpT_int _)⟩
      rcases hl with ⟨_, hl⟩ | ⟨_, hl⟩
      · exact PySem.W.max_list_data (I.ok.hd hc) hl ra al dp fun _ v h' tk bs _ r k => fin h' tk v bs r k
      · exact PySem.W.max_tuple_data (I.ok.hd hc) hl ra al dp fun _ v h' tk bs _ r k => fin h' tk v bs r k
  · cases e
    obtain ⟨v, u, rfl, h1, h2⟩ := rpl2 hd
    simp only [RpT, Rp] at h1 h2
    subst h1 h2
    exact call_max2 hc pins s σ H _ us Q I r ⟨_, _, rfl, q _ H (Same.refl H) (by simp only [RpT, Rp, gt_iff_lt])⟩
  · cases e
theorem cb_min (hK : X.K = g.K) (hc : X.calm = true) (hu : X.A.units + 200 < cLine) : CallR X (.builtin "min") (rBi g .min) := by
  intro pins s σ H xs us Q I r h
  obtain ⟨T, N, ds, d, hd, e, q⟩ := h
  simp only [biD] at e
  unfold minF at e
  split at e
  · obtain ⟨ys, e1, e⟩ := Option.bind_eq_some_iff.mp e
    obtain ⟨is, e2, e⟩ := Option.bind_eq_some_iff.mp e
    obtain ⟨v, rfl, hv⟩ := rpl1 hd
    obtain ⟨u, rfl, ru⟩ := vals1 r
    obtain ⟨hp, hy, hdp⟩ := ints_plain e2
    obtain ⟨a, its, as, rfl, ra, hl, _⟩ := reads_items hK I hv ru e1 hp
    cases is with
    | nil => simp only [minL] at e; cases e
    | cons i is =>
      simp only [minL] at e
      cases e
      have hy' : toPyL ys = PyData.int i :: is.map PyData.int := hy
      rw [hy'] at ra
      have al : PySem.W.AlikeAll (PyData.int i :: is.map PyData.int) := by
        refine ⟨fun x hx y hy => ?_, fun x hx => ?_⟩
        · obtain ⟨m, rfl⟩ : ∃ m, x = PyData.int m := by rcases List.mem_cons.mp hx with h | h; exact ⟨_, h⟩; obtain ⟨m, _, rfl⟩ := List.mem_map.mp h; exact ⟨m, rfl⟩
          obtain ⟨k, rfl⟩ : ∃ m, y = PyData.int m := by rcases List.mem_cons.mp hy with h | h; exact ⟨_, h⟩; obtain ⟨m, _, rfl⟩ := List.mem_map.mp h; exact ⟨m, rfl⟩
          rfl
        · obtain ⟨m, rfl⟩ : ∃ m, x = PyData.int m := by rcases List.mem_cons.mp hx with h | h; exact ⟨_, h⟩; obtain ⟨m, _, rfl⟩ := List.mem_map.mp h; exact ⟨m, rfl⟩
          intro z; cases z
      have dp : X.A.units + 1 + PyData.depthAll (PyData.int i :: is.map PyData.int) < cLine := by
        have := PySem.W.depth_ints (i :: is)
        rw [List.map_cons] at this
        rw [this]; omega
      have fin : ∀ (h' : Heap) (tk : Nat) (v : Value) bs, Reads h' v (PySem.W.minD (PyData.int i) (is.map .int)) bs → (∀ b o, s.heap.get? b = some o → h'.get? b = some o) → EP X pins σ Q v { s with heap := h', toks := tk } := fun h' tk v bs r k => by
        rw [PySem.W.minD_ints] at r
        cases r
        exact ⟨.int _, H, I.kept k, ⟨_, rfl⟩, q _ H (Same.refl H) (rpT_int _)⟩
      rcases hl with ⟨_, hl⟩ | ⟨_, hl⟩
      · exact PySem.W.min_list_data (I.ok.hd hc) hl ra al dp fun _ v h' tk bs _ r k => fin h' tk v bs r k
      · exact PySem.W.min_tuple_data (I.ok.hd hc) hl ra al dp fun _ v h' tk bs _ r k => fin h' tk v bs r k
  · cases e
    obtain ⟨v, u, rfl, h1, h2⟩ := rpl2 hd
    simp only [RpT, Rp] at h1 h2
    subst h1 h2
    exact call_min2 hc pins s σ H _ us Q I r ⟨_, _, rfl, q _ H (Same.refl H) (by simp only [RpT, Rp])⟩
  · cases e
theorem cb_abs : CallR X (.builtin "abs") (rBi g .abs) := by
  intro pins s σ H xs us Q I r h
  obtain ⟨T, N, ds, d, hd, e, q⟩ := h
  simp only [biD] at e
  unfold absF at e
  split at e
  · rename_i i
    cases e
    obtain ⟨v, rfl, hv⟩ := rpl1 hd
    simp only [RpT, Rp] at hv
    subst hv
    refine call_abs pins s σ H _ us Q I r ⟨_, rfl, ?_⟩
    have e0 : (if i < 0 then -i else i) = (i.natAbs : Int) := by split <;> omega
    rw [e0]
    exact q _ H (Same.refl H) (rpT_int _)
  · cases e
theorem cb_int : CallR X (.type "int") (rBi g .int) := by
  intro pins s σ H xs us Q I r h
  obtain ⟨T, N, ds, d, hd, e, q⟩ := h
  simp only [biD] at e
  unfold intF at e
  split at e
  · cases e
    obtain ⟨v, rfl, hv⟩ := rpl1 hd
    simp only [RpT, Rp] at hv
    subst hv
    exact call_int1 pins s σ H _ us Q I r (.inl ⟨_, rfl, q _ H (Same.refl H) (rpT_int _)⟩)
  · cases e

theorem cb_str : CallR X (.type "str") (rBi g .str) := by
  intro pins s σ H xs us Q I r h
  obtain ⟨T, N, ds, d, hd, e, q⟩ := h
  simp only [biD] at e
  unfold strF at e
  split at e
  · rename_i i
    split at e
    · rename_i hz
      cases e
      simp only [Bool.and_eq_true, decide_eq_true_eq] at hz
      obtain ⟨hz, hok⟩ := hz
      obtain ⟨v, rfl, hv⟩ := rpl1 hd
      simp only [RpT, Rp] at hv
      subst hv
      refine call_str_int pins s σ H _ us Q I r ⟨_, rfl, ?_, ?_⟩
      · by_cases h0 : i.natAbs = 0
        · rw [h0]; decide
        · exact Nat.lt_trans ((Nat.log2_lt h0).mpr (Nat.lt_trans hz (by decide : 10000000000 < 2 ^ 40))) (by decide)
      · have e0 : ((toString i : String) : Str) = strL (strI i) := by
          show Str.ofString _ = _
          rw [Str.ofString_eq_toList]
          rfl
        rw [e0]
        exact q _ H (Same.refl H) (Rp_toT (Rp_str hok) trivial)
    · cases e
  · cases e
    obtain ⟨v, rfl, hv⟩ := rpl1 hd
    simp only [RpT, Rp] at hv
    obtain ⟨rfl, ox⟩ := hv
    obtain ⟨u, rfl, t, rfl⟩ := vals1 r
    exact PySem.P.str_of_str ⟨.str _, H, I, ⟨t, rfl⟩, q _ H (Same.refl H) (Rp_toT (Rp_str ox) trivial)⟩
  · cases e
/-- isinstance(x, T) -/
def tyN : Ty → String
  | .int => "int" | .bool => "bool" | .str => "str" | .tuple => "tuple" | .list => "list"
def rIsT (g : G) (t : Ty) : List V → Hp → VK → Prop := fun vs H Q => ∃ (T N : Addr → Prop) (d : D) (b : Bool) (v : V), vs = [v, .ty (tyN t)] ∧ RpT g T N H d v ∧ isTy t d = some b ∧ Q (.bl b) H
theorem cb_isT (hK : X.K = g.K) (t : Ty) : CallR X (.builtin "isinstance") (rIsT g t) := by
  intro pins s σ H xs us Q I r h
  obtain ⟨T, N, d, b, v, rfl, hd, e, q⟩ := h
  obtain ⟨u1, u2, rfl, r1, r2⟩ := vals2 r
  have e2 : u2 = .type (tyN t) := r2
  subst e2
  have fin : ∀ {c : Bool}, c = b → ∀ tk, EP X pins σ Q (.bool c) { s with toks := tk } := fun {c} e tk => by
    subst e
    exact ⟨.bl _, H, I.tok _, rfl, q⟩
  have sc : ∀ {p : PyData} {as : List Addr}, Reads s.heap u1 p as → p = toPy d → (match d with | .tup _ => False | .lst _ => False | .fn _ => False | .dic _ => False | _ => True) → wpAny (model X.prog X.w) X.A (call (.builtin "isinstance") [u1, .type (tyN t)]) (EP X pins σ Q) X.xe s := fun {p as} ra hp hd => by
    subst hp
    cases t <;> cases d <;> simp only [isTy, Option.some.injEq] at e <;> simp only [toPy] at ra <;> first
      | exact hd.elim
      | exact PySem.W.isinstance_int_data ra fun tk _ => fin e tk
      | exact PySem.W.isinstance_bool_data ra fun tk _ => fin e tk
      | exact PySem.W.isinstance_str_data ra fun tk _ => fin e tk
      | exact PySem.W.isinstance_tuple_data ra fun tk _ => fin e tk
      | exact PySem.W.isinstance_list_data ra fun tk _ => fin e tk
  cases d with
  | tup ds =>
    simp only [RpT, Rp] at hd
    obtain ⟨a, vs, rfl, h1, h2⟩ := hd
    cases r1
    have sq : SqT X.K H a vs := by rw [hK]; exact h1.sq
    obtain ⟨its, rv, ⟨o, ho, hc, _⟩, z⟩ := I.tuple sq
    cases t <;> simp only [isTy, Option.some.injEq] at e
    · exact IsiPair.tuple_int ho hc (fin e _)
    · exact IsiPair.tuple_bool ho hc (fin e _)
    · exact IsiPair.tuple_str ho hc (fin e _)
    · exact IsiPair.tuple_tuple ho hc (fin e s.toks)
    · exact IsiPair.tuple_list ho hc (fin e _)
  | lst ds =>
    simp only [RpT] at hd
    obtain ⟨a, vs, rfl, _, h1, h2⟩ := hd
    cases r1
    obtain ⟨z, its, n, rv, hl, ho⟩ := rd_lstM I h1
    cases t <;> simp only [isTy, Option.some.injEq] at e
    · exact IsiPair.list_int ho rfl (fin e _)
    · exact IsiPair.list_bool ho rfl (fin e _)
    · exact IsiPair.list_str ho rfl (fin e _)
    · exact IsiPair.list_tuple ho rfl (fin e _)
    · exact IsiPair.list_list ho rfl (fin e s.toks)
  | non =>
    simp only [RpT, Rp] at hd; subst hd; cases r1
    exact sc .none rfl trivial
  | bl b =>
    simp only [RpT, Rp] at hd; subst hd; cases r1
    exact sc (.bool _) rfl trivial
  | int b =>
    simp only [RpT, Rp] at hd; subst hd; obtain ⟨t', rfl⟩ := r1
    exact sc (.int _ _) rfl trivial
  | str b =>
    simp only [RpT, Rp] at hd; obtain ⟨rfl, _⟩ := hd; obtain ⟨t', rfl⟩ := r1
    exact sc (.str _ _) rfl trivial
  | fn _ => cases t <;> simp [isTy] at e
  | dic _ => cases t <;> simp [isTy] at e
theorem sortOk_facts {xs : List D} (h : sortOk xs = true) : PySem.W.AllAlike (xs.map toPy) ∧ PySem.W.Sortable (xs.map toPy) ∧ xs.all okD = true ∧ ∀ x ∈ xs, ∀ y ∈ xs, alikeD x y = true := by
  unfold sortOk at h
  simp only [Bool.and_eq_true, Bool.or_eq_true] at h
  obtain ⟨⟨h1, h2⟩, h3⟩ := h
  have al : ∀ x ∈ xs, ∀ y ∈ xs, alikeD x y = true := fun x hx y hy => List.all_eq_true.mp (List.all_eq_true.mp h1 x hx) y hy
  refine ⟨fun d hd e he => ?_, ?_, h3, al⟩
  · obtain ⟨x, hx, rfl⟩ := List.mem_map.mp hd
    obtain ⟨y, hy, rfl⟩ := List.mem_map.mp he
    exact alike_py (al x hx y hy)
  · rcases h2 with h2 | h2
    · refine .inl fun d hd => ?_
      obtain ⟨x, hx, rfl⟩ := List.mem_map.mp hd
      have := List.all_eq_true.mp h2 x hx
      split at this
      · exact ⟨_, _, rfl⟩
      · cases this
    · refine .inr fun d hd => ?_
      obtain ⟨x, hx, rfl⟩ := List.mem_map.mp hd
      have := List.all_eq_true.mp h2 x hx
      have ok := List.all_eq_true.mp h3 x hx
      cases x <;> simp only [Bool.false_eq_true] at this <;> simp only [okD, plainD, Bool.false_and, Bool.false_eq_true] at ok <;> exact ⟨(fun z => by simp only [toPy] at z; cases z), fun ys z => by simp only [toPy] at z; cases z⟩
open PySem.W in
theorem cb_sorted (hK : X.K = g.K) (hu : X.A.units + 200 < cLine) : CallR X (.builtin "sorted") (rBi g .sorted) := by
  intro pins s σ H xs us Q I r h
  obtain ⟨T, N, ds, d, hd, e, q⟩ := h
  simp only [biD] at e
  unfold sortedF at e
  split at e
  · obtain ⟨ys, e1, e⟩ := Option.bind_eq_some_iff.mp e
    split at e
    · rename_i hs
      cases e
      obtain ⟨v, rfl, hv⟩ := rpl1 hd
      obtain ⟨al, so, ok, all2⟩ := sortOk_facts hs
      obtain ⟨a, vs, rfl, h2, h1⟩ := items_of' hv e1
      rw [ref1 r]
      -- the values that stand for the data
      have each : ∀ {ds : List D} {vs : List V} {us : List Value}, ds.all okD = true → Rps g N H ds vs → Vals vs us → EachIs (fun u d => ∃ x, RelV x u ∧ Rp g N H d x) us ds ∧ EachIs (fun u d => ∃ as, Reads s.heap u (toPy d) as) us ds := by
        intro ds
        induction ds with
        | nil => intro vs us _ h r; simp only [Rps] at h; subst h; cases r; exact ⟨.nil, .nil⟩
        | cons d ds ih =>
          intro vs us ho h r
          simp only [Rps] at h
          obtain ⟨x, rr, rfl, q1, q2⟩ := h
          simp only [List.all_cons, Bool.and_eq_true] at ho
          cases r with
          | cons r1 r2 =>
            obtain ⟨i1, i2⟩ := ih ho.2 q2 r2
            have dp := q1.dp (okD_plain ho.1)
            rw [← hK] at dp
            exact ⟨.cons ⟨x, r1, q1⟩ i1, .cons (Dp.reads I _ _ _ dp r1) i2⟩
      have le : sortD leD ys = ys.mergeSort (dataLe false toPy) := by
        rw [← sort_merge total_py]
        refine sort_congr' ys fun x hx y hy => ?_
        show (!ltD y x) = (!dataLt (toPy y) (toPy x))
        rw [lt_py (all2 y hy x hx) (okD_plain (List.all_eq_true.mp ok y hy)) (okD_plain (List.all_eq_true.mp ok x hx))]
      have unv : ∀ {us : List Value} {ds : List D}, EachIs (fun u d => ∃ x, RelV x u ∧ Rp g N H d x) us ds → ∃ vs, Vals vs us ∧ Rps g N H ds vs := by
        intro us ds e
        induction e with
        | nil => exact ⟨[], .nil, Rps.nil⟩
        | cons hx _ ih =>
          obtain ⟨x, r1, q1⟩ := hx
          obtain ⟨vs, r2, q2⟩ := ih
          exact ⟨x :: vs, .cons r1 r2, Rps.cons q1 q2⟩
      have go : ∀ {T : String} {o : Obj} {n : Nat} {its : List Value}, (T = "list" ∨ T = "tuple") → s.heap.get? a = some o → o.cls = .type T → o.data = .seq its.toArray n → Vals vs its → vs.length ≤ sizeLine → wpAny (model X.prog X.w) X.A (call (.builtin "sorted") [.ref a]) (EP X pins σ Q) X.xe s := fun {T o n its} hT ho hc hdt rv z => by
        obtain ⟨ea, er⟩ := each ok h2 rv
        refine sorted_seq hT ho hc hdt ea er al so (by rw [h2.length]; exact z) (fun b hb => ?_) fun h1' h' p out n' k1 k2 hp hat hlen eo => ?_
        · have := okD_dep (List.all_eq_true.mp ok b hb)
          omega
        · obtain ⟨vs', rv', rp'⟩ := unv eo
          have I1 : Inv X pins σ H { s with heap := h1' } := I.kept (t' := s.toks) k1
          have hn : H p = none := I1.hok.fresh hp
          refine ⟨.ref p, upd H p (.lst vs'), I1.laid (t' := s.toks) k2 hp ⟨?_, out, n', rv', hat⟩, rfl, ?_⟩
          · rw [rv'.length, hlen, h2.length]; exact z
          · refine q _ _ (sameNew hn) ?_
            rw [le]
            simp only [RpT]
            exact ⟨p, vs', rfl, hn, .inl upd_same, rp'.mono (fun _ => .inl) (sameEx (sameNew hn))⟩
      rcases h1 with ⟨rfl, h1⟩ | ⟨rfl, h1⟩
      · obtain ⟨z, its, n, rv, hl, ho⟩ := rd_lstM I h1
        exact go (.inl rfl) ho rfl rfl rv z
      · have sq : SqT X.K H a vs := by rw [hK]; exact h1.sq
        obtain ⟨its, rv, ⟨o, ho, hc, n, hdd⟩, z⟩ := I.tuple sq
        exact go (.inr rfl) ho hc hdd rv z
    · cases e
  · cases e
end
end EV
end

section
set_option Elab.async false
set_option linter.all false
set_option maxRecDepth 100000
/-! EvJ: a def's slots and the heap; what an expression's reckoning means. -/
namespace EV
open PySem PySem.Spec PyProof.Rows L2

/-! ### outcomes -/
def OkR {α : Type} (r : R α) (P : α → Cup → Prop) : Prop := match r with
  | .ok a k => P a k
  | _ => False
theorem OkR.imp {α : Type} {r : R α} {P P' : α → Cup → Prop} (h : OkR r P) (hp : ∀ a k, P a k → P' a k) : OkR r P' := by
  cases r with
  | ok a k => exact hp a k h
  | _ => exact h
theorem OkR_mb {α β : Type} {m : M α} {f : α → M β} {k : Cup} {P : β → Cup → Prop} : OkR (mb m f k) P ↔ OkR (m k) fun a k' => OkR (f a k') P := by
  unfold mb OkR
  cases m k <;> simp
theorem OkR_mp {α : Type} {a : α} {k : Cup} {P : α → Cup → Prop} : OkR (mp a k) P ↔ P a k := Iff.rfl
theorem OkR_mf {α : Type} {k : Cup} {P : α → Cup → Prop} : ¬ OkR ((mf : M α) k) P := fun h => h
theorem OkR_mo {α : Type} {o : Option α} {k : Cup} {P : α → Cup → Prop} : OkR (mo o k) P ↔ ∃ a, o = some a ∧ P a k := by
  cases o with
  | none => exact ⟨fun h => h.elim, fun ⟨_, h, _⟩ => by cases h⟩
  | some a => exact ⟨fun h => ⟨a, rfl, h⟩, fun ⟨_, e, h⟩ => by cases e; exact h⟩

/-! ### the heap's changes -/
/-- the cup stands at c -/
def CupAt (c : Option Addr) (k : Cup) (H : Hp) : Prop := ∀ a, c = some a → H a = some (.lst [.int k.1, .int k.2])
/-- an expression changes nothing but the cup -/
def Eff (c : Option Addr) (H H' : Hp) : Prop := ∀ a o, H a = some o → some a ≠ c → H' a = some o
theorem Eff.refl {c : Option Addr} {H : Hp} : Eff c H H := fun _ _ h _ => h
theorem Eff.trans {c : Option Addr} {H H1 H2 : Hp} (a : Eff c H H1) (b : Eff c H1 H2) : Eff c H H2 := fun x o h n => b x o (a x o h n) n
theorem Eff.of {c : Option Addr} {H H' : Hp} (h : Same H H') : Eff c H H' := fun a o e _ => h a o e
theorem CupAt.same {c : Option Addr} {k : Cup} {H H' : Hp} (h : CupAt c k H) (s : Same H H') : CupAt c k H' := fun a e => s _ _ (h a e)
theorem Eff.some' {c : Option Addr} {k k' : Cup} {H H' : Hp} (e : Eff c H H') (hc : CupAt c k' H') {a : Addr} (h : H' a = none) : H a = none := by
  cases q : H a with
  | none => rfl
  | some o =>
    by_cases n : some a = c
    · rw [hc a n.symm] at h; cases h
    · rw [e a o q n] at h; cases h
section
variable {g : G} {N N' : Addr → Prop} {H H' : Hp}
/-- what N tells of stands, and N' tells of it -/
structure Ex2 (g : G) (N N' : Addr → Prop) (H H' : Hp) : Prop where
  tup : ∀ a vs, H a = some (.tup vs) → H' a = some (.tup vs)
  lst : ∀ a vs, N a → Rd H a (.lst vs) → N' a ∧ Rd H' a (.lst vs)
  dk : ∀ a kv, N a → Rd H a (.dK kv) → N' a ∧ Rd H' a (.dK kv)
  dt : ∀ a kv, N a → Rd H a (.dT kv) → N' a ∧ Rd H' a (.dT kv)
mutual
theorem Rp.mono2 (e : Ex2 g N N' H H') : ∀ {d : D} {v : V}, Rp g N H d v → Rp g N' H' d v
  | .non, _, h => by simpa only [Rp] using h
  | .bl _, _, h => by simpa only [Rp] using h
  | .int _, _, h => by simpa only [Rp] using h
  | .str _, _, h => by simpa only [Rp] using h
  | .fn _, _, h => by simpa only [Rp] using h
  | .tup ds, v, h => by
    simp only [Rp] at h ⊢
    obtain ⟨a, vs, e1, h1, h2⟩ := h
    exact ⟨a, vs, e1, h1.imp (e.tup a vs) fun h => h, Rps.mono2 e h2⟩
  | .lst ds, v, h => by
    simp only [Rp] at h ⊢
    obtain ⟨a, vs, e1, n, h1, h2⟩ := h
    exact ⟨a, vs, e1, (e.lst a vs n h1).1, (e.lst a vs n h1).2, Rps.mono2 e h2⟩
  | .dic kvs, v, h => by
    simp only [Rp] at h ⊢
    obtain ⟨a, e1, n, h⟩ := h
    rcases h with ⟨kv, h1, h2, h3⟩ | ⟨kv, h1, h2, h3⟩
    · exact ⟨a, e1, (e.dk a kv n h1).1, .inl ⟨kv, (e.dk a kv n h1).2, h2, RpP.mono2 e h3⟩⟩
    · exact ⟨a, e1, (e.dt a kv n h1).1, .inr ⟨kv, (e.dt a kv n h1).2, h2, RpP.mono2 e h3⟩⟩
theorem Rps.mono2 (e : Ex2 g N N' H H') : ∀ {d : List D} {v : List V}, Rps g N H d v → Rps g N' H' d v
  | [], _, h => by simpa only [Rps] using h
  | d :: ds, v, h => by
    simp only [Rps] at h ⊢
    obtain ⟨x, r, e1, h1, h2⟩ := h
    exact ⟨x, r, e1, Rp.mono2 e h1, Rps.mono2 e h2⟩
theorem RpP.mono2 (e : Ex2 g N N' H H') : ∀ {d : List (D × D)} {v : List V}, RpP g N H d v → RpP g N' H' d v
  | [], _, h => by simpa only [RpP] using h
  | (_, d) :: ds, v, h => by
    simp only [RpP] at h ⊢
    obtain ⟨x, r, e1, h1, h2⟩ := h
    exact ⟨x, r, e1, Rp.mono2 e h1, RpP.mono2 e h2⟩
end
/-- from the objects that stand -/
theorem ex2_of (h : ∀ a o, N a → H a = some o → N' a ∧ H' a = some o) (ht : ∀ a vs, H a = some (.tup vs) → H' a = some (.tup vs)) : Ex2 g N N' H H' := by
  have rd : ∀ a u, N a → Rd H a u → N' a ∧ Rd H' a u := fun a u n r => by
    rcases r with r | ⟨o, r⟩
    · exact ⟨(h _ _ n r).1, .inl (h _ _ n r).2⟩
    · exact ⟨(h _ _ n r).1, .inr ⟨o, (h _ _ n r).2⟩⟩
  exact ⟨ht, fun a vs n => rd a _ n, fun a vs n => rd a _ n, fun a vs n => rd a _ n⟩
theorem Eff.tup {c : Option Addr} {k : Cup} (e : Eff c H H') (hc : CupAt c k H) : ∀ a vs, H a = some (.tup vs) → H' a = some (.tup vs) := fun a vs h => by
  refine e a _ h fun n => ?_
  rw [hc a n.symm] at h
  cases h
theorem Eff.ex2 {c : Option Addr} {k : Cup} (e : Eff c H H') (hc : CupAt c k H) (hN : ∀ a o, H a = some o → N a → some a ≠ c ∧ N' a) : Ex2 g N N' H H' :=
  ex2_of (fun a o n h => ⟨(hN a o h n).2, e a o h (hN a o h n).1⟩) (e.tup hc)
end

/-! ### the frame -/
/-- what a def is given: which lists may be meant by its values; the heap at its entry; the cup that it is lent -/
structure Fm where
  N0 : Addr → Prop
  H0 : Hp
  c0 : Option Addr
  B : Addr → Prop := fun _ => False
/-- what the plain values of a def may mean -/
def NF (f : Fm) (ρ : EV.Env) (σ : L2.St) (c : Option Addr) : Addr → Prop := fun a =>
  (f.N0 a ∨ f.H0 a = none) ∧ some a ≠ c ∧ ¬ f.B a ∧ ∀ (j : Nat) (d : D), ρ[j]? = some (Slot.own d) → σ[j]? ≠ some (some (V.ref a))
/-- a list or dict of a slot's own -/
def OwnAt (g : G) (N : Addr → Prop) (H : Hp) (a : Addr) : D → Prop
  | .lst ds => ∃ vs, H a = some (.lst vs) ∧ Rps g N H ds vs
  | .dic kvs => (∃ kv, H a = some (.dK kv) ∧ kvs.map (fun p => kOf p.1) = kv.map (fun p => some p.1) ∧ RpP g N H kvs (kv.map (·.2))) ∨
      (∃ kv, H a = some (.dT kv) ∧ kvs.map (fun p => kTOf p.1) = kv.map (fun p => some p.1) ∧ RpP g N H kvs (kv.map (·.2)))
  | _ => False
def SlotOK (g : G) (f : Fm) (N : Addr → Prop) (σ : L2.St) (c : Option Addr) (H : Hp) (i : Nat) : Slot → Prop
  | .no => True
  | .val d => ∃ v, σ[i]? = some (some v) ∧ Rp g N H d v
  | .own d => ∃ a, σ[i]? = some (some (.ref a)) ∧ f.H0 a = none ∧ some a ≠ c ∧ ¬ f.B a ∧ OwnAt g N H a d
  | .cup => ∃ a, c = some a ∧ σ[i]? = some (some (.ref a))
structure EOK (g : G) (f : Fm) (ρ : EV.Env) (k : Cup) (c : Option Addr) (σ : L2.St) (H : Hp) : Prop where
  cup : CupAt c k H
  c0 : f.c0 ≠ none → c = f.c0
  cn : c ≠ f.c0 → ∀ a, c = some a → f.H0 a = none
  h0 : ∀ a, f.c0 = some a → f.H0 a ≠ none
  n0 : ∀ a, f.N0 a → some a ≠ f.c0
  old : ∀ a o, f.H0 a = some o → some a ≠ f.c0 → H a = some o
  len : ρ.length = σ.length
  slot : ∀ i s, ρ[i]? = some s → SlotOK g f (NF f ρ σ c) σ c H i s
  uniq : ∀ (i j : Nat) (d e : D) (a : Addr), ρ[i]? = some (Slot.own d) → ρ[j]? = some (Slot.own e) → σ[i]? = some (some (V.ref a)) → σ[j]? = some (some (V.ref a)) → i = j
  bar : ∀ a, f.B a → H a ≠ none ∧ f.H0 a = none ∧ some a ≠ c
section
variable {g : G} {f : Fm} {ρ : EV.Env} {k : Cup} {c : Option Addr} {σ : L2.St} {H H' : Hp}
theorem OwnAt.isSome {N : Addr → Prop} {a : Addr} {d : D} (h : OwnAt g N H a d) : ∃ o, H a = some o := by
  cases d <;> simp only [OwnAt] at h
  · obtain ⟨vs, h, _⟩ := h; exact ⟨_, h⟩
  · rcases h with ⟨kv, h, _⟩ | ⟨kv, h, _⟩ <;> exact ⟨_, h⟩
theorem EOK.fresh (E : EOK g f ρ k c σ H) {p : Addr} (hp : H p = none) : NF f ρ σ c p := by
  have hc : some p ≠ c := fun e => by rw [E.cup p e.symm] at hp; cases hp
  refine ⟨.inr ?_, hc, fun b => (E.bar p b).1 hp, fun j d hj hs => ?_⟩
  · cases q : f.H0 p with
    | none => rfl
    | some o =>
      exfalso
      by_cases n : some p = f.c0
      · exact hc (by rw [E.c0 (by rw [← n]; simp)]; exact n)
      · rw [E.old p o q n] at hp; cases hp
  · obtain ⟨a, h1, _, _, _, h2⟩ := E.slot j _ hj
    rw [hs] at h1
    cases h1
    obtain ⟨o, h⟩ := OwnAt.isSome h2
    rw [h] at hp; cases hp
theorem OwnAt.mono2 {N N' : Addr → Prop} {a : Addr} {d : D} (h : OwnAt g N H a d) (e : Ex2 g N N' H H') (ha : ∀ o, H a = some o → H' a = some o) : OwnAt g N' H' a d := by
  cases d <;> simp only [OwnAt] at h ⊢
  · obtain ⟨vs, h1, h2⟩ := h; exact ⟨vs, ha _ h1, h2.mono2 e⟩
  · rcases h with ⟨kv, h1, h2, h3⟩ | ⟨kv, h1, h2, h3⟩
    · exact .inl ⟨kv, ha _ h1, h2, h3.mono2 e⟩
    · exact .inr ⟨kv, ha _ h1, h2, h3.mono2 e⟩
/-- behind an expression -/
theorem EOK.eff (E : EOK g f ρ k c σ H) {k' : Cup} (e : Eff c H H') (hc : CupAt c k' H') : EOK g f ρ k' c σ H' := by
  have ex : Ex2 g (NF f ρ σ c) (NF f ρ σ c) H H' := e.ex2 E.cup fun a o _ n => ⟨n.2.1, n⟩
  refine ⟨hc, E.c0, E.cn, E.h0, E.n0, fun a o h n => ?_, E.len, fun i s h => ?_, E.uniq, fun a b => ⟨fun n => (E.bar a b).1 (e.some' (k := k') hc n), (E.bar a b).2⟩⟩
  · refine e a o (E.old a o h n) fun q => ?_
    by_cases cc : c = f.c0
    · exact n (by rw [← cc]; exact q)
    · have := E.cn cc a q.symm
      rw [h] at this; cases this
  · have := E.slot i s h
    cases s with
    | no => trivial
    | val d =>
      obtain ⟨v, h1, h2⟩ := this
      exact ⟨v, h1, h2.mono2 ex⟩
    | own d =>
      obtain ⟨a, h1, h2, h3, hb, h4⟩ := this
      exact ⟨a, h1, h2, h3, hb, OwnAt.mono2 h4 ex fun o q => e a o q h3⟩
    | cup => exact this
theorem OwnAt.toT {N : Addr → Prop} {a : Addr} {d : D} {T : Addr → Prop} (h : OwnAt g N H a d) (t : T a) : RpT g T N H d (.ref a) := by
  cases d <;> simp only [OwnAt] at h
  · obtain ⟨vs, h1, h2⟩ := h
    simp only [RpT]
    exact ⟨a, vs, rfl, t, .inl h1, h2⟩
  · simp only [RpT]
    refine ⟨a, rfl, t, ?_⟩
    rcases h with ⟨kv, h1, h2, h3⟩ | ⟨kv, h1, h2, h3⟩
    · exact .inl ⟨kv, .inl h1, h2, h3⟩
    · exact .inr ⟨kv, .inl h1, h2, h3⟩
end

/-- a new list or dict -/
def NewAt (g : G) (H : Hp) (N : Addr → Prop) (H' : Hp) (d : D) (v : V) : Prop := ∃ a, v = .ref a ∧ H a = none ∧ OwnAt g (fun b => N b ∧ b ≠ a) H' a d
theorem NewAt.toT {g : G} {H H' : Hp} {N : Addr → Prop} {d : D} {v : V} (h : NewAt g H N H' d v) : RpT g (fun a => H a = none) N H' d v := by
  obtain ⟨a, rfl, h1, h2⟩ := h
  exact (OwnAt.toT (T := fun a => H a = none) h2 h1).mono (fun _ n => n) (fun _ n => n.1) ⟨fun _ _ h => h, fun _ _ _ h => h, fun _ _ _ h => h, fun _ _ _ h => h⟩
theorem NewAt.mono {g : G} {H H0 H' : Hp} {N N' : Addr → Prop} {d : D} {v : V} (h : NewAt g H N H' d v) (hN : ∀ a, N a → N' a) (h0 : ∀ a, H a = none → H0 a = none) : NewAt g H0 N' H' d v := by
  obtain ⟨a, rfl, h1, h2⟩ := h
  exact ⟨a, rfl, h0 a h1, OwnAt.mono2 h2 ⟨fun _ _ h => h, fun b _ n h => ⟨⟨hN b n.1, n.2⟩, h⟩, fun b _ n h => ⟨⟨hN b n.1, n.2⟩, h⟩, fun b _ n h => ⟨⟨hN b n.1, n.2⟩, h⟩⟩ fun _ h => h⟩
/-! ### readings -/
/-- what the outermost object of an outcome may be: as any value's; a new one; anything but the cup -/
inductive Md | nf | fr | bo
def topW (md : Md) (H : Hp) (c : Option Addr) (N : Addr → Prop) : Addr → Prop := match md with
  | .nf => N
  | .fr => fun a => H a = none
  | .bo => fun a => some a ≠ c
/-- an expression's reading by its reckoning -/
def tG (g : G) (f : Fm) (md : Md) (m : EV.Env → M D) : TE := fun σ H Q => ∃ ρ k c, EOK g f ρ k c σ H ∧ OkR (m ρ k) fun d k' =>
  ∀ v H', Eff c H H' → CupAt c k' H' → RpT g (topW md H c (NF f ρ σ c)) (NF f ρ σ c) H' d v → Q v H'
/-- the outcome a new list or dict -/
def tN (g : G) (f : Fm) (m : EV.Env → M D) : TE := fun σ H Q => ∃ ρ k c, EOK g f ρ k c σ H ∧ OkR (m ρ k) fun d k' =>
  ∀ v H', Eff c H H' → CupAt c k' H' → NewAt g H (NF f ρ σ c) H' d v → Q v H'
theorem tN_of {g : G} {f : Fm} {m : EV.Env → M D} {σ : L2.St} {H : Hp} {Q : VK} (h : tG g f .fr m σ H Q) : tN g f m σ H Q := by
  obtain ⟨ρ, k, c, E, h⟩ := h
  exact ⟨ρ, k, c, E, h.imp fun d k' h v H' e cu r => h v H' e cu r.toT⟩
def tT (g : G) (f : Fm) (m : EV.Env → M Bool) : TT := fun σ H Q => ∃ ρ k c, EOK g f ρ k c σ H ∧ OkR (m ρ k) fun b k' =>
  ∀ H', Eff c H H' → CupAt c k' H' → Q b H'
def tLs (g : G) (f : Fm) (m : EV.Env → M (List D)) : TA := fun σ H Q => ∃ ρ k c, EOK g f ρ k c σ H ∧ OkR (m ρ k) fun ds k' =>
  ∀ vs H', Eff c H H' → CupAt c k' H' → Rps g (NF f ρ σ c) H' ds vs → Q vs H'
def tLb (g : G) (f : Fm) (m : EV.Env → M (List D)) : TA := fun σ H Q => ∃ ρ k c, EOK g f ρ k c σ H ∧ OkR (m ρ k) fun ds k' =>
  ∀ vs H', Eff c H H' → CupAt c k' H' → RpL g (fun a => some a ≠ c) (NF f ρ σ c) H' ds vs → Q vs H'
theorem _root_.L2.PE.imp {X : Cx} {e : Expr} {t t' : TE} (h : PE X e t) (i : ∀ σ H Q, t' σ H Q → t σ H Q) : PE X e t' := ⟨fun pins s σ H Q I q => h.run pins s σ H Q I (i σ H Q q)⟩
theorem _root_.L2.PT.imp {X : Cx} {e : Expr} {t t' : TT} (h : PT X e t) (i : ∀ σ H Q, t' σ H Q → t σ H Q) : PT X e t' := ⟨fun pins s σ H Q I q => h.run pins s σ H Q I (i σ H Q q)⟩
theorem _root_.L2.PA.imp {X : Cx} {e : List Expr} {t t' : TA} (h : PA X e t) (i : ∀ σ H Q, t' σ H Q → t σ H Q) : PA X e t' := ⟨fun pos pins s σ H Q I q => h.run pos pins s σ H Q I (i σ H Q q)⟩
section
variable {g : G} {f : Fm} {ρ : EV.Env} {k : Cup} {c : Option Addr} {σ : L2.St} {H H' : Hp}
theorem topW_nf (E : EOK g f ρ k c σ H) : ∀ a, topW .fr H c (NF f ρ σ c) a → NF f ρ σ c a := fun a h => E.fresh h
/-- a new outcome is any outcome -/
theorem tG_weak {m : EV.Env → M D} {Q : VK} (h : tG g f .nf m σ H Q) : tG g f .fr m σ H Q := by
  obtain ⟨ρ, k, c, E, h⟩ := h
  refine ⟨ρ, k, c, E, h.imp fun d k' h v H' e cu r => h v H' e cu ?_⟩
  exact r.mono (topW_nf E) (fun _ n => n) ⟨fun _ _ h => h, fun _ _ _ h => h, fun _ _ _ h => h, fun _ _ _ h => h⟩
theorem RpT.weak {T T' N : Addr → Prop} {d : D} {v : V} (h : RpT g T N H d v) (i : ∀ a, T a → T' a) : RpT g T' N H d v :=
  h.mono i (fun _ n => n) ⟨fun _ _ h => h, fun _ _ _ h => h, fun _ _ _ h => h, fun _ _ _ h => h⟩
theorem RpT.eff {N : Addr → Prop} {d : D} {v : V} {k' : Cup} (h : RpT g (fun a => some a ≠ c) N H d v) (e : Eff c H H') (hc : CupAt c k' H) (hN : ∀ a, N a → some a ≠ c) : RpT g (fun a => some a ≠ c) N H' d v := by
  have ex : Ex2 g (fun a => some a ≠ c) (fun a => some a ≠ c) H H' := e.ex2 hc fun a o _ n => ⟨n, n⟩
  refine h.mono (fun _ n => n) (fun _ n => n) ⟨ex.tup, fun a vs n h => ?_, fun a vs n h => ?_, fun a vs n h => ?_⟩
  · exact (ex.lst a vs (n.elim (hN a) id) h).2
  · exact (ex.dk a vs (n.elim (hN a) id) h).2
  · exact (ex.dt a vs (n.elim (hN a) id) h).2
theorem Rp.eff {N : Addr → Prop} {d : D} {v : V} {k' : Cup} (h : Rp g N H d v) (e : Eff c H H') (hc : CupAt c k' H) (hN : ∀ a, N a → some a ≠ c) : Rp g N H' d v :=
  h.mono2 (e.ex2 hc fun a o _ n => ⟨hN a n, n⟩)
theorem Rps.eff {N : Addr → Prop} {d : List D} {v : List V} {k' : Cup} (h : Rps g N H d v) (e : Eff c H H') (hc : CupAt c k' H) (hN : ∀ a, N a → some a ≠ c) : Rps g N H' d v :=
  h.mono2 (e.ex2 hc fun a o _ n => ⟨hN a n, n⟩)
theorem NF.nc {a : Addr} (h : NF f ρ σ c a) : some a ≠ c := h.2.1
/-- behind an operation that lays new objects alone -/
theorem EOK.fin (E : EOK g f ρ k c σ H) {d : D} {v : V} {H' : Hp} (hs : Same H H') (r : RpT g (fun a => H a = none) (NN (NF f ρ σ c) H) H' d v) : RpT g (fun a => H a = none) (NF f ρ σ c) H' d v :=
  r.mono (fun _ n => n) (fun a n => n.elim id E.fresh) ⟨fun _ _ h => h, fun _ _ _ h => h, fun _ _ _ h => h, fun _ _ _ h => h⟩
theorem EOK.finN (E : EOK g f ρ k c σ H) {d : D} {v : V} {H' : Hp} (r : Rp g (NN (NF f ρ σ c) H) H' d v) : Rp g (NF f ρ σ c) H' d v :=
  r.mono (fun a n => n.elim id E.fresh) Ex.refl
end
end EV
end

section
set_option Elab.async false
set_option linter.all false
set_option maxRecDepth 100000
/-! EvK: the check of an expression against its tree; what a def promises; small tools. -/
namespace EV
open PySem PySem.Spec PyProof.Rows L2

/-- the names: of the slots, of the defs, of the module's constants -/
structure Ck where
  N : List Str
  fnm : List Str
  gnm : List Str

def sameK : D → Const → Bool
  | .non, .none => true
  | .bl a, .bool b => a == b
  | .int a, .int b => decide (a = b)
  | .str x, .str y => decide (strL x = y) && okS x
  | _, _ => false
def visC (sc : Scope) (x : Str) : Bool := match sc.names.lookup x with
  | some .local => true
  | some .cell => true
  | some .free => true
  | _ => false
def locC (sc : Scope) (x : Str) : Bool := match sc.names.lookup x with
  | some .local => true
  | _ => false
def celC (sc : Scope) (x : Str) : Bool := match sc.names.lookup x with
  | some .cell => true
  | _ => false
def glC (sc : Scope) (x : Str) : Bool := match sc.names.lookup x with
  | some .globalImplicit => true
  | _ => false
def okN (x : Str) : Bool := !(x == ("__debug__" : Str)) && !(x == ("__classdict__" : Str)) && !(x == ("__name__" : Str))
def notStar : Expr → Bool
  | .Starred .. => false
  | _ => true
/-- its truth is asked of its value -/
def plainTest : Expr → Bool
  | .BoolOp .. => false
  | .UnaryOp .Not _ _ => false
  | .Compare .. => false
  | .IfExp .. => false
  | _ => true
def plainIter : Expr → Bool
  | .Set .. => false
  | _ => true
/-- a plain subscript: no slice, .. -/
def plainIx : Expr → Bool
  | .Slice .. => false
  | _ => true
def tst : IE → Bool
  | .ite .. => false
  | .and a b => tst a && tst b
  | .or a b => tst a && tst b
  | .not a => tst a
  | _ => true
/-- its outcome is a new list or dict, at once tracked -/
def isNew : IE → Bool
  | .lst _ => true
  | .comp .. => true
  | .dcomp .. => true
  | _ => false
def mdOf : IE → Md
  | .lst _ => .fr
  | .dict _ => .fr
  | .sl .. => .fr
  | .rg1 .. => .fr
  | .rg2 .. => .fr
  | .rev _ => .fr
  | .bin .. => .fr
  | .bi .get _ => .nf
  | .bi .. => .fr
  | .bs .. => .fr
  | .m1 .. => .fr
  | .comp .. => .fr
  | .comp2 .. => .fr
  | .dcomp .. => .fr
  | _ => .nf
/-- the built-ins that a one-name call means -/
def biT : Bi → Option (String × Bool)
  | .len => some ("len", false)
  | .tuple => some ("tuple", true)
  | .list => some ("list", true)
  | .sorted => some ("sorted", false)
  | .all => some ("all", false)
  | .any => some ("any", false)
  | .sum => some ("sum", false)
  | .max => some ("max", false)
  | .min => some ("min", false)
  | .str => some ("str", true)
  | .int => some ("int", true)
  | .abs => some ("abs", false)
  | _ => none
def tyB : Ty → String := tyN
/-- the built-in names that must stand unbound in the module -/
def biNames : List Str := ["len", "tuple", "list", "sorted", "all", "any", "sum", "max", "min", "str", "int", "abs", "isinstance", "bool", "range", "enumerate", "zip", "dict", "set"]
/-- a method's receiver -/
def plainBase : Expr → Bool
  | .Call (.Name _ _) [] _ _ => false
  | _ => true
mutual
def chkT (N : List Str) (fnc : Str → Bool) (sc : Scope) : Tg → Expr → Bool
  | .nm i, e => (match e with
    | .Name x _ => decide (N[i]? = some x) && (locC sc x || (celC sc x && fnc x))
    | _ => false)
  | .tp ts, e => (match e with
    | .Tuple es _ _ => chkTs N fnc sc ts es
    | _ => false)
def chkTs (N : List Str) (fnc : Str → Bool) (sc : Scope) : List Tg → List Expr → Bool
  | [], es => (match es with | [] => true | _ => false)
  | t :: ts, es => (match es with | e :: r => notStar e && chkT N fnc sc t e && chkTs N fnc sc ts r | _ => false)
end
/-- a comprehension's own names with their places -/
def ownOf (N : List Str) (is : List Nat) : List (Str × Nat) := is.filterMap fun i => (N[i]?).map fun x => (x, i)
def isNon : IE → Bool
  | .k .non => true
  | _ => false
def isYes : IE → Bool
  | .k (.bl true) => true
  | _ => false
/-- a walk over the keys of a dict in a slot -/
def keysC (ck : Ck) (sc : Scope) (s : Src) (it : Expr) : Bool := match s with
  | .keys e => (match e, it with
    | .v i, .Name n _ => decide (ck.N[i]? = some n) && visC sc n && okN n
    | _, _ => false)
  | _ => false
mutual
def chkE (ck : Ck) : Scope → IE → Expr → Bool
  | _, .k c, e => (match e with
    | .Constant c' _ _ => sameK c c'
    | _ => false)
  | sc, .v i, e => (match e with
    | .Name x _ => decide (ck.N[i]? = some x) && visC sc x && okN x
    | _ => false)
  | sc, .g i, e => (match e with
    | .Name x _ => decide (ck.gnm[i]? = some x) && glC sc x && okN x
    | _ => false)
  | sc, .cupg i b, e => (match e with
    | .Subscript (.Name x _) (.Constant (.int j) _ _) _ => decide (ck.N[i]? = some x) && visC sc x && okN x && decide (j = if b then 1 else 0)
    | _ => false)
  | sc, .tup es, e => (match e with
    | .Tuple xs _ _ => chkL ck sc es xs && decide (es.length < 1000)
    | _ => false)
  | sc, .lst es, e => (match e with
    | .List xs _ => chkL ck sc es xs && decide (es.length < 1000)
    | _ => false)
  | sc, .ix a i, e => (match e with
    | .Subscript x y _ => chkE ck sc a x && chkE ck sc i y && plainIx y
    | _ => false)
  | sc, .sl a lo hi, e => (match e with
    | .Subscript x (.Slice l h none _) _ => chkE ck sc a x && (match l with
      | none => isNon lo
      | some l => chkE ck sc lo l && !isNon lo) && (match h with
      | none => isNon hi
      | some l => chkE ck sc hi l && !isNon hi)
    | _ => false)
  | sc, .rev a, e => (match e with
    | .Subscript x (.Slice none none (some (.UnaryOp .USub (.Constant (.int 1) _ _) _)) _) _ => chkE ck sc a x
    | _ => false)
  | sc, .bin o a b, e => (match e with
    | .BinOp x op y _ => decide (op = opOf o) && chkE ck sc a x && chkE ck sc b y
    | _ => false)
  | sc, .neg a, e => (match e with
    | .UnaryOp .USub x _ => chkE ck sc a x
    | _ => false)
  | sc, .not a, e => (match e with
    | .UnaryOp .Not x _ => chkE ck sc a x
    | _ => false)
  | sc, .and a b, e => (match e with
    | .BoolOp .And (x :: y :: r) p => chkE ck sc a x && (match r with
      | [] => chkE ck sc b y
      | z :: r => (match b with | .and .. => true | _ => false) && chkE ck sc b (.BoolOp .And (y :: z :: r) p))
    | _ => false)
  | sc, .or a b, e => (match e with
    | .BoolOp .Or (x :: y :: r) p => chkE ck sc a x && (match r with
      | [] => chkE ck sc b y
      | z :: r => (match b with | .or .. => true | _ => false) && chkE ck sc b (.BoolOp .Or (y :: z :: r) p))
    | _ => false)
  | sc, .cmp o a b, e => (match e with
    | .Compare x [op] [y] _ => decide (op = copOf o) && chkE ck sc a x && chkE ck sc b y && plainIter y
    | _ => false)
  | sc, .cmp2 o o' a b c, e => (match e with
    | .Compare x [op, op'] [y, z] _ => decide (op = copOf o) && decide (op' = copOf o') && chkE ck sc a x && chkE ck sc b y && chkE ck sc c z && plainIter z
    | _ => false)
  | sc, .ite c a b, e => (match e with
    | .IfExp x y z _ => chkE ck sc c x && tst c && chkE ck sc a y && chkE ck sc b z
    | _ => false)
  | sc, .call i es, e => (match e with
    | .Call (.Name x _) xs [] _ => decide (ck.fnm[i]? = some x) && glC sc x && okN x && chkL ck sc es xs
    | _ => false)
  | sc, .bi b es, e => (match e with
    | .Call (.Name x _) xs [] _ => (match biT b with
        | some (n, _) => decide (x = (n : Str)) && glC sc x && chkL ck sc es xs && !es.isEmpty
        | none => false)
    | _ => false)
  | sc, .bs b a, e => (match e with
    | .Call (.Name x _) [z] [] _ => (match b, z with
      | .dict _, z => decide (x = "dict") && glC sc x && notStar z && chkE ck sc a z
      | b, .Call (.Name y _) [z] [] _ => decide (y = "set") && glC sc x && glC sc y && notStar z && chkE ck sc a z && (match b with
        | .lset => decide (x = "len")
        | .sset => decide (x = "sorted")
        | _ => false)
      | _, _ => false)
    | _ => false)
  | sc, .m1 b a k, e => (match e with
    | .Call (.Attribute x m apos) [y] [] pos => chkE ck sc a x && chkE ck sc k y && plainBase x && (apos.endLine == pos.line) && notStar y && (match b with
      | .count => decide (m = "count")
      | .index => decide (m = "index")
      | .join => decide (m = "join")
      | _ => false)
    | _ => false)
  | sc, .ist t a, e => (match e with
    | .Call (.Name x _) [y, .Name z _] [] _ => decide (x = "isinstance") && decide (z = (tyN t : Str)) && glC sc x && glC sc z && notStar y && chkE ck sc a y
    | _ => false)
  | sc, .rg1 tu a, e => (match e with
    | .Call (.Name x _) [.Call (.Name y _) [u] [] _] [] _ => decide (x = if tu then "tuple" else "list") && decide (y = "range") && glC sc x && glC sc y && notStar u && chkE ck sc a u
    | _ => false)
  | sc, .rg2 tu a b, e => (match e with
    | .Call (.Name x _) [.Call (.Name y _) [u, v] [] _] [] _ => decide (x = if tu then "tuple" else "list") && decide (y = "range") && glC sc x && glC sc y && notStar u && notStar v && chkE ck sc a u && chkE ck sc b v
    | _ => false)
  | sc, .comp e t s c, ex => (match ex with
    | .ListComp el [⟨tg, it, ifs, 0⟩] scope _ => (chkR ck sc s it tg || keysC ck sc s it) && chkT ck.N (fun x => scope.names.lookup x == some .cell) (relS scope sc) t tg && (match ifs with
      | [] => isYes c
      | [y] => chkE ck (relS scope sc) c y && tst c
      | _ => false) && chkE ck (relS scope sc) e el && blkC ck.N sc scope (ownOf ck.N t.names) && plainIter it && t.names.all (fun i => decide (i < ck.N.length))
    | _ => false)
  | sc, .dcomp tu ke ve t s c, ex => (match ex with
    | .DictComp kx vx [⟨tg, it, ifs, 0⟩] scope _ => chkR ck sc s it tg && chkT ck.N (fun x => scope.names.lookup x == some .cell) (relS scope sc) t tg && (match ifs with
      | [] => isYes c
      | [y] => chkE ck (relS scope sc) c y && tst c
      | _ => false) && chkE ck (relS scope sc) ke kx && chkE ck (relS scope sc) ve vx && blkC ck.N sc scope (ownOf ck.N t.names) && plainIter it && t.names.all (fun i => decide (i < ck.N.length))
    | _ => false)
  | _, _, _ => false
termination_by structural _ e => e
def chkL (ck : Ck) : Scope → List IE → List Expr → Bool
  | _, [], xs => (match xs with | [] => true | _ => false)
  | sc, e :: es, xs => (match xs with | x :: r => notStar x && chkE ck sc e x && chkL ck sc es r | _ => false)
termination_by structural _ e => e
def chkR (ck : Ck) : Scope → Src → Expr → Expr → Bool
  | sc, .pl e, x, _ => chkE ck sc e x
  | sc, .rng es, x, _ => (match x with
    | .Call (.Name f _) xs [] _ => decide (f = "range") && glC sc f && chkL ck sc es xs && (decide (es.length = 1) || decide (es.length = 2))
    | _ => false)
  | sc, .enum e, x, t => (match x with
    | .Call (.Name f _) [y] [] _ => decide (f = "enumerate") && glC sc f && chkE ck sc e y && notStar y && (match t with | .Tuple .. => true | _ => false)
    | _ => false)
  | sc, .zip a b, x, t => (match x with
    | .Call (.Name f _) [y, z] [] _ => decide (f = "zip") && glC sc f && chkE ck sc a y && chkE ck sc b z && notStar y && notStar z && (match t with | .Tuple .. => true | _ => false)
    | _ => false)
  | sc, .zipn a b, x, t => (match x with
    | .Call (.Name f _) [y, z] [] _ => decide (f = "zip") && glC sc f && chkE ck sc a y && chkE ck sc b z && notStar y && notStar z && (match t with | .Name .. => true | _ => false)
    | _ => false)
  | _, _, _, _ => false
termination_by structural _ e => e
end

/-! ### what a def promises -/
def RpA (g : G) (N : Addr → Prop) (H : Hp) (c : Option Addr) : List Arg → List V → Prop
  | [], vs => vs = []
  | .val d :: as, vs => ∃ v r, vs = v :: r ∧ Rp g N H d v ∧ RpA g N H c as r
  | .cup :: as, vs => ∃ a r, vs = .ref a :: r ∧ c = some a ∧ RpA g N H c as r
def spF (g : G) (cal : Cal) (i : Nat) : Sp := fun vs H Q _ => ∃ (as : List Arg) (N0 : Addr → Prop) (k : Cup) (c : Option Addr), RpA g N0 H c as vs ∧ CupAt c k H ∧ (∀ a, N0 a → some a ≠ c) ∧
  OkR (cal i as k) fun r k' => ∀ v H', Eff c H H' → CupAt c k' H' → (if r.2 = true then NewAt g H (NN N0 H) H' r.1 v else Rp g (NN N0 H) H' r.1 v) → Q v H'
/-- what an expression's place must bring -/
structure XOK (g : G) (ck : Ck) (C : Cfg) (cal : Cal) (sc : Scope) (X : Cx) : Prop where
  K : X.K = g.K
  kt : C.kt = g.kt
  calm : X.calm = true
  N : X.N = ck.N
  nd : ck.N.Nodup
  sc : X.env.scope = sc
  un : X.A.units + 200 < cLine
  mg : ∀ x ∈ biNames, X.mg x = none
  gl : ∀ (i : Nat) (x : Str), ck.gnm[i]? = some x → ∃ d v u, C.gl[i]? = some d ∧ X.mg x = some u ∧ RelV v u ∧ ∀ (T N : Addr → Prop) (H : Hp), RpT g T N H d v
  fn : ∀ (i : Nat) (x : Str), ck.fnm[i]? = some x → ∃ k fa fd ps, X.mg x = some (.ref fa) ∧ PySem.W.keepIn X.K (.ref fa) = true ∧ FnOk X.prog X.w X.K X.mg X.base CX0 k fa fd ps (spF g cal i) ∧ Room k X.A ∧ Binds X.K fd ps []
theorem XOK.blk {g : G} {ck : Ck} {C : Cfg} {cal : Cal} {sc : Scope} {X : Cx} (h : XOK g ck C cal sc X) (s : Shared) (H : Hp) (scope : Scope) (cl : List (Str × Addr)) (A : Addr) (fp : List Addr) :
    XOK g ck C cal (relS scope sc) (X.blk s H scope (compEnvC scope cl A X.env) fp) :=
  ⟨h.K, h.kt, h.calm, h.N, h.nd, by rw [← h.sc]; rfl, h.un, h.mg, h.gl, h.fn⟩

/-! ### small tools -/
theorem vis_of {sc : Scope} {x : Str} (h : visC sc x = true) : Vis sc x := by
  unfold visC at h
  unfold Vis
  split at h <;> simp_all
theorem loc_of {sc : Scope} {x : Str} (h : locC sc x = true) : sc.names.lookup x = some .local := by
  unfold locC at h
  split at h <;> simp_all
theorem cel_of {sc : Scope} {x : Str} (h : celC sc x = true) : sc.names.lookup x = some .cell := by
  unfold celC at h
  split at h <;> simp_all
theorem gl_of {X : Cx} {x : Str} (h : glC X.env.scope x = true) : Gl X x := by
  unfold glC at h
  show X.env.scope.names.lookup x = _
  split at h <;> simp_all
theorem okN_of {x : Str} (h : okN x = true) : (x == ("__debug__" : Str)) = false ∧ (x == ("__classdict__" : Str)) = false := by
  unfold okN at h
  simp only [Bool.and_eq_true, Bool.not_eq_true'] at h
  exact ⟨h.1.1, h.1.2⟩
theorem star_of {e : Expr} {es : List Expr} {env : PySem.Env} (h : notStar e = true) : starEach (e :: es) env = (false, eval e env) :: starEach es env := by
  cases e <;> first | rfl | cases h
theorem test_of {e : Expr} {env : PySem.Env} (h : plainTest e = true) (whole : Sem Value) : isTrue e env whole = (do let v ← whole; standAt e.pos; holding [v] (truthy v)) := by
  cases e
  case UnaryOp op a p => cases op <;> first | rfl | cases h
  all_goals first | rfl | cases h
theorem iter_of {e : Expr} {env : PySem.Env} (h : plainIter e = true) (x : Value) : foldedSetIterable e env x = pure x := by
  cases e <;> first | rfl | cases h
theorem mark_of {e : Expr} {op : CmpOp} (h : plainIter e = true) : behindInMarks op e = false := by
  cases e <;> first | rfl | cases h
theorem ix_of {e : Expr} (h : plainIx e = true) : PlainIx e := by
  intro o i
  cases e <;> first | rfl | cases h
end EV
end

section
set_option Elab.async false
set_option linter.all false
set_option maxRecDepth 100000
/-! EvL: one expression's rule after another, by reckonings. -/
namespace EV
open PySem PySem.Spec PyProof.Rows L2
section
variable {g : G} {f : Fm} {ρ : EV.Env} {k : Cup} {c : Option Addr} {σ : L2.St} {H H2 H' : Hp} {α : Type} {P : α → Cup → Prop} {md : Md}

/-! ### one behind another -/
theorem tG_seq {ma : EV.Env → M D} {F : D → M α} {R : VK} (E : EOK g f ρ k c σ H) (h : OkR (mb (ma ρ) F k) P)
    (hR : ∀ d k1 v H1, OkR (F d k1) P → Eff c H H1 → EOK g f ρ k1 c σ H1 → RpT g (topW md H c (NF f ρ σ c)) (NF f ρ σ c) H1 d v → R v H1) : tG g f md ma σ H R :=
  ⟨ρ, k, c, E, (OkR_mb.mp h).imp fun d k1 h v H1 e cu r => hR d k1 v H1 h e (E.eff e cu) r⟩
theorem tT_seq {ma : EV.Env → M Bool} {F : Bool → M α} {R : Bool → Hp → Prop} (E : EOK g f ρ k c σ H) (h : OkR (mb (ma ρ) F k) P)
    (hR : ∀ d k1 H1, OkR (F d k1) P → Eff c H H1 → EOK g f ρ k1 c σ H1 → R d H1) : tT g f ma σ H R :=
  ⟨ρ, k, c, E, (OkR_mb.mp h).imp fun d k1 h H1 e cu => hR d k1 H1 h e (E.eff e cu)⟩
theorem tLs_seq {ma : EV.Env → M (List D)} {F : List D → M α} {R : List V → Hp → Prop} (E : EOK g f ρ k c σ H) (h : OkR (mb (ma ρ) F k) P)
    (hR : ∀ d k1 v H1, OkR (F d k1) P → Eff c H H1 → EOK g f ρ k1 c σ H1 → Rps g (NF f ρ σ c) H1 d v → R v H1) : tLs g f ma σ H R :=
  ⟨ρ, k, c, E, (OkR_mb.mp h).imp fun d k1 h v H1 e cu r => hR d k1 v H1 h e (E.eff e cu) r⟩
theorem tLb_seq {ma : EV.Env → M (List D)} {F : List D → M α} {R : List V → Hp → Prop} (E : EOK g f ρ k c σ H) (h : OkR (mb (ma ρ) F k) P)
    (hR : ∀ d k1 v H1, OkR (F d k1) P → Eff c H H1 → EOK g f ρ k1 c σ H1 → RpL g (fun a => some a ≠ c) (NF f ρ σ c) H1 d v → R v H1) : tLb g f ma σ H R :=
  ⟨ρ, k, c, E, (OkR_mb.mp h).imp fun d k1 h v H1 e cu r => hR d k1 v H1 h e (E.eff e cu) r⟩
theorem nfc {a : Addr} (h : NF f ρ σ c a) : some a ≠ c := h.2.1
theorem two {ma mb' : EV.Env → M D} {F : D → D → M α} {R : V → V → Hp → Prop} (E : EOK g f ρ k c σ H) (h : OkR (mb (ma ρ) (fun x => mb (mb' ρ) (F x)) k) P)
    (hR : ∀ x y k2 v u H2, OkR (F x y k2) P → Eff c H H2 → EOK g f ρ k2 c σ H2 → RpT g (fun a => some a ≠ c) (NF f ρ σ c) H2 x v → RpT g (fun a => some a ≠ c) (NF f ρ σ c) H2 y u → R v u H2) :
    tG g f .bo ma σ H fun v H1 => tG g f .bo mb' σ H1 fun u H2 => R v u H2 :=
  tG_seq E h fun x k1 v H1 h1 e1 E1 r1 => tG_seq E1 h1 fun y k2 u H2 h2 e2 E2 r2 =>
    hR x y k2 v u H2 h2 (e1.trans e2) E2 (r1.eff e2 E1.cup fun a n => nfc n) r2
theorem two' {ma mb' : EV.Env → M D} {F : D → D → M α} {R : V → V → Hp → Prop} (E : EOK g f ρ k c σ H) (h : OkR (mb (ma ρ) (fun x => mb (mb' ρ) (F x)) k) P)
    (hR : ∀ x y k2 v u H2, OkR (F x y k2) P → Eff c H H2 → EOK g f ρ k2 c σ H2 → RpT g (fun a => some a ≠ c) (NF f ρ σ c) H2 x v → RpT g (fun a => some a ≠ c) (NF f ρ σ c) H2 y u → R v u H2) :
    tG g f .bo ma σ H fun v H1 => tG g f .nf mb' σ H1 fun u H2 => R v u H2 :=
  tG_seq E h fun x k1 v H1 h1 e1 E1 r1 => tG_seq E1 h1 fun y k2 u H2 h2 e2 E2 r2 =>
    hR x y k2 v u H2 h2 (e1.trans e2) E2 (r1.eff e2 E1.cup fun a n => nfc n) (r2.weak fun a n => nfc n)
theorem fin_fr (E : EOK g f ρ k c σ H) {k2 : Cup} (e : Eff c H H2) (E2 : EOK g f ρ k2 c σ H2) {d : D} {v : V} {Q : VK} (hs : Same H2 H') (r : RpT g (fun a => H2 a = none) (NN (NF f ρ σ c) H2) H' d v)
    (q : ∀ v H', Eff c H H' → CupAt c k2 H' → RpT g (topW .fr H c (NF f ρ σ c)) (NF f ρ σ c) H' d v → Q v H') : Q v H' :=
  q v H' (e.trans (Eff.of hs)) (E2.cup.same hs) ((E2.fin hs r).weak fun a n => e.some' (k := k2) E2.cup n)
theorem fin_nf (E : EOK g f ρ k c σ H) {k2 : Cup} (e : Eff c H H2) (E2 : EOK g f ρ k2 c σ H2) {d : D} {v : V} {Q : VK} (hs : Same H2 H') (r : Rp g (NN (NF f ρ σ c) H2) H' d v)
    (q : ∀ v H', Eff c H H' → CupAt c k2 H' → RpT g (topW .nf H c (NF f ρ σ c)) (NF f ρ σ c) H' d v → Q v H') : Q v H' :=
  q v H' (e.trans (Eff.of hs)) (E2.cup.same hs) (E2.finN r).toT
/-- plain outcomes -/
theorem fin_pl (E : EOK g f ρ k c σ H) {k2 : Cup} (e : Eff c H H2) (E2 : EOK g f ρ k2 c σ H2) {d : D} {v : V} {Q : VK} (r : ∀ T N, RpT g T N H2 d v)
    (q : ∀ v H', Eff c H H' → CupAt c k2 H' → RpT g (topW md H c (NF f ρ σ c)) (NF f ρ σ c) H' d v → Q v H') : Q v H2 := q v H2 e E2.cup (r _ _)
end

section
variable {g : G} {f : Fm} {X : Cx} {x y z : Expr} {A B C' : EV.Env → M D} {pos : Pos}
theorem _root_.L2.PE.nf {e : Expr} (h : PE X e (tG g f .fr A)) : PE X e (tG g f .nf A) := h.imp fun _ _ _ => tG_weak
theorem _root_.L2.PE.of {e : Expr} {md : Md} (h : PE X e (tG g f md A)) (hm : md ≠ .bo) : PE X e (tG g f .nf A) := by
  cases md with
  | nf => exact h
  | fr => exact h.nf
  | bo => exact absurd rfl hm
theorem tG_bo {σ : L2.St} {H : Hp} {Q : VK} (h : tG g f .bo A σ H Q) : tG g f .nf A σ H Q := by
  obtain ⟨ρ, k, c, E, h⟩ := h
  exact ⟨ρ, k, c, E, h.imp fun d k' h v H' e cu r => h v H' e cu (r.weak fun a n => nfc n)⟩
theorem _root_.L2.PE.bo {e : Expr} (h : PE X e (tG g f .nf A)) : PE X e (tG g f .bo A) := h.imp fun _ _ _ => tG_bo

/-! ### constants, names -/
theorem s_const {d : D} {cc : Const} {j : Nat} (h : sameK d cc = true) : PE X (.Constant cc j pos) (tG g f .nf fun _ => mp d) := by
  have go : ∀ {v : V} {e : Expr}, PE X e (tC v) → (∀ (T N : Addr → Prop) (H : Hp), RpT g T N H d v) → PE X e (tG g f .nf fun _ => mp d) := fun {v e} he r =>
    he.imp fun σ H Q ⟨ρ, k, c, E, q⟩ => q v H Eff.refl E.cup (r _ _ _)
  cases d <;> cases cc <;> simp only [sameK, Bool.false_eq_true, Bool.and_eq_true, decide_eq_true_eq, beq_iff_eq] at h
  · exact go pe_non fun T N H => by simp only [RpT, Rp]
  · subst h; exact go pe_bl fun T N H => by simp only [RpT, Rp]
  · subst h; exact go pe_int fun T N H => by simp only [RpT, Rp]
  · obtain ⟨rfl, h⟩ := h
    exact go pe_str fun T N H => by simp only [RpT, Rp]; exact ⟨trivial, h⟩
theorem getD_of {ρ : EV.Env} {i : Nat} {s : Slot} (h : EV.Env.get ρ i = s) (hs : s ≠ .no) : ρ[i]? = some s := by
  unfold EV.Env.get at h
  rw [List.getD_eq_getElem?_getD] at h
  cases q : ρ[i]? with
  | none => rw [q] at h; exact absurd h.symm hs
  | some t => rw [q] at h; exact congrArg some h
theorem s_var {i : Nat} {n : Str} (hN : X.N[i]? = some n) (hv : Vis X.env.scope n) (hd : (n == ("__debug__" : Str)) = false) (hcd : (n == ("__classdict__" : Str)) = false) :
    PE X (.Name n pos) (tG g f .nf fun ρ => match EV.Env.get ρ i with | .val d => mp d | _ => mf) := by
  refine (pe_var hN hv hd hcd).imp fun σ H Q ⟨ρ, k, c, E, q⟩ => ?_
  cases hs : EV.Env.get ρ i <;> simp only [hs] at q <;> try exact (OkR_mf q).elim
  obtain ⟨v, h1, h2⟩ := E.slot i _ (getD_of hs (by simp))
  exact ⟨v, h1, q v H Eff.refl E.cup h2.toT⟩
theorem s_varB {i : Nat} {n : Str} (hN : X.N[i]? = some n) (hv : Vis X.env.scope n) (hd : (n == ("__debug__" : Str)) = false) (hcd : (n == ("__classdict__" : Str)) = false) :
    PE X (.Name n pos) (tG g f .bo fun ρ => match EV.Env.get ρ i with | .own d => mp d | _ => (match EV.Env.get ρ i with | .val d => mp d | _ => mf)) := by
  refine (pe_var hN hv hd hcd).imp fun σ H Q ⟨ρ, k, c, E, q⟩ => ?_
  cases hs : EV.Env.get ρ i <;> simp only [hs] at q <;> try exact (OkR_mf q).elim
  · obtain ⟨v, h1, h2⟩ := E.slot i _ (getD_of hs (by simp))
    exact ⟨v, h1, q v H Eff.refl E.cup (h2.toT.weak fun a n => nfc n)⟩
  · obtain ⟨a, h1, h2, h3, h4, h5⟩ := E.slot i _ (getD_of hs (by simp))
    exact ⟨.ref a, h1, q _ H Eff.refl E.cup (OwnAt.toT h5 h3)⟩
theorem s_glob {ck : Ck} {C : Cfg} {cal : Cal} {sc : Scope} {i : Nat} {n : Str} (h : XOK g ck C cal sc X) (hN : ck.gnm[i]? = some n) (hg : glC sc n = true) (hd : (n == ("__debug__" : Str)) = false) :
    PE X (.Name n pos) (tG g f .nf fun _ => mo C.gl[i]?) := by
  obtain ⟨d, v, u, h1, h2, h3, h4⟩ := h.gl i n hN
  refine ⟨fun pins s σ H Q I ⟨ρ, k, c, E, q⟩ => ld_glob I (gl_of (by rw [h.sc]; exact hg)) h2 ?_ hd⟩
  rw [h1] at q
  exact ⟨v, H, I, h3, q v H Eff.refl E.cup (h4 _ _ _)⟩
theorem s_cupg {i : Nat} {n : Str} {b : Bool} {j : Int} {jj : Nat} {p1 p2 : Pos} (hj : j = if b then 1 else 0) (hN : X.N[i]? = some n) (hv : Vis X.env.scope n) (hd : (n == ("__debug__" : Str)) = false) (hcd : (n == ("__classdict__" : Str)) = false) :
    PE X (.Subscript (.Name n p1) (.Constant (.int j) jj p2) pos) (tG g f .nf fun ρ => match EV.Env.get ρ i with | .cup => fun k => .ok (.int (if b then k.2 else k.1)) k | _ => mf) := by
  refine (pe_ix (ix_list (X := X)) (pe_var hN hv hd hcd) pe_int (fun _ _ => rfl)).imp fun σ H Q ⟨ρ, k, c, E, q⟩ => ?_
  cases hs : EV.Env.get ρ i <;> simp only [hs] at q <;> try exact (OkR_mf q).elim
  obtain ⟨a, h1, h2⟩ := E.slot i _ (getD_of hs (by simp))
  refine ⟨.ref a, h2, a, [.int k.1, .int k.2], j, .int (if b then k.2 else k.1), rfl, rfl, SqL.of (E.cup a h1), ?_, q _ H Eff.refl E.cup (rpT_int _)⟩
  subst hj
  cases b <;> rfl

/-! ### operators -/
theorem s_bin {o : BOp} (hK : X.K = g.K) (ha : PE X x (tG g f .bo A)) (hb : PE X y (tG g f .bo B)) :
    PE X (.BinOp x (opOf o) y pos) (tG g f .fr fun ρ => mb (A ρ) fun d => mb (B ρ) fun e => mo (binD o d e)) := by
  refine (pe_op (op_bin (g := g) hK o) ha hb).imp fun σ H Q ⟨ρ, k, c, E, q⟩ => ?_
  refine two E q fun d e k2 v u H2 h e2 E2 r1 r2 => ?_
  obtain ⟨z, hz, q⟩ := OkR_mo.mp h
  exact ⟨_, _, d, e, z, r1, r2, hz, fun w H' hs r => fin_fr E e2 E2 hs r q⟩
theorem s_ix (hK : X.K = g.K) (hu : X.A.units + 200 < cLine) (hp : plainIx y = true) (ha : PE X x (tG g f .bo A)) (hb : PE X y (tG g f .nf B)) :
    PE X (.Subscript x y pos) (tG g f .nf fun ρ => mb (A ρ) fun d => mb (B ρ) fun e => mo (ixD d e)) := by
  refine (pe_ix (ix_D (g := g) hK (by omega)) ha hb (ix_of hp)).imp fun σ H Q ⟨ρ, k, c, E, q⟩ => ?_
  refine two' E q fun d e k2 v u H2 h e2 E2 r1 r2 => ?_
  obtain ⟨z, hz, q⟩ := OkR_mo.mp h
  exact ⟨_, _, d, e, z, r1, r2, hz, fun w H' hs r => fin_nf E e2 E2 hs r q⟩
theorem s_rev (hK : X.K = g.K) {kk : Nat} {p1 p2 p3 : Pos} (ha : PE X x (tG g f .bo A)) :
    PE X (.Subscript x (.Slice none none (some (.UnaryOp .USub (.Constant (.int 1) kk p1) p2)) p3) pos) (tG g f .fr fun ρ => mb (A ρ) fun d => mo (revD d)) := by
  refine (pe_revL ha).imp fun σ H Q ⟨ρ, k, c, E, q⟩ => ?_
  refine tG_seq E q fun d k1 v H1 h e1 E1 r1 => ?_
  obtain ⟨z, hz, q⟩ := OkR_mo.mp h
  cases d <;> simp only [revD] at hz <;> try (cases hz; done)
  rename_i xs
  cases hz
  simp only [RpT] at r1
  obtain ⟨a, vs, rfl, n, rd, rs⟩ := r1
  refine ⟨a, vs, rfl, .inl rd, fun p hp => ?_⟩
  have hs : Same H1 (upd H1 p (.lst vs.reverse)) := sameNew hp
  refine fin_fr E e1 E1 hs ?_ q
  simp only [RpT]
  exact ⟨p, _, rfl, hp, .inl upd_same, (rs.mono (fun _ h => .inl h) (sameEx hs)).reverse⟩
theorem s_neg (ha : PE X x (tG g f .nf A)) : PE X (.UnaryOp .USub x pos) (tG g f .nf fun ρ => mb (A ρ) fun d => match d with | .int i => mp (.int (-i)) | _ => mf) := by
  refine (pe_un un_neg ha).imp fun σ H Q ⟨ρ, k, c, E, q⟩ => ?_
  refine tG_seq E q fun d k1 v H1 h e1 E1 r1 => ?_
  split at h
  · rename_i i
    simp only [topW, RpT, Rp] at r1
    exact ⟨i, r1, fin_pl (md := .nf) E e1 E1 (fun T N => rpT_int _) h⟩
  · exact h.elim

/-! ### truth -/
theorem okTest {α : Type} {A : M D} {F : Bool → M α} {k : Cup} {P : α → Cup → Prop} (h : OkR (mb A (fun d => mb (mB d) F) k) P) : OkR (mb (mb A mB) F k) P := by rw [mb_assoc]; exact h
theorem okB {d : D} {α : Type} {F : Bool → M α} {k : Cup} {P : α → Cup → Prop} (h : OkR (mb (mB d) F k) P) : ∃ b, d = .bl b ∧ OkR (F b k) P := by
  cases d <;> first | exact h.elim | exact ⟨_, rfl, h⟩
theorem rp_bl {T N : Addr → Prop} {H : Hp} {b : Bool} {v : V} (h : RpT g T N H (.bl b) v) : v = .bl b := by simpa only [RpT, Rp] using h
/-- a value's truth, where its tree is plain -/
theorem s_test (hp : plainTest x = true) (ha : PE X x (tG g f .nf A)) : PT X x (tT g f fun ρ => mb (A ρ) mB) := by
  refine (pt_val ha (fun w => test_of hp w)).imp fun σ H Q ⟨ρ, k, c, E, q⟩ => ?_
  refine tG_seq E q fun d k1 v H1 h e1 E1 r1 => ?_
  rw [← mb_pure (mB d)] at h
  obtain ⟨b, rfl, h⟩ := okB h
  exact ⟨b, rp_bl r1, h H1 e1 E1.cup⟩
theorem s_not (ha : PE X x (tG g f .nf A)) : PE X (.UnaryOp .Not x pos) (tG g f .nf fun ρ => mb (A ρ) fun d => mb (mB d) fun b => mp (.bl (!b))) := by
  refine (pe_not ha).imp fun σ H Q ⟨ρ, k, c, E, q⟩ => ?_
  refine tG_seq E q fun d k1 v H1 h e1 E1 r1 => ?_
  obtain ⟨b, rfl, h⟩ := okB h
  exact ⟨b, rp_bl r1, fin_pl (md := .nf) E e1 E1 (fun T N => rpT_bl _) h⟩
theorem t_not (ha : PT X x (tT g f fun ρ => mb (A ρ) mB)) : PT X (.UnaryOp .Not x pos) (tT g f fun ρ => mb (mb (A ρ) fun d => mb (mB d) fun b => mp (.bl (!b))) mB) := by
  refine (pt_not ha).imp fun σ H Q ⟨ρ, k, c, E, q⟩ => ?_
  simp only [mb_assoc] at q
  have q := okTest q
  exact tT_seq E q fun b k1 H1 h e1 E1 => h H1 e1 E1.cup
theorem s_and {p2 : Pos} {r : List Expr} (ha : PE X x (tG g f .nf A)) (hb : PE X (.BoolOp .And (y :: r) pos) (tG g f .nf B)) :
    PE X (.BoolOp .And (x :: y :: r) pos) (tG g f .nf fun ρ => mb (A ρ) fun d => mb (mB d) fun b => if b = true then B ρ else mp (.bl false)) := by
  refine (pe_and ha hb).imp fun σ H Q ⟨ρ, k, c, E, q⟩ => ?_
  refine tG_seq E q fun d k1 v H1 h e1 E1 r1 => ?_
  obtain ⟨b, rfl, h⟩ := okB h
  refine ⟨b, rp_bl r1, ?_⟩
  cases b with
  | false => exact fin_pl (md := .nf) E e1 E1 (fun T N => rpT_bl _) h
  | true => exact ⟨ρ, k1, c, E1, h.imp fun d k2 h v H2 e2 cu r => h v H2 (e1.trans e2) cu r⟩
theorem s_or {p2 : Pos} {r : List Expr} (ha : PE X x (tG g f .nf A)) (hb : PE X (.BoolOp .Or (y :: r) pos) (tG g f .nf B)) :
    PE X (.BoolOp .Or (x :: y :: r) pos) (tG g f .nf fun ρ => mb (A ρ) fun d => mb (mB d) fun b => if b = true then mp (.bl true) else B ρ) := by
  refine (pe_or ha hb).imp fun σ H Q ⟨ρ, k, c, E, q⟩ => ?_
  refine tG_seq E q fun d k1 v H1 h e1 E1 r1 => ?_
  obtain ⟨b, rfl, h⟩ := okB h
  refine ⟨b, rp_bl r1, ?_⟩
  cases b with
  | true => exact fin_pl (md := .nf) E e1 E1 (fun T N => rpT_bl _) h
  | false => exact ⟨ρ, k1, c, E1, h.imp fun d k2 h v H2 e2 cu r => h v H2 (e1.trans e2) cu r⟩
theorem _root_.L2.PW.imp {e : Expr} {t t' : TT} (h : PW X e t) (i : ∀ σ H Q, t' σ H Q → t σ H Q) : PW X e t' := ⟨fun wh pins s σ H Q I q => h.run wh pins s σ H Q I (i σ H Q q)⟩
theorem w_and {r : List Expr} (ha : PT X x (tT g f fun ρ => mb (A ρ) mB)) (hb : PW X (.BoolOp .And (y :: r) pos) (tT g f fun ρ => mb (B ρ) mB)) :
    PW X (.BoolOp .And (x :: y :: r) pos) (tT g f fun ρ => mb (mb (A ρ) fun d => mb (mB d) fun b => if b = true then B ρ else mp (.bl false)) mB) := by
  refine (pw_and ha hb).imp fun σ H Q ⟨ρ, k, c, E, q⟩ => ?_
  simp only [mb_assoc] at q
  have q := okTest q
  refine tT_seq E q fun b k1 H1 h e1 E1 => ?_
  cases b with
  | false => exact h H1 e1 E1.cup
  | true => exact ⟨ρ, k1, c, E1, OkR.imp h fun d k2 h H2 e2 cu => h H2 (e1.trans e2) cu⟩
theorem w_or {r : List Expr} (ha : PT X x (tT g f fun ρ => mb (A ρ) mB)) (hb : PW X (.BoolOp .Or (y :: r) pos) (tT g f fun ρ => mb (B ρ) mB)) :
    PW X (.BoolOp .Or (x :: y :: r) pos) (tT g f fun ρ => mb (mb (A ρ) fun d => mb (mB d) fun b => if b = true then mp (.bl true) else B ρ) mB) := by
  refine (pw_or ha hb).imp fun σ H Q ⟨ρ, k, c, E, q⟩ => ?_
  simp only [mb_assoc] at q
  have q := okTest q
  refine tT_seq E q fun b k1 H1 h e1 E1 => ?_
  cases b with
  | true => exact h H1 e1 E1.cup
  | false => exact ⟨ρ, k1, c, E1, OkR.imp h fun d k2 h H2 e2 cu => h H2 (e1.trans e2) cu⟩
theorem s_ite (hc : PT X x (tT g f fun ρ => mb (A ρ) mB)) (ha : PE X y (tG g f .nf B)) (hb : PE X z (tG g f .nf C')) :
    PE X (.IfExp x y z pos) (tG g f .nf fun ρ => mb (A ρ) fun d => mb (mB d) fun b => if b = true then B ρ else C' ρ) := by
  refine (pe_ifExp hc ha hb).imp fun σ H Q ⟨ρ, k, c, E, q⟩ => ?_
  have q := okTest q
  refine tT_seq E q fun b k1 H1 h e1 E1 => ?_
  cases b <;> exact ⟨ρ, k1, c, E1, OkR.imp h fun d k2 h v H2 e2 cu r => h v H2 (e1.trans e2) cu r⟩

/-! ### comparisons -/
theorem s_cmp {o : COp} (hK : X.K = g.K) (hu : X.A.units + 200 < cLine) (hm : plainIter y = true) (ha : PE X x (tG g f .bo A)) (hb : PE X y (tG g f .bo B)) :
    PE X (.Compare x [copOf o] [y] pos) (tG g f .nf fun ρ => mb (A ρ) fun d => mb (B ρ) fun e => mb (mo (cmpB o d e)) fun b => mp (.bl b)) := by
  refine (pe_cmpR (op_cmp (g := g) hK hu o) ha hb (mark_of hm)).imp fun σ H Q ⟨ρ, k, c, E, q⟩ => ?_
  refine two E q fun d e k2 v u H2 h e2 E2 r1 r2 => ?_
  obtain ⟨z, hz, q⟩ := OkR_mo.mp (OkR_mb.mp h)
  exact ⟨_, _, d, e, z, r1, r2, hz, fin_pl (md := .nf) E e2 E2 (fun T N => rpT_bl _) q⟩
theorem t_cmp {o : COp} (hK : X.K = g.K) (hu : X.A.units + 200 < cLine) (hm : plainIter y = true) (ha : PE X x (tG g f .bo A)) (hb : PE X y (tG g f .bo B)) :
    PT X (.Compare x [copOf o] [y] pos) (tT g f fun ρ => mb (mb (A ρ) fun d => mb (B ρ) fun e => mb (mo (cmpB o d e)) fun b => mp (.bl b)) mB) := by
  refine (pt_cmpR (op_cmp (g := g) hK hu o) ha hb (mark_of hm)).imp fun σ H Q ⟨ρ, k, c, E, q⟩ => ?_
  simp only [mb_assoc] at q
  refine two E q fun d e k2 v u H2 h e2 E2 r1 r2 => ?_
  obtain ⟨z, hz, q⟩ := OkR_mo.mp (OkR_mb.mp h)
  exact ⟨_, _, d, e, z, r1, r2, hz, z, rfl, q H2 e2 E2.cup⟩
end
end EV
end

section
set_option Elab.async false
set_option linter.all false
set_option maxRecDepth 100000
/-! EvM: argument lists, displays, slices, calls. -/
namespace EV
open PySem PySem.Spec PyProof.Rows L2
section
variable {g : G} {f : Fm} {X : Cx} {x y z : Expr} {es : List Expr} {A B C' : EV.Env → M D} {L : EV.Env → M (List D)} {pos : Pos}
theorem RpL.eff {c : Option Addr} {H H' : Hp} {N : Addr → Prop} {k' : Cup} (e : Eff c H H') (hc : CupAt c k' H) (hN : ∀ a, N a → some a ≠ c) : ∀ {ds : List D} {vs : List V}, RpL g (fun a => some a ≠ c) N H ds vs → RpL g (fun a => some a ≠ c) N H' ds vs
  | [], vs, h => by simpa only [RpL] using h
  | d :: ds, vs, h => by
    simp only [RpL] at h ⊢
    obtain ⟨v, r, rfl, h1, h2⟩ := h
    exact ⟨v, r, rfl, h1.eff e hc hN, RpL.eff e hc hN h2⟩

/-! ### lists of expressions -/
theorem l_nil : PA X [] (tLs g f fun _ => mp []) :=
  pa_nil.imp fun σ H Q ⟨ρ, k, c, E, q⟩ => q [] H Eff.refl E.cup Rps.nil
theorem l_cons (hs : notStar x = true) (ha : PE X x (tG g f .nf A)) (hb : PA X es (tLs g f L)) : PA X (x :: es) (tLs g f fun ρ => mb (A ρ) fun d => mb (L ρ) fun ds => mp (d :: ds)) := by
  refine (pa_cons ha hb (star_of hs)).imp fun σ H Q ⟨ρ, k, c, E, q⟩ => ?_
  refine tG_seq E q fun d k1 v H1 h e1 E1 r1 => tLs_seq E1 h fun ds k2 vs H2 h e2 E2 r2 => ?_
  exact h _ H2 (e1.trans e2) E2.cup (Rps.cons ((r1.toRp).eff e2 E1.cup fun a n => nfc n) r2)
theorem lb_nil : PA X [] (tLb g f fun _ => mp []) :=
  pa_nil.imp fun σ H Q ⟨ρ, k, c, E, q⟩ => q [] H Eff.refl E.cup (by simp only [RpL])
theorem lb_cons (hs : notStar x = true) (ha : PE X x (tG g f .bo A)) (hb : PA X es (tLb g f L)) : PA X (x :: es) (tLb g f fun ρ => mb (A ρ) fun d => mb (L ρ) fun ds => mp (d :: ds)) := by
  refine (pa_cons ha hb (star_of hs)).imp fun σ H Q ⟨ρ, k, c, E, q⟩ => ?_
  refine tG_seq E q fun d k1 v H1 h e1 E1 r1 => tLb_seq E1 h fun ds k2 vs H2 h e2 E2 r2 => ?_
  refine h _ H2 (e1.trans e2) E2.cup ?_
  simp only [RpL]
  exact ⟨v, vs, rfl, RpT.eff r1 e2 E1.cup fun a n => nfc n, r2⟩
theorem evL_len {cal : Cal} {C : Cfg} : ∀ {es : List IE} {ρ : EV.Env} {k : Cup} {P : List D → Cup → Prop}, OkR (evL cal C es ρ k) P → OkR (evL cal C es ρ k) fun ds k' => P ds k' ∧ ds.length = es.length
  | [], ρ, k, P, h => by simp only [evL] at h ⊢; exact ⟨h, rfl⟩
  | e :: es, ρ, k, P, h => by
    simp only [evL, OkR_mb] at h ⊢
    refine h.imp fun d k1 h => (evL_len h).imp fun ds k2 ⟨h, l⟩ => ⟨h, ?_⟩
    simp only [List.length_cons, l]
theorem s_tup {kk : Nat} (ha : PA X es (tLs g f L)) (hl : ∀ (ρ : EV.Env) (k : Cup) (P : List D → Cup → Prop), OkR (L ρ k) P → OkR (L ρ k) fun ds k' => P ds k' ∧ ds.length ≤ LIM) :
    PE X (.Tuple es kk pos) (tG g f .nf fun ρ => mb (L ρ) fun ds => mp (.tup ds)) := by
  refine (pe_tup ha).imp fun σ H Q ⟨ρ, k, c, E, q⟩ => ⟨ρ, k, c, E, ?_⟩
  refine (hl _ _ _ (OkR_mb.mp q)).imp fun ds k1 ⟨h, l⟩ vs H1 e1 cu r1 => ?_
  have E1 := E.eff e1 cu
  refine ⟨by rw [← r1.length, LIM_eq]; exact l, fun p hp => ?_⟩
  refine fin_nf E e1 E1 (sameNew hp) ?_ h
  simp only [Rp]
  exact ⟨p, vs, rfl, .inl upd_same, r1.mono (fun _ h => .inl h) (sameEx (sameNew hp))⟩
theorem n_lst (ha : PA X es (tLs g f L)) (hl : ∀ (ρ : EV.Env) (k : Cup) (P : List D → Cup → Prop), OkR (L ρ k) P → OkR (L ρ k) fun ds k' => P ds k' ∧ ds.length ≤ LIM) :
    PE X (.List es pos) (tN g f fun ρ => mb (L ρ) fun ds => mp (.lst ds)) := by
  refine (pe_lst ha).imp fun σ H Q ⟨ρ, k, c, E, q⟩ => ⟨ρ, k, c, E, ?_⟩
  refine (hl _ _ _ (OkR_mb.mp q)).imp fun ds k1 ⟨h, l⟩ vs H1 e1 cu r1 => ?_
  have E1 := E.eff e1 cu
  refine ⟨by rw [← r1.length, LIM_eq]; exact l, fun p hp => ?_⟩
  refine h _ _ (e1.trans (Eff.of (sameNew hp))) (cu.same (sameNew hp)) ⟨p, rfl, e1.some' (k := k1) cu hp, vs, upd_same, r1.mono2 (ex2_of (fun a u n q => ⟨⟨n, ne_of_none q hp⟩, by rw [upd_ne (ne_of_none q hp)]; exact q⟩) fun a u q => by rw [upd_ne (ne_of_none q hp)]; exact q)⟩
theorem s_lst (ha : PA X es (tLs g f L)) (hl : ∀ (ρ : EV.Env) (k : Cup) (P : List D → Cup → Prop), OkR (L ρ k) P → OkR (L ρ k) fun ds k' => P ds k' ∧ ds.length ≤ LIM) :
    PE X (.List es pos) (tG g f .fr fun ρ => mb (L ρ) fun ds => mp (.lst ds)) := by
  refine (pe_lst ha).imp fun σ H Q ⟨ρ, k, c, E, q⟩ => ⟨ρ, k, c, E, ?_⟩
  refine (hl _ _ _ (OkR_mb.mp q)).imp fun ds k1 ⟨h, l⟩ vs H1 e1 cu r1 => ?_
  have E1 := E.eff e1 cu
  refine ⟨by rw [← r1.length, LIM_eq]; exact l, fun p hp => ?_⟩
  refine fin_fr E e1 E1 (sameNew hp) ?_ h
  simp only [RpT]
  exact ⟨p, vs, rfl, hp, .inl upd_same, r1.mono (fun _ h => .inl h) (sameEx (sameNew hp))⟩

/-! ### slices -/
def tOp' (g : G) (f : Fm) (m : EV.Env → M (Option Int)) : TO := fun σ H Q => ∃ ρ k c, EOK g f ρ k c σ H ∧ OkR (m ρ k) fun o k' => ∀ H', Eff c H H' → CupAt c k' H' → Q o H'
theorem PO.imp' {e : Option Expr} {t t' : TO} (h : PO X e t) (i : ∀ σ H Q, t' σ H Q → t σ H Q) : PO X e t' := ⟨fun pins s σ H Q I q => h.run pins s σ H Q I (i σ H Q q)⟩
theorem o_none : PO X none (tOp' g f fun _ => mp none) := PO.imp' po_none fun σ H Q ⟨ρ, k, c, E, q⟩ => q H Eff.refl E.cup
theorem o_some (ha : PE X x (tG g f .nf A)) : PO X (some x) (tOp' g f fun ρ => mb (A ρ) fun d => match d with | .int i => mp (some i) | _ => mf) := by
  refine PO.imp' (po_some ha) fun σ H Q ⟨ρ, k, c, E, q⟩ => ?_
  refine tG_seq E q fun d k1 v H1 h e1 E1 r1 => ?_
  cases d <;> try exact (OkR_mf h).elim
  simp only [topW, RpT, Rp] at r1
  exact ⟨_, r1, h H1 e1 E1.cup⟩
theorem tO_seq {ρ : EV.Env} {k : Cup} {c : Option Addr} {σ : L2.St} {H : Hp} {α : Type} {P : α → Cup → Prop} {ma : EV.Env → M (Option Int)} {F : Option Int → M α} {R : Option Int → Hp → Prop} (E : EOK g f ρ k c σ H) (h : OkR (mb (ma ρ) F k) P)
    (hR : ∀ d k1 H1, OkR (F d k1) P → Eff c H H1 → EOK g f ρ k1 c σ H1 → R d H1) : tOp' g f ma σ H R :=
  ⟨ρ, k, c, E, (OkR_mb.mp h).imp fun d k1 h H1 e cu => hR d k1 H1 h e (E.eff e cu)⟩
theorem s_sl {lo hi : Option Expr} {Lo Hi : EV.Env → M (Option Int)} {p2 : Pos} (hK : X.K = g.K) (ha : PE X x (tG g f .bo A)) (hl : PO X lo (tOp' g f Lo)) (hh : PO X hi (tOp' g f Hi)) :
    PE X (.Subscript x (.Slice lo hi none p2) pos) (tG g f .fr fun ρ => mb (A ρ) fun d => mb (Lo ρ) fun l => mb (Hi ρ) fun h => mo (slD d l h)) := by
  refine (pe_slice (sl_D (g := g) hK) ha hl hh).imp fun σ H Q ⟨ρ, k, c, E, q⟩ => ?_
  refine tG_seq E q fun d k1 v H1 h e1 E1 r1 => tO_seq E1 h fun l k2 H2 h e2 E2 => tO_seq E2 h fun u k3 H3 h e3 E3 => ?_
  obtain ⟨z, hz, q⟩ := OkR_mo.mp h
  exact ⟨_, _, d, z, RpT.eff r1 (e2.trans e3) E1.cup fun a n => nfc n, hz, fun w H' hs r => fin_fr E (e1.trans (e2.trans e3)) E3 hs r q⟩

/-! ### built-in calls -/
theorem rbi_call {b : Bi} {n : String} {ty : Bool} (hK : X.K = g.K) (hc : X.calm = true) (hu : X.A.units + 200 < cLine) (hb : biT b = some (n, ty)) :
    CallR X (if ty = true then .type n else .builtin n) (rBi g b) ∧ (n : Str) ∈ biNames ∧ bootBuiltins n = some (if ty = true then .type n else .builtin n) ∧ (n : Str) ≠ "__name__" ∧ ((n : Str) == ("__debug__" : Str)) = false := by
  cases b <;> simp only [biT] at hb <;> cases hb
  all_goals refine ⟨?_, by decide, by decide +kernel, by decide, by decide⟩
  · exact cb_len hK
  · exact cb_tuple hK
  · exact cb_list hK
  · exact cb_sorted hK hu
  · exact cb_all hK hc
  · exact cb_any hK hc
  · exact cb_sum hK hc
  · exact cb_max hK hc hu
  · exact cb_min hK hc hu
  · exact cb_str
  · exact cb_int
  · exact cb_abs
theorem noStar {es : List Expr} {env : PySem.Env} {pos : Pos} : (∀ e ∈ es, notStar e = true) → (backTo pos (starEach es env)).any (·.1) = false := by
  induction es with
  | nil => intro _; rfl
  | cons e es ih =>
    intro h
    rw [star_of (h e (by simp))]
    have := ih fun x hx => h x (by simp [hx])
    simpa [backTo] using this
theorem s_bi {ck : Ck} {C : Cfg} {cal : Cal} {sc : Scope} {b : Bi} {n : String} {ty : Bool} {p : Pos} (hX : XOK g ck C cal sc X) (hb : biT b = some (n, ty)) (hg : glC sc n = true) (hst : ∀ e ∈ x :: es, notStar e = true) (ha : PA X (x :: es) (tLb g f L)) :
    PE X (.Call (.Name n p) (x :: es) [] pos) (tG g f .fr fun ρ => mb (L ρ) fun ds => mo (biD C.kt b ds)) := by
  obtain ⟨h1, h2, h3, h4, h5⟩ := rbi_call (X := X) hX.K hX.calm hX.un hb
  have hg' : Gl X n := gl_of (by rw [hX.sc]; exact hg)
  have hs := star_of (env := X.env) (es := es) (hst x (by simp))
  have hpl : (backTo pos (starEach es X.env)).any (·.1) = false := noStar fun e he => hst e (by simp [he])
  have go : ∀ {σ : L2.St} {H : Hp} {Q : VK}, tG g f .fr (fun ρ => mb (L ρ) fun ds => mo (biD C.kt b ds)) σ H Q → tCB (rBi g b) (tLb g f L) σ H Q := fun {σ H Q} ⟨ρ, k, c, E, q⟩ => by
    refine tLb_seq E q fun ds k1 vs H1 h e1 E1 r1 => ?_
    obtain ⟨z, hz, q⟩ := OkR_mo.mp h
    rw [hX.kt] at hz
    exact ⟨_, _, ds, z, r1, hz, fun w H' hs r => fin_fr E e1 E1 hs r q⟩
  cases ty with
  | true => exact (pe_callTy (T := n) (by simpa using h1) hg' (hX.mg _ h2) (by simpa using h3) ha h4 h5 hs hpl).imp fun σ H Q q => go q
  | false => exact (pe_callB (id := n) (by simpa using h1) hg' (hX.mg _ h2) (by simpa using h3) ha h4 h5 hs hpl).imp fun σ H Q q => go q
theorem ty_name {ck : Ck} {C : Cfg} {cal : Cal} {sc : Scope} {t : Ty} {p : Pos} (hX : XOK g ck C cal sc X) (hg : glC sc (tyN t : Str) = true) : PE X (.Name (tyN t : Str) p) (tC (.ty (tyN t))) := by
  have hg' : Gl X (tyN t : Str) := gl_of (by rw [hX.sc]; exact hg)
  refine ⟨fun pins s σ H Q I h => ?_⟩
  have hm : X.mg (tyN t : Str) = none := hX.mg _ (by cases t <;> decide)
  refine ld_blt (u := .type (tyN t)) I hg' hm (by cases t <;> decide +kernel) ⟨.ty (tyN t), H, I, rfl, h⟩ (by cases t <;> decide) (by cases t <;> decide)
theorem s_isT {ck : Ck} {C : Cfg} {cal : Cal} {sc : Scope} {t : Ty} {p p2 : Pos} (hX : XOK g ck C cal sc X) (hg : glC sc "isinstance" = true) (hg2 : glC sc (tyN t : Str) = true) (hst : notStar x = true) (ha : PE X x (tG g f .bo A)) :
    PE X (.Call (.Name "isinstance" p) [x, .Name (tyN t : Str) p2] [] pos) (tG g f .nf fun ρ => mb (A ρ) fun d => mo ((isTy t d).map .bl)) := by
  have hg' : Gl X "isinstance" := gl_of (by rw [hX.sc]; exact hg)
  have hs2 : ∀ {es : List Expr}, starEach (.Name (tyN t : Str) p2 :: es) X.env = (false, eval (.Name (tyN t : Str) p2) X.env) :: starEach es X.env := rfl
  refine (pe_callB (id := "isinstance") (cb_isT (g := g) hX.K t) hg' (hX.mg _ (by decide)) (by decide +kernel) (pa_cons ha (pa_cons (ty_name hX hg2) pa_nil hs2) (star_of hst)) (by decide) (by decide) (star_of hst) rfl).imp fun σ H Q ⟨ρ, k, c, E, q⟩ => ?_
  refine tG_seq E q fun d k1 v H1 h e1 E1 r1 => ?_
  obtain ⟨z, hz, q⟩ := OkR_mo.mp h
  obtain ⟨b, hb, rfl⟩ := Option.map_eq_some_iff.mp hz
  exact ⟨_, _, d, b, v, rfl, r1, hb, fin_pl (md := .nf) E e1 E1 (fun T N => rpT_bl _) q⟩

/-! ### calls of defs -/
def tA (g : G) (f : Fm) (m : EV.Env → M (List Arg)) : TA := fun σ H Q => ∃ ρ k c, EOK g f ρ k c σ H ∧ OkR (m ρ k) fun as k' =>
  ∀ vs H', Eff c H H' → CupAt c k' H' → RpA g (NF f ρ σ c) H' c as vs → Q vs H'
theorem RpA.eff {c : Option Addr} {H H' : Hp} {N : Addr → Prop} {k' : Cup} (e : Eff c H H') (hc : CupAt c k' H) (hN : ∀ a, N a → some a ≠ c) : ∀ {ds : List Arg} {vs : List V}, RpA g N H c ds vs → RpA g N H' c ds vs
  | [], vs, h => by simpa only [RpA] using h
  | .val d :: ds, vs, h => by
    simp only [RpA] at h ⊢
    obtain ⟨v, r, rfl, h1, h2⟩ := h
    exact ⟨v, r, rfl, h1.eff e hc hN, RpA.eff e hc hN h2⟩
  | .cup :: ds, vs, h => by
    simp only [RpA] at h ⊢
    obtain ⟨v, r, rfl, h1, h2⟩ := h
    exact ⟨v, r, rfl, h1, RpA.eff e hc hN h2⟩
theorem tA_seq {ρ : EV.Env} {k : Cup} {c : Option Addr} {σ : L2.St} {H : Hp} {α : Type} {P : α → Cup → Prop} {ma : EV.Env → M (List Arg)} {F : List Arg → M α} {R : List V → Hp → Prop} (E : EOK g f ρ k c σ H) (h : OkR (mb (ma ρ) F k) P)
    (hR : ∀ d k1 v H1, OkR (F d k1) P → Eff c H H1 → EOK g f ρ k1 c σ H1 → RpA g (NF f ρ σ c) H1 c d v → R v H1) : tA g f ma σ H R :=
  ⟨ρ, k, c, E, (OkR_mb.mp h).imp fun d k1 h v H1 e cu r => hR d k1 v H1 h e (E.eff e cu) r⟩
theorem a_nil : PA X [] (tA g f fun _ => mp []) :=
  pa_nil.imp fun σ H Q ⟨ρ, k, c, E, q⟩ => q [] H Eff.refl E.cup (by simp only [RpA])
variable {LA : EV.Env → M (List Arg)}
theorem a_cons (hs : notStar x = true) (ha : PE X x (tG g f .nf A)) (hb : PA X es (tA g f LA)) : PA X (x :: es) (tA g f fun ρ => mb (mb (A ρ) fun d => mp (.val d)) fun a => mb (LA ρ) fun ds => mp (a :: ds)) := by
  refine (pa_cons ha hb (star_of hs)).imp fun σ H Q ⟨ρ, k, c, E, q⟩ => ?_
  simp only [mb_assoc] at q
  refine tG_seq E q fun d k1 v H1 h e1 E1 r1 => tA_seq E1 h fun ds k2 vs H2 h e2 E2 r2 => ?_
  refine h _ H2 (e1.trans e2) E2.cup ?_
  simp only [RpA]
  exact ⟨v, vs, rfl, (r1.toRp).eff e2 E1.cup fun a n => nfc n, r2⟩
/-- a name: a value, or the cup -/
theorem a_consV {i : Nat} {n : Str} (hN : X.N[i]? = some n) (hv : Vis X.env.scope n) (hd : (n == ("__debug__" : Str)) = false) (hcd : (n == ("__classdict__" : Str)) = false) (hb : PA X es (tA g f LA)) :
    PA X (.Name n pos :: es) (tA g f fun ρ => mb (match EV.Env.get ρ i with | .cup => mp .cup | .val d => mp (.val d) | _ => mf) fun a => mb (LA ρ) fun ds => mp (a :: ds)) := by
  refine (pa_cons (pe_var hN hv hd hcd) hb rfl).imp fun σ H Q ⟨ρ, k, c, E, q⟩ => ?_
  have go : ∀ {a : Arg} {v : V}, σ[i]? = some (some v) → (∀ vs as H', Eff c H H' → RpA g (NF f ρ σ c) H' c as vs → RpA g (NF f ρ σ c) H' c (a :: as) (v :: vs)) → OkR (mb (mp a) (fun a => mb (LA ρ) fun ds => mp (a :: ds)) k) (fun as k' => ∀ vs H', Eff c H H' → CupAt c k' H' → RpA g (NF f ρ σ c) H' c as vs → Q vs H') →
      tCons (tVar i) (tA g f LA) σ H Q := fun {a v} h1 h2 q => ⟨v, h1, tA_seq E q fun ds k2 vs H2 h e2 E2 r2 => h _ H2 e2 E2.cup (h2 vs ds H2 e2 r2)⟩
  cases hs : EV.Env.get ρ i <;> simp only [hs] at q <;> try exact False.elim q
  · obtain ⟨v, h1, h2⟩ := E.slot i _ (getD_of hs (by simp))
    refine go h1 (fun vs as H' e r => ?_) q
    simp only [RpA]
    exact ⟨v, vs, rfl, h2.eff e E.cup fun a n => nfc n, r⟩
  · obtain ⟨a, h1, h2⟩ := E.slot i _ (getD_of hs (by simp))
    refine go h2 (fun vs as H' e r => ?_) q
    simp only [RpA]
    exact ⟨a, vs, rfl, h1, r⟩
theorem call_end {cal : Cal} {i : Nat} {ρ : EV.Env} {k k1 : Cup} {c : Option Addr} {σ : L2.St} {H H1 : Hp} {Q : VK} {as : List Arg} {vs : List V} (E : EOK g f ρ k c σ H) (e1 : Eff c H H1) (E1 : EOK g f ρ k1 c σ H1) (r : RpA g (NF f ρ σ c) H1 c as vs)
    (h : OkR (mb (cal i as) (fun r => mp r.1) k1) fun d k' => ∀ v H', Eff c H H' → CupAt c k' H' → RpT g (topW .nf H c (NF f ρ σ c)) (NF f ρ σ c) H' d v → Q v H') : spF g cal i vs H1 Q (fun _ _ _ => False) := by
  refine ⟨as, NF f ρ σ c, k1, c, r, E1.cup, fun a n => nfc n, (OkR_mb.mp h).imp fun r k2 h v H' e2 cu rr => h v H' (e1.trans e2) cu ?_⟩
  cases hr : r.2 <;> simp only [hr, if_true, Bool.false_eq_true, if_false] at rr
  · exact (rr.mono (fun a n => n.elim id E1.fresh) Ex.refl).toT
  · exact (rr.toT.mono (fun a n => E1.fresh n) (fun a n => n.elim id E1.fresh) ⟨fun _ _ h => h, fun _ _ _ h => h, fun _ _ _ h => h, fun _ _ _ h => h⟩)
theorem s_call {ck : Ck} {C : Cfg} {cal : Cal} {sc : Scope} {i : Nat} {n : Str} {p : Pos} (hX : XOK g ck C cal sc X) (hN : ck.fnm[i]? = some n) (hg : glC sc n = true) (hd : (n == ("__debug__" : Str)) = false) (hst : ∀ e ∈ es, notStar e = true) (ha : PA X es (tA g f LA)) (hnil : es = [] → LA = fun _ => mp []) :
    PE X (.Call (.Name n p) es [] pos) (tG g f .nf fun ρ => mb (LA ρ) fun as => mb (cal i as) fun r => mp r.1) := by
  obtain ⟨kk, fa, fd, ps, h1, h2, h3, h4, h5⟩ := hX.fn i n hN
  have hg' : Gl X n := gl_of (by rw [hX.sc]; exact hg)
  cases es with
  | nil =>
    refine (pe_call0 (E := fun _ _ _ => False) (dvs := []) (ds := []) h3 h4 hg' h1 h2 h5 .nil pass0 hd).imp fun σ H Q ⟨ρ, k, c, E, q⟩ => ?_
    rw [hnil rfl] at q
    exact call_end (vs := []) E Eff.refl E (by simp only [RpA]) q
  | cons e es =>
    refine (pe_call (E := fun _ _ _ => False) (dvs := []) (ds := []) h3 h4 hg' h1 h2 h5 .nil pass0 ha hd (star_of (hst e (by simp))) (noStar fun x hx => hst x (by simp [hx]))).imp fun σ H Q ⟨ρ, k, c, E, q⟩ => ?_
    refine tA_seq E q fun as k1 vs H1 h e1 E1 r1 => ?_
    show spF g cal i (vs ++ []) H1 Q _
    rw [List.append_nil]
    exact call_end E e1 E1 r1 h
end
end EV
end

section
set_option Elab.async false
set_option linter.all false
set_option maxRecDepth 100000
/-! EvN: targets, sources. -/
namespace EV
open PySem PySem.Spec PyProof.Rows L2
section
variable {g : G} {f : Fm} {ρ ρ' : EV.Env} {k : Cup} {c : Option Addr} {σ σ' : L2.St} {H H' : Hp}

/-! ### slots -/
theorem nf_sub (h : ∀ (j : Nat) (d : D), ρ'[j]? = some (Slot.own d) → ∃ e, ρ[j]? = some (Slot.own e) ∧ σ'[j]? = σ[j]?) : ∀ a, NF f ρ σ c a → NF f ρ' σ' c a := fun a n =>
  ⟨n.1, n.2.1, n.2.2.1, fun j d hj => by
    obtain ⟨e, h1, h2⟩ := h j d hj
    rw [h2]
    exact n.2.2.2 j e h1⟩
theorem EOK.slots (E : EOK g f ρ k c σ H) (hl : ρ'.length = σ'.length)
    (h : ∀ (j : Nat) (s : Slot), ρ'[j]? = some s → (ρ[j]? = some s ∧ σ'[j]? = σ[j]?) ∨ s = .no ∨ ∃ d v, s = .val d ∧ σ'[j]? = some (some v) ∧ Rp g (NF f ρ' σ' c) H d v) : EOK g f ρ' k c σ' H := by
  have own : ∀ (j : Nat) (d : D), ρ'[j]? = some (Slot.own d) → ρ[j]? = some (Slot.own d) ∧ σ'[j]? = σ[j]? := fun j d e => by
    rcases h j _ e with z | z | ⟨_, _, z, _⟩
    · exact z
    · cases z
    · cases z
  have sub := nf_sub (f := f) (c := c) fun j d e => ⟨d, own j d e⟩
  refine ⟨E.cup, E.c0, E.cn, E.h0, E.n0, E.old, hl, fun i s hs => ?_, fun i j d e a h1 h2 h3 h4 => ?_, E.bar⟩
  · rcases h i s hs with ⟨h1, h2⟩ | rfl | ⟨d, v, rfl, h1, h2⟩
    · have := E.slot i s h1
      cases s with
      | no => trivial
      | val d =>
        obtain ⟨v, h3, h4⟩ := this
        exact ⟨v, h2.trans h3, h4.mono sub Ex.refl⟩
      | own d =>
        obtain ⟨a, h3, h4, h5, h6, h7⟩ := this
        exact ⟨a, h2.trans h3, h4, h5, h6, OwnAt.mono2 h7 ⟨fun _ _ h => h, fun a _ n h => ⟨sub a n, h⟩, fun a _ n h => ⟨sub a n, h⟩, fun a _ n h => ⟨sub a n, h⟩⟩ fun _ h => h⟩
      | cup =>
        obtain ⟨a, h3, h4⟩ := this
        exact ⟨a, h3, h2.trans h4⟩
    · trivial
    · exact ⟨v, h1, h2⟩
  · obtain ⟨p1, p2⟩ := own i d h1
    obtain ⟨p3, p4⟩ := own j e h2
    exact E.uniq i j d e a p1 p3 (p2.symm.trans h3) (p4.symm.trans h4)
theorem set_get {α : Type} {xs : List α} {i j : Nat} {x y : α} (h : (xs.set i x)[j]? = some y) : (j = i ∧ y = x ∧ i < xs.length) ∨ (j ≠ i ∧ xs[j]? = some y) := by
  by_cases e : j = i
  · subst e
    by_cases hl : j < xs.length
    · rw [List.getElem?_set_self hl] at h
      exact .inl ⟨rfl, (Option.some.inj h).symm, hl⟩
    · rw [List.getElem?_eq_none (by simpa using hl)] at h
      cases h
  · rw [List.getElem?_set_ne (Ne.symm e)] at h
    exact .inr ⟨e, h⟩
/-- a slot gets a plain value -/
theorem EOK.setVal (E : EOK g f ρ k c σ H) {i : Nat} {d : D} {v : V} (r : Rp g (NF f ρ σ c) H d v) :
    EOK g f (ρ.set i (.val d)) k c (σ.set i (some v)) H ∧ ∀ a, NF f ρ σ c a → NF f (ρ.set i (.val d)) (σ.set i (some v)) c a := by
  have own : ∀ (j : Nat) (e : D), (ρ.set i (.val d))[j]? = some (Slot.own e) → ∃ e', ρ[j]? = some (Slot.own e') ∧ (σ.set i (some v))[j]? = σ[j]? := fun j e h => by
    rcases set_get h with ⟨_, h, _⟩ | ⟨n, h⟩
    · cases h
    · exact ⟨e, h, List.getElem?_set_ne (Ne.symm n)⟩
  have sub := nf_sub (f := f) (c := c) own
  refine ⟨E.slots (by simp [E.len]) fun j s h => ?_, sub⟩
  rcases set_get h with ⟨rfl, rfl, hl⟩ | ⟨n, h⟩
  · exact .inr (.inr ⟨d, v, rfl, List.getElem?_set_self (by rw [← E.len]; exact hl), r.mono sub Ex.refl⟩)
  · exact .inl ⟨h, List.getElem?_set_ne (Ne.symm n)⟩
/-- what is as it was but at ns -/
structure Out (ns : List Nat) (ρ : EV.Env) (σ : L2.St) (ρ' : EV.Env) (σ' : L2.St) : Prop where
  lr : ρ'.length = ρ.length
  ls : σ'.length = σ.length
  at_ : ∀ j, j ∉ ns → ρ'[j]? = ρ[j]? ∧ σ'[j]? = σ[j]?
theorem Out.refl {ns : List Nat} : Out ns ρ σ ρ σ := ⟨rfl, rfl, fun _ _ => ⟨rfl, rfl⟩⟩
theorem Out.mono {ns ms : List Nat} (h : Out ns ρ σ ρ' σ') (i : ∀ j ∈ ns, j ∈ ms) : Out ms ρ σ ρ' σ' := ⟨h.lr, h.ls, fun j n => h.at_ j fun z => n (i j z)⟩
theorem Out.trans {ns : List Nat} {ρ2 : EV.Env} {σ2 : L2.St} (h : Out ns ρ σ ρ' σ') (h' : Out ns ρ' σ' ρ2 σ2) : Out ns ρ σ ρ2 σ2 :=
  ⟨h'.lr.trans h.lr, h'.ls.trans h.ls, fun j n => ⟨(h'.at_ j n).1.trans (h.at_ j n).1, (h'.at_ j n).2.trans (h.at_ j n).2⟩⟩
end

/-! ### targets -/
def gB (g : G) (t : Tg) : TG := fun v σ H Q => ∃ f ρ k c d ρ', EOK g f ρ k c σ H ∧ Rp g (NF f ρ σ c) H d v ∧ t.bind d ρ = some ρ' ∧
  ∀ σ', EOK g f ρ' k c σ' H → Out t.names ρ σ ρ' σ' → (∀ a, NF f ρ σ c a → NF f ρ' σ' c a) → Q σ' H
def gsB (g : G) (ts : List Tg) : TGs := fun vs σ H Q => ∃ f ρ k c ds ρ', EOK g f ρ k c σ H ∧ Rps g (NF f ρ σ c) H ds vs ∧ Tg.binds ts ds ρ = some ρ' ∧
  ∀ σ', EOK g f ρ' k c σ' H → Out (Tg.namesL ts) ρ σ ρ' σ' → (∀ a, NF f ρ σ c a → NF f ρ' σ' c a) → Q σ' H
section
variable {g : G} {X : Cx}
theorem PG.imp {e : Expr} {t t' : TG} (h : PG X e t) (i : ∀ v σ H Q, t' v σ H Q → t v σ H Q) : PG X e t' := ⟨fun pins s σ H v u Q I r q => h.run pins s σ H v u Q I r (i v σ H Q q)⟩
theorem PGs.imp {e : List Expr} {t t' : TGs} (h : PGs X e t) (i : ∀ v σ H Q, t' v σ H Q → t v σ H Q) : PGs X e t' := ⟨fun pins s σ H v u Q I r q => h.run pins s σ H v u Q I r (i v σ H Q q)⟩
theorem asg_of {e : Expr} {es : List Expr} {env : PySem.Env} (h : notStar e = true) : assignEach (e :: es) env = (false, assign e env) :: assignEach es env := by
  cases e <;> first | rfl | cases h
theorem asg_all {env : PySem.Env} : ∀ {es : List Expr}, (∀ e ∈ es, notStar e = true) → (assignEach es env).length = es.length ∧ (assignEach es env).findIdx? (·.1) = none
  | [], _ => ⟨rfl, rfl⟩
  | e :: es, h => by
    obtain ⟨h1, h2⟩ := asg_all (env := env) (es := es) fun x hx => h x (by simp [hx])
    rw [asg_of (h e (by simp))]
    refine ⟨by simp [h1], ?_⟩
    rw [List.findIdx?_cons]
    simp [h2]
theorem binds_len : ∀ {ts : List Tg} {ds : List D} {ρ ρ' : EV.Env}, Tg.binds ts ds ρ = some ρ' → ts.length = ds.length
  | [], ds, ρ, ρ', h => by cases ds <;> simp only [Tg.binds] at h <;> first | rfl | cases h
  | t :: ts, ds, ρ, ρ', h => by
    cases ds <;> simp only [Tg.binds] at h <;> try (cases h; done)
    obtain ⟨ρ1, _, h⟩ := Option.bind_eq_some_iff.mp h
    simp [binds_len h]
mutual
theorem g_bind {N : List Str} {fnc : Str → Bool} {sc : Scope} (hK : X.K = g.K) (hc : X.calm = true) (hN : X.N = N) (hnd : N.Nodup) (hsc : X.env.scope = sc) (hf : ∀ x, fnc x = true → X.fn x = true) :
    ∀ (t : Tg) (e : Expr), chkT N fnc sc t e = true → PG X e (gB g t)
  | .nm i, e, h => by
    simp only [chkT] at h
    split at h
    · rename_i x p
      simp only [Bool.and_eq_true, decide_eq_true_eq, Bool.or_eq_true] at h
      obtain ⟨h1, h2⟩ := h
      have hl : Loc X.env.scope x ∧ (X.fn x = true ∨ X.env.scope.names.lookup x = some .local) := by
        rw [hsc]
        rcases h2 with z | ⟨z, w⟩
        · exact ⟨.inl (loc_of z), .inr (loc_of z)⟩
        · exact ⟨.inr (cel_of z), .inl (hf x w)⟩
      refine PG.imp (pg_name (i := i) (by rw [hN]; exact hnd) (by rw [hN]; exact h1) hl.1 hl.2) fun v σ H Q ⟨f, ρ, k, c, d, ρ', E, r, hb, q⟩ => ?_
      simp only [Tg.bind] at hb
      cases hb
      obtain ⟨E', sub⟩ := E.setVal (i := i) r
      refine q _ E' ⟨by simp, by simp, fun j n => ?_⟩ sub
      have : i ≠ j := fun z => n (by simp [Tg.names, z])
      exact ⟨List.getElem?_set_ne this, List.getElem?_set_ne this⟩
    · cases h
  | .tp ts, e, h => by
    simp only [chkT] at h
    split at h
    · rename_i es kk p
      obtain ⟨gs, hl, hst⟩ := g_binds hK hc hN hnd hsc hf ts es h
      obtain ⟨a1, a2⟩ := asg_all (env := X.env) hst
      refine PG.imp (pg_tup (n := ts.length) hc gs (a1.trans hl.symm) a2) fun v σ H Q ⟨f, ρ, k, c, d, ρ', E, r, hb, q⟩ => ?_
      cases d <;> simp only [Tg.bind] at hb <;> try (cases hb; done)
      rename_i ds
      simp only [Rp] at r
      obtain ⟨a, vs, rfl, h1, h2⟩ := r
      exact ⟨a, vs, rfl, by rw [hK]; exact h1.sq, by rw [← h2.length, binds_len hb], f, ρ, k, c, ds, ρ', E, h2, hb, fun σ' E' o s => q σ' E' (by simpa only [Tg.names] using o) s⟩
    · cases h
theorem g_binds {N : List Str} {fnc : Str → Bool} {sc : Scope} (hK : X.K = g.K) (hc : X.calm = true) (hN : X.N = N) (hnd : N.Nodup) (hsc : X.env.scope = sc) (hf : ∀ x, fnc x = true → X.fn x = true) :
    ∀ (ts : List Tg) (es : List Expr), chkTs N fnc sc ts es = true → PGs X es (gsB g ts) ∧ ts.length = es.length ∧ ∀ e ∈ es, notStar e = true
  | [], es, h => by
    simp only [chkTs] at h
    split at h
    · refine ⟨PGs.imp pgs_nil fun v σ H Q ⟨f, ρ, k, c, d, ρ', E, r, hb, q⟩ => ?_, rfl, by simp⟩
      cases d <;> simp only [Tg.binds] at hb <;> try (cases hb; done)
      cases hb
      simp only [Rps] at r
      exact ⟨r, q σ E Out.refl fun _ n => n⟩
    · cases h
  | t :: ts, es, h => by
    simp only [chkTs] at h
    split at h
    · rename_i e r
      simp only [Bool.and_eq_true] at h
      obtain ⟨⟨h0, h1⟩, h2⟩ := h
      obtain ⟨ih, il, is⟩ := g_binds hK hc hN hnd hsc hf ts r h2
      refine ⟨PGs.imp (pgs_cons (g_bind hK hc hN hnd hsc hf t e h1) ih (by rw [asg_of h0]; rfl)) fun v σ H Q ⟨f, ρ, k, c, d, ρ', E, r, hb, q⟩ => ?_, by simp [il], fun x hx => (List.mem_cons.mp hx).elim (fun z => z ▸ h0) (is x)⟩
      · cases d <;> simp only [Tg.binds] at hb <;> try (cases hb; done)
        rename_i d ds
        simp only [Rps] at r
        obtain ⟨v, vs, rfl, r1, r2⟩ := r
        obtain ⟨ρ1, hb1, hb2⟩ := Option.bind_eq_some_iff.mp hb
        refine ⟨v, vs, rfl, f, ρ, k, c, d, ρ1, E, r1, hb1, fun σ1 E1 o1 s1 => ?_⟩
        refine ⟨f, ρ1, k, c, ds, ρ', E1, r2.mono s1 Ex.refl, hb2, fun σ2 E2 o2 s2 => q σ2 E2 ?_ fun a n => s2 a (s1 a n)⟩
        simp only [Tg.namesL]
        exact (o1.mono fun j z => List.mem_append_left _ z).trans (o2.mono fun j z => List.mem_append_right _ z)
    · cases h
end
end
end EV
end

section
set_option Elab.async false
set_option linter.all false
set_option maxRecDepth 100000
/-! EvO: what a walk gives. -/
namespace EV
open PySem PySem.Spec PyProof.Rows L2

theorem OkR_ex {α : Type} {r : R α} {P : α → Cup → Prop} (h : OkR r P) : ∃ a k, r = .ok a k ∧ P a k := by
  cases r with
  | ok a k => exact ⟨a, k, rfl, h⟩
  | _ => exact h.elim
/-- a walk's source: it gives xs, as long as what it stands on stands (T tells of that) -/
def SrcR (g : G) (xs : List D) (T N : Addr → Prop) (H1 : Hp) (J : It) : Prop :=
  xs.length ≤ LIM ∧ ∃ (bs : List (List D × List V)) (A : Addr → Prop) (GG : Hp → Prop) (Y : Nat → Hp → V → Hp → Prop), Walk J xs.length GG Y ∧ (∀ b ∈ bs, Rps g N H1 b.1 b.2) ∧
    (∀ a, A a → T a ∧ H1 a ≠ none) ∧
    (∀ H2, (∀ a o, A a → H1 a = some o → H2 a = some o) → (∀ a vs, H1 a = some (.tup vs) → H2 a = some (.tup vs)) → GG H2) ∧
    ∀ i H2 x H3 N', i < xs.length → GG H2 → Y i H2 x H3 → (∀ b ∈ bs, Rps g N' H2 b.1 b.2) → Same H2 H3 ∧ ∃ d, xs[i]? = some d ∧ Rp g (NN N' H2) H3 d x
def tSr (g : G) (f : Fm) (md : Md) (m : EV.Env → M (List D)) : TI := fun σ H R => ∃ ρ k c, EOK g f ρ k c σ H ∧ OkR (m ρ k) fun xs k' =>
  ∀ J H1, Eff c H H1 → CupAt c k' H1 → SrcR g xs (topW md H c (NF f ρ σ c)) (NF f ρ σ c) H1 J → R J H1
section
variable {g : G} {f : Fm} {X : Cx} {x y tg it : Expr} {A B : EV.Env → M D} {L : EV.Env → M (List D)} {md : Md} {pos : Pos}
theorem PI.imp {t t' : TI} (h : PI X tg it t) (i : ∀ σ H Q, t' σ H Q → t σ H Q) : PI X tg it t' := ⟨fun pins s σ H Q I q => h.run pins s σ H Q I (i σ H Q q)⟩
theorem PI.or {t t' : TI} (h : PI X tg it t) (h' : PI X tg it t') : PI X tg it (fun σ H Q => t σ H Q ∨ t' σ H Q) := ⟨fun pins s σ H Q I q => q.elim (h.run pins s σ H Q I) (h'.run pins s σ H Q I)⟩
/-- what the state tells of a value -/
theorem PE.fact {e : Expr} {t : TE} (h : PE X e t) (F : V → Hp → Prop) (hF : ∀ pins s σ H v, Inv X pins σ H s → F v H) : PE X e (fun σ H Q => t σ H fun v H' => F v H' → Q v H') :=
  ⟨fun pins s σ H Q I q => thn (h.run pins s σ H _ I q) fun u s' ⟨v, H', I', r, q⟩ => ⟨v, H', I', r, q (hF _ _ _ _ _ I')⟩⟩
theorem PA.fact {e : List Expr} {t : TA} (h : PA X e t) (F : Hp → Prop) (hF : ∀ pins s σ H, Inv X pins σ H s → F H) : PA X e (fun σ H Q => t σ H fun v H' => F H' → Q v H') :=
  ⟨fun pos pins s σ H Q I q => thn (h.run pos pins s σ H _ I q) fun u s' ⟨v, H', I', r, q⟩ => ⟨v, H', I', r, q (hF _ _ _ _ I')⟩⟩
def Szs (K : PySem.W.Frag) (H : Hp) : Prop := ∀ a vs, (SqL K H a vs → vs.length ≤ LIM) ∧ (SqT K H a vs → vs.length ≤ LIM)
theorem szs_of {pins : List (Addr × Obj)} {s : Shared} {σ : L2.St} {H : Hp} (I : Inv X pins σ H s) : Szs X.K H := fun a vs =>
  ⟨fun h => by obtain ⟨_, _, _, z⟩ := I.list h; rw [← LIM_eq]; exact z, fun h => by obtain ⟨_, _, _, z⟩ := I.tuple h; rw [← LIM_eq]; exact z⟩
theorem rd_keep {H1 H2 : Hp} {a : Addr} {u : HO} (r : Rd H1 a u) (k : ∀ o, H1 a = some o → H2 a = some o) : Rd H2 a u := by
  rcases r with r | ⟨o, r⟩
  · exact .inl (k _ r)
  · exact .inr ⟨o, k _ r⟩
theorem tp_keep {H1 H2 : Hp} {ds : List D} {a : Addr} {vs : List V} (h : Tp g H1 ds a vs) (t : ∀ a vs, H1 a = some (.tup vs) → H2 a = some (.tup vs)) : Tp g H2 ds a vs := h.imp (t a vs) id
theorem rd_some {H1 : Hp} {a : Addr} {u : HO} (r : Rd H1 a u) : H1 a ≠ none := by
  rcases r with r | ⟨o, r⟩ <;> (rw [r]; simp)
theorem src_list {ds : List D} {vs : List V} {T N : Addr → Prop} {H1 : Hp} {a : Addr} (hz : vs.length ≤ LIM) (t : T a) (rd : Rd H1 a (.lst vs)) (rs : Rps g N H1 ds vs) : SrcR g ds T N H1 (Itl g.K a) := by
  have hl := rs.length
  refine ⟨by omega, [(ds, vs)], fun b => b = a, fun H => SqL g.K H a vs, YAt vs, by rw [hl]; exact walk_list, ?_, ?_, ?_, ?_⟩
  · intro b hb
    rw [List.mem_singleton] at hb
    subst hb
    exact rs
  · rintro b rfl; exact ⟨t, rd_some rd⟩
  · exact fun H2 k _ => .inl (rd_keep rd fun o e => k a o rfl e)
  · rintro i H2 x H3 N' hi _ ⟨rfl, hy⟩ hb
    have r := hb _ (List.mem_singleton.mpr rfl)
    refine ⟨Same.refl _, ds[i], by simp [hi], ?_⟩
    obtain ⟨v, h1, h2⟩ := r.get (i := i) (d := ds[i]) (by simp [hi])
    have : v = x := Option.some.inj (h1.symm.trans hy)
    subst this
    exact h2.mono (fun _ h => .inl h) Ex.refl
theorem src_tup {ds : List D} {vs : List V} {T N : Addr → Prop} {H1 : Hp} {a : Addr} (hz : vs.length ≤ LIM) (rd : Tp g H1 ds a vs) (rs : Rps g N H1 ds vs) : SrcR g ds T N H1 (Itt g.K a) := by
  have hl := rs.length
  refine ⟨by omega, [(ds, vs)], fun b => False, fun H => SqT g.K H a vs, YAt vs, by rw [hl]; exact walk_tup, ?_, ?_, ?_, ?_⟩
  · intro b hb
    rw [List.mem_singleton] at hb
    subst hb
    exact rs
  · intro b h; exact h.elim
  · exact fun H2 _ k => (tp_keep rd k).sq
  · rintro i H2 x H3 N' hi _ ⟨rfl, hy⟩ hb
    have r := hb _ (List.mem_singleton.mpr rfl)
    refine ⟨Same.refl _, ds[i], by simp [hi], ?_⟩
    obtain ⟨v, h1, h2⟩ := r.get (i := i) (d := ds[i]) (by simp [hi])
    have : v = x := Option.some.inj (h1.symm.trans hy)
    subst this
    exact h2.mono (fun _ h => .inl h) Ex.refl
theorem r_pl (hK : X.K = g.K) (hm : md ≠ .fr) (ha : PE X x (tG g f md A)) : PI X tg x (tSr g f md fun ρ => mb (A ρ) fun d => mo (walkD d)) := by
  have ha' := PE.fact ha (fun _ H => Szs X.K H) fun _ _ _ _ _ I => szs_of I
  refine PI.imp (PI.or (pi_list ha') (PI.or (pi_tup ha') (pi_str ha'))) fun σ H R ⟨ρ, k, c, E, q⟩ => ?_
  obtain ⟨d0, k0, hd, q'⟩ := OkR_ex (OkR_mb.mp q)
  obtain ⟨xs0, hx0, q2⟩ := OkR_mo.mp q'
  have mk : ∀ {R' : VK}, (∀ xs v H1, walkD d0 = some xs → Eff c H H1 → EOK g f ρ k0 c σ H1 → RpT g (topW md H c (NF f ρ σ c)) (NF f ρ σ c) H1 d0 v → (∀ J, SrcR g xs (topW md H c (NF f ρ σ c)) (NF f ρ σ c) H1 J → R J H1) → Szs X.K H1 → R' v H1) →
      tG g f md A σ H (fun v H' => Szs X.K H' → R' v H') := fun {R'} hR => by
    refine ⟨ρ, k, c, E, ?_⟩
    rw [hd]
    exact fun v H1 e cu r hz => hR xs0 v H1 hx0 e (E.eff e cu) r (fun J s => q2 J H1 e cu s) hz
  cases d0 with
  | lst ds =>
    refine .inl (mk fun xs v H1 hx e E1 r hR hz => ?_)
    cases hx
    simp only [RpT] at r
    obtain ⟨a, vs, rfl, t, rd, rs⟩ := r
    have sl : SqL X.K H1 a vs := .inl rd
    exact ⟨a, rfl, ⟨vs, sl⟩, by rw [hK]; exact hR _ (src_list ((hz a vs).1 sl) t rd rs)⟩
  | tup ds =>
    refine .inr (.inl (mk fun xs v H1 hx e E1 r hR hz => ?_))
    cases hx
    simp only [RpT, Rp] at r
    obtain ⟨a, vs, rfl, rd, rs⟩ := r
    have sl : SqT X.K H1 a vs := by rw [hK]; exact rd.sq
    exact ⟨a, rfl, ⟨vs, sl⟩, by rw [hK]; exact hR _ (src_tup ((hz a vs).2 sl) rd rs)⟩
  | str z =>
    refine .inr (.inr (mk fun xs v H1 hx e E1 r hR hz => ?_))
    cases hx
    simp only [RpT, Rp] at r
    obtain ⟨rfl, ok⟩ := r
    refine ⟨strL z, rfl, hR _ ⟨by rw [List.length_map]; exact okS_len ok, [], fun _ => False, fun _ => True, _, (walk_str (z := strL z)).mono (fun _ _ => trivial) (fun _ _ _ _ _ _ h => h) |> fun w => by simpa [strL] using w, by simp, fun _ h => h.elim, fun _ _ _ => trivial, ?_⟩⟩
    rintro i H2 x H3 N' hi _ ⟨rfl, ch, h1, rfl⟩ _
    have h1 : z[i]? = some ch := by simpa [strL] using h1
    refine ⟨Same.refl _, .str [ch], by simp [h1], ?_⟩
    simp only [Rp]
    exact ⟨rfl, okS_get ok h1⟩
  | _ => simp [walkD] at hx0
end
end EV
end

section
set_option Elab.async false
set_option linter.all false
set_option maxRecDepth 100000
/-! EvP: range, enumerate, zip. -/
namespace EV
open PySem PySem.Spec PyProof.Rows L2 RZ
theorem rangeI_len : ∀ (n : Nat) (lo : Int), (rangeI lo n).length = n
  | 0, _ => rfl
  | n + 1, lo => by simp only [rangeI, List.length_cons, rangeI_len n]
theorem rangeI_get : ∀ (n : Nat) (lo : Int) (i : Nat), i < n → (rangeI lo n)[i]? = some (.int (lo + i))
  | n + 1, lo, 0, _ => by simp [rangeI]
  | n + 1, lo, i + 1, h => by
    simp only [rangeI, List.getElem?_cons_succ]
    rw [rangeI_get n (lo + 1) i (by omega)]
    congr 2; omega
theorem rng1 {ds xs : List D} (hl : ds.length = 1) (h : rngD ds = some xs) : ∃ j : Int, ds = [.int j] ∧ -16777216 ≤ j ∧ j ≤ 16777216 ∧ xs = rangeI 0 j.toNat := by
  obtain ⟨d, rfl⟩ := List.length_eq_one_iff.mp hl
  cases d <;> simp only [rngD] at h <;> try (cases h; done)
  split at h
  · rename_i i hj
    simp only [Bool.and_eq_true, decide_eq_true_eq] at hj
    exact ⟨_, rfl, hj.1, hj.2, (Option.some.inj h).symm⟩
  · cases h
theorem rng2 {ds xs : List D} (hl : ds.length = 2) (h : rngD ds = some xs) : ∃ i j : Int, ds = [.int i, .int j] ∧ -16777216 ≤ i ∧ i ≤ 16777216 ∧ -16777216 ≤ j ∧ j ≤ 16777216 ∧ j - i ≤ 16777216 ∧ xs = rangeI i (j - i).toNat := by
  obtain ⟨d, e, rfl⟩ : ∃ d e, ds = [d, e] := by
    match ds, hl with
    | [d, e], _ => exact ⟨d, e, rfl⟩
  cases d <;> try (simp only [rngD] at h; cases h; done)
  cases e <;> try (simp only [rngD] at h; cases h; done)
  simp only [rngD] at h
  split at h
  · rename_i i hj
    simp only [Bool.and_eq_true, decide_eq_true_eq] at hj
    exact ⟨_, _, rfl, hj.1.1.1.1, hj.1.1.1.2, hj.1.2, hj.1.1.2, hj.2, (Option.some.inj h).symm⟩
  · cases h
theorem enumI_len : ∀ (xs : List D) (n : Int), (enumI n xs).length = xs.length
  | [], _ => rfl
  | x :: xs, n => by simp only [enumI, List.length_cons, enumI_len xs]
theorem enumI_get : ∀ (xs : List D) (n : Int) (i : Nat), (enumI n xs)[i]? = xs[i]?.map fun d => .tup [.int (n + i), d]
  | [], _, _ => by simp [enumI]
  | x :: xs, n, 0 => by simp [enumI]
  | x :: xs, n, i + 1 => by
    simp only [enumI, List.getElem?_cons_succ]
    rw [enumI_get xs (n + 1) i]
    cases xs[i]? <;> simp; omega
theorem zipI_len : ∀ (xs ys : List D), (zipI xs ys).length = min xs.length ys.length
  | [], _ => by simp [zipI]
  | _ :: _, [] => by simp [zipI]
  | x :: xs, y :: ys => by simp only [zipI, List.length_cons, zipI_len xs ys]; omega
theorem zipI_get : ∀ (xs ys : List D) (i : Nat) (x y : D), xs[i]? = some x → ys[i]? = some y → (zipI xs ys)[i]? = some (.tup [x, y])
  | [], _, i, x, y, h, _ => by simp at h
  | _ :: _, [], i, x, y, _, h => by simp at h
  | a :: xs, b :: ys, 0, x, y, h, h' => by simp at h h'; simp [zipI, h, h']
  | a :: xs, b :: ys, i + 1, x, y, h, h' => by
    simp only [zipI, List.getElem?_cons_succ] at h h' ⊢
    exact zipI_get xs ys i x y h h'
section
variable {g : G} {f : Fm} {X : Cx} {x y tg it : Expr} {A B : EV.Env → M D} {L : EV.Env → M (List D)} {md : Md} {pos p : Pos} {es : List Expr}
theorem RpT.effM {c : Option Addr} {H H' H0 : Hp} {N : Addr → Prop} {d : D} {v : V} {k' : Cup} (hm : md ≠ .fr) (h : RpT g (topW md H0 c N) N H d v) (e : Eff c H H') (hc : CupAt c k' H) (hN : ∀ a, N a → some a ≠ c) : RpT g (topW md H0 c N) N H' d v := by
  cases md with
  | nf => exact (h.toRp.eff e hc hN).toT
  | fr => exact absurd rfl hm
  | bo => exact h.eff e hc hN
theorem pair_rep {N' : Addr → Prop} {H2 : Hp} {T : Addr} {dx dy : D} {vx vy : V} (hT : H2 T = none) (rx : Rp g N' H2 dx vx) (ry : Rp g N' H2 dy vy) : Rp g (NN N' H2) (upd H2 T (.tup [vx, vy])) (.tup [dx, dy]) (.ref T) := by
  simp only [Rp]
  exact ⟨T, _, rfl, .inl upd_same, Rps.cons (rx.mono (fun _ h => .inl h) (sameEx (sameNew hT))) (Rps.cons (ry.mono (fun _ h => .inl h) (sameEx (sameNew hT))) Rps.nil)⟩
theorem src_enum {ds : List D} {vs : List V} {T N : Addr → Prop} {H1 : Hp} {a : Addr} (hz : vs.length ≤ LIM) (t : T a) (rd : Rd H1 a (.lst vs)) (rs : Rps g N H1 ds vs) : SrcR g (enumI 0 ds) T N H1 (Ite g.K a) := by
  have hl := rs.length
  refine ⟨by rw [enumI_len]; omega, [(ds, vs)], fun b => b = a, fun H => SqL g.K H a vs, _, by rw [enumI_len, hl]; exact walk_enum, ?_, ?_, ?_, ?_⟩
  · intro b hb
    rw [List.mem_singleton] at hb
    subst hb
    exact rs
  · rintro b rfl; exact ⟨t, rd_some rd⟩
  · exact fun H2 k _ => .inl (rd_keep rd fun o e => k a o rfl e)
  · rintro i H2 x H3 N' hi _ ⟨Tt, vx, vy, rfl, hT, rfl, hx, hy⟩ hb
    have r := hb _ (List.mem_singleton.mpr rfl)
    rw [enumI_len] at hi
    cases hx
    refine ⟨sameNew hT, .tup [.int (i : Nat), ds[i]], by rw [enumI_get]; simp [hi], ?_⟩
    obtain ⟨v, h1, h2⟩ := r.get (i := i) (d := ds[i]) (by simp [hi])
    have : v = vy := Option.some.inj (h1.symm.trans hy)
    subst this
    exact pair_rep hT (by simp only [Rp]) h2
theorem walk_zipT {K : PySem.W.Frag} {a b : Addr} {xs ys : List V} {n : Nat} (hn : n = min xs.length ys.length) : Walk (ItzT K a b) n (fun H => SqT K H a xs ∧ SqT K H b ys) (YPair (fun i => xs[i]?) (fun i => ys[i]?)) := by
  subst hn
  refine ⟨fun i _ hi q => ?_, fun _ q => ⟨xs, ys, q.1, q.2, by omega⟩, fun i H v H' _ q y => ?_⟩
  · have h1 : i < xs.length := by omega
    have h2 : i < ys.length := by omega
    exact ⟨xs, ys, xs[i], ys[i], q.1, q.2, by simp [h1], by simp [h2]⟩
  · obtain ⟨T, x, z, h1, h2, h3, h4, h5⟩ := y
    exact ⟨T, x, z, h1, h2, h3, h4 xs q.1, h5 ys q.2⟩
theorem zip_good {ds es : List D} {vs us : List V} {bs : List (List D × List V)} {i : Nat} {H2 H3 : Hp} {x : V} {N' : Addr → Prop} (hb : bs = [(ds, vs), (es, us)]) (hi : i < (zipI ds es).length)
    (y : YPair (fun i => vs[i]?) (fun i => us[i]?) i H2 x H3) (r : ∀ b ∈ bs, Rps g N' H2 b.1 b.2) : Same H2 H3 ∧ ∃ d, (zipI ds es)[i]? = some d ∧ Rp g (NN N' H2) H3 d x := by
  subst hb
  obtain ⟨Tt, vx, vy, rfl, hT, rfl, hx, hy⟩ := y
  have r1 : Rps g N' H2 ds vs := r (ds, vs) (by simp)
  have r2 : Rps g N' H2 es us := r (es, us) (by simp)
  rw [zipI_len] at hi
  obtain ⟨v, h1, h2⟩ := r1.get (i := i) (d := ds[i]'(by omega)) (by simp)
  obtain ⟨v', h3, h4⟩ := r2.get (i := i) (d := es[i]'(by omega)) (by simp)
  have : v = vx := Option.some.inj (h1.symm.trans hx)
  subst this
  have : v' = vy := Option.some.inj (h3.symm.trans hy)
  subst this
  exact ⟨sameNew hT, _, zipI_get _ _ i _ _ (List.getElem?_eq_getElem (by omega)) (List.getElem?_eq_getElem (by omega)), pair_rep hT h2 h4⟩
theorem src_zipL {ds es : List D} {vs us : List V} {T N : Addr → Prop} {H1 : Hp} {a b : Addr} (hz : vs.length ≤ LIM) (t : T a) (rd : Rd H1 a (.lst vs)) (rs : Rps g N H1 ds vs) (t' : T b) (rd' : Rd H1 b (.lst us)) (rs' : Rps g N H1 es us) : SrcR g (zipI ds es) T N H1 (Itz g.K a b) := by
  have hl := rs.length
  have hl' := rs'.length
  refine ⟨by rw [zipI_len]; omega, [(ds, vs), (es, us)], fun z => z = a ∨ z = b, fun H => SqL g.K H a vs ∧ SqL g.K H b us, _, by rw [zipI_len, hl, hl']; exact walk_zip rfl, ?_, ?_, ?_, ?_⟩
  · intro z hz
    rcases List.mem_cons.mp hz with rfl | hz
    · exact rs
    · rw [List.mem_singleton] at hz; subst hz; exact rs'
  · rintro z (rfl | rfl)
    · exact ⟨t, rd_some rd⟩
    · exact ⟨t', rd_some rd'⟩
  · exact fun H2 k _ => ⟨.inl (rd_keep rd fun o e => k a o (.inl rfl) e), .inl (rd_keep rd' fun o e => k b o (.inr rfl) e)⟩
  · exact fun i H2 x H3 N' hi _ y hb => zip_good rfl hi y hb
theorem src_zipT {ds es : List D} {vs us : List V} {T N : Addr → Prop} {H1 : Hp} {a b : Addr} (hz : vs.length ≤ LIM) (rd : Tp g H1 ds a vs) (rs : Rps g N H1 ds vs) (rd' : Tp g H1 es b us) (rs' : Rps g N H1 es us) : SrcR g (zipI ds es) T N H1 (ItzT g.K a b) := by
  have hl := rs.length
  have hl' := rs'.length
  refine ⟨by rw [zipI_len]; omega, [(ds, vs), (es, us)], fun z => False, fun H => SqT g.K H a vs ∧ SqT g.K H b us, _, by rw [zipI_len, hl, hl']; exact walk_zipT rfl, ?_, ?_, ?_, ?_⟩
  · intro z hz
    rcases List.mem_cons.mp hz with rfl | hz
    · exact rs
    · rw [List.mem_singleton] at hz; subst hz; exact rs'
  · intro z h; exact h.elim
  · exact fun H2 _ k => ⟨(tp_keep rd k).sq, (tp_keep rd' k).sq⟩
  · exact fun i H2 x H3 N' hi _ y hb => zip_good rfl hi y hb
theorem r_rng {ck : Ck} {C : Cfg} {cal : Cal} {sc : Scope} (hX : XOK g ck C cal sc X) (hg : glC sc "range" = true) (hst : ∀ e ∈ es, notStar e = true) (hl : es.length = 1 ∨ es.length = 2) (hlen : ∀ (ρ : EV.Env) (k : Cup) (P : List D → Cup → Prop), OkR (L ρ k) P → OkR (L ρ k) fun ds k' => P ds k' ∧ ds.length = es.length)
    (ha : PA X es (tLs g f L)) : PI X tg (.Call (.Name "range" p) es [] pos) (tSr g f md fun ρ => mb (L ρ) fun ds => mo (rngD ds)) := by
  have hg' : Gl X "range" := gl_of (by rw [hX.sc]; exact hg)
  have hm : X.mg "range" = none := hX.mg _ (by decide)
  have src : ∀ {lo : Int} {n : Nat} {T N : Addr → Prop} {H1 : Hp}, n ≤ LIM → SrcR g (rangeI lo n) T N H1 (Itr lo n) := fun {lo n T N H1} hn => by
    refine ⟨by rw [rangeI_len]; exact hn, [], fun _ => False, fun _ => True, _, by rw [rangeI_len]; exact walk_range, by simp, fun _ h => h.elim, fun _ _ _ => trivial, ?_⟩
    rintro i H2 x H3 N' hi _ ⟨rfl, rfl⟩ _
    rw [rangeI_len] at hi
    exact ⟨Same.refl _, _, rangeI_get _ _ _ hi, by simp only [Rp]⟩
  have start : ∀ {σ : L2.St} {H : Hp} {R : It → Hp → Prop} {R' : List V → Hp → Prop}, tSr g f md (fun ρ => mb (L ρ) fun ds => mo (rngD ds)) σ H R → (∀ ds vs xs (N : Addr → Prop) H1, ds.length = es.length → Rps g N H1 ds vs → rngD ds = some xs → (∀ J, (∀ T N, SrcR g xs T N H1 J) → R J H1) → R' vs H1) → tLs g f L σ H R' := fun {σ H R R'} ⟨ρ, k, c, E, q⟩ hR => by
    refine ⟨ρ, k, c, E, (hlen _ _ _ (OkR_mb.mp q)).imp fun ds k1 ⟨h, hlen⟩ vs H1 e1 cu r1 => ?_⟩
    obtain ⟨xs, hx, q⟩ := OkR_mo.mp h
    exact hR ds vs xs _ H1 hlen r1 hx fun J s => q J H1 e1 cu (s _ _)
  have hes : (∃ a, es = [a]) ∨ ∃ a b, es = [a, b] := by
    match es, hl with
    | [a], _ => exact .inl ⟨a, rfl⟩
    | [a, b], _ => exact .inr ⟨a, b, rfl⟩
    | [], h => simp at h
    | _ :: _ :: _ :: _, h => simp at h
  rcases hes with ⟨a, rfl⟩ | ⟨a, b, rfl⟩
  · refine PI.imp (pi_range1 hg' hm ha (star_of (hst a (by simp)))) fun σ H R q => start q fun ds vs xs N H1 hl r hx q => ?_
    obtain ⟨j, rfl, h1, h2, rfl⟩ := rng1 hl hx
    simp only [Rps, Rp] at r
    obtain ⟨v, r, rfl, rfl, rfl⟩ := r
    have hL : (LIM : Int) = 16777216 := rfl
    exact ⟨j, rfl, by omega, by omega, q _ fun T N => src (by omega)⟩
  · refine PI.imp (pi_range2 hg' hm ha (by rw [star_of (hst a (by simp)), star_of (hst b (by simp))]; rfl) (star_of (hst b (by simp)))) fun σ H R q => start q fun ds vs xs N H1 hl r hx q => ?_
    obtain ⟨i, j, rfl, h1, h2, h3, h4, h5, rfl⟩ := rng2 hl hx
    simp only [Rps, Rp] at r
    obtain ⟨v, r, rfl, rfl, u, r, rfl, rfl, rfl⟩ := r
    have hL : (LIM : Int) = 16777216 := rfl
    exact ⟨i, j, rfl, ⟨by omega, by omega, by omega, by omega⟩, q _ fun T N => src (by omega)⟩
theorem r_enum {ck : Ck} {C : Cfg} {cal : Cal} {sc : Scope} {kk : Nat} {tp : Pos} {elts : List Expr} (hX : XOK g ck C cal sc X) (hg : glC sc "enumerate" = true) (hst : notStar x = true) (ha : PE X x (tG g f md A)) :
    PI X (.Tuple elts kk tp) (.Call (.Name "enumerate" p) [x] [] pos) (tSr g f md fun ρ => mb (A ρ) fun d => mo (enumD d)) := by
  have hg' : Gl X "enumerate" := gl_of (by rw [hX.sc]; exact hg)
  have ha' := PA.fact (pa_cons ha pa_nil (star_of hst)) (fun H => Szs X.K H) fun _ _ _ _ I => szs_of I
  refine PI.imp (pi_enum hg' (hX.mg _ (by decide)) ha' (star_of hst)) fun σ H R ⟨ρ, k, c, E, q⟩ => ?_
  refine tG_seq E q fun d k1 v H1 h e1 E1 r1 hz => ?_
  obtain ⟨xs, hx, q⟩ := OkR_mo.mp h
  cases d <;> simp only [enumD] at hx <;> try (cases hx; done)
  cases hx
  simp only [RpT] at r1
  obtain ⟨a, vs, rfl, t, rd, rs⟩ := r1
  exact ⟨a, vs, rfl, .inl rd, by rw [hX.K]; exact q _ H1 e1 E1.cup (src_enum ((hz a vs).1 (.inl rd)) t rd rs)⟩
theorem r_zip {ck : Ck} {C : Cfg} {cal : Cal} {sc : Scope} {kk : Nat} {tp : Pos} {elts : List Expr} (hm : md ≠ .fr) (hX : XOK g ck C cal sc X) (hg : glC sc "zip" = true) (hst : notStar x = true) (hst' : notStar y = true) (ha : PE X x (tG g f md A)) (hb : PE X y (tG g f md B)) :
    PI X (.Tuple elts kk tp) (.Call (.Name "zip" p) [x, y] [] pos) (tSr g f md fun ρ => mb (A ρ) fun d => mb (B ρ) fun e => mo (zipD d e)) := by
  have hg' : Gl X "zip" := gl_of (by rw [hX.sc]; exact hg)
  have ha' := PA.fact (pa_cons ha (pa_cons hb pa_nil (star_of hst')) (star_of hst)) (fun H => Szs X.K H) fun _ _ _ _ I => szs_of I
  refine PI.imp (pi_zipA hg' (hX.mg _ (by decide)) ha' (star_of hst) (by rw [star_of hst']; rfl)) fun σ H R ⟨ρ, k, c, E, q⟩ => ?_
  refine tG_seq E q fun d k1 v H1 h e1 E1 r1 => ?_
  refine tG_seq E1 h fun e k2 u H2 h e2 E2 r2 hz => ?_
  obtain ⟨xs, hx, q⟩ := OkR_mo.mp h
  have r1 := RpT.effM hm r1 e2 E1.cup fun a n => nfc n
  have ht : topW md H1 c (NF f ρ σ c) = topW md H c (NF f ρ σ c) := by cases md <;> first | rfl | exact absurd rfl hm
  rw [ht] at r2
  cases d <;> cases e <;> simp only [zipD] at hx <;> try (cases hx; done)
  · cases hx
    simp only [RpT, Rp] at r1 r2
    obtain ⟨a, vs, rfl, rd, rs⟩ := r1
    obtain ⟨b, us, rfl, rd', rs'⟩ := r2
    have sa : SqT X.K H2 a vs := by rw [hX.K]; exact rd.sq
    exact ⟨a, b, vs, us, rfl, .inr ⟨sa, by rw [hX.K]; exact rd'.sq, by rw [hX.K]; exact q _ H2 (e1.trans e2) E2.cup (src_zipT ((hz a vs).2 sa) rd rs rd' rs')⟩⟩
  · cases hx
    simp only [RpT] at r1 r2
    obtain ⟨a, vs, rfl, t, rd, rs⟩ := r1
    obtain ⟨b, us, rfl, t', rd', rs'⟩ := r2
    exact ⟨a, b, vs, us, rfl, .inl ⟨.inl rd, .inl rd', by rw [hX.K]; exact q _ H2 (e1.trans e2) E2.cup (src_zipL ((hz a vs).1 (.inl rd)) t rd rs t' rd' rs')⟩⟩
end
end EV
end

section
set_option Elab.async false
set_option linter.all false
set_option maxRecDepth 100000
set_option maxHeartbeats 1000000
/-! EvPa: zip of two tuples, its pairs under one name. -/
namespace EV
open PySem PySem.Spec PyProof.Rows L2 RZ
abbrev ZS (h : Heap) (z p t : Addr) (f : Value) (b : Bool) : Prop :=
  h.get? z = some { cls := .type "zip", dict := none, data := .fields #[f, .bool b, .bool false, .ref p, .ref t], slots := #[] }
def F0 (f : Value) : Prop := f = .none ∨ ∃ T : Addr, f = rawInt T
section
variable {prog : Program} {w : World} {A : Around} {E : Value → Shared → Prop} {s : Shared} {z p t a b l m : Addr} {f : Value} {o : Bool} {i j : Nat} {us ws : Array Value} {x y x0 y0 : Value}
theorem z_free {Q : Bool → Shared → Prop} (hz : ZS s.heap z p t f o) (hf : F0 f) (q1 : Q true s) (q2 : ∀ h', ZS h' z p t f true → Heap.SameBut z s.heap h' → Q false { s with heap := h' }) :
    wpAny (model prog w) A (Builtin.SmallTypes.ownedTupleIsFree (.ref z)) Q E s := by
  unfold Builtin.SmallTypes.ownedTupleIsFree
  refine wpAny_bind (wpAny_field hz rfl (x := f) rfl ?_)
  rcases hf with rfl | ⟨T, rfl⟩
  · exact wpAny_pure q1
  · show wpAny _ _ (loadIfAlive ((T : Int).toNat) >>= _) _ _ _
    rw [Int.toNat_natCast]
    cases hT : s.heap.get? T with
    | none =>
      have alive : ∀ {Q' : Option Obj → Shared → Prop}, Q' none s → wpAny (model prog w) A (loadIfAlive T) Q' E s := fun {Q'} h => by
        have h' : Q' (s.heap.get? T) s := by rw [hT]; exact h
        exact fun _ _ _ => h'
      refine wpAny_bind (alive ?_)
      exact wpAny_pure q1
    | some oT =>
      refine wpAny_bind (PySem.W.kdx_alive hT ?_)
      simp only [Option.isNone_some, Bool.false_eq_true, if_false]
      refine wpAny_bind (wpAny_field hz rfl (x := .bool o) rfl ?_)
      cases o with
      | true =>
        rw [if_neg (by decide)]
        exact wpAny_pure (q2 s.heap hz (Heap.SameBut.refl _ _))
      | false =>
        rw [if_pos (by decide)]
        exact wpAny_bind (wpAny_setField_rec hz (by simp) fun g gz gs => wpAny_pure (q2 g gz gs))
theorem z_item {Q : Value → Shared → Prop} (D : ZipApart z p t a b l m) (hz : ZS s.heap z p t f o) (hf : F0 f) (hp : IsPair s.heap p (.ref a) (.ref b)) (ht : IsPair s.heap t x0 y0)
    (h1 : s.heap.IsTupleIter a l i) (h2 : s.heap.IsTupleIter b m j) (hl : s.heap.IsTuple l us) (hm : s.heap.IsTuple m ws) (hx : us[i]? = some x) (hy : ws[j]? = some y)
    (q : ∀ h' f' o', F0 f' → ZS h' z p t f' o' → (∃ x y, IsPair h' t x y) → h'.IsTupleIter a l (i + 1) → h'.IsTupleIter b m (j + 1) → IsPair h' s.heap.objs.size x y →
      (∀ c u, c ≠ z → c ≠ t → c ≠ a → c ≠ b → s.heap.get? c = some u → h'.get? c = some u) → Q (.ref s.heap.objs.size) { s with heap := h' }) :
    wpAny (model prog w) A (Builtin.«zip.__next__» ⟨[.ref z], []⟩) (fun r s' => ∃ v, r = .done (.ret v) ∧ Q v s') E s := by
  show wpAny _ _ (field (Value.ref z) 2 >>= _) _ _ s
  refine wpAny_bind (wpAny_field hz rfl (x := Value.bool false) rfl ?_)
  show wpAny _ _ (field (Value.ref z) 3 >>= _) _ _ s
  refine wpAny_bind (wpAny_field hz rfl (x := Value.ref p) rfl ?_)
  refine wpAny_bind (wpAny_seqItems hp rfl ?_)
  show wpAny _ _ (Builtin.SmallTypes.ownedTupleIsFree (Value.ref z) >>= _) _ _ s
  refine wpAny_bind (z_free hz hf ?_ fun g1 gz1 gs1 => ?_)
  · -- the zip's own tuple again
    simp only [if_true]
    refine wpAny_bind (wpAny_rule (wpAny_bind (wpAny_field hz rfl (x := Value.ref t) rfl ?_)))
    refine wpAny_bind (wpAny_setField_rec hz (by simp) fun g1 gz1 gs1 => ?_)
    replace gz1 : ZS g1 z p t .ellipsis o := gz1
    refine wpAny_bind ?_
    simp only [List.zipIdx_cons, List.zipIdx_nil, List.forIn_cons, List.forIn_nil]
    refine wpAny_bind (wpAny_bind (wpAny_onRaise ?_))
    show wpAny _ _ (Builtin.SmallTypes.nextOf (Value.ref a) >>= _) _ _ _
    refine wpAny_bind (nextOf_tuple_item (h1.extBut gs1.extBut D.i1z) (hl.extBut gs1.extBut D.l1z) hx fun g2 i2 gs2 => wpAny_pure ?_)
    have t2 : IsPair g2 t x0 y0 := gs2.extBut _ _ D.TOi1 (gs1.extBut _ _ D.TOz ht)
    refine wpAny_bind (wpAny_seqItems t2 rfl (wpAny_bind (wpAny_updateSeq_pair t2 fun g3 t3 gs3 => wpAny_bind (wpAny_letGo (wpAny_pure ?_)))))
    replace t3 : IsPair g3 t x y0 := t3
    refine wpAny_bind (wpAny_bind (wpAny_onRaise ?_))
    show wpAny _ _ (Builtin.SmallTypes.nextOf (Value.ref b) >>= _) _ _ _
    have j3 := ((h2.extBut gs1.extBut D.i2z).extBut gs2.extBut D.i12.symm).extBut gs3.extBut D.TOi2.symm
    have m3 := ((hm.extBut gs1.extBut D.l2z).extBut gs2.extBut D.l2i1).extBut gs3.extBut D.l2TO
    refine wpAny_bind (nextOf_tuple_item j3 m3 hy fun g4 j4 gs4 => wpAny_pure ?_)
    have t4 : IsPair g4 t x y0 := gs4.extBut _ _ D.TOi2 t3
    refine wpAny_bind (wpAny_seqItems t4 rfl (wpAny_bind (wpAny_updateSeq_pair t4 fun g5 t5 gs5 => wpAny_bind (wpAny_letGo (wpAny_pure (wpAny_pure ?_))))))
    replace t5 : IsPair g5 t x y := t5
    refine wpAny_bind (wpAny_seqItems t5 rfl (wpAny_bind (wpAny_newTuple ?_)))
    have hsz : g5.objs.size = s.heap.objs.size := by rw [gs5.1, gs4.1, gs3.1, gs2.1, gs1.1]
    have z5 : ZS g5 z p t .ellipsis o := gs5.extBut _ _ D.TOz.symm (gs4.extBut _ _ D.i2z.symm (gs3.extBut _ _ D.TOz.symm (gs2.extBut _ _ D.i1z.symm gz1)))
    have k5 : ∀ c u, c ≠ z → c ≠ t → c ≠ a → c ≠ b → s.heap.get? c = some u → g5.get? c = some u := fun c u c1 c2 c3 c4 e =>
      gs5.extBut _ _ c2 (gs4.extBut _ _ c4 (gs3.extBut _ _ c2 (gs2.extBut _ _ c3 (gs1.extBut _ _ c1 e))))
    have i5 : g5.IsTupleIter a l (i + 1) := ((i2.extBut gs3.extBut D.TOi1.symm).extBut gs4.extBut D.i12).extBut gs5.extBut D.TOi1.symm
    have j5 : g5.IsTupleIter b m (j + 1) := j4.extBut gs5.extBut D.TOi2.symm
    show wpAny _ _ (Builtin.SmallTypes.ownedTupleHandOut (Value.ref z) (Value.ref g5.objs.size) >>= _) _ _ _
    refine wpAny_bind ?_
    unfold Builtin.SmallTypes.ownedTupleHandOut
    have z6 : ZS (g5.push { cls := .type "tuple", data := .seq #[x, y] }) z p t .ellipsis o := Heap.get?_push_of_some _ z5
    refine wpAny_bind (wpAny_setField_rec z6 (by simp) fun g7 z7 gs7 => ?_)
    replace z7 : ZS g7 z p t (rawInt g5.objs.size) o := z7
    refine wpAny_setField_rec z7 (by simp) fun g8 z8 gs8 => ?_
    replace z8 : ZS g8 z p t (rawInt g5.objs.size) false := z8
    have up : ∀ c u, c ≠ z → g5.get? c = some u → g8.get? c = some u := fun c u c1 e => gs8.extBut _ _ c1 (gs7.extBut _ _ c1 (Heap.get?_push_of_some _ e))
    have nz : g5.objs.size ≠ z := Nat.ne_of_gt (Heap.lt_size z5)
    have T8 : IsPair g8 g5.objs.size x y := gs8.extBut _ _ nz (gs7.extBut _ _ nz (Heap.get?_push_size _ rfl))
    rw [hsz] at z8 T8
    refine wpAny_pure ⟨_, rfl, ?_⟩
    show Q (.ref g5.objs.size) _
    rw [hsz]
    exact q g8 _ _ (.inr ⟨_, rfl⟩) z8 ⟨x, y, up _ _ D.TOz t5⟩ (i5.at fun u e => up _ u D.i1z e) (j5.at fun u e => up _ u D.i2z e) T8 fun c u c1 c2 c3 c4 e => up c u c1 (k5 c u c1 c2 c3 c4 e)
  · -- a tuple is out: a new one
    simp only [Bool.false_eq_true, if_false]
    refine wpAny_bind ?_
    rw [← Array.forIn_toList]
    simp only [List.forIn_cons, List.forIn_nil]
    refine wpAny_bind (wpAny_bind (wpAny_holding ?_))
    show wpAny _ _ (Builtin.SmallTypes.nextOf (Value.ref a) >>= _) _ _ _
    refine wpAny_bind (nextOf_tuple_item (s := { s with heap := g1 }) (h1.extBut gs1.extBut D.i1z) (hl.extBut gs1.extBut D.l1z) hx fun g2 i2 gs2 => wpAny_pure (wpAny_pure ?_))
    refine wpAny_bind (wpAny_bind (wpAny_holding ?_))
    show wpAny _ _ (Builtin.SmallTypes.nextOf (Value.ref b) >>= _) _ _ _
    have j2 := (h2.extBut gs1.extBut D.i2z).extBut gs2.extBut D.i12.symm
    have m2 := (hm.extBut gs1.extBut D.l2z).extBut gs2.extBut D.l2i1
    refine wpAny_bind (nextOf_tuple_item (s := { s with heap := g2 }) j2 m2 hy fun g3 j3 gs3 => wpAny_pure (wpAny_pure (wpAny_pure ?_)))
    show wpAny _ _ (newTuple [x, y] >>= _) _ _ _
    refine wpAny_bind (wpAny_newTuple ?_)
    have hsz : g3.objs.size = s.heap.objs.size := by rw [gs3.1, gs2.1, gs1.1]
    have z3 : ZS g3 z p t f true := gs3.extBut _ _ D.i2z.symm (gs2.extBut _ _ D.i1z.symm gz1)
    have t3 : IsPair g3 t x0 y0 := gs3.extBut _ _ D.TOi2 (gs2.extBut _ _ D.TOi1 (gs1.extBut _ _ D.TOz ht))
    have i3 : g3.IsTupleIter a l (i + 1) := i2.extBut gs3.extBut D.i12
    refine wpAny_pure ⟨_, rfl, ?_⟩
    show Q (.ref g3.objs.size) _
    have T4 : IsPair (g3.push { cls := .type "tuple", data := .seq #[x, y] }) g3.objs.size x y := Heap.get?_push_size _ rfl
    rw [hsz] at T4 ⊢
    exact q _ f true hf (Heap.get?_push_of_some _ z3) ⟨x0, y0, Heap.get?_push_of_some _ t3⟩ (i3.at fun u e => Heap.get?_push_of_some _ e) (j3.at fun u e => Heap.get?_push_of_some _ e) T4
      fun c u c1 c2 c3 c4 e => Heap.get?_push_of_some _ (gs3.extBut _ _ c4 (gs2.extBut _ _ c3 (gs1.extBut _ _ c1 e)))
theorem z_end {Q : Fin → Shared → Prop} (hh : A.handled = none) (D : ZipApart z p t a b l m) (hz : ZS s.heap z p t f o) (hf : F0 f) (hp : IsPair s.heap p (.ref a) (.ref b)) (ht : IsPair s.heap t x0 y0)
    (h1 : s.heap.IsTupleIter a l i) (h2 : s.heap.IsTupleIter b m j) (hl : s.heap.IsTuple l us) (hm : s.heap.IsTuple m ws) (he : us[i]? = none ∨ ws[j]? = none)
    (q : ∀ h' e, (∀ c u, c ≠ z → c ≠ t → c ≠ a → c ≠ b → s.heap.get? c = some u → h'.get? c = some u) → (∃ u, h'.get? e = some u ∧ u.cls = .type "StopIteration") → E (.ref e) { s with heap := h' }) :
    wpAny (model prog w) A (Builtin.«zip.__next__» ⟨[.ref z], []⟩) Q E s := by
  show wpAny _ _ (field (Value.ref z) 2 >>= _) _ _ s
  refine wpAny_bind (wpAny_field hz rfl (x := Value.bool false) rfl ?_)
  show wpAny _ _ (field (Value.ref z) 3 >>= _) _ _ s
  refine wpAny_bind (wpAny_field hz rfl (x := Value.ref p) rfl ?_)
  refine wpAny_bind (wpAny_seqItems hp rfl ?_)
  show wpAny _ _ (Builtin.SmallTypes.ownedTupleIsFree (Value.ref z) >>= _) _ _ s
  refine wpAny_bind (z_free hz hf ?_ fun g1 gz1 gs1 => ?_)
  · simp only [if_true]
    refine wpAny_bind (wpAny_rule (wpAny_bind (wpAny_field hz rfl (x := Value.ref t) rfl ?_)))
    refine wpAny_bind (wpAny_setField_rec hz (by simp) fun g1 gz1 gs1 => ?_)
    replace gz1 : ZS g1 z p t .ellipsis o := gz1
    refine wpAny_bind ?_
    simp only [List.zipIdx_cons, List.zipIdx_nil, List.forIn_cons, List.forIn_nil]
    refine wpAny_bind (wpAny_bind (wpAny_onRaise ?_))
    show wpAny _ _ (Builtin.SmallTypes.nextOf (Value.ref a) >>= _) _ _ _
    cases hx : us[i]? with
    | none =>
      refine wpAny_bind (nextOf_tuple_end hh (h1.extBut gs1.extBut D.i1z) (hl.extBut gs1.extBut D.l1z) hx fun g2 e gs2 ⟨oe, e1, e2⟩ => ?_)
      have z2 : ZS g2 z p t .ellipsis o := gs2 _ _ D.i1z.symm gz1
      have ez : e ≠ z := fun r => by subst r; rw [z2] at e1; cases e1; simp at e2
      exact wpAny_setField_rec z2 (by simp) fun g3 _ gs3 => q g3 e (fun c u c1 _ c3 _ r => gs3.extBut _ _ c1 (gs2 _ _ c3 (gs1.extBut _ _ c1 r))) ⟨oe, gs3.extBut _ _ ez e1, e2⟩
    | some x =>
      have hy : ws[j]? = none := he.resolve_left (by rw [hx]; simp)
      refine wpAny_bind (nextOf_tuple_item (h1.extBut gs1.extBut D.i1z) (hl.extBut gs1.extBut D.l1z) hx fun g2 i2 gs2 => wpAny_pure ?_)
      have t2 : IsPair g2 t x0 y0 := gs2.extBut _ _ D.TOi1 (gs1.extBut _ _ D.TOz ht)
      refine wpAny_bind (wpAny_seqItems t2 rfl (wpAny_bind (wpAny_updateSeq_pair t2 fun g3 t3 gs3 => wpAny_bind (wpAny_letGo (wpAny_pure ?_)))))
      refine wpAny_bind (wpAny_bind (wpAny_onRaise ?_))
      show wpAny _ _ (Builtin.SmallTypes.nextOf (Value.ref b) >>= _) _ _ _
      have j3 := ((h2.extBut gs1.extBut D.i2z).extBut gs2.extBut D.i12.symm).extBut gs3.extBut D.TOi2.symm
      have m3 := ((hm.extBut gs1.extBut D.l2z).extBut gs2.extBut D.l2i1).extBut gs3.extBut D.l2TO
      refine wpAny_bind (nextOf_tuple_end hh j3 m3 hy fun g4 e gs4 ⟨oe, e1, e2⟩ => ?_)
      have z4 : ZS g4 z p t .ellipsis o := gs4 _ _ D.i2z.symm (gs3.extBut _ _ D.TOz.symm (gs2.extBut _ _ D.i1z.symm gz1))
      have ez : e ≠ z := fun r => by subst r; rw [z4] at e1; cases e1; simp at e2
      exact wpAny_setField_rec z4 (by simp) fun g5 _ gs5 => q g5 e (fun c u c1 c2 c3 c4 r => gs5.extBut _ _ c1 (gs4 _ _ c4 (gs3.extBut _ _ c2 (gs2.extBut _ _ c3 (gs1.extBut _ _ c1 r))))) ⟨oe, gs5.extBut _ _ ez e1, e2⟩
  · simp only [Bool.false_eq_true, if_false]
    refine wpAny_bind ?_
    rw [← Array.forIn_toList]
    simp only [List.forIn_cons, List.forIn_nil]
    refine wpAny_bind (wpAny_bind (wpAny_holding ?_))
    show wpAny _ _ (Builtin.SmallTypes.nextOf (Value.ref a) >>= _) _ _ _
    cases hx : us[i]? with
    | none =>
      refine wpAny_bind (nextOf_tuple_end (s := { s with heap := g1 }) hh (h1.extBut gs1.extBut D.i1z) (hl.extBut gs1.extBut D.l1z) hx fun g2 e gs2 r => ?_)
      exact q g2 e (fun c u c1 _ c3 _ r => gs2 _ _ c3 (gs1.extBut _ _ c1 r)) r
    | some x =>
      have hy : ws[j]? = none := he.resolve_left (by rw [hx]; simp)
      refine wpAny_bind (nextOf_tuple_item (s := { s with heap := g1 }) (h1.extBut gs1.extBut D.i1z) (hl.extBut gs1.extBut D.l1z) hx fun g2 i2 gs2 => wpAny_pure (wpAny_pure ?_))
      refine wpAny_bind (wpAny_bind (wpAny_holding ?_))
      show wpAny _ _ (Builtin.SmallTypes.nextOf (Value.ref b) >>= _) _ _ _
      have j2 := (h2.extBut gs1.extBut D.i2z).extBut gs2.extBut D.i12.symm
      have m2 := (hm.extBut gs1.extBut D.l2z).extBut gs2.extBut D.l2i1
      refine wpAny_bind (nextOf_tuple_end (s := { s with heap := g2 }) hh j2 m2 hy fun g3 e gs3 r => ?_)
      exact q g3 e (fun c u c1 _ c3 c4 r => gs3 _ _ c4 (gs2.extBut _ _ c3 (gs1.extBut _ _ c1 r))) r
end
end EV
end

section
set_option Elab.async false
set_option linter.all false
set_option maxRecDepth 100000
set_option maxHeartbeats 1000000
/-! EvPb: .. as a walk. -/
namespace EV
open PySem PySem.Spec PyProof.Rows L2 RZ
theorem z_iter {prog : Program} {w : World} {A : Around} {E : Value → Shared → Prop} {s : Shared} {z : Addr} {Q : Value → Shared → Prop} (hT : s.TypeIs (.ref z) "zip") (h : Q (.ref z) s) : wpAny (model prog w) A (pyIter (.ref z)) Q E s := by
  refine wpAny_pyIter_slot hT PySem.F.slot_zip_iter (wpAny_call_entry PySem.F.slot_zip_iter hT PySem.F.entry_zip_iter ?_ (PySem.F.args_zip_iter_1 _))
  exact wpAny_pure ⟨_, rfl, "zip", _, hT, PySem.F.slot_zip_next.lookup, h⟩
theorem turn_zipN {P : Program} {w : World} {K : PySem.W.Frag} {n : Str} {np : Pos} {a b z p t c d : Addr} (D : ZipApart z p t c d a b) :
    Turn P w K (.Name n np) (ItzT K a b) [z, p, t, c, d] z (fun i h => (∃ f o, F0 f ∧ ZS h z p t f o) ∧ IsPair h p (.ref c) (.ref d) ∧ (∃ x y, IsPair h t x y) ∧ h.IsTupleIter c a i ∧ h.IsTupleIter d b i) where
  mem := by simp
  obj := by
    rintro i h ⟨⟨f, o, _, hz⟩, hp, ⟨x, y, ht⟩, ⟨o1, e1, _, d1⟩, ⟨o2, e2, _, d2⟩⟩ r hr
    simp only [List.mem_cons, List.not_mem_nil, or_false] at hr
    rcases hr with rfl | rfl | rfl | rfl | rfl
    · exact ⟨_, hz, fun v q => nomatch q⟩
    · exact ⟨_, hp, fun v q => nomatch q⟩
    · exact ⟨_, ht, fun v q => nomatch q⟩
    · exact ⟨o1, e1, fun v q => by rw [d1] at q; cases q⟩
    · exact ⟨o2, e2, fun v q => by rw [d2] at q; cases q⟩
  keep := by
    rintro i h h' ⟨⟨f, o, hf, hz⟩, hp, ⟨x, y, ht⟩, h1, h2⟩ k
    exact ⟨⟨f, o, hf, k z (by simp) _ hz⟩, k p (by simp) _ hp, ⟨x, y, k t (by simp) _ ht⟩, h1.at fun o q => k c (by simp) o q, h2.at fun o q => k d (by simp) o q⟩
  item := by
    rintro X rfl rfl rfl hc i pins s σ H E I hf ⟨⟨f, o, hf0, hz⟩, hp, ⟨x0, y0, ht⟩, h1, h2⟩ ⟨xs, ys, x, y, hqx, hqy, hx, hy⟩
    obtain ⟨its, rv, q1, _⟩ := I.tuple hqx
    obtain ⟨its2, rv2, q2, _⟩ := I.tuple hqy
    obtain ⟨u, hu, ru⟩ := rv.get hx
    obtain ⟨u2, hu2, ru2⟩ := rv2.get hy
    have hT : s.TypeIs (.ref z) "zip" := ⟨_, hz, rfl⟩
    unfold pyNext
    refine wpAny_bind (wpAny_attempt (wpAny_callSpecial?_slot (name := Str.ofString "__next__") hT PySem.F.slot_zip_next (wpAny_call_entry PySem.F.slot_zip_next hT PySem.F.entry_zip_next
      (z_item D hz hf0 hp ht h1 h2 q1 q2 (by simpa using hu) (by simpa using hu2) fun g f' o' hf' gz gt g1 g2 gT gk => wpAny_pure ?_) (PySem.F.args_zip_next_1 _))))
    refine ⟨_, rfl, wpAny_pure ?_⟩
    have new : ObjOk X.prog X.w (upd H s.heap.objs.size (.tup [x, y])) g s.heap.objs.size (.tup [x, y]) := ⟨by show 2 ≤ sizeLine; decide, [u, u2], .cons ru (.cons ru2 .nil), ⟨_, gT, rfl, _, rfl⟩⟩
    have I1 : Inv X pins σ (upd H s.heap.objs.size (.tup [x, y])) { s with heap := g } :=
      I.turnedNew (t' := s.toks) (ch := [z, p, t, c, d]) (fun r o hb q => gk r o (fun e => hb (by simp [e])) (fun e => hb (by simp [e])) (fun e => hb (by simp [e])) (fun e => hb (by simp [e])) q) hf (Nat.le_refl _) new
    refine ⟨.ref s.heap.objs.size, _, I1, rfl, ⟨_, x, y, rfl, I.hok.fresh (Nat.le_refl _), rfl, fun l hl => by rw [I.tuple_inj hl hqx]; exact hx, fun l hl => by rw [I.tuple_inj hl hqy]; exact hy⟩,
      ⟨⟨f', o', hf', gz⟩, gk _ _ D.TIz D.TITO D.TIi1 D.TIi2 hp, gt, g1, g2⟩, fun r hr => ?_⟩
    have hlt : r < s.heap.objs.size := by
      simp only [List.mem_cons, List.not_mem_nil, or_false] at hr
      rcases hr with rfl | rfl | rfl | rfl | rfl
      · exact Heap.lt_size hz
      · exact Heap.lt_size hp
      · exact Heap.lt_size ht
      · obtain ⟨_, e1, _⟩ := h1; exact Heap.lt_size e1
      · obtain ⟨_, e1, _⟩ := h2; exact Heap.lt_size e1
    rw [upd_ne (Nat.ne_of_lt hlt)]
    exact (hf r hr).1
  done := by
    rintro X rfl rfl rfl hc i pins s σ H E I hf ⟨⟨f, o, hf0, hz⟩, hp, ⟨x0, y0, ht⟩, h1, h2⟩ ⟨xs, ys, hqx, hqy, hend⟩
    obtain ⟨its, rv, q1, _⟩ := I.tuple hqx
    obtain ⟨its2, rv2, q2, _⟩ := I.tuple hqy
    have l1 := rv.length
    have l2 := rv2.length
    have he : its.toArray[i]? = none ∨ its2.toArray[i]? = none := hend.imp (fun q => by simp; omega) (fun q => by simp; omega)
    have hT : s.TypeIs (.ref z) "zip" := ⟨_, hz, rfl⟩
    unfold pyNext
    refine wpAny_bind (wpAny_attempt (wpAny_callSpecial?_slot (name := Str.ofString "__next__") hT PySem.F.slot_zip_next (wpAny_call_entry PySem.F.slot_zip_next hT PySem.F.entry_zip_next
      (z_end (I.ok.hd hc) D hz hf0 hp ht h1 h2 q1 q2 he fun g e gk ⟨oe, e1, e2⟩ => ?_) (PySem.F.args_zip_next_1 _))))
    refine wpAny_bind (wpAny_isInstance (T := "StopIteration") (b := true) ⟨oe, e1, e2⟩ isSubtype_stop (wpAny_pure ?_))
    exact ⟨rfl, I.turnedL (t' := s.toks) (ch := [z, p, t, c, d]) (fun r o hb q => gk r o (fun e => hb (by simp [e])) (fun e => hb (by simp [e])) (fun e => hb (by simp [e])) (fun e => hb (by simp [e])) q) hf⟩
  self := fun A i s Q E ⟨⟨f, o, _, hz⟩, _⟩ h => z_iter ⟨_, hz, rfl⟩ h
def iZipN (K : PySem.W.Frag) (ta : TA) : TI := fun σ H R => ta σ H fun vs H1 => ∃ a b xs ys, vs = [.ref a, .ref b] ∧ SqT K H1 a xs ∧ SqT K H1 b ys ∧ R (ItzT K a b) H1
section
variable {g : G} {f : Fm} {X : Cx} {x y : Expr} {A B : EV.Env → M D} {md : Md} {pos p : Pos}
theorem pi_zipN {e e2 : Expr} {ta : TA} {n : Str} {np : Pos} (hg : Gl X "zip") (hm : X.mg "zip" = none) (ha : PA X [e, e2] ta) (hs : starEach [e, e2] X.env = (false, eval e X.env) :: starEach [e2] X.env) (hpl : (backTo pos (starEach [e2] X.env)).any (·.1) = false) :
    PI X (.Name n np) (.Call (.Name "zip" p) [e, e2] [] pos) (iZipN X.K ta) := by
  refine ⟨fun pins s σ H R I h => ?_⟩
  refine Call_ (ld_blt I hg hm PyProof.Rows.boot_zip (PyProof.Rows.callWith_type1 (thn (ha.run pos pins s σ H _ I h) fun us s1 ⟨vs, H1, I1, r1, q1⟩ => ?_) hs hpl))
  obtain ⟨a, b, xs, ys, rfl, hqx, hqy, q⟩ := q1
  cases r1 with
  | cons r rr =>
    cases rr with
    | cons r' rr =>
      cases rr
      cases r
      cases r'
      have fr : ∀ c, c ∈ [s1.heap.objs.size + 4, s1.heap.objs.size + 2, s1.heap.objs.size + 3, s1.heap.objs.size, s1.heap.objs.size + 1] → FpOk X pins H1 c := fun c hc => by
        have hle : s1.heap.objs.size ≤ c := by
          simp only [List.mem_cons, List.not_mem_nil, or_false] at hc
          omega
        exact I1.fpOk hle (I1.hok.fresh hle)
      obtain ⟨its, rv, p1, _⟩ := I1.tuple hqx
      obtain ⟨its2, rv2, p2, _⟩ := I1.tuple hqy
      obtain ⟨o1, ho1, _⟩ := id p1
      obtain ⟨o2, ho2, _⟩ := id p2
      refine call_zipT (show s1.heap.IsTuple a its.toArray from p1) (show s1.heap.IsTuple b its2.toArray from p2) fun h' hz hTI hTO h1 h2 hsz hk => wpAny_pyIter_zip hz ?_
      exact ⟨s1.heap.objs.size + 4, [s1.heap.objs.size + 4, s1.heap.objs.size + 2, s1.heap.objs.size + 3, s1.heap.objs.size, s1.heap.objs.size + 1], _, _, H1, rfl, I1.kept (t' := s1.toks) hk,
        turn_zipN (PySem.W.ktu_apart s1.heap.objs.size a b (Heap.lt_size ho1) (Heap.lt_size ho2)), ⟨⟨_, false, .inl rfl, hz⟩, hTI, ⟨_, _, hTO⟩, h1, h2⟩, fr, q⟩
theorem r_zipN {ck : Ck} {C : Cfg} {cal : Cal} {sc : Scope} {n : Str} {np : Pos} (hm : md ≠ .fr) (hX : XOK g ck C cal sc X) (hg : glC sc "zip" = true) (hst : notStar x = true) (hst' : notStar y = true) (ha : PE X x (tG g f md A)) (hb : PE X y (tG g f md B)) :
    PI X (.Name n np) (.Call (.Name "zip" p) [x, y] [] pos) (tSr g f md fun ρ => mb (A ρ) fun d => mb (B ρ) fun e => mo (zipT d e)) := by
  have hg' : Gl X "zip" := gl_of (by rw [hX.sc]; exact hg)
  have ha' := PA.fact (pa_cons ha (pa_cons hb pa_nil (star_of hst')) (star_of hst)) (fun H => Szs X.K H) fun _ _ _ _ I => szs_of I
  refine PI.imp (pi_zipN hg' (hX.mg _ (by decide)) ha' (star_of hst) (by rw [star_of hst']; rfl)) fun σ H R ⟨ρ, k, c, E, q⟩ => ?_
  refine tG_seq E q fun d k1 v H1 h e1 E1 r1 => ?_
  refine tG_seq E1 h fun e k2 u H2 h e2 E2 r2 hz => ?_
  obtain ⟨xs, hx, q⟩ := OkR_mo.mp h
  have r1 := RpT.effM hm r1 e2 E1.cup fun a n => nfc n
  cases d <;> cases e <;> simp only [zipT] at hx <;> try (cases hx; done)
  cases hx
  simp only [RpT, Rp] at r1 r2
  obtain ⟨a, vs, rfl, rd, rs⟩ := r1
  obtain ⟨b, us, rfl, rd', rs'⟩ := r2
  have sa : SqT X.K H2 a vs := by rw [hX.K]; exact rd.sq
  exact ⟨a, b, vs, us, rfl, sa, by rw [hX.K]; exact rd'.sq, by rw [hX.K]; exact q _ H2 (e1.trans e2) E2.cup (src_zipT ((hz a vs).2 sa) rd rs rd' rs')⟩
end
end EV
end

section
set_option Elab.async false
set_option linter.all false
set_option maxRecDepth 100000
set_option maxHeartbeats 1000000
/-! EvPc: list(range(..)), tuple(range(..)). -/
namespace EV
open PySem PySem.Spec PyProof.Rows L2
/-- an expression that makes a range, by its reckoning -/
def tRgD (g : G) (f : Fm) (m : EV.Env → M (List D)) : L2.St → Hp → (Int → Int → Hp → Prop) → Prop := fun σ H Q => ∃ ρ k c, EOK g f ρ k c σ H ∧ OkR (m ρ k) fun ds k' =>
  ∀ lo hi H', Eff c H H' → CupAt c k' H' → (ds = [.int lo, .int hi] ∨ (lo = 0 ∧ ds = [.int hi])) → Q lo hi H'
section
variable {g : G} {f : Fm} {X : Cx} {x y : Expr} {A B : EV.Env → M D} {L : EV.Env → M (List D)} {pos p : Pos} {ck : Ck} {C : Cfg} {cal : Cal} {sc : Scope}
theorem PRg.imp {e : Expr} {t t' : L2.St → Hp → (Int → Int → Hp → Prop) → Prop} (h : PRg X e t) (i : ∀ σ H Q, t' σ H Q → t σ H Q) : PRg X e t' := fun pins s σ H Q I q => h pins s σ H Q I (i σ H Q q)
theorem prg_1' (hX : XOK g ck C cal sc X) (hg : glC sc "range" = true) (hst : notStar x = true) (ha : PE X x (tG g f .nf A)) : PRg X (.Call (.Name "range" p) [x] [] pos) (tRgD g f fun ρ => mb (A ρ) fun d => (match d with | .int i => mp [.int i] | _ => mf)) := by
  have hg' : Gl X "range" := gl_of (by rw [hX.sc]; exact hg)
  refine PRg.imp (prg_1 hg' (hX.mg _ (by decide)) ha (star_of hst)) fun σ H Q ⟨ρ, k, c, E, q⟩ => ?_
  refine tG_seq E q fun d k1 v H1 h e1 E1 r1 => ?_
  cases d <;> simp only at h <;> try exact (OkR_mf h).elim
  simp only [topW, RpT, Rp] at r1
  exact ⟨_, r1, h 0 _ H1 e1 E1.cup (.inr ⟨rfl, rfl⟩)⟩
theorem prg_2' (hX : XOK g ck C cal sc X) (hg : glC sc "range" = true) (hst : notStar x = true) (hst' : notStar y = true) (ha : PE X x (tG g f .nf A)) (hb : PE X y (tG g f .nf B)) :
    PRg X (.Call (.Name "range" p) [x, y] [] pos) (tRgD g f fun ρ => mb (A ρ) fun d => mb (B ρ) fun e => (match d, e with | .int i, .int j => mp [.int i, .int j] | _, _ => mf)) := by
  have hg' : Gl X "range" := gl_of (by rw [hX.sc]; exact hg)
  refine PRg.imp (prg_2 hg' (hX.mg _ (by decide)) ha hb (star_of hst) (star_of hst') (by rw [star_of hst']; rfl)) fun σ H Q ⟨ρ, k, c, E, q⟩ => ?_
  refine tG_seq E q fun d k1 v H1 h e1 E1 r1 => tG_seq E1 h fun e k2 u H2 h e2 E2 r2 => ?_
  cases d <;> cases e <;> simp only at h <;> try exact (OkR_mf h).elim
  simp only [topW, RpT, Rp] at r1 r2
  exact ⟨_, _, r1, r2, h _ _ H2 (e1.trans e2) E2.cup (.inl rfl)⟩
theorem rangeI_eq : ∀ (n : Nat) (lo : Int), rangeI lo n = (List.range n).map fun i => D.int (lo + (i : Nat))
  | 0, _ => rfl
  | n + 1, lo => by
    simp only [rangeI]
    rw [rangeI_eq n (lo + 1), List.range_succ_eq_map, List.map_cons, List.map_map]
    congr 1
    · simp
    · refine List.map_congr_left fun i _ => ?_
      simp only [Function.comp, D.int.injEq]
      push_cast
      omega
theorem rps_rg {N : Addr → Prop} {H : Hp} (lo hi : Int) : Rps g N H (rangeI lo (hi - lo).toNat) (rgV lo hi) := by
  rw [rangeI_eq]
  unfold rgV
  have : ∀ l : List Nat, Rps g N H (l.map fun i => D.int (lo + (i : Nat))) (l.map fun i => V.int (lo + (i : Nat))) := fun l => by
    induction l with
    | nil => exact Rps.nil
    | cons i l ih => exact Rps.cons (by simp only [Rp]) ih
  exact this _
theorem rng_of {ds xs : List D} {lo hi : Int} (hd : ds = [.int lo, .int hi] ∨ (lo = 0 ∧ ds = [.int hi])) (h : rngD ds = some xs) : RgOk lo hi ∧ xs = rangeI lo (hi - lo).toNat := by
  rcases hd with rfl | ⟨rfl, rfl⟩
  · obtain ⟨i, j, e, h1, h2, h3, h4, h5, rfl⟩ := rng2 rfl h
    simp only [List.cons.injEq, D.int.injEq, and_true] at e
    obtain ⟨rfl, rfl⟩ := e
    exact ⟨⟨by omega, by omega, by omega, by omega, by omega⟩, rfl⟩
  · obtain ⟨j, e, h1, h2, rfl⟩ := rng1 rfl h
    simp only [List.cons.injEq, D.int.injEq, and_true] at e
    subst e
    exact ⟨⟨by omega, by omega, by omega, by omega, by omega⟩, by simp⟩
theorem s_rg {e : Expr} {tu : Bool} (hX : XOK g ck C cal sc X) (hg : glC sc (Str.ofString (if tu = true then "tuple" else "list")) = true) (he : PRg X e (tRgD g f L)) (hne : notStar e = true := by rfl) :
    PE X (.Call (.Name (Str.ofString (if tu = true then "tuple" else "list")) p) [e] [] pos) (tG g f .fr fun ρ => mb (L ρ) fun ds => mo ((rngD ds).map (seqD tu))) := by
  cases tu with
  | false =>
    have hg' : Gl X "list" := gl_of (by rw [hX.sc]; exact hg)
    refine (pe_listRg hX.calm hg' (hX.mg _ (by decide)) he (star_of hne)).imp fun σ H Q ⟨ρ, k, c, E, q⟩ => ⟨ρ, k, c, E, (OkR_mb.mp q).imp fun ds k1 h lo hi H1 e1 cu hd => ?_⟩
    have E1 := E.eff e1 cu
    obtain ⟨z, hz, h⟩ := OkR_mo.mp h
    obtain ⟨xs, hx, rfl⟩ := Option.map_eq_some_iff.mp hz
    obtain ⟨ok, rfl⟩ := rng_of hd hx
    refine ⟨ok, fun a ha => fin_fr E e1 E1 (sameNew ha) ?_ h⟩
    simp only [seqD, Bool.false_eq_true, if_false, RpT]
    exact ⟨a, _, rfl, ha, .inl upd_same, rps_rg lo hi⟩
  | true =>
    have hg' : Gl X "tuple" := gl_of (by rw [hX.sc]; exact hg)
    refine (pe_tupRg hX.calm hg' (hX.mg _ (by decide)) he (star_of hne)).imp fun σ H Q ⟨ρ, k, c, E, q⟩ => ⟨ρ, k, c, E, (OkR_mb.mp q).imp fun ds k1 h lo hi H1 e1 cu hd => ?_⟩
    have E1 := E.eff e1 cu
    obtain ⟨z, hz, h⟩ := OkR_mo.mp h
    obtain ⟨xs, hx, rfl⟩ := Option.map_eq_some_iff.mp hz
    obtain ⟨ok, rfl⟩ := rng_of hd hx
    refine ⟨ok, fun a ha => fin_fr E e1 E1 (sameNew ha) ?_ h⟩
    simp only [seqD, if_true, RpT, Rp]
    exact ⟨a, _, rfl, .inl upd_same, rps_rg lo hi⟩
end
end EV
end

section
set_option Elab.async false
set_option linter.all false
set_option maxRecDepth 100000
/-! EvQ: list comprehensions. -/
namespace EV
open PySem PySem.Spec PyProof.Rows L2
section
variable {g : G} {f : Fm} {ρ ρ' : EV.Env} {k : Cup} {c : Option Addr} {σ σ' : L2.St} {H H' : Hp} {A : Addr} {o : HO}
theorem wipe_get (σ : L2.St) (i : Nat) : ∀ vs : List Nat, (wipe σ vs)[i]? = if i ∈ vs then (σ[i]?).map (fun _ => none) else σ[i]?
  | [] => by simp [wipe]
  | v :: vs => by
    unfold wipe
    have ih := wipe_get σ i vs
    by_cases e : v = i
    · subst e
      simp only [List.mem_cons, true_or, if_true]
      by_cases hl : v < σ.length
      · rw [List.getElem?_set_self (by rw [wipe_length]; exact hl)]
        simp [hl]
      · rw [List.getElem?_eq_none (by simp [wipe_length]; omega), List.getElem?_eq_none (by omega)]
        rfl
    · rw [List.getElem?_set_ne e, ih]
      simp [Ne.symm e]
theorem wipeR_len (ρ : EV.Env) : ∀ vs : List Nat, (wipeR ρ vs).length = ρ.length
  | [] => rfl
  | v :: vs => by unfold wipeR; rw [List.length_set, wipeR_len ρ vs]
theorem wipeR_get (ρ : EV.Env) (i : Nat) : ∀ vs : List Nat, (wipeR ρ vs)[i]? = if i ∈ vs then (ρ[i]?).map (fun _ => Slot.no) else ρ[i]?
  | [] => by simp [wipeR]
  | v :: vs => by
    unfold wipeR
    have ih := wipeR_get ρ i vs
    by_cases e : v = i
    · subst e
      simp only [List.mem_cons, true_or, if_true]
      by_cases hl : v < ρ.length
      · rw [List.getElem?_set_self (by rw [wipeR_len]; exact hl)]
        simp [hl]
      · rw [List.getElem?_eq_none (by simp [wipeR_len]; omega), List.getElem?_eq_none (by omega)]
        rfl
    · rw [List.getElem?_set_ne e, ih]
      simp [Ne.symm e]
theorem wipe_eq {vs : List Nat} (hl : σ'.length = σ.length) (h : ∀ j, j ∉ vs → σ'[j]? = (wipe σ vs)[j]?) : wipe σ' vs = wipe σ vs := by
  refine List.ext_getElem? fun i => ?_
  rw [wipe_get, wipe_get]
  by_cases m : i ∈ vs
  · simp only [m, if_true]
    by_cases hi : i < σ.length
    · simp [hi, hl]
    · rw [List.getElem?_eq_none (by omega), List.getElem?_eq_none (by omega)]
  · simp only [m, if_false]
    rw [h i m, wipe_get]
    simp only [m, if_false]
/-- the slots of a comprehension's names forgotten -/
theorem EOK.wipe (E : EOK g f ρ k c σ H) (vs : List Nat) (hp : vs.all (fun i => plainSlot (EV.Env.get ρ i)) = true) : EOK g f (wipeR ρ vs) k c (L2.wipe σ vs) H ∧ NF f (wipeR ρ vs) (L2.wipe σ vs) c = NF f ρ σ c := by
  have own : ∀ (j : Nat) (d : D), (wipeR ρ vs)[j]? = some (Slot.own d) → ρ[j]? = some (Slot.own d) ∧ (L2.wipe σ vs)[j]? = σ[j]? := fun j d h => by
    rw [wipeR_get] at h
    rw [wipe_get]
    split at h
    · cases q : ρ[j]? <;> rw [q] at h <;> cases h
    · rename_i m
      simp only [m, if_false]
      exact ⟨h, trivial⟩
  have own' : ∀ (j : Nat) (d : D), ρ[j]? = some (Slot.own d) → (wipeR ρ vs)[j]? = some (Slot.own d) ∧ σ[j]? = (L2.wipe σ vs)[j]? := fun j d h => by
    have m : j ∉ vs := fun m => by
      have := List.all_eq_true.mp hp j m
      unfold EV.Env.get at this
      rw [List.getD_eq_getElem?_getD, h] at this
      cases this
    rw [wipeR_get, wipe_get]
    simp only [m, if_false]
    exact ⟨h, trivial⟩
  refine ⟨E.slots (by rw [wipeR_len, wipe_length]; exact E.len) fun j s h => ?_, ?_⟩
  · rw [wipeR_get] at h
    rw [wipe_get]
    split at h
    · cases q : ρ[j]? <;> rw [q] at h <;> cases h
      exact .inr (.inl rfl)
    · rename_i m
      simp only [m, if_false]
      exact .inl ⟨h, trivial⟩
  · funext a
    exact propext ⟨nf_sub (fun j d h => ⟨d, own' j d h⟩) a, nf_sub (fun j d h => ⟨d, own j d h⟩) a⟩
theorem EOK.h0none (E : EOK g f ρ k c σ H) (h : H A = none) : f.H0 A = none ∧ some A ≠ c := by
  have hc : some A ≠ c := fun e => by rw [E.cup A e.symm] at h; cases h
  refine ⟨?_, hc⟩
  cases q : f.H0 A with
  | none => rfl
  | some o =>
    exfalso
    by_cases n : some A = f.c0
    · exact hc (by rw [E.c0 (by rw [← n]; simp)]; exact n)
    · rw [E.old A o q n] at h; cases h
abbrev Fm.bar (f : Fm) (A : Addr) : Fm := { f with B := fun a => f.B a ∨ a = A }
theorem bar_sub : ∀ a, NF (f.bar A) ρ σ c a → NF f ρ σ c a := fun a n => ⟨n.1, n.2.1, fun b => n.2.2.1 (.inl b), n.2.2.2⟩
theorem bar_ex2 (h : H A = none) : Ex2 g (NF f ρ σ c) (NF (f.bar A) ρ σ c) H (upd H A o) := by
  have ne : ∀ a u, H a = some u → a ≠ A := fun a u q e => by rw [e, h] at q; cases q
  refine ex2_of (fun a u n q => ⟨⟨n.1, n.2.1, fun b => b.elim n.2.2.1 (ne a u q), n.2.2.2⟩, ?_⟩) fun a vs q => ?_
  · rw [upd_ne (ne a u q)]; exact q
  · rw [upd_ne (ne a _ q)]; exact q
theorem EOK.withHeap {f' : Fm} (E : EOK g f ρ k c σ H) (hf : f'.N0 = f.N0 ∧ f'.H0 = f.H0 ∧ f'.c0 = f.c0) (ex : Ex2 g (NF f ρ σ c) (NF f' ρ σ c) H H') (kp : ∀ a u, H a = some u → ¬ f'.B a → H' a = some u) (hb : ∀ a, f'.B a → f.B a ∨ H a = none)
    (bar : ∀ a, f'.B a → H' a ≠ none ∧ f.H0 a = none ∧ some a ≠ c) : EOK g f' ρ k c σ H' := by
  obtain ⟨hf1, hf2, hf3⟩ := hf
  refine ⟨fun a e => kp a _ (E.cup a e) fun b => (bar a b).2.2 e.symm, by rw [hf3]; exact E.c0, by rw [hf2, hf3]; exact E.cn, by rw [hf2, hf3]; exact E.h0, by rw [hf1, hf3]; exact E.n0, fun a u h n => ?_, E.len, fun i s h => ?_, E.uniq, by rw [hf2]; exact bar⟩
  · rw [hf2] at h
    rw [hf3] at n
    exact kp a u (E.old a u h n) fun b => by rw [(bar a b).2.1] at h; cases h
  · have := E.slot i s h
    cases s with
    | no => trivial
    | val d =>
      obtain ⟨v, h3, h4⟩ := this
      exact ⟨v, h3, h4.mono2 ex⟩
    | own d =>
      obtain ⟨a, h3, h4, h5, h6, h7⟩ := this
      have nb : ¬ f'.B a := fun b => by
        rcases hb a b with z | z
        · exact h6 z
        · obtain ⟨u, hu⟩ := OwnAt.isSome h7
          rw [hu] at z; cases z
      exact ⟨a, h3, by rw [hf2]; exact h4, h5, nb, OwnAt.mono2 h7 ex fun u q => kp a u q nb⟩
    | cup => exact this
theorem EOK.bar' (E : EOK g f ρ k c σ H) (h : H A = none) (o : HO) : EOK g (f.bar A) ρ k c σ (upd H A o) := by
  obtain ⟨h1, h2⟩ := E.h0none h
  refine E.withHeap ⟨rfl, rfl, rfl⟩ (bar_ex2 h) (fun a u q b => ?_) (fun a b => b.imp id fun e => by rw [e]; exact h) fun a b => ?_
  · rw [upd_ne fun e => b (.inr e)]; exact q
  · rcases b with b | rfl
    · refine ⟨?_, (E.bar a b).2⟩
      unfold upd
      split
      · simp
      · exact (E.bar a b).1
    · exact ⟨by rw [upd_same]; simp, h1, h2⟩
theorem poke_ex2 (hb : f.B A) (ht : ∀ vs, H A ≠ some (.tup vs)) : Ex2 g (NF f ρ σ c) (NF f ρ σ c) H (upd H A o) := by
  refine ex2_of (fun a u n q => ⟨n, ?_⟩) fun a vs q => ?_
  · rw [upd_ne fun e => n.2.2.1 (by rw [e]; exact hb)]; exact q
  · rw [upd_ne fun e => by subst e; exact ht vs q]; exact q
theorem EOK.poke (E : EOK g f ρ k c σ H) (hb : f.B A) (ht : ∀ vs, H A ≠ some (.tup vs)) (o : HO) : EOK g f ρ k c σ (upd H A o) := by
  refine E.withHeap ⟨rfl, rfl, rfl⟩ (poke_ex2 hb ht) (fun a u q b => ?_) (fun a b => .inl b) fun a b => ⟨?_, (E.bar a b).2⟩
  · rw [upd_ne fun e => b (by rw [e]; exact hb)]; exact q
  · unfold upd
    split
    · simp
    · exact (E.bar a b).1
end
theorem own_names {N : List Str} : ∀ {ns : List Nat}, (∀ i ∈ ns, i < N.length) → (ownOf N ns).map (·.2) = ns
  | [], _ => rfl
  | n :: ns, h => by
    have h1 := h n (by simp)
    have ih := own_names (N := N) (ns := ns) fun i hi => h i (by simp [hi])
    unfold ownOf at ih ⊢
    rw [List.filterMap_cons]
    simp only [List.getElem?_eq_getElem h1, Option.map_some, List.map_cons, ih]

def tET (g : G) (m : EV.Env → M Bool) : TT := fun σ H Q => ∃ f, tT g f m σ H Q
def tEG (g : G) (m : EV.Env → M D) : TE := fun σ H Q => ∃ f, tG g f .nf m σ H Q
def cFun (t : Tg) (Cc : EV.Env → M Bool) (Ee : EV.Env → M D) (ρw : EV.Env) : D → M (Option D) := fun x => mb (mo (t.bind x ρw)) fun ρ' => mb (Cc ρ') fun d => if d = true then mb (Ee ρ') fun z => mp (some z) else mp none
section
variable {g : G} {f : Fm} {S : EV.Env → M (List D)} {Cc : EV.Env → M Bool} {Ee : EV.Env → M D} {t : Tg}
theorem opn_of {ρ ρw : EV.Env} (h : t.opn ρ = some ρw) : t.names.all (fun i => plainSlot (EV.Env.get ρ i)) = true ∧ ρw = wipeR ρ t.names := by
  unfold Tg.opn at h
  split at h
  · exact ⟨by assumption, (Option.some.inj h).symm⟩
  · cases h
theorem comp_core {σ : L2.St} {H : Hp} {Q : VK} (h : tN g f (fun ρ => mb (S ρ) fun xs => mb (mo (t.opn ρ)) fun ρw => mb (filtL (cFun t Cc Ee ρw) xs) fun ys => mp (.lst ys)) σ H Q) :
    tLc (tSr g f .bo S) (gB g t) (tET g Cc) (tEG g Ee) t.names σ H Q := by
  obtain ⟨ρ, k, c, E, q⟩ := h
  refine ⟨ρ, k, c, E, (OkR_mb.mp q).imp fun xs k1 h J H1 e1 cu src A hA => ?_⟩
  have E1 := E.eff e1 cu
  obtain ⟨ρw, hw, h⟩ := OkR_mo.mp (OkR_mb.mp h)
  obtain ⟨hpl, rfl⟩ := opn_of hw
  obtain ⟨hz, bs, AA, GG, Y, w, rb, hAA, keep, good⟩ := src
  have h := OkR_mb.mp h
  obtain ⟨E2, nfe⟩ := E1.wipe t.names hpl
  have Ew := E2.bar' hA (.lst [])
  generalize hρw : wipeR ρ t.names = ρw at *
  have nc := (E1.h0none hA).2
  have sub : ∀ a, NF (f.bar A) ρw (wipe σ t.names) c a → NF f ρ σ c a := fun a n => by rw [← nfe]; exact bar_sub a n
  have ac : ∀ a, AA a → some a ≠ c := fun a h => (hAA a h).1
  refine lc_it w (fun i H' => ∃ acc dacc ki, Eff c H1 H' ∧ EOK g (f.bar A) ρw ki c (wipe σ t.names) H' ∧ H' A = some (.lst acc) ∧ Rps g (NF (f.bar A) ρw (wipe σ t.names) c) H' dacc acc ∧
    (∀ b ∈ bs, Rps g (NF (f.bar A) ρw (wipe σ t.names) c) H' b.1 b.2) ∧ dacc.length ≤ i ∧ OkR (filtL (cFun t Cc Ee ρw) (xs.drop i) ki) fun ys k' =>
      ∀ v H', Eff c H H' → CupAt c k' H' → NewAt g H (NF f ρ σ c) H' (.lst (dacc ++ ys)) v → Q v H') ?_ ?_ ?_ ?_
  · refine ⟨[], [], k1, fun a u q _ => ?_, Ew, upd_same, Rps.nil, fun b hb => ?_, Nat.zero_le _, h⟩
    · rw [upd_ne (ne_of_none q hA)]; exact q
    · have := rb b hb
      rw [← nfe] at this
      exact this.mono2 (bar_ex2 hA)
  · rintro i H' hi ⟨acc, dacc, ki, e, Ei, hD, ra, rbi, hl, hh⟩
    exact keep H' (fun a u ha q => e a u q (ac a ha)) (e.tup cu)
  · rintro i x H' H3 hi ⟨acc, dacc, ki, e, Ei, hD, ra, rbi, hl, hh⟩ hY
    have gg : GG H' := keep H' (fun a u ha q => e a u q (ac a ha)) (e.tup cu)
    obtain ⟨sm, d, hd, rd⟩ := good i H' x H3 _ hi gg hY rbi
    have E3 := Ei.eff (Eff.of sm) (Ei.cup.same sm)
    have hdr : xs.drop i = d :: xs.drop (i + 1) := by
      rw [List.drop_eq_getElem_cons hi]
      congr 1
      rw [List.getElem?_eq_getElem hi] at hd
      exact Option.some.inj hd
    rw [hdr] at hh
    simp only [filtL, cFun, mb_assoc] at hh
    obtain ⟨ρ', hb, hh⟩ := OkR_mo.mp (OkR_mb.mp hh)
    refine ⟨f.bar A, ρw, ki, c, d, ρ', E3, Ei.finN rd, hb, fun σ' E' out sb => ⟨?_, ?_⟩⟩
    · refine wipe_eq (by rw [out.ls, wipe_length]) fun j n => (out.at_ j n).2
    -- what stands in the turn stands at its end
    have nfs : ∀ a, NF (f.bar A) ρ' σ' c a → NF (f.bar A) ρw (wipe σ t.names) c a := nf_sub fun j d h => by
      have m : j ∉ t.names := fun m => by
        have : (wipeR ρ t.names)[j]? = some (Slot.own d) := by rw [hρw]; exact h
        rw [wipeR_get] at this
        simp only [m, if_true] at this
        cases z : ρ[j]? <;> rw [z] at this <;> cases this
      exact ⟨d, by rw [(out.at_ j m).1]; exact h, ((out.at_ j m).2).symm⟩
    have e3 : Eff c H1 H3 := e.trans (Eff.of sm)
    have ra3 := ra.mono (fun _ n => n) (sameEx sm)
    have fin : ∀ {H4 : Hp} {k4 : Cup}, Eff c H3 H4 → CupAt c k4 H4 → EOK g (f.bar A) ρw k4 c (wipe σ t.names) H4 ∧ H4 A = some (.lst acc) ∧ Rps g (NF (f.bar A) ρw (wipe σ t.names) c) H4 dacc acc ∧ (∀ b ∈ bs, Rps g (NF (f.bar A) ρw (wipe σ t.names) c) H4 b.1 b.2) := fun {H4 k4} e4 cu4 =>
      ⟨E3.eff e4 cu4, e4 A _ (sm A _ hD) nc, ra3.eff e4 E3.cup (fun a n => n.2.1), fun b hb => ((rbi b hb).mono (fun _ n => n) (sameEx sm)).eff e4 E3.cup (fun a n => n.2.1)⟩
    refine ⟨f.bar A, tT_seq E' hh fun b k4 H4 h4 e4 E4 => ?_⟩
    obtain ⟨E4w, hD4, ra4, rb4⟩ := fin e4 E4.cup
    cases b with
    | false =>
      refine ⟨acc, dacc, k4, e3.trans e4, E4w, hD4, ra4, rb4, by omega, ?_⟩
      have h4 : OkR (mb (filtL (cFun t Cc Ee ρw) (xs.drop (i + 1))) mp k4) _ := h4
      rw [mb_pure] at h4
      exact h4
    | true =>
      simp only [if_true, mb_assoc] at h4
      refine ⟨f.bar A, tG_seq E4 h4 fun z k5 v H5 h5 e5 E5 r5 => ?_⟩
      obtain ⟨E5w, hD5, ra5, rb5⟩ := fin (e4.trans e5) E5.cup
      have hB : (f.bar A).B A := .inr rfl
      have hT : ∀ vs, H5 A ≠ some (.tup vs) := fun vs q => by rw [hD5] at q; cases q
      have hla := ra5.length
      refine ⟨acc, hD5, by rw [LIM_eq]; omega, acc ++ [v], dacc ++ [z], k5, ?_, E5w.poke hB hT _, upd_same, ?_, fun b hb => (rb5 b hb).mono2 (poke_ex2 hB hT), by simp; omega, ?_⟩
      · refine fun a u q n => ?_
        rw [upd_ne (ne_of_none q hA)]
        exact (e3.trans (e4.trans e5)) a u q n
      · exact (ra5.mono2 (poke_ex2 hB hT)).append (Rps.cons ((r5.toRp.mono nfs Ex.refl).mono2 (poke_ex2 hB hT)) Rps.nil)
      · have h5 : OkR (mb (filtL (cFun t Cc Ee ρw) (xs.drop (i + 1))) (fun ys => mp (z :: ys)) k5) _ := h5
        refine (OkR_mb.mp h5).imp fun ys k' h => ?_
        rw [List.append_assoc]
        exact h
  · rintro H' ⟨acc, dacc, ki, e, Ei, hD, ra, rbi, hl, hh⟩
    rw [List.drop_length] at hh
    have hh : OkR (mp ([] : List D) ki) _ := hh
    have e0 : Eff c H H' := e1.trans e
    refine hh (.ref A) H' e0 Ei.cup ?_
    rw [List.append_nil]
    exact ⟨A, rfl, e1.some' (k := k1) cu hA, acc, hD, ra.mono (fun a n => ⟨sub a n, fun z => n.2.2.1 (.inr z)⟩) Ex.refl⟩
end
end EV
end

section
set_option Elab.async false
set_option linter.all false
set_option maxRecDepth 100000
set_option maxHeartbeats 1000000
/-! EvQa: dict comprehensions, keys of either kind. -/
namespace EV
open PySem PySem.Spec PyProof.Rows L2
section
variable {X : Cx} {pins : List (Addr × Obj)} {σ : L2.St} {H H' : Hp} {s : Shared} {E : Value → Shared → Prop} {a : Addr} {y v : V} {u r : Value}
theorem put_any {Q : Unit → Shared → Prop} (hu : X.A.units + 1 < cLine) (I : Inv X pins σ H s) (g : DPut H a y v H') (ry : RelV y u) (rv : RelV v r) (h : ∀ s', Inv X pins σ H' s' → Q () s') :
    wpAny (model X.prog X.w) X.A (dictSet a u r) Q E s := by
  rcases g with ⟨kvs, k, e, rfl, lt, rfl⟩ | ⟨kvs, k, b, e, rfl, eb, lt, rfl⟩
  · exact d_dictSet I e lt ry rv h
  · obtain rfl : u = Value.ref b := ry
    obtain ⟨z, hd, xs, rel, dd⟩ := dt_of I.hok e
    have sz : xs.length ≤ sizeLine := by rw [← Paired.length rel]; exact z
    have sz' : (putK kvs k v).length ≤ sizeLine := by have := length_putK kvs k v; omega
    refine wpAny_dictSet_heap (hsz := sz) (show (tupleKind (mixKind X.prog X.w)).room X.A from by first | exact hu | (show X.A.units < cLine; omega)) (key_of I.hok eb) dd fun g1 dd1 sb => h _ ?_
    obtain ⟨o, es, ep, ho, h2, h3, h4, _, h5⟩ := dd1
    refine d_write I (by rw [e]; exact True.intro) sb ⟨o, ho⟩ ⟨sz', hd, _, (rel.put k eb rv).keeps fun c ys ec => ?_, o, es, ep, ho, h2, h3, h4, h5⟩
    rw [upd_ne (ne_of ec e fun z => nomatch z)]
    exact ec
end
section
variable {X : Cx} {pins : List (Addr × Obj)} {s : Shared} {σ : L2.St} {H : Hp} {Q : VK} {kx vx tg iter : Expr} {ifs : List Expr} {scope : Scope} {own : List (Str × Nat)} {pos pos' : Pos} {wi : TI} {g : TG} {tt : TT} {tk tv : TE}
/-- the empty dict, of either kind -/
def e0 (tu : Bool) : HO := if tu then .dT [] else .dK []
theorem e0_ok {P : Program} {w : World} {H : Hp} (tu : Bool) (h : Heap) (hb : sysModules < h.objs.size) : ObjOk P w H (h.push { cls := .type "dict", data := .dict #[] }) h.objs.size (e0 tu) := by
  cases tu
  · exact dk_empty h hb
  · exact dt_empty h hb
/-- {k: v for target in iter if ..}, D the new dict -/
def tDx (tu : Bool) (wi : TI) (g : TG) (tt : TT) (tk tv : TE) (vs : List Nat) : TE := fun σ H Q => wi σ H fun J H1 => ∀ D, H1 D = none → ∃ W : Nat → Nat → Hp → Prop, (∃ m, W 0 m (upd H1 D (e0 tu))) ∧ ∀ i m H, W i m H →
  (J.stop i H ∧ Q (.ref D) H) ∨ (J.go i H ∧ ∃ Nx : Hp → Prop, (∀ H', Nx H' → ∃ m', m' < m ∧ W (i + 1) m' H') ∧ ∀ x H', J.yld i H x H' → g x (wipe σ vs) H' fun σ2 H2 => wipe σ2 vs = wipe σ vs ∧ tt σ2 H2 fun b H3 =>
    if b = true then tk σ2 H3 fun y H4 => tv σ2 H4 fun z H5 => ∃ H6, DPut H5 D y z H6 ∧ Nx H6 else Nx H3)
theorem dx_core {tu : Bool} {use : Option (Value → Sem Unit)} {Qf : Value → Shared → Prop} (hu : X.A.units + 1 < cLine)
    (hc : X.calm = true) (hN : X.N.Nodup) (I : Inv X pins σ H s) (hi : PI X tg iter wi) (ok : BlkOk X.N X.env.scope scope own)
    (hg : ∀ s H C cl fp, PG (X.blk s H scope (compEnvC scope cl C X.env) fp) tg g) (ht : ∀ s H C cl fp, PTs (X.blk s H scope (compEnvC scope cl C X.env) fp) ifs tt)
    (hk : ∀ s H C cl fp, PE (X.blk s H scope (compEnvC scope cl C X.env) fp) kx tk) (he : ∀ s H C cl fp, PE (X.blk s H scope (compEnvC scope cl C X.env) fp) vx tv) (hs : ∀ x, foldedSetIterable iter X.env x = pure x)
    (h : tDx tu wi g tt tk tv (own.map (·.2)) σ H Q)
    (fin : ∀ A C s' m H', Inv X pins σ H' s' → Q (.ref A) H' → s'.heap.Ns C m → FpOk X pins H' C → compPost (model X.prog X.w) X.A X.xe use Qf (.ref A) C (.ok .next) s') :
    wpAny (model X.prog X.w) X.A (comprehension (.DictComp kx vx [⟨tg, iter, ifs, 0⟩] scope pos) scope X.env pos' newDict false (eval iter X.env) use) Qf X.xe s := by
  have cap : ∀ y ∈ scope.names, y.2 = .free → ∃ c, X.env.cells.lookup y.1 = some c := fun y hy e => (ok.free y hy e).elim (fun k => I.ok.has _ (.inl k)) fun k => I.ok.has _ (.inr k)
  refine wpAny_comprehension_free (use := use) rfl hs (closure_ok cap) ok.kind (fun y hy e => by rw [ok.uniq y hy, e]) (thn (hi.run pins s σ H _ I h) fun xv sa hx => thn hx fun iv sb hb => ?_)
  obtain ⟨it, fp, tn, J, Hb, rfl, Ib, T, tb, fb, q⟩ := hb
  refine wpAny_newObj_type (newEnv_comp ?_)
  generalize eA : sb.heap.objs.size = A
  have nA : Hb A = none := Ib.hok.fresh (Nat.le_of_eq eA)
  obtain ⟨W, ⟨m0, w0⟩, turn⟩ := q A nA
  generalize eC : ({ sb with heap := sb.heap.push { cls := .type "dict", data := .dict #[] } } : Shared) = sc
  have hC : sc.heap = sb.heap.push { cls := .type "dict", data := .dict #[] } := by rw [← eC]
  have IC : Inv X pins σ (upd Hb A (e0 tu)) sc := by
    rw [← eC]
    refine Ib.laid (t' := sb.toks) (fun b o e => Heap.get?_push_of_some _ e) (Nat.le_of_eq eA) ?_
    rw [← eA]
    exact e0_ok tu sb.heap Ib.big
  have fpl : ∀ b ∈ fp, b < sb.heap.objs.size := fun b hb => by
    obtain ⟨o, e, _⟩ := T.obj _ _ tb b hb
    exact Heap.lt_size e
  have fc : ∀ b ∈ fp, FpOk X pins (upd Hb A (e0 tu)) b ∧ b < sc.heap.objs.size := fun b hb => by
    have lt := fpl b hb
    refine ⟨⟨?_, (fb b hb).2⟩, by rw [hC, Heap.size_push]; exact Nat.lt_succ_of_lt lt⟩
    rw [upd_ne (by rw [← eA]; exact Nat.ne_of_lt lt)]
    exact (fb b hb).1
  have tc : tn 0 sc.heap := T.keep _ _ _ tb fun b _ o e => by rw [hC]; exact Heap.get?_push_of_some _ e
  have ID := block_start IC ok hN fc
  -- the clauses in the block
  have G1 := hg sc (upd Hb A (e0 tu)) sc.heap.objs.size (cellsFrom (sc.heap.objs.size + 1) scope.names (cloFrom X.env.cells scope.names [])) fp
  have G2 := ht sc (upd Hb A (e0 tu)) sc.heap.objs.size (cellsFrom (sc.heap.objs.size + 1) scope.names (cloFrom X.env.cells scope.names [])) fp
  have G3 := hk sc (upd Hb A (e0 tu)) sc.heap.objs.size (cellsFrom (sc.heap.objs.size + 1) scope.names (cloFrom X.env.cells scope.names [])) fp
  have G4 := he sc (upd Hb A (e0 tu)) sc.heap.objs.size (cellsFrom (sc.heap.objs.size + 1) scope.names (cloFrom X.env.cells scope.names [])) fp
  have nfp : ∀ b ∈ fp, (upd Hb A (e0 tu)) b = none := fun b hb => (fc b hb).1.1
  show codeAny _ _ (.compStart (.DictComp kx vx [⟨tg, iter, ifs, 0⟩] scope pos) 0 (.ref it) (.ref A) (compEnvC scope (cellsFrom (sc.heap.objs.size + 1) scope.names (cloFrom X.env.cells scope.names [])) sc.heap.objs.size X.env)) (compPost (model X.prog X.w) X.A X.xe use Qf (.ref A) sc.heap.objs.size)
    { sc with heap := pushCells (sc.heap.push { cls := .type "dict", data := .dict #[] }) scope.names }
  generalize eV : compEnvC scope (cellsFrom (sc.heap.objs.size + 1) scope.names (cloFrom X.env.cells scope.names [])) sc.heap.objs.size X.env = ev at ID G1 G2 G3 G4 ⊢
  have evL : ev.locals = sc.heap.objs.size := by subst eV; rfl
  generalize eH : upd Hb A (e0 tu) = HC at IC ID G1 G2 G3 G4 w0 nfp fc
  generalize eD : ({ sc with heap := pushCells (sc.heap.push { cls := .type "dict", data := .dict #[] }) scope.names } : Shared) = sd at ID ⊢
  have td : tn 0 sd.heap := T.keep _ _ _ tc fun b _ o e => by rw [← eD]; exact pushCells_keeps _ _ _ _ (Heap.get?_push_of_some _ e)
  have here : ∀ {σ' : L2.St} {H' : Hp} {s' : Shared}, Inv (X.blk sc HC scope ev fp) [] σ' H' s' → (∀ b ∈ fp, H' b = none) → ∀ b ∈ fp, FpOk (X.blk sc HC scope ev fp) [] H' b := fun {σ' H' s'} I' hn b hb =>
    ⟨hn b hb, (I'.ok.exf b hb).1, I'.ok.exfs b hb, .inl hb, fun x c e => (I'.ok.exf b hb).2 x c e, fun r hr => absurd (show r ∈ ([] : List (Addr × Obj)) ++ [] from hr) (by simp)⟩
  have loop : codeAny (model X.prog X.w) X.A (.compLoop (.DictComp kx vx [⟨tg, iter, ifs, 0⟩] scope pos) 0 (.ref it) (.ref A) ev) (compPost (model X.prog X.w) X.A X.xe use Qf (.ref A) sc.heap.objs.size) sd := by
    refine compLoop_anyD (fun n s' => ∃ i H', Inv (X.blk sc HC scope ev fp) [] (wipe σ (own.map (·.2))) H' s' ∧ tn i s'.heap ∧ (∀ b ∈ fp, H' b = none) ∧ W i n H') ?_ m0 ⟨0, HC, ID, td, nfp, w0⟩
    rintro n s5 ⟨i, H5, I5, t5, n5, w5⟩
    rcases turn i n H5 w5 with ⟨stop, qq⟩ | ⟨go, Nx, hNx, step⟩
    · refine thnF (T.done (X.blk sc HC scope ev fp) rfl rfl rfl hc i [] s5 _ H5 (fun _ _ => False) I5 (here I5 n5) t5 stop) fun r s6 ⟨hr, I6⟩ => ?_
      subst hr
      have I7 : Inv X pins σ H5 s6 := IC.call' (ch := fp) I6.os I6.base I6.hok I6.bare fun b hb => ⟨(fc b hb).1.2.2.2.1, (fc b hb).1.2.1, (fc b hb).1.2.2.2.2.1, (fc b hb).1.2.2.2.2.2⟩
      have nC : H5 sc.heap.objs.size = none := by
        have z : H5 ev.locals = none := I6.free
        rwa [evL] at z
      obtain ⟨m, hn, _⟩ := I6.loc
      have hn : s6.heap.Ns ev.locals m := hn
      rw [evL] at hn
      exact fin A sc.heap.objs.size s6 m H5 I7 qq hn (IC.fpOk (Nat.le_refl _) nC)
    · refine thnF (T.item (X.blk sc HC scope ev fp) rfl rfl rfl hc i [] s5 _ H5 (fun _ _ => False) I5 (here I5 n5) t5 go) fun r s6 ⟨u, hr, h6⟩ => ?_
      subst hr
      refine thnF h6 fun _ s7 ⟨x, H7, I7, r7, y7, t7, n7⟩ => ?_
      have J7 := I7.pinned (here I7 n7) (T.obj _ _ t7)
      refine thnF (G1.run _ s7 _ H7 x u _ J7 r7 (step x H7 y7)) fun _ s8 ⟨σ8, H8, I8, hw8, q8⟩ => ?_
      refine thnF (G2.run _ s8 σ8 H8 _ I8 q8) fun b s9 ⟨H9, I9, q9⟩ => ?_
      have again : ∀ {s' : Shared} {H' : Hp}, Inv (X.blk sc HC scope ev fp) ([] ++ pinsAt fp s7.heap) σ8 H' s' → Nx H' → ∃ m, m < n ∧ ∃ i H', Inv (X.blk sc HC scope ev fp) [] (wipe σ (own.map (·.2))) H' s' ∧ tn i s'.heap ∧ (∀ b ∈ fp, H' b = none) ∧ W i m H' := fun {s' H'} I' nx => by
        obtain ⟨m', hm, w'⟩ := hNx H' nx
        have pin : ∀ b ∈ fp, ∀ o, s7.heap.get? b = some o → s'.heap.get? b = some o ∧ H' b = none := fun b hb o e => by
          have z := I'.pin (b, o) (List.mem_append_right _ (List.mem_append_right _ (mem_pinsAt hb e)))
          exact ⟨z.1, z.2.1⟩
        refine ⟨m', hm, i + 1, H', (I'.unpinned (pins := [])).weak (by rw [← hw8, wipe_length]) (fun j v e => ?_), T.keep _ _ _ t7 fun b hb o e => (pin b hb o e).1, fun b hb => ?_, w'⟩
        · rw [← hw8] at e
          exact (wipe_some e).1
        · obtain ⟨o, e, _⟩ := T.obj _ _ t7 b hb
          exact (pin b hb o e).2
      cases b with
      | false =>
        simp only [Bool.false_eq_true, if_false] at q9 ⊢
        exact again I9 q9
      | true =>
        simp only [if_true] at q9 ⊢
        refine thnF (G3.run _ s9 σ8 H9 _ I9 q9) fun z s10 ⟨yk, H10, I10, r10, q10⟩ => ?_
        refine thnF (G4.run _ s10 σ8 H10 _ I10 q10) fun z2 s11 ⟨yv, H11, I11, r11, H12, dp, nx⟩ => ?_
        exact put_any (X := X.blk sc HC scope ev fp) hu I11 dp r10 r11 fun s12 I12 => again I12 nx
  exact codeAny_compStart_dict loop (T.self X.A 0 _ _ _ td loop)
theorem pe_dx {tu : Bool} (hu : X.A.units + 1 < cLine) (hc : X.calm = true) (hN : X.N.Nodup) (hi : PI X tg iter wi) (ok : BlkOk X.N X.env.scope scope own)
    (hg : ∀ s H C cl fp, PG (X.blk s H scope (compEnvC scope cl C X.env) fp) tg g) (ht : ∀ s H C cl fp, PTs (X.blk s H scope (compEnvC scope cl C X.env) fp) ifs tt)
    (hk : ∀ s H C cl fp, PE (X.blk s H scope (compEnvC scope cl C X.env) fp) kx tk) (he : ∀ s H C cl fp, PE (X.blk s H scope (compEnvC scope cl C X.env) fp) vx tv) (hs : ∀ x, foldedSetIterable iter X.env x = pure x) :
    PE X (.DictComp kx vx [⟨tg, iter, ifs, 0⟩] scope pos) (tDx tu wi g tt tk tv (own.map (·.2))) := by
  refine ⟨fun pins s σ H Q I h => ?_⟩
  rw [arm_eval_DictComp]
  refine dx_core hu hc hN I hi ok hg ht hk he hs h fun A C s' m H' I' q hn fp => ⟨m, hn, fun h'' sb => ?_⟩
  exact ⟨.ref A, H', I'.turned (t' := s'.toks) (fun b o hb e => (sb.2 b hb).trans e) fp.1 fp.2.1 fp.2.2.2.1 fp.2.2.2.2.1 fp.2.2.2.2.2, rfl, q⟩
end
/-! ### a put, by data -/
section
variable {g : G} {N : Addr → Prop} {H : Hp}
theorem any_rel {κ : Type} [DecidableEq κ] {f : D → Option κ} (hf : ∀ {a b : D} {ka kb : κ}, f a = some ka → f b = some kb → eqD a b = decide (ka = kb)) {k : D} {k' : κ} (hk : f k = some k') :
    ∀ {kvs : List (D × D)} {kv : List (κ × V)}, kvs.map (fun p => f p.1) = kv.map (fun p => some p.1) → (kvs.any fun p => eqD p.1 k) = kv.any fun p => decide (p.1 = k')
  | [], [], _ => rfl
  | [], _ :: _, h => by simp at h
  | _ :: _, [], h => by simp at h
  | (a, d) :: kvs, (ka, v) :: kv, h => by
    simp only [List.map_cons, List.cons.injEq] at h
    simp only [List.any_cons]
    rw [hf h.1 hk, any_rel hf hk h.2]
theorem app_rel {κ : Type} {f : D → Option κ} {k d : D} {k' : κ} {v : V} (hk : f k = some k') (rv : Rp g N H d v) : ∀ {kvs : List (D × D)} {kv : List (κ × V)}, kvs.map (fun p => f p.1) = kv.map (fun p => some p.1) → RpP g N H kvs (kv.map (·.2)) →
    (kvs ++ [(k, d)]).map (fun p => f p.1) = (kv ++ [(k', v)]).map (fun p => some p.1) ∧ RpP g N H (kvs ++ [(k, d)]) ((kv ++ [(k', v)]).map (·.2))
  | [], [], _, _ => ⟨by simp [hk], by simp only [List.nil_append, List.map_cons, List.map_nil, RpP]; exact ⟨v, [], rfl, rv, rfl⟩⟩
  | [], _ :: _, h, _ => by simp at h
  | _ :: _, [], h, _ => by simp at h
  | (a, e) :: kvs, (ka, u) :: kv, h, r => by
    simp only [List.map_cons, List.cons.injEq] at h
    simp only [List.map_cons, RpP] at r
    obtain ⟨v', r', q, r1, r2⟩ := r
    cases q
    obtain ⟨i1, i2⟩ := app_rel hk rv h.2 r2
    refine ⟨by simp only [List.cons_append, List.map_cons, h.1, i1], ?_⟩
    simp only [List.cons_append, List.map_cons, RpP]
    exact ⟨u, _, rfl, r1, i2⟩
theorem upd_rel {κ : Type} [DecidableEq κ] {f : D → Option κ} (hf : ∀ {a b : D} {ka kb : κ}, f a = some ka → f b = some kb → eqD a b = decide (ka = kb)) {k d : D} {k' : κ} {v : V} (hk : f k = some k') (rv : Rp g N H d v) :
    ∀ {kvs : List (D × D)} {kv : List (κ × V)}, kvs.map (fun p => f p.1) = kv.map (fun p => some p.1) → RpP g N H kvs (kv.map (·.2)) →
    (kvs.map fun p => if eqD p.1 k then (p.1, d) else p).map (fun p => f p.1) = (kv.map fun p => if p.1 = k' then (p.1, v) else p).map (fun p => some p.1) ∧ RpP g N H (kvs.map fun p => if eqD p.1 k then (p.1, d) else p) ((kv.map fun p => if p.1 = k' then (p.1, v) else p).map (·.2))
  | [], [], _, _ => ⟨rfl, by simp only [List.map_nil, RpP]⟩
  | [], _ :: _, h, _ => by simp at h
  | _ :: _, [], h, _ => by simp at h
  | (a, e) :: kvs, (ka, u) :: kv, h, r => by
    simp only [List.map_cons, List.cons.injEq] at h
    simp only [List.map_cons, RpP] at r
    obtain ⟨v', r', q, r1, r2⟩ := r
    cases q
    obtain ⟨i1, i2⟩ := upd_rel hf hk rv h.2 r2
    have q := hf h.1 hk
    by_cases c : ka = k'
    · rw [decide_eq_true c] at q
      refine ⟨by simp only [List.map_cons, q, c, if_true, h.1, i1], ?_⟩
      simp only [List.map_cons, q, c, if_true, RpP]
      exact ⟨v, _, rfl, rv, i2⟩
    · rw [decide_eq_false c] at q
      refine ⟨by simp only [List.map_cons, q, c, Bool.false_eq_true, if_false, h.1, i1], ?_⟩
      simp only [List.map_cons, q, c, Bool.false_eq_true, if_false, RpP]
      exact ⟨u, _, rfl, r1, i2⟩
theorem put_rel {κ : Type} [DecidableEq κ] {f : D → Option κ} (hf : ∀ {a b : D} {ka kb : κ}, f a = some ka → f b = some kb → eqD a b = decide (ka = kb)) {k d : D} {k' : κ} {v : V} (hk : f k = some k') (rv : Rp g N H d v) {kvs : List (D × D)} {kv : List (κ × V)}
    (h : kvs.map (fun p => f p.1) = kv.map (fun p => some p.1)) (r : RpP g N H kvs (kv.map (·.2))) : (putD k d kvs).map (fun p => f p.1) = (putK kv k' v).map (fun p => some p.1) ∧ RpP g N H (putD k d kvs) ((putK kv k' v).map (·.2)) := by
  unfold putD putK
  rw [any_rel hf hk h]
  split
  · exact upd_rel hf hk rv h r
  · exact app_rel hk rv h r
end
end EV
end

section
set_option Elab.async false
set_option linter.all false
set_option maxRecDepth 100000
set_option maxHeartbeats 1000000
/-! EvQb: dict comprehensions by data. -/
namespace EV
open PySem PySem.Spec PyProof.Rows L2
theorem dx_it {J : It} {n : Nat} {G : Hp → Prop} {Y : Nat → Hp → V → Hp → Prop} (w : Walk J n G Y) {tu : Bool} {g : TG} {tt : TT} {tk tv : TE} {vs : List Nat} {σ : L2.St} {H1 : Hp} {D : Addr} {Qd : Hp → Prop} (Pv : Nat → Hp → Prop) (h0 : Pv 0 (upd H1 D (e0 tu))) (hG : ∀ i H, i ≤ n → Pv i H → G H)
    (hs : ∀ i x H H', i < n → Pv i H → Y i H x H' → g x (wipe σ vs) H' fun σ2 H2 => wipe σ2 vs = wipe σ vs ∧ tt σ2 H2 fun b H3 =>
      if b = true then tk σ2 H3 fun y H4 => tv σ2 H4 fun z H5 => ∃ H6, DPut H5 D y z H6 ∧ Pv (i + 1) H6 else Pv (i + 1) H3) (hd : ∀ H, Pv n H → Qd H) :
    ∃ W : Nat → Nat → Hp → Prop, (∃ m, W 0 m (upd H1 D (e0 tu))) ∧ ∀ i m H, W i m H →
      (J.stop i H ∧ Qd H) ∨ (J.go i H ∧ ∃ Nx : Hp → Prop, (∀ H', Nx H' → ∃ m', m' < m ∧ W (i + 1) m' H') ∧ ∀ x H', J.yld i H x H' → g x (wipe σ vs) H' fun σ2 H2 => wipe σ2 vs = wipe σ vs ∧ tt σ2 H2 fun b H3 =>
        if b = true then tk σ2 H3 fun y H4 => tv σ2 H4 fun z H5 => ∃ H6, DPut H5 D y z H6 ∧ Nx H6 else Nx H3) := by
  refine ⟨fun i m H => m = n - i ∧ i ≤ n ∧ Pv i H, ⟨n, by simp, Nat.zero_le _, h0⟩, ?_⟩
  rintro i m H ⟨rfl, hi, p⟩
  have q := hG i H hi p
  by_cases hlt : i < n
  · refine .inr ⟨w.goes i H hlt q, Pv (i + 1), fun H' p' => ⟨n - (i + 1), by omega, rfl, hlt, p'⟩, fun x H' y => hs i x H H' hlt p (w.yields i H x H' hlt q y)⟩
  · have e : i = n := by omega
    subst e
    exact .inl ⟨w.stops H q, hd H p⟩
/-- the dict at A, of one kind -/
def DicAt (tu : Bool) (g : G) (N : Addr → Prop) (H : Hp) (A : Addr) (kvs : List (D × D)) : Prop := match tu with
  | true => ∃ kv, H A = some (.dT kv) ∧ kvs.map (fun p => kTOf p.1) = kv.map (fun p => some p.1) ∧ RpP g N H kvs (kv.map (·.2))
  | false => ∃ kv, H A = some (.dK kv) ∧ kvs.map (fun p => kOf p.1) = kv.map (fun p => some p.1) ∧ RpP g N H kvs (kv.map (·.2))
section
variable {tu : Bool} {g : G} {N N' : Addr → Prop} {H H' : Hp} {A : Addr} {kvs : List (D × D)}
theorem DicAt.own (h : DicAt tu g N H A kvs) : OwnAt g N H A (.dic kvs) := by
  simp only [OwnAt]
  cases tu
  · exact .inl h
  · exact .inr h
theorem DicAt.mono2 (h : DicAt tu g N H A kvs) (e : Ex2 g N N' H H') (ha : ∀ o, H A = some o → H' A = some o) : DicAt tu g N' H' A kvs := by
  cases tu
  · obtain ⟨kv, h1, h2, h3⟩ := h; exact ⟨kv, ha _ h1, h2, h3.mono2 e⟩
  · obtain ⟨kv, h1, h2, h3⟩ := h; exact ⟨kv, ha _ h1, h2, h3.mono2 e⟩
theorem DicAt.nil (h : H A = some (e0 tu)) : DicAt tu g N H A [] := by
  cases tu
  · exact ⟨[], h, rfl, by simp [RpP]⟩
  · exact ⟨[], h, rfl, by simp [RpP]⟩
theorem DicAt.notTup (h : DicAt tu g N H A kvs) : ∀ vs, H A ≠ some (.tup vs) := fun vs q => by
  cases tu
  · obtain ⟨kv, h, _⟩ := h; rw [q] at h; cases h
  · obtain ⟨kv, h, _⟩ := h; rw [q] at h; cases h
theorem DicAt.length (h : DicAt tu g N H A kvs) : (tu = true → ∃ kv, H A = some (.dT kv) ∧ kv.length = kvs.length) ∧ (tu = false → ∃ kv, H A = some (.dK kv) ∧ kv.length = kvs.length) := by
  cases tu
  · obtain ⟨kv, h1, h2, _⟩ := h
    exact ⟨fun z => (by cases z), fun _ => ⟨kv, h1, by simpa using (congrArg List.length h2).symm⟩⟩
  · obtain ⟨kv, h1, h2, _⟩ := h
    exact ⟨fun _ => ⟨kv, h1, by simpa using (congrArg List.length h2).symm⟩, fun z => (by cases z)⟩
theorem putD_len (k v : D) (kvs : List (D × D)) : (putD k v kvs).length ≤ kvs.length + 1 := by
  unfold putD
  split <;> simp
/-- a tuple that is no constant is tracked -/
theorem tup_tracked {a : D} {v : V} (hk : keyT a = true) (hn : g.kt a = false) (r : Rp g N H a v) : ∃ b ks, v = .ref b ∧ kTOf a = some ks ∧ H b = some (.tup (ks.map kV)) := by
  obtain ⟨ks, hks⟩ := keyT_of hk
  cases a <;> simp only [keyT, Bool.false_eq_true] at hk
  simp only [Rp] at r
  obtain ⟨b, vs, rfl, t, rs⟩ := r
  rcases t with t | ⟨t, _⟩
  · refine ⟨b, ks, rfl, hks, ?_⟩
    have hks' : ksOf _ = some ks := hks
    rw [t, ksOf_v hks' rs]
  · rw [hn] at t; cases t
theorem DicAt.put {a b : D} {y z : V} (h : DicAt tu g N H A kvs) (hk : keyF g.kt tu a = true) (hl : kvs.length < LIM) (ry : Rp g N H a y) (rz : Rp g N H b z) (ex : ∀ o, Ex2 g N N (H) (upd H A o)) :
    ∃ o, DPut H A y z (upd H A o) ∧ DicAt tu g N (upd H A o) A (putD a b kvs) := by
  cases tu
  · obtain ⟨kv, h1, h2, h3⟩ := h
    obtain ⟨k, hka⟩ := keyD_of (show keyD a = true by simpa [keyF] using hk)
    obtain ⟨i1, i2⟩ := put_rel (fun {a b ka kb} => kOf_eq) hka rz h2 h3
    have hlen : kv.length = kvs.length := by simpa using (congrArg List.length h2).symm
    have hy := kOf_v hka ry
    subst hy
    exact ⟨.dK (putK kv k z), DPut.k h1 (by rw [LIM_eq]; omega), _, upd_same, i1, i2.mono2 (ex _)⟩
  · obtain ⟨kv, h1, h2, h3⟩ := h
    simp only [keyF, if_true, Bool.and_eq_true, Bool.not_eq_true'] at hk
    obtain ⟨b', ks, rfl, hks, hb⟩ := tup_tracked hk.1 hk.2 ry
    obtain ⟨i1, i2⟩ := put_rel (fun {a b ka kb} => kTOf_eq) hks rz h2 h3
    have hlen : kv.length = kvs.length := by simpa using (congrArg List.length h2).symm
    exact ⟨.dT (putK kv ks z), DPut.t h1 hb (by rw [LIM_eq]; omega), _, upd_same, i1, i2.mono2 (ex _)⟩
end
def dFun (kt : D → Bool) (tu : Bool) (t : Tg) (Cc : EV.Env → M Bool) (Ke Ve : EV.Env → M D) (ρw : EV.Env) : D → M (Option (D × D)) := fun x => mb (mo (t.bind x ρw)) fun ρ' => mb (Cc ρ') fun d => if d = true then mb (Ke ρ') fun a => mb (Ve ρ') fun b => if keyF kt tu a = true then mp (some (a, b)) else mf else mp none
section
variable {g : G} {f : Fm} {S : EV.Env → M (List D)} {Cc : EV.Env → M Bool} {Ke Ve : EV.Env → M D} {t : Tg} {tu : Bool}
theorem dcomp_core {σ : L2.St} {H : Hp} {Q : VK} (h : tN g f (fun ρ => mb (S ρ) fun xs => mb (mo (t.opn ρ)) fun ρw => mb (filtL (dFun g.kt tu t Cc Ke Ve ρw) xs) fun ys => mp (.dic (putAll [] ys))) σ H Q) :
    tDx tu (tSr g f .bo S) (gB g t) (tET g Cc) (tEG g Ke) (tEG g Ve) t.names σ H Q := by
  obtain ⟨ρ, k, c, E, q⟩ := h
  refine ⟨ρ, k, c, E, (OkR_mb.mp q).imp fun xs k1 h J H1 e1 cu src A hA => ?_⟩
  have E1 := E.eff e1 cu
  obtain ⟨ρw, hw, h⟩ := OkR_mo.mp (OkR_mb.mp h)
  obtain ⟨hpl, rfl⟩ := opn_of hw
  obtain ⟨hz, bs, AA, GG, Y, w, rb, hAA, keep, good⟩ := src
  have h := OkR_mb.mp h
  obtain ⟨E2, nfe⟩ := E1.wipe t.names hpl
  have Ew := E2.bar' hA (e0 tu)
  generalize hρw : wipeR ρ t.names = ρw at *
  have nc := (E1.h0none hA).2
  have sub : ∀ a, NF (f.bar A) ρw (wipe σ t.names) c a → NF f ρ σ c a := fun a n => by rw [← nfe]; exact bar_sub a n
  have ac : ∀ a, AA a → some a ≠ c := fun a h => (hAA a h).1
  refine dx_it w (fun i H' => ∃ dacc ki, Eff c H1 H' ∧ EOK g (f.bar A) ρw ki c (wipe σ t.names) H' ∧ DicAt tu g (NF (f.bar A) ρw (wipe σ t.names) c) H' A dacc ∧
    (∀ b ∈ bs, Rps g (NF (f.bar A) ρw (wipe σ t.names) c) H' b.1 b.2) ∧ dacc.length ≤ i ∧ OkR (filtL (dFun g.kt tu t Cc Ke Ve ρw) (xs.drop i) ki) fun ys k' =>
      ∀ v H', Eff c H H' → CupAt c k' H' → NewAt g H (NF f ρ σ c) H' (.dic (putAll dacc ys)) v → Q v H') ?_ ?_ ?_ ?_
  · refine ⟨[], k1, fun a u q _ => ?_, Ew, DicAt.nil upd_same, fun b hb => ?_, Nat.zero_le _, h⟩
    · rw [upd_ne (ne_of_none q hA)]; exact q
    · have := rb b hb
      rw [← nfe] at this
      exact this.mono2 (bar_ex2 hA)
  · rintro i H' hi ⟨dacc, ki, e, Ei, hD, rbi, hl, hh⟩
    exact keep H' (fun a u ha q => e a u q (ac a ha)) (e.tup cu)
  · rintro i x H' H3 hi ⟨dacc, ki, e, Ei, hD, rbi, hl, hh⟩ hY
    have gg : GG H' := keep H' (fun a u ha q => e a u q (ac a ha)) (e.tup cu)
    obtain ⟨sm, d, hd, rd⟩ := good i H' x H3 _ hi gg hY rbi
    have E3 := Ei.eff (Eff.of sm) (Ei.cup.same sm)
    have hdr : xs.drop i = d :: xs.drop (i + 1) := by
      rw [List.drop_eq_getElem_cons hi]
      congr 1
      rw [List.getElem?_eq_getElem hi] at hd
      exact Option.some.inj hd
    rw [hdr] at hh
    simp only [filtL, dFun, mb_assoc] at hh
    obtain ⟨ρ', hb, hh⟩ := OkR_mo.mp (OkR_mb.mp hh)
    refine ⟨f.bar A, ρw, ki, c, d, ρ', E3, Ei.finN rd, hb, fun σ' E' out sb => ⟨?_, ?_⟩⟩
    · refine wipe_eq (by rw [out.ls, wipe_length]) fun j n => (out.at_ j n).2
    have nfs : ∀ a, NF (f.bar A) ρ' σ' c a → NF (f.bar A) ρw (wipe σ t.names) c a := nf_sub fun j d h => by
      have m : j ∉ t.names := fun m => by
        have : (wipeR ρ t.names)[j]? = some (Slot.own d) := by rw [hρw]; exact h
        rw [wipeR_get] at this
        simp only [m, if_true] at this
        cases z : ρ[j]? <;> rw [z] at this <;> cases this
      exact ⟨d, by rw [(out.at_ j m).1]; exact h, ((out.at_ j m).2).symm⟩
    have e3 : Eff c H1 H3 := e.trans (Eff.of sm)
    have hD3 : DicAt tu g (NF (f.bar A) ρw (wipe σ t.names) c) H3 A dacc := hD.mono2 (ex2_of (fun a o n q => ⟨n, sm a o q⟩) fun a vs q => sm a _ q) fun o q => sm A o q
    have fin : ∀ {H4 : Hp} {k4 : Cup}, Eff c H3 H4 → CupAt c k4 H4 → EOK g (f.bar A) ρw k4 c (wipe σ t.names) H4 ∧ DicAt tu g (NF (f.bar A) ρw (wipe σ t.names) c) H4 A dacc ∧ (∀ b ∈ bs, Rps g (NF (f.bar A) ρw (wipe σ t.names) c) H4 b.1 b.2) := fun {H4 k4} e4 cu4 =>
      ⟨E3.eff e4 cu4, hD3.mono2 (e4.ex2 E3.cup fun a o _ n => ⟨n.2.1, n⟩) fun o q => e4 A o q nc, fun b hb => ((rbi b hb).mono (fun _ n => n) (sameEx sm)).eff e4 E3.cup (fun a n => n.2.1)⟩
    refine ⟨f.bar A, tT_seq E' hh fun b k4 H4 h4 e4 E4 => ?_⟩
    obtain ⟨E4w, hD4, rb4⟩ := fin e4 E4.cup
    cases b with
    | false =>
      refine ⟨dacc, k4, e3.trans e4, E4w, hD4, rb4, by omega, ?_⟩
      have h4 : OkR (mb (filtL (dFun g.kt tu t Cc Ke Ve ρw) (xs.drop (i + 1))) mp k4) _ := h4
      rw [mb_pure] at h4
      exact h4
    | true =>
      simp only [if_true, mb_assoc] at h4
      refine ⟨f.bar A, tG_seq E4 h4 fun a k5 y H5 h5 e5 E5 r5 => ⟨f.bar A, tG_seq E5 h5 fun b k6 z H6 h6 e6 E6 r6 => ?_⟩⟩
      obtain ⟨E6w, hD6, rb6⟩ := fin (e4.trans (e5.trans e6)) E6.cup
      have hB : (f.bar A).B A := .inr rfl
      have hT := hD6.notTup
      cases hkf : keyF g.kt tu a with
      | false => rw [hkf] at h6; exact h6.elim
      | true =>
        rw [hkf] at h6
        simp only [if_true, mb_mp] at h6
        have hLIM : LIM = 16777216 := rfl
        have ry := ((r5.toRp).eff e6 E5.cup fun a n => nfc n).mono nfs Ex.refl
        have rz := r6.toRp.mono nfs Ex.refl
        obtain ⟨o, dp, hD7⟩ := hD6.put hkf (by omega) ry rz fun o => poke_ex2 hB hT
        refine ⟨_, dp, putD a b dacc, k6, ?_, E6w.poke hB hT _, hD7, fun b hb => (rb6 b hb).mono2 (poke_ex2 hB hT), ?_, ?_⟩
        · refine fun a u q n => ?_
          rw [upd_ne (ne_of_none q hA)]
          exact (e3.trans (e4.trans (e5.trans e6))) a u q n
        · have := putD_len a b dacc; omega
        · have h6 : OkR (mb (filtL (dFun g.kt tu t Cc Ke Ve ρw) (xs.drop (i + 1))) (fun ys => mp ((a, b) :: ys)) k6) _ := h6
          exact (OkR_mb.mp h6).imp fun ys k' h => h
  · rintro H' ⟨dacc, ki, e, Ei, hD, rbi, hl, hh⟩
    rw [List.drop_length] at hh
    have hh : OkR (mp ([] : List (D × D)) ki) _ := hh
    have e0 : Eff c H H' := e1.trans e
    refine hh (.ref A) H' e0 Ei.cup ?_
    exact ⟨A, rfl, e1.some' (k := k1) cu hA, (DicAt.own (hD.mono2 ⟨fun _ _ h => h, fun a _ n h => ⟨⟨sub a n, fun z => n.2.2.1 (.inr z)⟩, h⟩, fun a _ n h => ⟨⟨sub a n, fun z => n.2.2.1 (.inr z)⟩, h⟩, fun a _ n h => ⟨⟨sub a n, fun z => n.2.2.1 (.inr z)⟩, h⟩⟩ fun _ h => h))⟩
end
end EV
end

section
set_option Elab.async false
set_option linter.all false
set_option maxRecDepth 100000
set_option maxHeartbeats 4000000
/-! EvSa: set(..) of a list of ints, of a tuple of tuples. -/
namespace EV
open PySem PySem.Spec PyProof.Rows L2
abbrev newSetO (w : World) : Obj := { cls := .type "set", dict := none, data := .set #[] 0 (.fresh 0 0 (!w.params.followText "set-order")) }
section
variable {P : Program} {w : World} {A : Around} {E : Value → Shared → Prop} {s : Shared}
theorem set_listI {l : Addr} {items : Array Value} (ns : List Int) {Q : Value → Shared → Prop} (hh : A.handled = none) (hl : s.heap.IsList l items) (its0 : IntsAre items.toList ns) (hb : ns.length + 1 < scanBound)
    (h : ∀ (h' : Heap) (tk c : Nat), SetR w h' s.heap.objs.size (fun j => decide (j ∈ ns)) c → c ≤ ns.length → (∀ b o, s.heap.get? b = some o → h'.get? b = some o) → Q (.ref s.heap.objs.size) { s with heap := h', toks := tk }) :
    wpAny (model P w) A (call (.type "set") [.ref l]) Q E s := by
  have zsz : items.size = ns.length := by
    have q := IntsAre.length its0
    rw [Array.length_toList] at q
    exact q
  obtain ⟨c, tl, mro0⟩ := F.called_set.mro
  have mad0 := F.called_set.made
  have sub0 := F.called_set.sub
  refine wpAny_call (codeAny_of_tree ?_)
  show wpAny _ _ (callAny (.type "set") _) _ _ _
  refine wpAny_pure ⟨Code.quiet_builtin _ (by decide +kernel), codeAny_builtin F.entry_type_call ?_⟩
  rw [Around.under_plain (weight_type_call_type "set" [.ref l] []) rfl]
  have h1 := F.called_set.notType
  have h2 := F.called_set.canCreate
  have ct0 := F.typeCall_set_1 (.ref l)
  repeat (any_goals (first | assumption | wp_step))
  refine codeAny_mono (code_set_led1 (.ref l) (E := E) (Q₁ := fun obj s₁ => obj = .ref s.heap.objs.size ∧ s₁ = { s with heap := s.heap.push (newSetO w) }) ⟨rfl, rfl⟩) fun r s₁ rr0 => ?_
  cases r with
  | error e => exact rr0
  | ok fl =>
    cases fl with
    | ret obj =>
      obtain ⟨rfl, rfl⟩ := rr0
      have sS0 : (s.heap.push (newSetO w)).get? s.heap.objs.size = some (newSetO w) := Heap.get?_push_size _ rfl
      have tT0 : Shared.TypeIs { s with heap := s.heap.push (newSetO w) } (.ref s.heap.objs.size) "set" := ⟨_, sS0, rfl⟩
      have lk0 := F.called_set.init.lookup
      have bd0 := F.called_set.init.bind (.ref s.heap.objs.size)
      repeat (any_goals (first | assumption | wp_step))
      refine codeAny_mono (codeAny_call_builtin (R := wants (fun r s₂ => r = .none ∧ ∃ h' tk c, s₂ = { s with heap := h', toks := tk } ∧ SetR w h' s.heap.objs.size (fun j => decide (j ∈ ns)) c ∧ c ≤ ns.length ∧
          (∀ b o, s.heap.get? b = some o → h'.get? b = some o)) E) F.called_set.init.plain F.entry_set_init (check_set_init_1 tT0 ?_)) fun r₂ s₂ rr2 => ?_
      · obtain ⟨ol, ol0, cl0, nn, dl0⟩ := hl
        obtain ⟨oc, od, oda, osl⟩ := ol
        simp only at cl0 dl0
        subst cl0; subst dl0
        have ol1 : (s.heap.push (newSetO w)).get? l = some { cls := .type "list", dict := od, data := .seq items nn, slots := osl } := Heap.get?_push_of_some _ ol0
        have sb1 := F.sub_list_set
        have sb2 := F.sub_list_frozenset
        have ne0 : (Value.type "list" == Value.type "dict") = false := by decide
        have ll1 : (s.heap.push (newSetO w)).IsList l items := ⟨_, ol1, rfl, nn, rfl⟩
        unfold Builtin.«set.__init__» noKeywords Builtin.Frozenset.updateFrom
        generalize PI0 : pyIter = PI
        wp_walk
        subst PI0
        refine wpAny_pyIter_list ll1 ?_
        refine wpAny_bind (wpAny_runValue ?_)
        have ltS : l < s.heap.objs.size := Heap.lt_size ol0
        have hh0 : A.in1.in1.in1.handled = none := by simp [hh]
        have z1 : (s.heap.push (newSetO w)).objs.size = s.heap.objs.size + 1 := Heap.size_push ..
        have neI : l ≠ (s.heap.push (newSetO w)).objs.size := by
          rw [Heap.size_push]; exact Nat.ne_of_lt (Nat.lt_succ_of_lt ltS)
        have nSf : s.heap.objs.size ∉ [(s.heap.push (newSetO w)).objs.size, l] := by
          rw [Heap.size_push]; simp only [List.mem_cons, List.mem_singleton, List.not_mem_nil, or_false, not_or]
          exact ⟨Nat.ne_of_lt (Nat.lt_succ_self _), Nat.ne_of_gt ltS⟩
        have vals0 : ∀ (i : Nat) (v : Value), items[i]? = some v → ∃ k t, ns[i]? = some k ∧ v = .int k t := fun i v hv => by
          have ii0 : i < ns.length := by rw [← zsz]; exact (Array.getElem?_eq_some_iff.mp hv).1
          obtain ⟨t, e⟩ := PyProof.Rows.IntsAre.int_at its0 i v (by rw [Array.getElem?_toList]; exact hv)
          refine ⟨ns[i], t, List.getElem?_eq_getElem ii0, ?_⟩
          rw [e, List.getD_eq_getElem?_getD, List.getElem?_eq_getElem ii0] <;> rfl
        refine set_update_ints ((Walks.list hh0 _ l neI items).toS) s.heap.objs.size
          nSf ns zsz hb vals0 (items.size - 0) 0 _ (by omega) (Nat.zero_le _)
          ⟨⟨_, Heap.get?_push_size _ rfl, rfl, rfl⟩, (ll1.push _)⟩ ?s00 ?rR0
        case s00 =>
          have gg0 : ((s.heap.push (newSetO w)).push { cls := .type "list_iterator", data := .fields #[.ref l, .int 0 0] }).get? s.heap.objs.size
              = some (newSetO w) := Heap.get?_push_of_some _ sS0
          exact ⟨0, Nat.le_refl 0, setR_new_at gg0⟩
        case rR0 =>
          intro s' c' mm0 cc1 sS1
          obtain ⟨h', g2, d', tk', os'⟩ := s'
          have eg : g2 = s.gens := mm0.gens
          have ed : d' = s.drawn := mm0.drawn
          have eo : os' = s.os := mm0.os
          subst eg; subst ed; subst eo
          show wpAny _ _ _ _ _ _
          refine wpAny_pure ?_
          show wpAny _ _ (ret Value.none) _ _ _
          rw [zsz] at cc1
          refine wpAny_pure ⟨rfl, h', tk', c', rfl, sS1, cc1, fun b o e => ?_⟩
          have hb0 : b < s.heap.objs.size := Heap.lt_size e
          have hb1 : b ≠ s.heap.objs.size := Nat.ne_of_lt hb0
          have hb2 : b ≠ (s.heap.push (newSetO w)).objs.size := by
            rw [Heap.size_push]; exact Nat.ne_of_lt (Nat.lt_succ_of_lt hb0)
          exact mm0.heap b o (by simp only [List.mem_cons, List.mem_singleton, List.not_mem_nil, or_false, not_or]; exact ⟨hb1, hb2⟩) (Heap.get?_push_of_some _ (Heap.get?_push_of_some _ e))
      · cases r₂ with
        | error e => exact rr2
        | ok fl₂ =>
          cases fl₂ with
          | ret r =>
            obtain ⟨rfl, h', tk, c', rfl, sS1, cc1, kk1⟩ := rr2
            repeat (any_goals (first | assumption | wp_step))
            exact h _ _ _ sS1 cc1 kk1
          | _ => exact rr2.elim
    | _ => exact rr0.elim
theorem set_tupT {l : Addr} {items : Array Value} (ks : List (Addr × List Int)) {Q : Value → Shared → Prop} (hh : A.handled = none) (hl : s.heap.IsTuple l items) (its0 : items.toList = ks.map fun p => Value.ref p.1)
    (hk : ∀ p ∈ ks, IsT P w s.heap p.2 p.1) (few0 : ks.length < 64) (hu : A.units + 3 < cLine)
    (h : ∀ (h' : Heap) (tk : Nat) L es ep t, SetTR P w h' s.heap.objs.size L es ep t → Got ks ks.length L → (∀ b o, s.heap.get? b = some o → h'.get? b = some o) → Q (.ref s.heap.objs.size) { s with heap := h', toks := tk }) :
    wpAny (model P w) A (call (.type "set") [.ref l]) Q E s := by
  have zsz : items.size = ks.length := by
    have q := congrArg List.length its0
    rw [Array.length_toList, List.length_map] at q
    exact q
  obtain ⟨c, tl, mro0⟩ := F.called_set.mro
  have mad0 := F.called_set.made
  have sub0 := F.called_set.sub
  refine wpAny_call (codeAny_of_tree ?_)
  show wpAny _ _ (callAny (.type "set") _) _ _ _
  refine wpAny_pure ⟨Code.quiet_builtin _ (by decide +kernel), codeAny_builtin F.entry_type_call ?_⟩
  rw [Around.under_plain (weight_type_call_type "set" [.ref l] []) rfl]
  have h1 := F.called_set.notType
  have h2 := F.called_set.canCreate
  have ct0 := F.typeCall_set_1 (.ref l)
  repeat (any_goals (first | assumption | wp_step))
  refine codeAny_mono (code_set_led1 (.ref l) (E := E) (Q₁ := fun obj s₁ => obj = .ref s.heap.objs.size ∧ s₁ = { s with heap := s.heap.push (newSetO w) }) ⟨rfl, rfl⟩) fun r s₁ rr0 => ?_
  cases r with
  | error e => exact rr0
  | ok fl =>
    cases fl with
    | ret obj =>
      obtain ⟨rfl, rfl⟩ := rr0
      have sS0 : (s.heap.push (newSetO w)).get? s.heap.objs.size = some (newSetO w) := Heap.get?_push_size _ rfl
      have tT0 : Shared.TypeIs { s with heap := s.heap.push (newSetO w) } (.ref s.heap.objs.size) "set" := ⟨_, sS0, rfl⟩
      have lk0 := F.called_set.init.lookup
      have bd0 := F.called_set.init.bind (.ref s.heap.objs.size)
      repeat (any_goals (first | assumption | wp_step))
      refine codeAny_mono (codeAny_call_builtin (R := wants (fun r s₂ => r = .none ∧ ∃ h' tk L es ep t, s₂ = { s with heap := h', toks := tk } ∧ SetTR P w h' s.heap.objs.size L es ep t ∧ Got ks ks.length L ∧
          (∀ b o, s.heap.get? b = some o → h'.get? b = some o)) E) F.called_set.init.plain F.entry_set_init (check_set_init_1 tT0 ?_)) fun r₂ s₂ rr2 => ?_
      · obtain ⟨ol, ol0, cl0, nn, dl0⟩ := hl
        obtain ⟨oc, od, oda, osl⟩ := ol
        simp only at cl0 dl0
        subst cl0; subst dl0
        have ol1 : (s.heap.push (newSetO w)).get? l = some { cls := .type "tuple", dict := od, data := .seq items nn, slots := osl } := Heap.get?_push_of_some _ ol0
        have sb1 := F.sub_tuple_set
        have sb2 := F.sub_tuple_frozenset
        have ne0 : (Value.type "tuple" == Value.type "dict") = false := by decide
        have ll1 : (s.heap.push (newSetO w)).IsTuple l items := ⟨_, ol1, rfl, nn, rfl⟩
        unfold Builtin.«set.__init__» noKeywords Builtin.Frozenset.updateFrom
        generalize PI0 : pyIter = PI
        wp_walk
        subst PI0
        refine wpAny_pyIter_tuple ll1 ?_
        refine wpAny_bind (wpAny_runValue ?_)
        have ltS : l < s.heap.objs.size := Heap.lt_size ol0
        have hh0 : A.in1.in1.in1.handled = none := by simp [hh]
        have z1 : (s.heap.push (newSetO w)).objs.size = s.heap.objs.size + 1 := Heap.size_push ..
        have neI : l ≠ (s.heap.push (newSetO w)).objs.size := by
          rw [Heap.size_push]; exact Nat.ne_of_lt (Nat.lt_succ_of_lt ltS)
        have nSf : s.heap.objs.size ∉ [(s.heap.push (newSetO w)).objs.size, l] := by
          rw [Heap.size_push]; simp only [List.mem_cons, List.mem_singleton, List.not_mem_nil, or_false, not_or]
          exact ⟨Nat.ne_of_lt (Nat.lt_succ_self _), Nat.ne_of_gt ltS⟩
        have vals0 : ∀ (i : Nat) (v : Value), items[i]? = some v → ∃ p, ks[i]? = some p ∧ v = .ref p.1 := fun i v hv => by
          have q : items.toList[i]? = some v := by rw [Array.getElem?_toList]; exact hv
          rw [its0, List.getElem?_map] at q
          cases hq : ks[i]? with
          | none => rw [hq] at q; cases q
          | some p =>
            rw [hq] at q
            exact ⟨p, rfl, (Option.some.inj q).symm⟩
        have nof : ∀ b, s.heap.objs.size ≤ b → s.heap.get? b = none := fun b hb => by
          cases q : s.heap.get? b with
          | none => rfl
          | some o => exact absurd (Nat.lt_of_lt_of_le (Heap.lt_size q) hb) (Nat.lt_irrefl _)
        refine set_update_tups ((Walks.tuple hh0 _ l neI items).toS) s.heap.objs.size
          nSf ks zsz few0 vals0 s.heap hk (nof _ (Nat.le_refl _)) (fun b hb => nof b (by
            rw [List.mem_singleton.mp hb, Heap.size_push]
            exact Nat.le_succ _)) hu (items.size - 0) 0 _ (by omega) (Nat.zero_le _)
          ⟨⟨_, Heap.get?_push_size _ rfl, rfl, rfl⟩, (ll1.push _)⟩ (fun b o e => Heap.get?_push_of_some _ (Heap.get?_push_of_some _ e)) ?s00 ?rR0
        case s00 =>
          have gg0 : ((s.heap.push (newSetO w)).push { cls := .type "tuple_iterator", data := .fields #[.ref l, .int 0 0] }).get? s.heap.objs.size
              = some (newSetO w) := Heap.get?_push_of_some _ sS0
          exact ⟨[], #[], 0, _, setTR_fresh gg0, Got.zero ks⟩
        case rR0 =>
          intro s' L es ep t mm0 sS1 g' kkp
          obtain ⟨h', g2, d', tk', os'⟩ := s'
          have eg : g2 = s.gens := mm0.gens
          have ed : d' = s.drawn := mm0.drawn
          have eo : os' = s.os := mm0.os
          subst eg; subst ed; subst eo
          show wpAny _ _ _ _ _ _
          refine wpAny_pure ?_
          show wpAny _ _ (ret Value.none) _ _ _
          rw [zsz] at g'
          exact wpAny_pure ⟨rfl, h', tk', L, es, ep, t, rfl, sS1, g', kkp⟩
      · cases r₂ with
        | error e => exact rr2
        | ok fl₂ =>
          cases fl₂ with
          | ret r =>
            obtain ⟨rfl, h', tk, L, es, ep, t, rfl, sS1, g', kk1⟩ := rr2
            repeat (any_goals (first | assumption | wp_step))
            exact h _ _ _ _ _ _ sS1 g' kk1
          | _ => exact rr2.elim
    | _ => exact rr0.elim
end
end EV
end

section
set_option Elab.async false
set_option linter.all false
set_option maxRecDepth 100000
set_option maxHeartbeats 1000000
/-! EvSb: len(set(..)), sorted(set(..)) by data. -/
namespace EV
open PySem PySem.Spec PyProof.Rows L2
section
variable {α : Type} [DecidableEq α]
def fstA : List α → List α → List α
  | [], _ => []
  | x :: xs, seen => if x ∈ seen then fstA xs seen else x :: fstA xs (x :: seen)
theorem fstA_mem {y : α} : ∀ {l seen : List α}, y ∈ fstA l seen ↔ y ∈ l ∧ y ∉ seen
  | [], seen => by simp [fstA]
  | x :: xs, seen => by
    unfold fstA
    split
    · rename_i h
      rw [fstA_mem, List.mem_cons]
      constructor
      · rintro ⟨a, b⟩; exact ⟨.inr a, b⟩
      · rintro ⟨rfl | a, b⟩
        · exact absurd h b
        · exact ⟨a, b⟩
    · rename_i h
      rw [List.mem_cons, fstA_mem, List.mem_cons, List.mem_cons]
      by_cases e : y = x
      · subst e; simp [h]
      · simp [e]
theorem fstA_nodup : ∀ {l seen : List α}, (fstA l seen).Nodup
  | [], seen => by simp [fstA]
  | x :: xs, seen => by
    unfold fstA
    split
    · exact fstA_nodup
    · exact List.nodup_cons.mpr ⟨fun h => (fstA_mem.mp h).2 (by simp), fstA_nodup⟩
theorem firsts_map {f : α → D} (hf : ∀ a b, eqD (f a) (f b) = decide (a = b)) : ∀ (l seen : List α), firsts (l.map f) (seen.map f) = (fstA l seen).map f
  | [], seen => rfl
  | x :: xs, seen => by
    have e : ((seen.map f).any fun y => eqD y (f x)) = decide (x ∈ seen) := by
      induction seen with
      | nil => simp
      | cons s r ih =>
        rw [List.map_cons, List.any_cons, ih, hf]
        by_cases h : s = x
        · subst h; simp
        · simp [h, Ne.symm h]
    simp only [List.map_cons, firsts, fstA, e, decide_eq_true_eq]
    have i1 := firsts_map hf xs seen
    have i2 := firsts_map hf xs (x :: seen)
    simp only [List.map_cons] at i2
    split
    · exact i1
    · rw [i2]; rfl
theorem nodup_perm {a b : List α} (ha : a.Nodup) (hb : b.Nodup) (h : ∀ x, x ∈ a ↔ x ∈ b) : a.Perm b := by
  rw [List.perm_iff_count]
  intro x
  rw [ha.count, hb.count]
  simp [h]
end
theorem eqD_ints (a b : Int) : eqD (.int a) (.int b) = decide (a = b) := by
  simp only [eqD]
  by_cases h : a = b
  · subst h; simp
  · simp [h]
theorem eqL_ints : ∀ (a b : List Int), eqL (a.map D.int) (b.map D.int) = decide (a = b)
  | [], [] => by simp [eqL]
  | [], _ :: _ => by simp [eqL]
  | _ :: _, [] => by simp [eqL]
  | x :: a, y :: b => by
    simp only [List.map_cons, eqL, eqD_ints, eqL_ints a b]
    by_cases h : x = y
    · subst h; simp
    · simp [h]
theorem eqD_tups (a b : List Int) : eqD (.tup (a.map D.int)) (.tup (b.map D.int)) = decide (a = b) := by
  simp only [eqD, eqL_ints]
theorem ints_of_all : ∀ {xs : List D}, xs.all isIntD = true → ∃ ns : List Int, xs = ns.map D.int
  | [], _ => ⟨[], rfl⟩
  | x :: xs, h => by
    simp only [List.all_cons, Bool.and_eq_true] at h
    obtain ⟨ns, rfl⟩ := ints_of_all h.2
    cases x <;> first | exact (Bool.false_ne_true h.1).elim | exact ⟨_ :: ns, rfl⟩
theorem tups_of_all : ∀ {xs : List D}, xs.all isTupI = true → ∃ ms : List (List Int), xs = ms.map fun m => D.tup (m.map D.int)
  | [], _ => ⟨[], rfl⟩
  | x :: xs, h => by
    simp only [List.all_cons, Bool.and_eq_true] at h
    obtain ⟨ms, rfl⟩ := tups_of_all h.2
    obtain ⟨h1, _⟩ := h
    cases x <;> first | exact (Bool.false_ne_true h1).elim | skip
    rename_i ys
    obtain ⟨ns, rfl⟩ := ints_of_all (show ys.all isIntD = true from h1)
    exact ⟨ns :: ms, rfl⟩
section
variable {g : G} {N : Addr → Prop} {H : Hp}
theorem rps_int : ∀ {ns : List Int} {vs : List V}, Rps g N H (ns.map D.int) vs → vs = ns.map V.int
  | [], vs, h => by simpa only [List.map_nil, Rps] using h
  | n :: ns, vs, h => by
    simp only [List.map_cons, Rps] at h
    obtain ⟨v, r, rfl, h1, h2⟩ := h
    simp only [Rp] at h1
    rw [h1, rps_int h2, List.map_cons]
theorem rps_tupI : ∀ {ms : List (List Int)} {vs : List V}, Rps g N H (ms.map fun m => D.tup (m.map D.int)) vs → ∃ ks : List (Addr × List Int), vs = ks.map (fun p => V.ref p.1) ∧ ks.map (·.2) = ms ∧ ∀ p ∈ ks, SqT g.K H p.1 (p.2.map V.int)
  | [], vs, h => by
    simp only [List.map_nil, Rps] at h
    exact ⟨[], h, rfl, by simp⟩
  | m :: ms, vs, h => by
    simp only [List.map_cons, Rps] at h
    obtain ⟨v, r, rfl, h1, h2⟩ := h
    simp only [Rp] at h1
    obtain ⟨a, us, rfl, t, ru⟩ := h1
    obtain ⟨ks, rfl, e2, e3⟩ := rps_tupI h2
    refine ⟨(a, m) :: ks, rfl, by simp [e2], fun p hp => ?_⟩
    rcases List.mem_cons.mp hp with rfl | hp
    · have := t.sq
      rw [rps_int ru] at this
      exact this
    · exact e3 p hp
end
theorem rps_intsS {g : G} {N : Addr → Prop} {H : Hp} : ∀ ns : List Int, Rps g N H (ns.map D.int) (ns.map V.int)
  | [] => Rps.nil
  | n :: ns => Rps.cons (by simp only [Rp]) (rps_intsS ns)
theorem dist_int {ns : List Int} {es : List (Int × Value)} (nd : (es.map L2.keyOf).Nodup) (hm : ∀ k : Int, decide (k ∈ ns) = true ↔ k ∈ es.map L2.keyOf) : (firsts (ns.map D.int) []).length = es.length := by
  have := firsts_map eqD_ints ns []
  rw [List.map_nil] at this
  rw [this, List.length_map]
  have p := nodup_perm (fstA_nodup (l := ns) (seen := [])) nd fun x => by rw [fstA_mem, ← hm]; simp
  rw [p.length_eq, List.length_map]
section
variable {X : Cx} {pins : List (Addr × Obj)} {σ : L2.St} {H : Hp} {s : Shared} {E : Value → Shared → Prop} {g : G} {T N : Addr → Prop}
theorem setR_out {h' : Heap} {a : Addr} {ns : List Int} {c : Nat} (R : SetR X.w h' a (fun j => decide (j ∈ ns)) c) : ∃ o es ep t, h'.get? a = some o ∧ o.ExactSet ∧ o.data = .set es ep t ∧ t.fits es.size = true ∧ es.size = (firsts (ns.map D.int) []).length := by
  obtain ⟨o, es, ep, t, ho, hex, hd, gd, nd, hm, hb, hf, hn, hr, hl⟩ := R
  exact ⟨o, es, ep, t, ho, hex, hd, hf, by rw [dist_int nd hm, Array.length_toList]⟩
theorem setTR_out {s' : Shared} {a : Addr} {ks L : List (Addr × List Int)} {es : Array (Int × Value)} {ep : Nat} {t : SetTable} (R : SetTR X.prog X.w s'.heap a L es ep t) (gt : Got ks ks.length L) :
    ∃ o es ep t, s'.heap.get? a = some o ∧ o.ExactSet ∧ o.data = .set es ep t ∧ t.fits es.size = true ∧ es.size = (firsts ((ks.map (·.2)).map fun m => D.tup (m.map D.int)) []).length := by
  obtain ⟨o, ho, hex, hd⟩ := R.ob
  refine ⟨o, es, ep, t, ho, hex, hd, R.fits, ?_⟩
  have := firsts_map eqD_tups (ks.map (·.2)) []
  rw [List.map_nil] at this
  rw [this, List.length_map, R.size, ← List.length_map (f := (·.2))]
  refine (nodup_perm R.nd fstA_nodup fun x => ?_).length_eq
  rw [fstA_mem]
  constructor
  · intro h
    obtain ⟨p, hp, rfl⟩ := List.mem_map.mp h
    exact ⟨List.mem_map.mpr ⟨p, List.mem_of_mem_take (gt.sub p hp), rfl⟩, by simp⟩
  · rintro ⟨h, _⟩
    obtain ⟨p, hp, rfl⟩ := List.mem_map.mp h
    exact gt.all p (by rw [List.take_length]; exact hp)
/-- set(x), for its length -/
theorem set_any {x : D} {xs : List D} {v : V} {u : Value} {Q : Value → Shared → Prop} (hK : X.K = g.K) (hc : X.calm = true) (hu : X.A.units + 200 < cLine) (hx : itemsD x = some xs) (ok : setOk xs = true) (I : Inv X pins σ H s) (r : RpT g T N H x v) (ru : RelV v u)
    (h : ∀ h' tk o es ep t, h'.get? s.heap.objs.size = some o → o.ExactSet → o.data = .set es ep t → t.fits es.size = true → es.size = (firsts xs []).length → (∀ b o, s.heap.get? b = some o → h'.get? b = some o) → Q (.ref s.heap.objs.size) { s with heap := h', toks := tk }) :
    wpAny (model X.prog X.w) X.A (call (.type "set") [u]) Q E s := by
  unfold setOk at ok
  simp only [Bool.and_eq_true, decide_eq_true_eq, Bool.or_eq_true] at ok
  obtain ⟨hl, ok⟩ := ok
  have hh := I.ok.hd hc
  have fin1 : ∀ {ns : List Int}, xs = ns.map D.int → ∀ (h' : Heap) (tk c : Nat), SetR X.w h' s.heap.objs.size (fun j => decide (j ∈ ns)) c → c ≤ ns.length → (∀ b o, s.heap.get? b = some o → h'.get? b = some o) → Q (.ref s.heap.objs.size) { s with heap := h', toks := tk } := fun {ns} e h' tk c R _ k => by
    subst e
    obtain ⟨o, es, ep, t, h1, h2, h3, h4, h5⟩ := setR_out R
    exact h h' tk o es ep t h1 h2 h3 h4 h5 k
  have fin2 : ∀ {ks : List (Addr × List Int)}, xs = (ks.map (·.2)).map (fun m => D.tup (m.map D.int)) → ∀ (h' : Heap) (tk : Nat) L es ep t, SetTR X.prog X.w h' s.heap.objs.size L es ep t → Got ks ks.length L → (∀ b o, s.heap.get? b = some o → h'.get? b = some o) → Q (.ref s.heap.objs.size) { s with heap := h', toks := tk } := fun {ks} e h' tk L es ep t R gt k => by
    subst e
    obtain ⟨o, es, ep, t, h1, h2, h3, h4, h5⟩ := setTR_out (s' := { s with heap := h', toks := tk }) R gt
    exact h h' tk o es ep t h1 h2 h3 h4 h5 k
  have hsb : scanBound > 100 := by unfold scanBound; omega
  cases x <;> simp only [itemsD] at hx <;> cases hx
  · simp only [RpT, Rp] at r
    obtain ⟨a, vs, rfl, t, rs⟩ := r
    obtain rfl : u = Value.ref a := ru
    have sq := t.sq
    rw [← hK] at sq
    obtain ⟨its, rv, pl, hz⟩ := I.tuple sq
    rcases ok with ok | ok
    · obtain ⟨ns, rfl⟩ := ints_of_all ok
      have := rps_int rs
      subst this
      rw [List.length_map] at hl
      exact call_set_tupI ns hh pl (by simpa using rv.ints) (by omega) (fin1 rfl)
    · obtain ⟨ms, rfl⟩ := tups_of_all ok
      obtain ⟨ks, rfl, rfl, hk⟩ := rps_tupI rs
      rw [List.length_map, List.length_map] at hl
      refine set_tupT ks hh pl (by simpa using refs_of_vals rv) (fun p hp => I.isT (by rw [hK]; exact hk p hp)) hl (by omega) (fin2 rfl)
  · simp only [RpT] at r
    obtain ⟨a, vs, rfl, t, rd, rs⟩ := r
    obtain rfl : u = Value.ref a := ru
    have sq : SqL X.K H a vs := .inl rd
    obtain ⟨its, rv, pl, hz⟩ := I.list sq
    rcases ok with ok | ok
    · obtain ⟨ns, rfl⟩ := ints_of_all ok
      have := rps_int rs
      subst this
      rw [List.length_map] at hl
      exact set_listI ns hh pl.isList (by simpa using rv.ints) (by omega) (fin1 rfl)
    · obtain ⟨ms, rfl⟩ := tups_of_all ok
      obtain ⟨ks, rfl, rfl, hk⟩ := rps_tupI rs
      rw [List.length_map, List.length_map] at hl
      exact call_set_tups ks hh pl.isList (by simpa using refs_of_vals rv) (fun p hp => I.isT (by rw [hK]; exact hk p hp)) hl (by omega) (fin2 rfl)
end
def leI (a b : Int) : Bool := !decide (b < a)
theorem leI_total : PySem.W.TotalLe leI := by
  refine ⟨fun a b c h1 h2 => ?_, fun a b => ?_⟩
  · simp only [leI, Bool.not_eq_true', decide_eq_false_iff_not] at *; omega
  · simp only [leI, Bool.not_eq_true', decide_eq_false_iff_not, Bool.or_eq_true] at *; omega
theorem ins_map {α β : Type} {f : α → β} {le : β → β → Bool} {le' : α → α → Bool} (h : ∀ a b, le (f a) (f b) = le' a b) (x : α) : ∀ l : List α, insD le (f x) (l.map f) = (insD le' x l).map f
  | [] => rfl
  | y :: l => by
    simp only [List.map_cons, insD, h]
    split
    · rfl
    · rw [ins_map h x l, List.map_cons]
theorem sort_map {α β : Type} {f : α → β} {le : β → β → Bool} {le' : α → α → Bool} (h : ∀ a b, le (f a) (f b) = le' a b) : ∀ l : List α, sortD le (l.map f) = (sortD le' l).map f
  | [] => rfl
  | x :: l => by
    simp only [List.map_cons, sortD]
    rw [sort_map h l, ins_map h]
theorem insD_perm {α : Type} (le : α → α → Bool) (x : α) : ∀ l : List α, (insD le x l).Perm (x :: l)
  | [] => .refl _
  | y :: l => by
    unfold insD
    split
    · exact .refl _
    · exact ((insD_perm le x l).cons y).trans (.swap x y l)
theorem sortD_perm {α : Type} (le : α → α → Bool) : ∀ l : List α, (sortD le l).Perm l
  | [] => .refl _
  | x :: l => by
    unfold sortD
    exact (insD_perm le x _).trans ((sortD_perm le l).cons x)
theorem sset_int {ns ms : List Int} (hs : ms.Pairwise (· < ·)) (hm : ∀ k : Int, k ∈ ms ↔ decide (k ∈ ns) = true) : sortD leD (firsts (ns.map D.int) []) = ms.map D.int := by
  have e := firsts_map eqD_ints ns []
  rw [List.map_nil] at e
  have hle : ∀ a b : Int, leD (.int a) (.int b) = leI a b := fun a b => by simp only [leD, ltD, leI]
  rw [e, sort_map hle]
  congr 1
  have p : (sortD leI (fstA ns [])).Perm ms := (sortD_perm _ _).trans (nodup_perm fstA_nodup (hs.imp fun h => Int.ne_of_lt h) fun x => by rw [fstA_mem, hm]; simp)
  refine p.eq_of_pairwise (fun a b _ _ h1 h2 => Int.le_antisymm h1 h2) ?_ (hs.imp fun h => Int.le_of_lt h)
  refine (sort_sorted leI_total _).imp fun {a b} h => ?_
  simp only [leI, Bool.not_eq_true', decide_eq_false_iff_not] at h
  omega
section
variable {X : Cx} {g : G} {f : Fm} {e : Expr} {L : EV.Env → M (List D)} {p p2 q pos : Pos} {ck : Ck} {C : Cfg} {cal : Cal} {sc : Scope}
theorem star1 (hst : notStar e = true) : starEach [e] X.env = [(false, eval e X.env)] := star_of hst
/-- len(set(e)) -/
theorem s_lset (hX : XOK g ck C cal sc X) (hg : glC sc "len" = true) (hg2 : glC sc "set" = true) (hst : notStar e = true) (ha : PA X [e] (tLb g f L)) :
    PE X (.Call (.Name "len" p) [.Call (.Name "set" p2) [e] [] q] [] pos) (tG g f .fr fun ρ => mb (L ρ) fun ds => mo (lsetF ds)) := by
  refine ⟨fun pins s σ H Q I ⟨ρ, k, c, E, h⟩ => ?_⟩
  have hs := star1 (X := X) hst
  refine Call_ (ld_blt I (gl_of (by rw [hX.sc]; exact hg)) (hX.mg _ (by decide)) PySem.boot_len ?_)
  refine PyProof.Rows.callWith_builtin1 (PyProof.Rows.args_cons ?_ rfl) rfl rfl
  refine Call_ (ld_blt I (gl_of (by rw [hX.sc]; exact hg2)) (hX.mg _ (by decide)) PyProof.Rows.boot_set ?_)
  refine PyProof.Rows.callWith_type1 (thn (ha.run q pins s σ H _ I (tLb_seq E h fun ds k1 vs H1 h e1 E1 r1 => (show ∃ ds k1, OkR (mo (lsetF ds) k1) _ ∧ Eff c H H1 ∧ EOK g f ρ k1 c σ H1 ∧ RpL g (fun a => some a ≠ c) (NF f ρ σ c) H1 ds vs from ⟨ds, k1, h, e1, E1, r1⟩))) fun us s1 ⟨vs, H1, I1, rv, ds, k1, h1, e1, E1, r1⟩ => ?_) hs rfl
  obtain ⟨z, hz, q1⟩ := OkR_mo.mp h1
  obtain ⟨x, rfl⟩ : ∃ x, ds = [x] := by
    match ds, hz with
    | [x], _ => exact ⟨x, rfl⟩
    | [], hz => cases hz
    | _ :: _ :: _, hz => cases hz
  simp only [lsetF, Option.bind_eq_some_iff] at hz
  obtain ⟨xs, hxs, hz⟩ := hz
  split at hz
  · rename_i ok
    cases hz
    simp only [RpL] at r1
    obtain ⟨v, r, rfl, rv1, rfl⟩ := r1
    cases rv with
    | cons rv0 rvt =>
      cases rvt
      refine set_any hX.K hX.calm hX.un hxs ok I1 rv1 rv0 fun h' tk o es ep t ho hex hd hf hn k => ?_
      refine PyProof.Rows.args_nil ?_
      have I2 : Inv X pins σ H1 { s1 with heap := h', toks := tk } := I1.kept k
      have hlt : (firsts xs []).length < 64 := by
        have : xs.length < 64 := by
          unfold setOk at ok
          simp only [Bool.and_eq_true, decide_eq_true_eq] at ok
          exact ok.1
        have le : ∀ (l sn : List D), (firsts l sn).length ≤ l.length := fun l => by
          induction l with
          | nil => intro sn; simp [firsts]
          | cons y l ih =>
            intro sn
            unfold firsts
            split
            · exact Nat.le_succ_of_le (ih sn)
            · exact Nat.succ_le_succ (ih _)
        exact Nat.lt_of_le_of_lt (le xs []) this
      exact call_len_set ho hex hd hf (by rw [hn]; omega) ⟨.int (firsts xs []).length, H1, I2.tok _, ⟨_, by rw [hn]⟩, q1 _ _ e1 E1.cup (rpT_int _)⟩
  · cases hz
/-- sorted(set(e)) -/
theorem s_sset (hX : XOK g ck C cal sc X) (hg : glC sc "sorted" = true) (hg2 : glC sc "set" = true) (hst : notStar e = true) (ha : PA X [e] (tLb g f L)) :
    PE X (.Call (.Name "sorted" p) [.Call (.Name "set" p2) [e] [] q] [] pos) (tG g f .fr fun ρ => mb (L ρ) fun ds => mo (ssetF ds)) := by
  refine ⟨fun pins s σ H Q I ⟨ρ, k, c, E, h⟩ => ?_⟩
  have hs := star1 (X := X) hst
  refine Call_ (ld_blt I (gl_of (by rw [hX.sc]; exact hg)) (hX.mg _ (by decide)) PyProof.Rows.boot_sorted ?_)
  refine PyProof.Rows.callWith_builtin1 (PyProof.Rows.args_cons ?_ rfl) rfl rfl
  refine Call_ (ld_blt I (gl_of (by rw [hX.sc]; exact hg2)) (hX.mg _ (by decide)) PyProof.Rows.boot_set ?_)
  refine PyProof.Rows.callWith_type1 (thn (ha.run q pins s σ H _ I (tLb_seq E h fun ds k1 vs H1 h e1 E1 r1 => (show ∃ ds k1, OkR (mo (ssetF ds) k1) _ ∧ Eff c H H1 ∧ EOK g f ρ k1 c σ H1 ∧ RpL g (fun a => some a ≠ c) (NF f ρ σ c) H1 ds vs from ⟨ds, k1, h, e1, E1, r1⟩))) fun us s1 ⟨vs, H1, I1, rv, ds, k1, h1, e1, E1, r1⟩ => ?_) hs rfl
  obtain ⟨z, hz, q1⟩ := OkR_mo.mp h1
  obtain ⟨xs, rfl⟩ : ∃ xs, ds = [.lst xs] := by
    match ds, hz with
    | [.lst xs], _ => exact ⟨xs, rfl⟩
    | [], hz => cases hz
    | _ :: _ :: _, hz => simp [ssetF] at hz
    | [.non], hz => cases hz
    | [.bl _], hz => cases hz
    | [.int _], hz => cases hz
    | [.str _], hz => cases hz
    | [.fn _], hz => cases hz
    | [.tup _], hz => cases hz
    | [.dic _], hz => cases hz
  simp only [ssetF] at hz
  split at hz
  · rename_i ok
    simp only [Bool.and_eq_true, decide_eq_true_eq] at ok
    cases hz
    obtain ⟨ns, rfl⟩ := ints_of_all ok.2
    simp only [RpL] at r1
    obtain ⟨v, r, rfl, rv1, rfl⟩ := r1
    simp only [RpT] at rv1
    obtain ⟨a, us', rfl, _, rd, rs⟩ := rv1
    have := rps_int rs
    subst this
    have hl := ok.1
    rw [List.length_map] at hl
    cases rv with
    | cons rv0 rvt =>
      cases rvt
      cases rv0
      obtain ⟨its, rvi, pl, hz⟩ := I1.list (show SqL X.K H1 a (ns.map V.int) from .inl rd)
      have hh := I1.ok.hd hX.calm
      have hsb : scanBound > 100 := by unfold scanBound; omega
      refine set_listI ns hh pl.isList (by simpa using rvi.ints) (by omega) fun h' tk cc R hcn k => ?_
      refine PyProof.Rows.args_nil ?_
      have I2 : Inv X pins σ H1 { s1 with heap := h', toks := tk } := I1.kept k
      have R2 : SetR X.w ({ s1 with heap := h', toks := tk } : Shared).heap s1.heap.objs.size (fun j => decide (j ∈ ns)) cc := R
      generalize ({ s1 with heap := h', toks := tk } : Shared) = s2 at I2 R2 ⊢
      refine sorted_set (s := s2) R2 hh (by omega) fun s' p out c' ms k2 gn os hp hgo hi hsd hm hln => ?_
      have hn : H1 p = none := I2.hok.fresh hp
      have hlen : (ms.map V.int).length ≤ sizeLine := by rw [List.length_map, hln, LIM_eq]; have : LIM = 16777216 := rfl; omega
      have J : Inv X pins σ (upd H1 p (.lst (ms.map V.int))) { s2 with heap := s'.heap, gens := s'.gens, drawn := s'.drawn, toks := s'.toks } :=
        I2.call (ch := []) (Un.laid k2 hp hn) (I2.hok.laid k2 hp ⟨hlen, out.toList, c', vals_of_ints hi, hgo⟩) (by rw [gn]; exact I2.bare) (fun _ z => nomatch z)
      have eS : s' = { s2 with heap := s'.heap, gens := s'.gens, drawn := s'.drawn, toks := s'.toks } := by
        cases s'
        cases s2
        cases os
        rfl
      rw [eS]
      refine ⟨.ref p, _, J, rfl, ?_⟩
      rw [sset_int hsd hm] at q1
      refine fin_fr E e1 E1 (sameNew hn) ?_ q1
      simp only [RpT]
      exact ⟨p, _, rfl, hn, .inl upd_same, rps_intsS ms⟩
  · cases hz
end
end EV
end

section
set_option Elab.async false
set_option linter.all false
set_option maxRecDepth 100000
/-! EvR: every checked expression is reckoned rightly. -/
namespace EV
open PySem PySem.Spec PyProof.Rows L2
structure Snd (g : G) (f : Fm) (C : Cfg) (cal : Cal) (X : Cx) (ie : IE) (e : Expr) : Prop where
  md : PE X e (tG g f (mdOf ie) (evE cal C ie))
  nf : PE X e (tG g f .nf (evE cal C ie))
  bo : PE X e (tG g f .bo fun ρ => brw ie ρ (evE cal C ie ρ))
  nw : isNew ie = true → PE X e (tN g f (evE cal C ie))
  tt : tst ie = true → PT X e (tT g f fun ρ => mb (evE cal C ie ρ) mB)
  bw : ∀ op vs pos, e = .BoolOp op vs pos → tst ie = true → PW X e (tT g f fun ρ => mb (evE cal C ie ρ) mB)
section
variable {g : G} {f : Fm} {C : Cfg} {cal : Cal} {ck : Ck} {sc : Scope} {X : Cx} {x y tg it el : Expr} {xs ifs : List Expr} {ie : IE} {es : List IE} {A B : EV.Env → M D} {md : Md} {pos : Pos}
theorem eqG (h : PE X x (tG g f md A)) (e : ∀ ρ, B ρ = A ρ) : PE X x (tG g f md B) := by rw [show B = A from funext e]; exact h
theorem eqT {A B : EV.Env → M Bool} (h : PT X x (tT g f A)) (e : ∀ ρ, B ρ = A ρ) : PT X x (tT g f B) := by rw [show B = A from funext e]; exact h
theorem eqW {A B : EV.Env → M Bool} (h : PW X x (tT g f A)) (e : ∀ ρ, B ρ = A ρ) : PW X x (tT g f B) := by rw [show B = A from funext e]; exact h
theorem eqLs {A B : EV.Env → M (List D)} (h : PA X xs (tLs g f A)) (e : ∀ ρ, B ρ = A ρ) : PA X xs (tLs g f B) := by rw [show B = A from funext e]; exact h
theorem eqLb {A B : EV.Env → M (List D)} (h : PA X xs (tLb g f A)) (e : ∀ ρ, B ρ = A ρ) : PA X xs (tLb g f B) := by rw [show B = A from funext e]; exact h
theorem eqA {A B : EV.Env → M (List Arg)} (h : PA X xs (tA g f A)) (e : ∀ ρ, B ρ = A ρ) : PA X xs (tA g f B) := by rw [show B = A from funext e]; exact h
theorem eqR {A B : EV.Env → M (List D)} (h : PI X tg it (tSr g f md A)) (e : ∀ ρ, B ρ = A ρ) : PI X tg it (tSr g f md B) := by rw [show B = A from funext e]; exact h
/-- an expression whose truth is asked of its value -/
theorem Snd.plain (md : PE X x (tG g f (mdOf ie) (evE cal C ie))) (hm : mdOf ie ≠ .bo) (hb : ∀ ρ r, brw ie ρ r = r) (hp : plainTest x = true) (nw : isNew ie = true → PE X x (tN g f (evE cal C ie)) := by intro h; cases h) : Snd g f C cal X ie x := by
  have nf := md.of hm
  refine ⟨md, nf, eqG nf.bo fun ρ => hb ρ _, nw, fun _ => s_test hp nf, fun op vs pos e _ => ?_⟩
  subst e
  cases hp
theorem Snd.tests (md : PE X x (tG g f (mdOf ie) (evE cal C ie))) (hm : mdOf ie ≠ .bo) (hb : ∀ ρ r, brw ie ρ r = r) (tt : tst ie = true → PT X x (tT g f fun ρ => mb (evE cal C ie ρ) mB)) (hn : ∀ op vs pos, x ≠ .BoolOp op vs pos) (nw : isNew ie = true → PE X x (tN g f (evE cal C ie)) := by intro h; cases h) : Snd g f C cal X ie x := by
  have nf := md.of hm
  exact ⟨md, nf, eqG nf.bo fun ρ => hb ρ _, nw, tt, fun op vs pos e => absurd e (hn op vs pos)⟩
theorem a_any (hX : XOK g ck C cal sc X) (hc : chkE ck sc ie x = true) (s : Snd g f C cal X ie x) (hst : notStar x = true) (hb : PA X xs (tA g f (evA cal C es))) : PA X (x :: xs) (tA g f (evA cal C (ie :: es))) := by
  cases ie
  case v i =>
    simp only [chkE] at hc
    split at hc
    · simp only [Bool.and_eq_true, decide_eq_true_eq] at hc
      obtain ⟨⟨h1, h2⟩, h3⟩ := hc
      refine eqA (a_consV (i := i) (by rw [hX.N]; exact h1) (vis_of (by rw [hX.sc]; exact h2)) (okN_of h3).1 (okN_of h3).2 hb) fun ρ => ?_
      simp only [evA] <;> rfl
    · cases hc
  all_goals exact eqA (a_cons hst s.nf hb) fun ρ => by simp only [evA]
structure SndL (g : G) (f : Fm) (C : Cfg) (cal : Cal) (X : Cx) (es : List IE) (xs : List Expr) : Prop where
  ls : PA X xs (tLs g f (evL cal C es))
  lb : PA X xs (tLb g f (evLB cal C es))
  as : PA X xs (tA g f (evA cal C es))
  st : ∀ x ∈ xs, notStar x = true
  ln : es.length = xs.length
structure SndR (g : G) (f : Fm) (C : Cfg) (cal : Cal) (X : Cx) (s : Src) (it tg : Expr) : Prop where
  bo : PI X tg it (tSr g f .bo (evR cal C s))
  nf : PI X tg it (tSr g f .nf (evRn cal C s))
theorem pts_ET {m : EV.Env → M Bool} (h : ∀ f, PTs X ifs (tT g f m)) : PTs X ifs (tET g m) := ⟨fun pins s σ H Q I ⟨f, q⟩ => (h f).run pins s σ H Q I q⟩
theorem pe_EG {m : EV.Env → M D} (h : ∀ f, PE X x (tG g f .nf m)) : PE X x (tEG g m) := ⟨fun pins s σ H Q I ⟨f, q⟩ => (h f).run pins s σ H Q I q⟩
theorem pts_yes : PTs X [] (tT g f fun _ => mp true) := ⟨fun pins s σ H Q I ⟨ρ, k, c, E, q⟩ => pts_nil.run pins s σ H Q I (q H Eff.refl E.cup)⟩
/-- what a comprehension's clauses bring -/
structure Clauses (g : G) (ck : Ck) (C : Cfg) (cal : Cal) (sc scope : Scope) (t : Tg) (cc : IE) (e : IE) (tg el : Expr) (ifs : List Expr) : Prop where
  tg : chkT ck.N (fun x => scope.names.lookup x == some .cell) (relS scope sc) t tg = true
  blk : blkC ck.N sc scope (ownOf ck.N t.names) = true
  lt : ∀ i ∈ t.names, i < ck.N.length
  ts : ∀ f X, XOK g ck C cal (relS scope sc) X → PTs X ifs (tT g f fun ρ => mb (evE cal C cc ρ) mB)
  el : ∀ f X, XOK g ck C cal (relS scope sc) X → PE X el (tG g f .nf (evE cal C e))
theorem comp_ev {t : Tg} {s : Src} {cc e : IE} {ρ : EV.Env} : evE cal C (.comp e t s cc) ρ = mb (evR cal C s ρ) fun xs => mb (mo (t.opn ρ)) fun ρw => mb (filtL (cFun t (fun ρ => mb (evE cal C cc ρ) mB) (evE cal C e) ρw) xs) fun ys => mp (.lst ys) := by
  simp only [evE]
  unfold cFun
  simp only [mb_assoc]
theorem g_blk {scope : Scope} {t : Tg} {cc e : IE} (hX : XOK g ck C cal sc X) (h : Clauses g ck C cal sc scope t cc e tg el ifs) (s : Shared) (H : Hp) (A : Addr) (cl : List (Str × Addr)) (fp : List Addr) :
    PG (X.blk s H scope (compEnvC scope cl A X.env) fp) tg (gB g t) := by
  have hb := hX.blk s H scope cl A fp
  exact g_bind (X := X.blk s H scope (compEnvC scope cl A X.env) fp) hb.K hb.calm hb.N hX.nd hb.sc (fun x h => h) t tg h.tg
theorem s_comp {scope : Scope} {t : Tg} {s : Src} {cc e : IE} (hX : XOK g ck C cal sc X) (h : Clauses g ck C cal sc scope t cc e tg el ifs) (hr : SndR g f C cal X s it tg) (hp : plainIter it = true) :
    PE X (.ListComp el [⟨tg, it, ifs, 0⟩] scope pos) (tN g f (evE cal C (.comp e t s cc))) := by
  have hblk : BlkOk X.N X.env.scope scope (ownOf ck.N t.names) := by rw [hX.N, hX.sc]; exact blkOk_by h.blk
  refine (pe_lc (own := ownOf ck.N t.names) hX.calm (by rw [hX.N]; exact hX.nd) hr.bo hblk (g_blk hX h)
    (fun s H A cl fp => pts_ET fun f => h.ts f _ (hX.blk s H scope cl A fp)) (fun s H A cl fp => pe_EG fun f => h.el f _ (hX.blk s H scope cl A fp)) (fun x => iter_of hp x)).imp fun σ H Q q => ?_
  rw [own_names h.lt]
  have q : tN g f _ σ H Q := q
  rw [show evE cal C (.comp e t s cc) = _ from funext fun ρ => comp_ev] at q
  exact comp_core q
end
end EV
end

section
set_option Elab.async false
set_option linter.all false
set_option maxRecDepth 100000
set_option maxHeartbeats 1000000
/-! EvSc: list comprehensions over a dict's keys. -/
namespace EV
open PySem PySem.Spec PyProof.Rows L2
/-- a dict's object -/
def isDk : HO → Bool
  | .dK _ => true
  | .dT _ => true
  | _ => false
def isFz : HO → Bool
  | .frz _ _ => true
  | _ => false
section
variable {g : G} {N : Addr → Prop} {H : Hp} {d : Addr} {od : Obj} {u : HO}
theorem lock_ex2 (hd : H d = some u) (hu : isDk u = true) : Ex2 g N N H (upd H d (.frz od u)) := by
  have rd : ∀ a w, Rd H a w → Rd (upd H d (.frz od u)) a w := fun a w r => by
    by_cases e : a = d
    · subst e
      rcases r with r | ⟨o, r⟩
      · rw [hd] at r; cases r; exact .inr ⟨od, upd_same⟩
      · rw [hd] at r; cases r; cases hu
    · rcases r with r | ⟨o, r⟩
      · exact .inl (by rw [upd_ne e]; exact r)
      · exact .inr ⟨o, by rw [upd_ne e]; exact r⟩
  refine ⟨fun a vs q => ?_, fun a vs n r => ⟨n, rd a _ r⟩, fun a vs n r => ⟨n, rd a _ r⟩, fun a vs n r => ⟨n, rd a _ r⟩⟩
  rw [upd_ne fun e => by subst e; rw [hd] at q; cases q; cases hu]
  exact q
theorem unlock_ex2 (hd : H d = some (.frz od u)) : Ex2 g N N H (upd H d u) := by
  have rd : ∀ a w, isFz w = false → Rd H a w → Rd (upd H d u) a w := fun a w hw r => by
    by_cases e : a = d
    · subst e
      rcases r with r | ⟨o, r⟩
      · rw [hd] at r; cases r; cases hw
      · rw [hd] at r; cases r; exact .inl upd_same
    · rcases r with r | ⟨o, r⟩
      · exact .inl (by rw [upd_ne e]; exact r)
      · exact .inr ⟨o, by rw [upd_ne e]; exact r⟩
  refine ⟨fun a vs q => ?_, fun a vs n r => ⟨n, rd a _ rfl r⟩, fun a vs n r => ⟨n, rd a _ rfl r⟩, fun a vs n r => ⟨n, rd a _ rfl r⟩⟩
  rw [upd_ne fun e => by subst e; rw [hd] at q; cases q]
  exact q
end
/-- the frame while d is locked -/
def Fm.lock (f : Fm) (d : Addr) (z : HO) : Fm := { f with H0 := fun a => if a = d then (if f.H0 d = none then none else some z) else f.H0 a }
section
variable {g : G} {f : Fm} {ρ : EV.Env} {k : Cup} {c : Option Addr} {σ : L2.St} {H H' : Hp} {d : Addr} {od : Obj} {u : HO}
theorem lock_h0 {z : HO} {a : Addr} : (f.lock d z).H0 a = none ↔ f.H0 a = none := by
  simp only [Fm.lock]
  split
  · rename_i e
    subst e
    split <;> simp_all
  · exact Iff.rfl
theorem lock_nf {z : HO} : NF (f.lock d z) ρ σ c = NF f ρ σ c := by
  funext a
  refine propext ?_
  show ((f.lock d z).N0 a ∨ (f.lock d z).H0 a = none) ∧ _ ↔ _
  rw [lock_h0]
  exact Iff.rfl
theorem EOK.lock (E : EOK g f ρ k c σ H) (hd : H d = some u) (hu : isDk u = true) (n : NF f ρ σ c d) : EOK g (f.lock d (.frz od u)) ρ k c σ (upd H d (.frz od u)) := by
  have ex : Ex2 g (NF f ρ σ c) (NF (f.lock d (.frz od u)) ρ σ c) H (upd H d (.frz od u)) := by rw [lock_nf]; exact lock_ex2 hd hu
  have ne : ∀ a, c = some a → a ≠ d := fun a e z => n.2.1 (by rw [← z, e])
  refine ⟨fun a e => by rw [upd_ne (ne a e)]; exact E.cup a e, E.c0, fun h a e => lock_h0.mpr (E.cn h a e), fun a e z => E.h0 a e (lock_h0.mp z), E.n0, fun a o h q => ?_, E.len, fun i s h => ?_, E.uniq, fun a b => ⟨fun z => ?_, lock_h0.mpr (E.bar a b).2.1, (E.bar a b).2.2⟩⟩
  · simp only [Fm.lock] at h
    by_cases e : a = d
    · subst e
      rw [if_pos rfl] at h
      split at h
      · cases h
      · cases h; exact upd_same
    · rw [if_neg e] at h
      rw [upd_ne e]
      exact E.old a o h q
  · have := E.slot i s h
    cases s with
    | no => trivial
    | val x =>
      obtain ⟨v, h1, h2⟩ := this
      exact ⟨v, h1, h2.mono2 ex⟩
    | own x =>
      obtain ⟨a, h1, h2, h3, h4, h5⟩ := this
      have na : a ≠ d := fun e => n.2.2.2 i x h (by rw [← e]; exact h1)
      exact ⟨a, h1, lock_h0.mpr h2, h3, h4, OwnAt.mono2 h5 ex fun o q => by rw [upd_ne na]; exact q⟩
    | cup => exact this
  · by_cases e : a = d
    · subst e; rw [upd_same] at z; cases z
    · rw [upd_ne e] at z; exact (E.bar a b).1 z
/-- what a locked run brings, unlocked -/
theorem unlock_eff (hd : H d = some u) (nc : some d ≠ c) (e : Eff c (upd H d (.frz od u)) H') : H' d = some (.frz od u) ∧ Eff c H (upd H' d u) := by
  refine ⟨e d _ upd_same nc, fun a o q n => ?_⟩
  by_cases z : a = d
  · subst z; rw [hd] at q; cases q; exact upd_same
  · rw [upd_ne z]
    exact e a o (by rw [upd_ne z]; exact q) n
theorem unlock_new {N : Addr → Prop} {x : D} {v : V} (hd' : H' d = some (.frz od u)) (nw : NewAt g (upd H d (.frz od u)) N H' x v) : NewAt g H N (upd H' d u) x v := by
  obtain ⟨a, rfl, h1, h2⟩ := nw
  have na : a ≠ d := fun e => by subst e; rw [upd_same] at h1; cases h1
  rw [upd_ne na] at h1
  exact ⟨a, rfl, h1, OwnAt.mono2 h2 (unlock_ex2 hd') fun o q => by rw [upd_ne na]; exact q⟩
end
section
variable {g : G} {N : Addr → Prop} {H : Hp}
theorem rp_key0 {a : D} {k : Key} (h : okKey0 a = true) (e : kOf a = some k) : Rp g N H a (kV k) := by
  cases a <;> simp only [kOf] at e <;> cases e
  · simp only [Rp]; rfl
  · simp only [Rp]; exact ⟨rfl, h⟩
theorem rps_keys : ∀ {as : List D} {ks : List Key}, as.all okKey0 = true → ksOf as = some ks → Rps g N H as (ks.map kV)
  | [], ks, _, e => by simp only [ksOf] at e; cases e; exact Rps.nil
  | a :: as, ks, h, e => by
    simp only [List.all_cons, Bool.and_eq_true] at h
    simp only [ksOf, Option.bind_eq_some_iff, Option.map_eq_some_iff] at e
    obtain ⟨k, e1, r, e2, rfl⟩ := e
    exact Rps.cons (rp_key0 h.1 e1) (rps_keys h.2 e2)
theorem rp_keyT {a : D} {ks : List Key} {q : Addr} (h : okKey a = true) (e : kTOf a = some ks) (hq : H q = some (.tup (ks.map kV))) : Rp g N H a (.ref q) := by
  cases a <;> simp only [kTOf] at e <;> try (cases e; done)
  simp only [Rp]
  exact ⟨q, _, rfl, .inl hq, rps_keys h e⟩
theorem rel_at {κ : Type} {f : D → Option κ} : ∀ {kvs : List (D × D)} {kv : List (κ × V)} {i : Nat} {k : κ} {v : V}, kvs.map (fun p => f p.1) = kv.map (fun p => some p.1) → kv[i]? = some (k, v) → ∃ p, kvs[i]? = some p ∧ f p.1 = some k
  | [], [], _, _, _, _, e => by simp at e
  | [], _ :: _, _, _, _, h, _ => by simp at h
  | _ :: _, [], _, _, _, h, _ => by simp at h
  | p :: kvs, q :: kv, 0, k, v, h, e => by
    simp only [List.map_cons, List.cons.injEq] at h
    simp at e
    subst e
    exact ⟨p, rfl, h.1⟩
  | p :: kvs, q :: kv, i + 1, k, v, h, e => by
    simp only [List.map_cons, List.cons.injEq] at h
    obtain ⟨p', h1, h2⟩ := rel_at (i := i) h.2 (by simpa using e)
    exact ⟨p', by simpa using h1, h2⟩
end
/-- how long a locked dict is -/
def Dsz (H : Hp) : Prop := ∀ d o, (∀ kv, H d = some (.frz o (.dK kv)) → kv.length ≤ LIM) ∧ ∀ kv, H d = some (.frz o (.dT kv)) → kv.length ≤ LIM
theorem dsz_of {X : Cx} {pins : List (Addr × Obj)} {s : Shared} {σ : L2.St} {H : Hp} (I : Inv X pins σ H s) : Dsz H := fun d o => by
  refine ⟨fun kv h => ?_, fun kv h => ?_⟩
  · obtain ⟨_, z, _⟩ := I.hok d _ h
    rw [← LIM_eq]; exact z
  · obtain ⟨_, z, _⟩ := I.hok d _ h
    rw [← LIM_eq]; exact z
theorem src_keys {g : G} {T N : Addr → Prop} {H1 : Hp} {d : Addr} {o : Obj} {kvs : List (D × D)} {kv : List (Key × V)} (hz : kv.length ≤ LIM) (t : T d) (hd : H1 d = some (.frz o (.dK kv))) (ok : kvs.all (fun p => okKey p.1) = true) (rel : kvs.map (fun p => kOf p.1) = kv.map (fun p => some p.1)) :
    SrcR g (kvs.map (·.1)) T N H1 (Itk d o kv) := by
  have hl : kvs.length = kv.length := by simpa using congrArg List.length rel
  refine ⟨by rw [List.length_map]; omega, [], fun b => b = d, fun H => H d = some (.frz o (.dK kv)), _, by rw [List.length_map, hl]; exact walk_keys, by simp, ?_, ?_, ?_⟩
  · rintro b rfl; exact ⟨t, by rw [hd]; simp⟩
  · exact fun H2 k _ => k d _ rfl hd
  · rintro i H2 x H3 N' hi _ ⟨rfl, k, v, hk, rfl⟩ _
    obtain ⟨p, hp, ep⟩ := rel_at rel hk
    refine ⟨Same.refl _, p.1, by simp [hp], ?_⟩
    have h1 := List.all_eq_true.mp ok p (List.mem_of_getElem? hp)
    cases hpp : p.1 <;> rw [hpp] at ep h1 <;> simp only [kOf] at ep <;> cases ep
    · exact rp_key0 h1 rfl
    · exact rp_key0 h1 rfl
theorem src_keysT {g : G} {T N : Addr → Prop} {H1 : Hp} {d : Addr} {o : Obj} {kvs : List (D × D)} {kv : List (List Key × V)} (hz : kv.length ≤ LIM) (t : T d) (hd : H1 d = some (.frz o (.dT kv))) (ok : kvs.all (fun p => okKey p.1) = true) (rel : kvs.map (fun p => kTOf p.1) = kv.map (fun p => some p.1)) :
    SrcR g (kvs.map (·.1)) T N H1 (Itkt d o kv) := by
  have hl : kvs.length = kv.length := by simpa using congrArg List.length rel
  refine ⟨by rw [List.length_map]; omega, [], fun b => b = d, fun H => H d = some (.frz o (.dT kv)), _, by rw [List.length_map, hl]; exact walk_keysT, by simp, ?_, ?_, ?_⟩
  · rintro b rfl; exact ⟨t, by rw [hd]; simp⟩
  · exact fun H2 k _ => k d _ rfl hd
  · rintro i H2 x H3 N' hi _ ⟨rfl, k, v, q, hk, rfl, hq⟩ _
    obtain ⟨p, hp, ep⟩ := rel_at rel hk
    exact ⟨Same.refl _, p.1, by simp [hp], rp_keyT (List.all_eq_true.mp ok p (List.mem_of_getElem? hp)) ep hq⟩
/-- the dict in the slot is locked -/
def FzAt (i : Nat) (σ : L2.St) (H : Hp) : Prop := ∃ (d : Addr) (o : Obj) (u : HO), σ[i]? = some (some (.ref d)) ∧ H d = some (.frz o u)
section
variable {g : G} {f : Fm} {X : Cx} {C : Cfg} {cal : Cal} {i : Nat} {n : Str} {tg el : Expr} {ifs : List Expr} {pos p : Pos}
theorem r_keys (hN : X.N[i]? = some n) (hv : Vis X.env.scope n) (hd : (n == ("__debug__" : Str)) = false) (hcd : (n == ("__classdict__" : Str)) = false) :
    PI X tg (.Name n p) (fun σ H R => FzAt i σ H ∧ tSr g f .bo (evR cal C (.keys (.v i))) σ H R) := by
  have hp := PE.fact (pe_var (pos := p) hN hv hd hcd) (fun _ H => Dsz H) fun _ _ _ _ _ I => dsz_of I
  refine PI.imp (pi_keys hp) fun σ H R ⟨⟨d, o, u, hσ, hH⟩, ρ, k, c, E, q⟩ => ?_
  simp only [evR, evE] at q
  cases hs : EV.Env.get ρ i <;> simp only [hs] at q <;> try exact (OkR_mf (OkR_mb.mp q)).elim
  rename_i x
  rw [mb_mp] at q
  cases x <;> simp only [keysM] at q <;> try exact (OkR_mf q).elim
  rename_i kvs
  split at q
  · rename_i ok
    obtain ⟨v, h1, h2⟩ := E.slot i _ (getD_of hs (by simp))
    rw [hσ] at h1
    cases h1
    simp only [Rp] at h2
    obtain ⟨a, ea, na, h2⟩ := h2
    cases ea
    refine ⟨.ref d, hσ, fun dz => ⟨d, o, rfl, ?_⟩⟩
    have rdf : ∀ w, isFz w = false → Rd H d w → H d = some (.frz o w) := fun w hw r => by
      rcases r with r | ⟨o', r⟩
      · rw [hH] at r; cases r; cases hw
      · rw [hH] at r; cases r; exact hH
    rcases h2 with ⟨kv, r1, r2, r3⟩ | ⟨kv, r1, r2, r3⟩
    · have hf := rdf _ rfl r1
      exact .inl ⟨kv, hf, q _ H Eff.refl E.cup (src_keys ((dz d o).1 kv hf) na.2.1 hf ok r2)⟩
    · have hf := rdf _ rfl r1
      exact .inr ⟨kv, hf, q _ H Eff.refl E.cup (src_keysT ((dz d o).2 kv hf) na.2.1 hf ok r2)⟩
  · exact (OkR_mf q).elim
theorem _root_.L2.PE.or {e : Expr} {t t' : TE} (h : PE X e t) (h' : PE X e t') : PE X e (fun σ H Q => t σ H Q ∨ t' σ H Q) := ⟨fun pins s σ H Q I q => q.elim (h.run pins s σ H Q I) (h'.run pins s σ H Q I)⟩
variable {ck : Ck} {sc scope : Scope} {t : Tg} {cc e : IE}
/-- [e for t in d if cc], d a dict in a slot -/
theorem s_compK (hX : XOK g ck C cal sc X) (h : Clauses g ck C cal sc scope t cc e tg el ifs) (hN : ck.N[i]? = some n) (hv : visC sc n = true) (hn : okN n = true) :
    PE X (.ListComp el [⟨tg, .Name n p, ifs, 0⟩] scope pos) (tN g f (evE cal C (.comp e t (.keys (.v i)) cc))) := by
  have hblk : BlkOk X.N X.env.scope scope (ownOf ck.N t.names) := by rw [hX.N, hX.sc]; exact blkOk_by h.blk
  have core : ∀ f' : Fm, PE X (.ListComp el [⟨tg, .Name n p, ifs, 0⟩] scope pos) (fun σ H Q => FzAt i σ H ∧ tN g f' (evE cal C (.comp e t (.keys (.v i)) cc)) σ H Q) := fun f' => by
    refine (pe_lc (own := ownOf ck.N t.names) hX.calm (by rw [hX.N]; exact hX.nd) (r_keys (g := g) (f := f') (C := C) (cal := cal) (by rw [hX.N]; exact hN) (vis_of (by rw [hX.sc]; exact hv)) (okN_of hn).1 (okN_of hn).2) hblk (g_blk hX h)
      (fun s H A cl fp => pts_ET fun f => h.ts f _ (hX.blk s H scope cl A fp)) (fun s H A cl fp => pe_EG fun f => h.el f _ (hX.blk s H scope cl A fp)) (fun x => iter_of rfl x)).imp fun σ H Q ⟨hF, q⟩ => ?_
    rw [own_names h.lt]
    refine ⟨hF, ?_⟩
    rw [show evE cal C (.comp e t (.keys (.v i)) cc) = _ from funext fun ρ => comp_ev] at q
    exact comp_core q
  -- the frame is not told ahead: any
  have any : PE X (.ListComp el [⟨tg, .Name n p, ifs, 0⟩] scope pos) (fun σ H Q => ∃ f' : Fm, FzAt i σ H ∧ tN g f' (evE cal C (.comp e t (.keys (.v i)) cc)) σ H Q) :=
    ⟨fun pins s σ H Q I ⟨f', q⟩ => (core f').run pins s σ H Q I q⟩
  refine (PE.or (pe_lock any) any).imp fun σ H Q q => ?_
  obtain ⟨ρ, k, c, E, q⟩ := q
  have q0 := q
  rw [show evE cal C (.comp e t (.keys (.v i)) cc) ρ = _ from comp_ev] at q0
  have q1 := OkR_mb.mp q0
  simp only [evR, evE] at q1
  cases hs : EV.Env.get ρ i <;> simp only [hs] at q1 <;> try exact (OkR_mf (OkR_mb.mp q1)).elim
  rename_i x
  rw [mb_mp] at q1
  cases x <;> simp only [keysM] at q1 <;> try exact (OkR_mf q1).elim
  rename_i kvs
  obtain ⟨v, h1, h2⟩ := E.slot i _ (getD_of hs (by simp))
  simp only [Rp] at h2
  obtain ⟨d, rfl, nd, h2⟩ := h2
  obtain ⟨u, hu, ru⟩ : ∃ u, isDk u = true ∧ Rd H d u := by
    rcases h2 with ⟨kv, r1, _⟩ | ⟨kv, r1, _⟩
    · exact ⟨_, rfl, r1⟩
    · exact ⟨_, rfl, r1⟩
  rcases ru with ru | ⟨o, ru⟩
  · refine .inl ⟨d, u, ru, (by cases u <;> first | trivial | cases hu), fun od => ⟨f.lock d (.frz od u), ⟨d, od, u, h1, upd_same⟩, ρ, k, c, E.lock ru hu nd, q.imp fun x k' h v H' e cu nw => ?_⟩⟩
    rw [lock_nf] at nw
    obtain ⟨e1, e2⟩ := unlock_eff ru nd.2.1 e
    refine ⟨e1, h v _ e2 (fun a ea => ?_) (unlock_new e1 nw)⟩
    rw [upd_ne fun z => nd.2.1 (by rw [← z, ea])]
    exact cu a ea
  · exact .inr ⟨f, ⟨d, o, u, h1, ru⟩, ρ, k, c, E, q⟩
end
end EV
end

section
set_option Elab.async false
set_option linter.all false
set_option maxRecDepth 100000
set_option maxHeartbeats 2000000
/-! EvSd: dict(x) of pairs, by data. -/
namespace EV
open PySem PySem.Spec PyProof.Rows L2
/-- the same context, within a built-in -/
abbrev inA (X : Cx) (A : Around) : Cx := { X with A := A }
theorem inv_in {X : Cx} {A : Around} {pins : List (Addr × Obj)} {σ : L2.St} {H : Hp} {s : Shared} (h1 : A.handled = X.A.handled) (h2 : A.frames = X.A.frames) (I : Inv X pins σ H s) : Inv (inA X A) pins σ H s :=
  ⟨{ I.ok with hd := fun c => h1.trans (I.ok.hd c), frames := h2.trans I.ok.frames }, I.os, I.bare, I.base, I.loc, I.cell, I.free, I.freeC, I.pin, I.hok, I.len⟩
theorem inv_out {X : Cx} {A : Around} {pins : List (Addr × Obj)} {σ : L2.St} {H : Hp} {s : Shared} (ok : X.Ok) (I : Inv (inA X A) pins σ H s) : Inv X pins σ H s :=
  ⟨ok, I.os, I.bare, I.base, I.loc, I.cell, I.free, I.freeC, I.pin, I.hok, I.len⟩
/-- a list's or a tuple's walker; the thing itself -/
def SqIt (tq : Bool) (h : Heap) (I l : Addr) (i : Nat) : Prop := if tq = true then h.IsTupleIter I l i else h.IsListIter I l i
def SqV (tq : Bool) (K : PySem.W.Frag) (H : Hp) (l : Addr) (vs : List V) : Prop := if tq = true then SqT K H l vs else SqL K H l vs
section
variable {X : Cx} {pins : List (Addr × Obj)} {σ : L2.St} {H : Hp} {s : Shared} {E : Value → Shared → Prop} {tq : Bool} {I l : Addr} {i : Nat} {vs : List V} {A : Around}
theorem SqV.mono {K : PySem.W.Frag} {H' : Hp} (h : SqV tq K H l vs) (k : ∀ o, H l = some o → H' l = some o) : SqV tq K H' l vs := by
  cases tq
  · rcases (show SqL K H l vs from h) with r | r
    · exact Or.inl (rd_keep r k)
    · exact Or.inr r
  · rcases (show SqT K H l vs from h) with (r | ⟨o, r⟩) | r
    · exact Or.inl (Or.inl (k _ r))
    · exact Or.inl (Or.inr ⟨o, k _ r⟩)
    · exact Or.inr r
theorem nx_item {v : V} {Q : Option Value → Shared → Prop} (J : Inv X pins σ H s) (hi : SqIt tq s.heap I l i) (hq : SqV tq X.K H l vs) (hv : vs[i]? = some v)
    (h : ∀ u h', RelV v u → SqIt tq h' I l (i + 1) → Heap.SameBut I s.heap h' → Q (some u) { s with heap := h' }) : wpAny (model X.prog X.w) A (pyNext (.ref I)) Q E s := by
  have at_ : ∀ {its : List Value}, Vals vs its → ∃ u, its.toArray[i]? = some u ∧ RelV v u := fun {its} r => by
    obtain ⟨u, h1, h2⟩ := Vals.get r hv
    exact ⟨u, by simpa using h1, h2⟩
  cases tq
  · obtain ⟨its, r, pl, _⟩ := J.list (show SqL X.K H l vs from hq)
    obtain ⟨u, hu, ru⟩ := at_ r
    exact wpAny_pyNext_list_item (show s.heap.IsListIter I l i from hi) pl.isList hu fun h' a b => h u h' ru a b
  · obtain ⟨its, r, pl, _⟩ := J.tuple (show SqT X.K H l vs from hq)
    obtain ⟨u, hu, ru⟩ := at_ r
    exact wpAny_pyNext_tuple_item (show s.heap.IsTupleIter I l i from hi) pl hu fun h' a b => h u h' ru a b
theorem nx_end {Q : Option Value → Shared → Prop} (hh : A.handled = none) (J : Inv X pins σ H s) (hi : SqIt tq s.heap I l i) (hq : SqV tq X.K H l vs) (hv : vs.length ≤ i)
    (h : ∀ h', Heap.ExtBut I s.heap h' → Q none { s with heap := h' }) : wpAny (model X.prog X.w) A (pyNext (.ref I)) Q E s := by
  have at_ : ∀ {its : List Value}, Vals vs its → its.toArray[i]? = none := fun {its} r => by
    have := r.length
    simp; omega
  cases tq
  · obtain ⟨its, r, pl, _⟩ := J.list (show SqL X.K H l vs from hq)
    exact wpAny_pyNext_list_end hh (show s.heap.IsListIter I l i from hi) pl.isList (at_ r) h
  · obtain ⟨its, r, pl, _⟩ := J.tuple (show SqT X.K H l vs from hq)
    exact wpAny_pyNext_tuple_end hh (show s.heap.IsTupleIter I l i from hi) pl (at_ r) h
end
theorem SqIt.obj {tq : Bool} {h : Heap} {I l : Addr} {i : Nat} (x : SqIt tq h I l i) : ∃ o, h.get? I = some o ∧ ∀ v, o.data ≠ .cell v := by
  cases tq
  · obtain ⟨o, h1, _, h2⟩ := (show h.IsListIter I l i from x)
    exact ⟨o, h1, fun v e => by rw [h2] at e; cases e⟩
  · obtain ⟨o, h1, _, h2⟩ := (show h.IsTupleIter I l i from x)
    exact ⟨o, h1, fun v e => by rw [h2] at e; cases e⟩
theorem SqIt.at_ {tq : Bool} {h h' : Heap} {I l : Addr} {i : Nat} {o : Obj} (x : SqIt tq h I l i) (e : h.get? I = some o) (e' : h'.get? I = some o) : SqIt tq h' I l i := by
  cases tq
  · obtain ⟨o', h1, r⟩ := (show h.IsListIter I l i from x)
    rw [e] at h1
    cases h1
    exact ⟨o, e', r⟩
  · obtain ⟨o', h1, r⟩ := (show h.IsTupleIter I l i from x)
    rw [e] at h1
    cases h1
    exact ⟨o, e', r⟩
theorem pair_two {vs : List V} {us : List Value} {v w : V} (e : vs = [v, w]) (r : Vals vs us) : ∃ a b, us = [a, b] ∧ RelV v a ∧ RelV w b := by
  subst e
  cases r with
  | cons r1 r =>
    cases r with
    | cons r2 r =>
      cases r
      exact ⟨_, _, rfl, r1, r2⟩
theorem upd_loopD {X : Cx} {A0 : Around} {pins : List (Addr × Obj)} {σ : L2.St} {g : G} {N : Addr → Prop} {tq tu : Bool} {S I l : Addr} {vs : List V} {R : Result → Shared → Prop} (hA : X.A = A0.in1) (hK : X.K = g.K) (hc : X.calm = true) (hu : X.A.units + 1 < cLine) (hlS : l ≠ S)
    (hN : ∀ a, N a → a ≠ S) : ∀ (rest : List D) (ps : List (D × D)) (i : Nat) (acc : List (D × D)) (ix : Int) (t : Tok) (s : Shared) (H : Hp), Inv X pins σ H s → FpOk X pins H I → SqV tq X.K H l vs → SqIt tq s.heap I l i → Rps g N H rest (vs.drop i) → pairsD g.kt tu rest = some ps →
      DicAt tu g N H S acc → acc.length + rest.length ≤ LIM → (∀ s' H', Inv X pins σ H' s' → DicAt tu g N H' S (putAll acc ps) → (∀ a o, a ≠ S → H a = some o → H' a = some o) → R (.ok (.ret .none)) s') →
      codeAny (model X.prog X.w) A0 (.builtin "dict.update.loop" ⟨[.ref S, .ref I, .int ix t, .none], []⟩) R s
  | [], ps, i, acc, ix, t, s, H, J, fp, hq, hi, rs, hp, hd, hl, hR => by
    refine codeAny_builtin ud_entry ?_
    rw [Around.under_plainId ud_plain _, ← hA]
    show wpAny _ X.A (pyNext (.ref I) >>= _) _ _ s
    have hv : vs.length ≤ i := by
      simp only [Rps] at rs
      have := congrArg List.length rs
      simp at this
      omega
    refine wpAny_bind (nx_end (J.ok.hd hc) J hi hq hv fun h' he => ?_)
    show wpAny _ X.A (Builtin.Dict.addKeywords S [] >>= _) _ _ _
    simp only [pairsD] at hp
    cases hp
    refine wpAny_bind (wpAny_pure (wpAny_pure ?_))
    exact hR _ H (J.turned (t' := s.toks) (fun b o hb e => he b o hb e) fp.1 fp.2.1 fp.2.2.2.1 fp.2.2.2.2.1 fp.2.2.2.2.2) hd fun _ _ _ q => q
  | d :: rest, ps, i, acc, ix, t, s, H, J, fp, hq, hi, rs, hp, hd, hl, hR => by
    obtain ⟨v, hv, hdrop, rv, rs'⟩ : ∃ v, vs[i]? = some v ∧ vs.drop i = v :: vs.drop (i + 1) ∧ Rp g N H d v ∧ Rps g N H rest (vs.drop (i + 1)) := by
      simp only [Rps] at rs
      obtain ⟨v, r, e, h1, h2⟩ := rs
      have hlt : i < vs.length := by
        have := congrArg List.length e
        simp at this
        omega
      rw [List.drop_eq_getElem_cons hlt] at e ⊢
      injection e with e1 e2
      subst e1
      rw [← e2] at h2
      exact ⟨_, by simp [hlt], rfl, h1, h2⟩
    obtain ⟨a, b, rfl, hk, qs, hps, rfl⟩ : ∃ a b, d = .tup [a, b] ∧ keyF g.kt tu a = true ∧ ∃ qs, pairsD g.kt tu rest = some qs ∧ ps = (a, b) :: qs := by
      unfold pairsD at hp
      split at hp
      · rename_i h; cases h
      · rename_i h
        cases h
        split at hp
        · rename_i hk
          obtain ⟨qs, h1, h2⟩ := Option.map_eq_some_iff.mp hp
          exact ⟨_, _, rfl, hk, qs, h1, h2.symm⟩
        · cases hp
      · cases hp
    simp only [Rp, Rps] at rv
    obtain ⟨q, us, rfl, tq', va, r1, rfl, ra, vb, r2, rfl, rb, rfl⟩ := rv
    refine codeAny_builtin ud_entry ?_
    rw [Around.under_plainId ud_plain _, ← hA]
    show wpAny _ X.A (pyNext (.ref I) >>= _) _ _ s
    refine wpAny_bind (nx_item J hi hq hv fun u h1 ru hit1 hs1 => ?_)
    obtain rfl : u = Value.ref q := ru
    have J1 : Inv X pins σ H { s with heap := h1, toks := s.toks } := J.turned (fun b o hb e => hs1.extBut b o hb e) fp.1 fp.2.1 fp.2.2.2.1 fp.2.2.2.2.1 fp.2.2.2.2.2
    have sq : SqT X.K H q [va, vb] := by rw [hK]; exact tq'.sq
    obtain ⟨its, rits, htup, _⟩ := J1.tuple sq
    obtain ⟨ua, ub, rfl, rua, rub⟩ := pair_two rfl rits
    obtain ⟨o, ho, hc', n, hdt⟩ := id htup
    show wpAny _ X.A (holding [Value.ref q] _ >>= _) _ _ _
    refine wpAny_bind (wpAny_holding ?_)
    refine wpAny_bind (wpAny_tryCatch ?_)
    unfold Builtin.Dict.pairItems
    refine wpAny_bind (wpAny_typeOf (T := "tuple") ⟨o, ho, hc'⟩ ?_)
    rw [if_pos (by first | decide | rfl | simp)]
    refine wpAny_bind (wpAny_seqItems ho hdt (wpAny_pure ?_))
    show wpAny _ X.A (holding [ua, ub] (dictSet S ua ub)) _ _ _
    have exS : ∀ o, Ex2 g N N H (upd H S o) := fun o => ex2_of (fun a u n q => ⟨n, by rw [upd_ne (hN a n)]; exact q⟩) fun a us q => by
      rw [upd_ne fun e => hd.notTup us (by rw [← e]; exact q)]; exact q
    have hl' : acc.length + (rest.length + 1) ≤ LIM := hl
    obtain ⟨ob, dp, hd2⟩ := hd.put hk (by omega) ra rb exS
    obtain ⟨oI, hoI, hcI⟩ := SqIt.obj hit1
    have JP := J1.pinned (fp := [I]) (fun b hb => by rw [List.mem_singleton.mp hb]; exact fp) (fun b hb => by rw [List.mem_singleton.mp hb]; exact ⟨oI, hoI, hcI⟩)
    refine wpAny_holding (put_any hu JP dp rua rub fun s2 J2 => ?_)
    have hI2 : s2.heap.get? I = some oI := (J2.pin (I, oI) (List.mem_append_right _ (List.mem_append_right _ (mem_pinsAt (List.mem_singleton.mpr rfl) hoI)))).1
    have nS : S ≠ I := fun e => by
      have := fp.1
      rw [← e] at this
      cases tu
      · obtain ⟨kv, z, _⟩ := hd; rw [this] at z; cases z
      · obtain ⟨kv, z, _⟩ := hd; rw [this] at z; cases z
    have fp2 : FpOk X pins (upd H S ob) I := ⟨by rw [upd_ne (Ne.symm nS)]; exact fp.1, fp.2⟩
    refine wpAny_pure ⟨plainId_quiet ud_plain _, upd_loopD hA hK hc hu hlS hN rest qs (i + 1) (putD a b acc) (ix + 1) 0 s2 (upd H S ob) J2.unpinned fp2 (hq.mono fun o e => by rw [upd_ne hlS]; exact e) ?_ (rs'.mono2 (exS ob)) hps hd2 ?_ fun s' H' J' D' k' => ?_⟩
    · exact hit1.at_ hoI hI2
    · have := putD_len a b acc; omega
    · exact hR s' H' J' D' fun c o nc e => k' c o nc (by rw [upd_ne nc]; exact e)

theorem cb_dict {X : Cx} {g : G} {tu : Bool} (hK : X.K = g.K) (hc : X.calm = true) (hu : X.A.units + 200 < cLine) : CallR X (.type "dict") (rBi g (.dict tu)) := by
  intro pins s σ H xs us Q J r h
  obtain ⟨T, N, ds, d, hd, e, q⟩ := h
  simp only [biD] at e
  unfold dictF at e
  split at e
  · rename_i ys
    obtain ⟨ps, hps, rfl⟩ := Option.map_eq_some_iff.mp e
    obtain ⟨v, rfl, hv⟩ := rpl1 hd
    simp only [RpT] at hv
    obtain ⟨l, vs, rfl, _, rd, rs⟩ := hv
    obtain ⟨u, rfl, ru⟩ : ∃ u, us = [u] ∧ RelV (.ref l) u := by
      cases r with
      | cons r1 r2 => cases r2; exact ⟨_, rfl, r1⟩
    obtain rfl : u = Value.ref l := ru
    obtain ⟨its, rits, pl, hz⟩ := J.list (show SqL X.K H l vs from .inl rd)
    obtain ⟨o, n, ho, hcl, hdi, hdat⟩ := pl
    have hS : H s.heap.objs.size = none := J.hok.fresh (Nat.le_refl _)
    have hlS : l ≠ s.heap.objs.size := Nat.ne_of_lt (Heap.lt_size ho)
    refine callType_codes (Q₁ := fun obj s1 => obj = .ref s.heap.objs.size ∧ s1 = { s with heap := s.heap.push { cls := .type "dict", data := .dict #[] } }) PySem.F.kt_called_dict (PySem.F.kt_typeCall_dict_1 _) PySem.F.entry_dict_init (kt_code_dict_new _ ⟨rfl, rfl⟩) ?_
    rintro obj s1 ⟨rfl, rfl⟩
    have J0 : Inv X pins σ (upd H s.heap.objs.size (e0 tu)) { s with heap := s.heap.push { cls := .type "dict", data := .dict #[] }, toks := s.toks } :=
      J.laid (fun b o e => Heap.get?_push_of_some _ e) (Nat.le_refl _) (e0_ok tu s.heap J.big)
    have hnew : (s.heap.push { cls := .type "dict", data := .dict #[] }).get? s.heap.objs.size = some { cls := .type "dict", data := .dict #[] } := Heap.get?_push_size _ rfl
    have hty : Shared.TypeIs { s with heap := s.heap.push { cls := .type "dict", data := .dict #[] } } (.ref s.heap.objs.size) "dict" := ⟨_, hnew, rfl⟩
    refine ⟨hty, PySem.F.args_dict_init_2 _ _, ?_⟩
    unfold Builtin.«dict.__init__»
    refine wpAny_bind ?_
    unfold Builtin.Dict.selfAndRest
    refine wpAny_bind (wpAny_notOrdered_dict hty ?_)
    show wpAny _ _ (pure (s.heap.objs.size, [Value.ref l])) _ _ _
    refine wpAny_pure ?_
    show wpAny _ _ (Builtin.Dict.updateFrom "dict.__init__" s.heap.objs.size (.ref l) [] .none) _ _ _
    unfold Builtin.Dict.updateFrom
    have ho0 := Heap.get?_push_of_some (h := s.heap) { cls := .type "dict", data := .dict #[] } ho
    refine wpAny_bind (wpAny_typeOf (T := "list") ⟨o, ho0, hcl⟩ ?_)
    rw [if_pos (by first | decide | rfl | simp)]
    refine wpAny_bind (miss_list ho0 hcl hdat hdi (J.ok.hd hc) fun h1 tk1 hk1 => ?_)
    rw [if_pos (show (none : Option Value).isNone = true from rfl)]
    refine wpAny_bind (wpAny_rule ?_)
    have J1 : Inv X pins σ (upd H s.heap.objs.size (e0 tu)) { s with heap := h1, toks := tk1 } := J0.kept hk1
    have ex0 : Ex2 g N (fun b => N b ∧ b ≠ s.heap.objs.size) H (upd H s.heap.objs.size (e0 tu)) :=
      ex2_of (fun a u n q => ⟨⟨n, ne_of_none q hS⟩, by rw [upd_ne (ne_of_none q hS)]; exact q⟩) fun a us q => by rw [upd_ne (ne_of_none q hS)]; exact q
    have hq1 : SqV false X.K (upd H s.heap.objs.size (e0 tu)) l vs := SqV.mono (H' := upd H s.heap.objs.size (e0 tu)) (show SqV false X.K H l vs from (show SqL X.K H l vs from .inl rd)) fun o e => by rw [upd_ne hlS]; exact e
    obtain ⟨its1, rits1, pl1, _⟩ := J1.list (show SqL X.K _ l vs from hq1)
    refine wpAny_bind (wpAny_pyIter_list pl1.isList ?_)
    have J2 : Inv X pins σ (upd H s.heap.objs.size (e0 tu)) { s with heap := h1.push { cls := .type "list_iterator", data := .fields #[.ref l, .int 0 0] }, toks := tk1 } := J1.kept fun b o e => Heap.get?_push_of_some _ e
    have lt1 : s.heap.objs.size < h1.objs.size := Heap.lt_size (hk1 _ _ hnew)
    have fp : FpOk X pins (upd H s.heap.objs.size (e0 tu)) h1.objs.size := J1.fpOk (Nat.le_refl _) (J1.hok.fresh (Nat.le_refl _))
    have hlen : ys.length ≤ LIM := by have := rs.length; rw [this, ← LIM_eq]; exact hz
    have inA1 : Inv (inA X X.A.in1.in1) pins σ (upd H s.heap.objs.size (e0 tu)) { s with heap := h1.push { cls := .type "list_iterator", data := .fields #[.ref l, .int 0 0] }, toks := tk1 } := inv_in rfl rfl J2
    have key := upd_loopD (X := inA X X.A.in1.in1) (A0 := X.A.in1) (pins := pins) (σ := σ) (g := g) (N := fun b => N b ∧ b ≠ s.heap.objs.size) (tq := false) (tu := tu) (S := s.heap.objs.size) (I := h1.objs.size) (l := l) (vs := vs)
      (R := wants (fun r s₂ => r = .none ∧ EP X pins σ Q (.ref s.heap.objs.size) s₂) X.xe) rfl hK hc (show X.A.in1.in1.units + 1 < cLine by show X.A.units + 1 + 1 + 1 < cLine; omega) hlS (fun a n => n.2) ys ps 0 [] 0 0 _ _ inA1 fp hq1
      (show SqIt false _ _ l 0 from ⟨_, Heap.get?_push_size _ rfl, rfl, rfl⟩) (by rw [List.drop_zero]; exact rs.mono2 ex0) hps (DicAt.nil upd_same) (by simpa using hlen)
      (fun s' H' J' D' k' => ⟨rfl, .ref s.heap.objs.size, H', inv_out J.ok J', rfl, ?_⟩)
    · first
        | exact wpAny_pure ⟨plainId_quiet ud_plain _, key⟩
        | exact wpAny_bind (wpAny_pure (wpAny_pure ⟨plainId_quiet ud_plain _, key⟩))
    · refine q _ H' (fun a o q => k' a o (ne_of_none q hS) (by rw [upd_ne (ne_of_none q hS)]; exact q)) ?_
      have := OwnAt.toT (T := fun a => H a = none) D'.own hS
      exact this.mono (fun _ h => h) (fun a n => .inl n.1) ⟨fun _ _ h => h, fun _ _ _ h => h, fun _ _ _ h => h, fun _ _ _ h => h⟩
  · cases e
end EV
end

section
set_option Elab.async false
set_option linter.all false
set_option maxRecDepth 100000
set_option maxHeartbeats 2000000
/-! EvSe: x.count(y), x.index(y), s.join(x). -/
namespace EV
open PySem PySem.Spec PyProof.Rows L2
theorem cnt_py {k : D} (hk : plainD k = true) : ∀ {xs : List D}, plainL xs = true → ((toPyL xs).countP fun z => PyData.eqv z (toPy k)) = cntD k xs
  | [], _ => rfl
  | x :: xs, h => by
    simp only [plainL, Bool.and_eq_true] at h
    simp only [toPyL, cntD]
    rw [List.countP_cons, eqv_py h.1 hk, cnt_py hk h.2, Nat.add_comm]
theorem idxD_at {k : D} : ∀ {xs : List D} {n j : Nat}, idxD k xs n = some j → ∃ i, j = n + i ∧ (∃ z, xs[i]? = some z ∧ eqD z k = true) ∧ ∀ m z', m < i → xs[m]? = some z' → eqD z' k = false
  | [], n, j, h => by cases h
  | x :: xs, n, j, h => by
    unfold idxD at h
    split at h
    · rename_i e
      cases h
      exact ⟨0, rfl, ⟨x, rfl, e⟩, fun m z' hm => absurd hm (Nat.not_lt_zero _)⟩
    · rename_i e
      obtain ⟨i, rfl, ⟨z, h1, h2⟩, h3⟩ := idxD_at h
      refine ⟨i + 1, by omega, ⟨z, by simpa using h1, h2⟩, fun m z' hm hz => ?_⟩
      cases m with
      | zero =>
        simp at hz
        subst hz
        simpa using e
      | succ m => exact h3 m z' (by omega) (by simpa using hz)
theorem toPyL_get : ∀ {xs : List D} {i : Nat}, (toPyL xs)[i]? = (xs[i]?).map toPy
  | [], i => by simp [toPyL]
  | x :: xs, 0 => by simp [toPyL]
  | x :: xs, i + 1 => by simp only [toPyL, List.getElem?_cons_succ]; exact toPyL_get
section
variable {X : Cx}
def rCntD (K : PySem.W.Frag) : V → List V → Hp → VK → Prop := fun x xs H Q => ∃ (a : Addr) (y : V) (d : PyData) (ds : List PyData), x = V.ref a ∧ xs = [y] ∧ Dp K H (V.ref a) (.list ds) ∧ Dp K H y d ∧
  PyData.plainAll ds = true ∧ d.plain = true ∧ d.depth ≤ 60 ∧ Q (.int (ds.countP fun z => PyData.eqv z d : Nat)) H
theorem lst_reads {pins : List (Addr × Obj)} {σ : L2.St} {H : Hp} {s : Shared} {a : Addr} {ds : List PyData} (I : Inv X pins σ H s) (h : Dp X.K H (V.ref a) (.list ds)) : ∃ its as, s.heap.IsList a its.toArray ∧ ReadsAll s.heap its ds as ∧ its.length ≤ sizeLine ∧ PlainL s.heap a its.toArray := by
  cases h with
  | lst hs ha =>
    obtain ⟨its, rv, pl, hlen⟩ := I.list hs
    obtain ⟨as, h4⟩ := Dp.readsAll I ds _ its ha rv
    exact ⟨its, as, pl.isList, h4, by rw [← rv.length]; exact hlen, pl⟩
theorem mt_countD (hu : X.A.units + 65 < cLine) : MtR X "list.count" (rCntD X.K) := by
  intro pins s σ H x xs v us Q I rx rxs h
  obtain ⟨a, y, d, ds, rfl, rfl, hl, hy, pl, pd, dd, q⟩ := h
  cases rx
  cases rxs with
  | cons ry rt =>
    cases rt
    obtain ⟨bs, r1⟩ := Dp.reads I d y _ hy ry
    obtain ⟨its, as, il, ra, _, _⟩ := lst_reads I hl
    exact SeqAt.count_list_data il (by simpa using ra) r1 pl pd (by omega) ⟨.int _, H, I.tok _, ⟨_, rfl⟩, q⟩
def rIdxD (K : PySem.W.Frag) : V → List V → Hp → VK → Prop := fun x xs H Q => ∃ (a : Addr) (y : V) (d : PyData) (ds : List PyData) (j : Nat) (z : PyData), x = V.ref a ∧ xs = [y] ∧ Dp K H (V.ref a) (.list ds) ∧ Dp K H y d ∧
  PyData.plainAll ds = true ∧ d.plain = true ∧ d.depth ≤ 60 ∧ ds[j]? = some z ∧ PyData.eqv z d = true ∧ (∀ (m : Nat) (z' : PyData), m < j → ds[m]? = some z' → PyData.eqv z' d = false) ∧ Q (.int (j : Nat)) H
theorem read_at {h : Heap} : ∀ {ds : List PyData} {its : List Value} {as : List Addr}, PyData.plainAll ds = true → ReadsAll h its ds as → ∀ (m : Nat) (u : Value) (z : PyData), its[m]? = some u → ds[m]? = some z → SeqAt.readOf h u = z := by
  intro ds its as hp ra m u z hu hz
  have hn := SeqAt.ReadsAll.length ds its as ra
  have key : ∀ {ds : List PyData} {its : List Value} {as : List Addr}, PyData.plainAll ds = true → ReadsAll h its ds as → ∀ (m : Nat) (u : Value) (z : PyData), its[m]? = some u → ds[m]? = some z → ∃ cs, Reads h u z cs ∧ z.plain = true := by
    intro ds
    induction ds with
    | nil => intro its as _ _ m u z _ hz; simp at hz
    | cons d ds ih =>
      intro its as hp ra m u z hu hz
      simp only [PyData.plainAll, Bool.and_eq_true] at hp
      cases ra with
      | cons r1 r2 =>
        cases m with
        | zero =>
          simp at hu hz
          subst hu hz
          exact ⟨_, r1, hp.1⟩
        | succ m => exact ih hp.2 r2 m u z (by simpa using hu) (by simpa using hz)
  obtain ⟨cs, r, p⟩ := key hp ra m u z hu hz
  exact SeqAt.readOf_plain p r
theorem mt_idxD (hu : X.A.units + 65 < cLine) : MtR X "list.index" (rIdxD X.K) := by
  intro pins s σ H x xs v us Q I rx rxs h
  obtain ⟨a, y, d, ds, j, z, rfl, rfl, hl, hy, pl, pd, dd, hz, hzj, hno, q⟩ := h
  cases rx
  cases rxs with
  | cons ry rt =>
    cases rt
    rename_i uy
    obtain ⟨bs, r1⟩ := Dp.reads I d y _ hy ry
    obtain ⟨its, as, il, ra, hlen, plo⟩ := lst_reads I hl
    obtain ⟨⟨cls, ddi, data, sls⟩, n, ho, hc, hdn, hdt⟩ := plo
    simp only at hc hdt
    subst hc hdt
    have hn := SeqAt.ReadsAll.length ds its as ra
    obtain ⟨hjd, _⟩ := List.getElem?_eq_some_iff.mp hz
    have hsl := sizeLine_eq
    have hj : j < its.toArray.size := by simp; omega
    refine call_meets PySem.F.slot_list_index ⟨_, ho, rfl⟩ PySem.F.entry_list_index (PySem.F.args_list_index_2 _ _)
      (SeqAt.list_indexAt a its.toArray n ddi sls uy (fun u => PyData.eqv (SeqAt.readOf s.heap u) d) j hj (by simp; omega) ?_ ?_) ⟨ho, SeqAt.items_plain (vs := its.toArray) (by simpa using ra) r1 pl pd (by omega), ?_⟩
    · show PyData.eqv (SeqAt.readOf s.heap its.toArray[j]) d = true
      rw [read_at pl ra j _ z (by simp) hz]
      exact hzj
    · intro m hm hmj
      have hmd : m < ds.length := by omega
      have hz' : ds[m]? = some ds[m] := List.getElem?_eq_getElem hmd
      show PyData.eqv (SeqAt.readOf s.heap its.toArray[m]) d = false
      rw [read_at pl ra m _ _ (by simp) hz']
      exact hno m _ hmj hz'
    · exact ⟨.int (j : Nat), H, I.tok _, ⟨_, rfl⟩, q⟩
end
theorem base_of {x : Expr} {m : Str} {env : PySem.Env} (h : plainBase x = true) (whole : Sem Value) : attributeBase x m env whole = whole := by
  unfold attributeBase
  split
  · cases h
  · rfl
section
variable {g : G} {f : Fm} {X : Cx} {x y : Expr} {A B : EV.Env → M D} {ck : Ck} {C : Cfg} {cal : Cal} {sc : Scope} {apos pos : Pos}
theorem s_count (hX : XOK g ck C cal sc X) (hb : plainBase x = true) (hline : (apos.endLine == pos.line) = true) (hst : notStar y = true) (hx : PE X x (tG g f .bo A)) (hy : PE X y (tG g f .bo B)) :
    PE X (.Call (.Attribute x "count" apos) [y] [] pos) (tG g f .fr fun ρ => mb (A ρ) fun a => mb (B ρ) fun b => mo (countF [a, b])) := by
  have hs1 := star_of (env := X.env) (es := []) hst
  have hu := hX.un
  refine (pe_bm PySem.F.plainAttrs_list PySem.F.slot_list_count PySem.F.type_list_count (mt_countD (by omega)) hx (pa_cons hy pa_nil hs1) (base_of hb _) (by rw [hs1]; rfl) hline hs1 rfl).imp fun σ H Q ⟨ρ, k, c, E, q⟩ => ?_
  obtain ⟨d0, k0, hd0, q'⟩ := OkR_ex (OkR_mb.mp q)
  obtain ⟨e0, j0, he0, q''⟩ := OkR_ex (OkR_mb.mp q')
  obtain ⟨z0, hz0, _⟩ := OkR_mo.mp q''
  obtain ⟨xs, rfl⟩ : ∃ xs, d0 = .lst xs := by
    cases d0 <;> first | exact ⟨_, rfl⟩ | cases hz0
  refine ⟨ρ, k, c, E, ?_⟩
  rw [hd0]
  refine fun v H1 e1 cu r1 => ?_
  have E1 := E.eff e1 cu
  simp only [RpT] at r1
  obtain ⟨a, vs, rfl, na, rd, rs⟩ := r1
  refine ⟨.inl ⟨rfl, vs, .inl rd⟩, ρ, k0, c, E1, ?_⟩
  rw [he0]
  refine fun w H2 e2 cu2 r2 => ?_
  have E2 := E1.eff e2 cu2
  simp only [countF] at hz0 q''
  split at hz0
  · rename_i ok
    simp only [ok, if_true] at q''
    simp only [Bool.and_eq_true] at ok
    have rs2 := rs.eff e2 E1.cup fun a n => nfc n
    have rd2 : Rd H2 a (.lst vs) := rd_keep rd fun o e => e2 a o e na
    have pl := okL_plain ok.2
    have pk := okD_plain ok.1
    refine ⟨a, w, toPy e0, toPyL xs, rfl, rfl, ?_, ?_, plain_pyL pl, plain_py pk, okD_dep ok.1, ?_⟩
    · exact .lst (.inl rd2) (by rw [hX.K]; exact rs2.dp pl)
    · rw [hX.K]
      cases e0 with
      | lst ys =>
        simp only [RpT] at r2
        obtain ⟨b, us, rfl, _, rdb, rsb⟩ := r2
        simp only [toPy]
        exact .lst (.inl rdb) (rsb.dp (by simpa only [plainD] using pk))
      | _ => first | exact (show Rp g (NF f ρ σ c) H2 _ w by simpa only [RpT] using r2).dp pk | (simp [plainD] at pk; done)
    · rw [cnt_py pk pl]
      exact fin_pl (md := .fr) E (e1.trans e2) E2 (fun T N => rpT_int _) q''
  · cases hz0
theorem s_index (hX : XOK g ck C cal sc X) (hb : plainBase x = true) (hline : (apos.endLine == pos.line) = true) (hst : notStar y = true) (hx : PE X x (tG g f .bo A)) (hy : PE X y (tG g f .bo B)) :
    PE X (.Call (.Attribute x "index" apos) [y] [] pos) (tG g f .fr fun ρ => mb (A ρ) fun a => mb (B ρ) fun b => mo (indexF [a, b])) := by
  have hs1 := star_of (env := X.env) (es := []) hst
  have hu := hX.un
  refine (pe_bm PySem.F.plainAttrs_list PySem.F.slot_list_index PySem.F.type_list_index (mt_idxD (by omega)) hx (pa_cons hy pa_nil hs1) (base_of hb _) (by rw [hs1]; rfl) hline hs1 rfl).imp fun σ H Q ⟨ρ, k, c, E, q⟩ => ?_
  obtain ⟨d0, k0, hd0, q'⟩ := OkR_ex (OkR_mb.mp q)
  obtain ⟨e0, j0, he0, q''⟩ := OkR_ex (OkR_mb.mp q')
  obtain ⟨z0, hz0, q3⟩ := OkR_mo.mp q''
  obtain ⟨xs, rfl⟩ : ∃ xs, d0 = .lst xs := by
    cases d0 <;> first | exact ⟨_, rfl⟩ | cases hz0
  refine ⟨ρ, k, c, E, ?_⟩
  rw [hd0]
  refine fun v H1 e1 cu r1 => ?_
  have E1 := E.eff e1 cu
  simp only [RpT] at r1
  obtain ⟨a, vs, rfl, na, rd, rs⟩ := r1
  refine ⟨.inl ⟨rfl, vs, .inl rd⟩, ρ, k0, c, E1, ?_⟩
  rw [he0]
  refine fun w H2 e2 cu2 r2 => ?_
  have E2 := E1.eff e2 cu2
  simp only [indexF] at hz0
  split at hz0
  · rename_i ok
    simp only [Bool.and_eq_true] at ok
    obtain ⟨j, hj, rfl⟩ := Option.map_eq_some_iff.mp hz0
    obtain ⟨i, rfl, ⟨z, h1, h2⟩, h3⟩ := idxD_at hj
    rw [Nat.zero_add] at q3
    have rs2 := rs.eff e2 E1.cup fun a n => nfc n
    have rd2 : Rd H2 a (.lst vs) := rd_keep rd fun o e => e2 a o e na
    have pl := okL_plain ok.2
    have pk := okD_plain ok.1
    have pz : ∀ z ∈ xs, plainD z = true := fun z hz => okD_plain (List.all_eq_true.mp ok.2 z hz)
    refine ⟨a, w, toPy e0, toPyL xs, i, toPy z, rfl, rfl, ?_, ?_, plain_pyL pl, plain_py pk, okD_dep ok.1, by rw [toPyL_get, h1]; rfl, by rw [eqv_py (pz z (List.mem_of_getElem? h1)) pk]; exact h2, fun m z' hm hz' => ?_, ?_⟩
    · exact .lst (.inl rd2) (by rw [hX.K]; exact rs2.dp pl)
    · rw [hX.K]
      cases e0 with
      | lst ys =>
        simp only [RpT] at r2
        obtain ⟨b, us, rfl, _, rdb, rsb⟩ := r2
        simp only [toPy]
        exact .lst (.inl rdb) (rsb.dp (by simpa only [plainD] using pk))
      | _ => first | exact (show Rp g (NF f ρ σ c) H2 _ w by simpa only [RpT] using r2).dp pk | (simp [plainD] at pk; done)
    · rw [toPyL_get] at hz'
      obtain ⟨z2, hz2, rfl⟩ := Option.map_eq_some_iff.mp hz'
      rw [eqv_py (pz z2 (List.mem_of_getElem? hz2)) pk]
      exact h3 m z2 hm hz2
    · exact fin_pl (md := .fr) E (e1.trans e2) E2 (fun T N => rpT_int _) q3
  · cases hz0
theorem joinN_two (s x y : List Nat) : ∀ r : List (List Nat), joinN s ((x ++ s ++ y) :: r) = x ++ s ++ joinN s (y :: r)
  | [] => rfl
  | z :: r => by simp only [joinN, List.append_assoc]
theorem glued_core (s : List Nat) : ∀ (r : List (List Nat)) (x : List Nat), (r.map strL).foldl (fun acc p => acc ++ (strL s).cps ++ p.cps) x.toArray = (joinN s (x :: r)).toArray
  | [], x => rfl
  | y :: r, x => by
    rw [List.map_cons, List.foldl_cons]
    have e : x.toArray ++ (strL s).cps ++ (strL y).cps = (x ++ s ++ y).toArray := by simp [strL]
    rw [e, glued_core s r (x ++ s ++ y), joinN_two]
    rfl
theorem glued_strL (s : List Nat) : ∀ ss : List (List Nat), Txt.join (strL s) (ss.map strL) = strL (joinN s ss)
  | [] => rfl
  | x :: r => by
    have h := glued_core s r x
    show (⟨((((x :: r).map strL).drop 1).foldl (fun acc p => acc ++ (strL s).cps ++ p.cps) (((x :: r).map strL).headD Str.empty).cps)⟩ : Str) = strL (joinN s (x :: r))
    rw [show (((x :: r).map strL).drop 1) = r.map strL from rfl, show (((x :: r).map strL).headD Str.empty).cps = x.toArray from rfl, h]
    rfl
theorem joinN_ok {s : List Nat} (hs : okS s = true) : ∀ {ss : List (List Nat)}, (∀ x ∈ ss, okS x = true) → (joinN s ss).all (fun c => decide (c < 1114112)) = true ∧ (joinN s ss).length ≤ (ss.map List.length).sum + ss.length * s.length
  | [], _ => by simp [joinN]
  | [x], h => by
    have := h x (by simp)
    unfold okS at this
    simp only [Bool.and_eq_true] at this
    exact ⟨by simpa only [joinN] using this.1, by simp [joinN]⟩
  | x :: y :: r, h => by
    obtain ⟨i1, i2⟩ := joinN_ok hs (ss := y :: r) fun z hz => h z (by simp [hz])
    have hx := h x (by simp)
    unfold okS at hx hs
    simp only [Bool.and_eq_true] at hx hs
    refine ⟨?_, ?_⟩
    · simp only [joinN, List.all_append, Bool.and_eq_true]
      exact ⟨⟨hx.1, hs.1⟩, i1⟩
    · simp only [joinN, List.length_append, List.map_cons, List.sum_cons, List.length_cons] at i2 ⊢
      have e : (r.length + 1 + 1) * s.length = (r.length + 1) * s.length + s.length := by rw [Nat.add_mul]; omega
      omega
theorem s_join (hX : XOK g ck C cal sc X) (hb : plainBase x = true) (hline : (apos.endLine == pos.line) = true) (hst : notStar y = true) (hx : PE X x (tG g f .bo A)) (hy : PE X y (tG g f .bo B)) :
    PE X (.Call (.Attribute x "join" apos) [y] [] pos) (tG g f .fr fun ρ => mb (A ρ) fun a => mb (B ρ) fun b => mo (joinF [a, b])) := by
  refine (pe_join hx hy (star_of (env := X.env) (es := []) hst) (base_of hb _) hline).imp fun σ H Q ⟨ρ, k, c, E, q⟩ => ?_
  obtain ⟨d0, k0, hd0, q'⟩ := OkR_ex (OkR_mb.mp q)
  obtain ⟨e0, j0, he0, q''⟩ := OkR_ex (OkR_mb.mp q')
  obtain ⟨z0, hz0, q3⟩ := OkR_mo.mp q''
  obtain ⟨t, rfl⟩ : ∃ t, d0 = .str t := by
    cases d0 <;> first | exact ⟨_, rfl⟩ | cases hz0
  refine ⟨ρ, k, c, E, ?_⟩
  rw [hd0]
  refine fun v H1 e1 cu r1 => ?_
  have E1 := E.eff e1 cu
  simp only [RpT, Rp] at r1
  obtain ⟨rfl, okt⟩ := r1
  refine ⟨⟨_, rfl⟩, ρ, k0, c, E1, ?_⟩
  rw [he0]
  refine fun w H2 e2 cu2 r2 => ?_
  have E2 := E1.eff e2 cu2
  simp only [joinF, Option.bind_eq_some_iff] at hz0
  obtain ⟨xs, hxs, ss, hss, hz0⟩ := hz0
  split at hz0
  · rename_i ok
    simp only [Bool.and_eq_true, decide_eq_true_eq] at ok
    cases hz0
    obtain ⟨a, vs, rfl, h2, h1⟩ := items_of' r2 hxs
    obtain ⟨rfl, hok⟩ := h2.strs hss
    obtain ⟨j1, j2⟩ := joinN_ok okt hok
    refine ⟨strL t, a, ss.map strL, rfl, rfl, ?_, ?_, ?_⟩
    · rcases h1 with ⟨_, h1⟩ | ⟨_, h1⟩
      · exact .inl (.inl h1)
      · exact .inr (by rw [hX.K]; exact h1.sq)
    · have e1 : ((ss.map strL).map (·.length)) = ss.map List.length := by
        rw [List.map_map]
        exact List.map_congr_left fun z _ => strL_len z
      rw [e1, List.length_map, strL_len]
      exact ok.1
    · rw [glued_strL]
      refine fin_pl (md := .fr) E (e1.trans e2) E2 (fun T N => ?_) q3
      simp only [RpT, Rp]
      refine ⟨trivial, ?_⟩
      unfold okS
      simp only [Bool.and_eq_true, decide_eq_true_eq]
      exact ⟨j1, by omega⟩
  · cases hz0
end
end EV
end

section
set_option Elab.async false
set_option linter.all false
set_option maxRecDepth 100000
set_option maxHeartbeats 1000000
/-! EvSf: the rules of the further forms, as the master wants them. -/
namespace EV
open PySem PySem.Spec PyProof.Rows L2
section
variable {g : G} {f : Fm} {X : Cx} {x y : Expr} {A B : EV.Env → M D} {ck : Ck} {C : Cfg} {cal : Cal} {sc : Scope} {apos pos p p2 q : Pos}
theorem lb_one (hst : notStar y = true) (ha : PE X y (tG g f .bo A)) : PA X [y] (tLb g f fun ρ => mb (A ρ) fun d => mp [d]) := by
  have := lb_cons hst ha (lb_nil (g := g) (f := f) (X := X))
  exact eqLb this fun ρ => by simp only [mb_mp]
theorem s_dict {tu : Bool} (hX : XOK g ck C cal sc X) (hg : glC sc "dict" = true) (hst : notStar y = true) (ha : PE X y (tG g f .bo A)) :
    PE X (.Call (.Name "dict" p) [y] [] pos) (tG g f .fr fun ρ => mb (A ρ) fun d => mo (biD C.kt (.dict tu) [d])) := by
  refine (pe_callTy (T := "dict") (cb_dict (g := g) (tu := tu) hX.K hX.calm hX.un) (gl_of (by rw [hX.sc]; exact hg)) (hX.mg _ (by decide)) (by decide +kernel) (lb_one hst ha) (by decide) (by decide) (star_of hst) rfl).imp fun σ H Q ⟨ρ, k, c, E, h⟩ => ?_
  have e : (mb (A ρ) fun d => mo (biD C.kt (.dict tu) [d])) = mb (mb (A ρ) fun d => mp [d]) (fun ds => mo (biD C.kt (.dict tu) ds)) := by rw [mb_assoc]; rfl
  simp only [e] at h
  refine tLb_seq E h fun ds k1 vs H1 h e1 E1 r1 => ?_
  obtain ⟨z, hz, q⟩ := OkR_mo.mp h
  rw [hX.kt] at hz
  exact ⟨_, _, ds, z, r1, hz, fun w H' hs r => fin_fr E e1 E1 hs r q⟩
theorem s_lset' (hX : XOK g ck C cal sc X) (hg : glC sc "len" = true) (hg2 : glC sc "set" = true) (hst : notStar y = true) (ha : PE X y (tG g f .bo A)) :
    PE X (.Call (.Name "len" p) [.Call (.Name "set" p2) [y] [] q] [] pos) (tG g f .fr fun ρ => mb (A ρ) fun d => mo (biD C.kt .lset [d])) :=
  eqG (s_lset hX hg hg2 hst (lb_one hst ha)) fun ρ => by simp only [mb_assoc, mb_mp]; rfl
theorem s_sset' (hX : XOK g ck C cal sc X) (hg : glC sc "sorted" = true) (hg2 : glC sc "set" = true) (hst : notStar y = true) (ha : PE X y (tG g f .bo A)) :
    PE X (.Call (.Name "sorted" p) [.Call (.Name "set" p2) [y] [] q] [] pos) (tG g f .fr fun ρ => mb (A ρ) fun d => mo (biD C.kt .sset [d])) :=
  eqG (s_sset hX hg hg2 hst (lb_one hst ha)) fun ρ => by simp only [mb_assoc, mb_mp]; rfl
end
section
variable {g : G} {f : Fm} {C : Cfg} {cal : Cal} {ck : Ck} {sc : Scope} {X : Cx} {tg it kx vx : Expr} {ifs : List Expr} {pos : Pos} {tu : Bool}
theorem dcomp_ev {t : Tg} {s : Src} {cc ke ve : IE} {ρ : EV.Env} : evE cal C (.dcomp tu ke ve t s cc) ρ = mb (evR cal C s ρ) fun xs => mb (mo (t.opn ρ)) fun ρw => mb (filtL (dFun C.kt tu t (fun ρ => mb (evE cal C cc ρ) mB) (evE cal C ke) (evE cal C ve) ρw) xs) fun ys => mp (.dic (putAll [] ys)) := by
  simp only [evE]
  unfold dFun
  simp only [mb_assoc]
theorem s_dcomp {scope : Scope} {t : Tg} {s : Src} {cc ke ve : IE} (hX : XOK g ck C cal sc X) (h : Clauses g ck C cal sc scope t cc ke tg kx ifs) (hv : ∀ f X, XOK g ck C cal (relS scope sc) X → PE X vx (tG g f .nf (evE cal C ve))) (hr : SndR g f C cal X s it tg) (hp : plainIter it = true) :
    PE X (.DictComp kx vx [⟨tg, it, ifs, 0⟩] scope pos) (tN g f (evE cal C (.dcomp tu ke ve t s cc))) := by
  have hblk : BlkOk X.N X.env.scope scope (ownOf ck.N t.names) := by rw [hX.N, hX.sc]; exact blkOk_by h.blk
  have hu := hX.un
  refine (pe_dx (tu := tu) (own := ownOf ck.N t.names) (by omega) hX.calm (by rw [hX.N]; exact hX.nd) hr.bo hblk (g_blk hX h)
    (fun s H A cl fp => pts_ET fun f => h.ts f _ (hX.blk s H scope cl A fp)) (fun s H A cl fp => pe_EG fun f => h.el f _ (hX.blk s H scope cl A fp)) (fun s H A cl fp => pe_EG fun f => hv f _ (hX.blk s H scope cl A fp)) (fun x => iter_of hp x)).imp fun σ H Q q => ?_
  rw [own_names h.lt]
  have q : tN g f _ σ H Q := q
  rw [show evE cal C (.dcomp tu ke ve t s cc) = _ from funext fun ρ => dcomp_ev] at q
  rw [hX.kt] at q
  exact dcomp_core q
end
end EV
end

section
set_option Elab.async false
set_option linter.all false
set_option maxRecDepth 100000
set_option maxHeartbeats 1000000
/-! EvS: the master. -/
namespace EV
open PySem PySem.Spec PyProof.Rows L2
section
variable {g : G} {C : Cfg} {cal : Cal} {ck : Ck}
theorem len_ok {es : List IE} (hl : es.length < 1000) : ∀ (ρ : EV.Env) (k : Cup) (P : List D → Cup → Prop), OkR (evL cal C es ρ k) P → OkR (evL cal C es ρ k) fun ds k' => P ds k' ∧ ds.length ≤ LIM := fun ρ k P h =>
  (evL_len h).imp fun ds k' ⟨h, l⟩ => ⟨h, by have : LIM = 16777216 := rfl; omega⟩
theorem non_of {cc : IE} (h : isNon cc = true) : cc = .k .non := by
  unfold isNon at h
  split at h
  · rfl
  · cases h
theorem yes_of {cc : IE} (h : isYes cc = true) : cc = .k (.bl true) := by
  unfold isYes at h
  split at h
  · rfl
  · cases h
theorem chain_core {f : Fm} {o o' : COp} {A B C' : EV.Env → M D} {ρ : EV.Env} {k : Cup} {c : Option Addr} {σ : L2.St} {H : Hp} {P : D → Cup → Prop} {R : VK} (E : EOK g f ρ k c σ H)
    (q : OkR (mb (A ρ) (fun x => mb (B ρ) fun y => mb (mo (cmpB o x y)) fun d => if d = true then mb (C' ρ) fun z => mb (mo (cmpB o' y z)) fun d' => mp (.bl d') else mp (.bl false)) k) P)
    (hR : ∀ b k' H', P (.bl b) k' → Eff c H H' → CupAt c k' H' → R (.bl b) H') : tChain (r2B g (cmpB o)) (r2B g (cmpB o')) (tG g f .nf A) (tG g f .nf B) (tG g f .nf C') σ H R := by
  refine tG_seq E q fun x k1 v H1 h e1 E1 r1 => tG_seq E1 h fun y k2 u H2 h e2 E2 r2 => ?_
  obtain ⟨d, hd, h⟩ := OkR_mo.mp (OkR_mb.mp h)
  have r1' := RpT.effM (by simp) r1 e2 E1.cup fun a n => nfc n
  refine ⟨_, _, x, y, d, r1', r2, hd, d, rfl, ?_⟩
  cases d with
  | false => exact hR _ _ _ h (e1.trans e2) E2.cup
  | true =>
    have h : OkR (mb (C' ρ) (fun z => mb (mo (cmpB o' y z)) fun d' => mp (.bl d')) k2) P := h
    refine tG_seq E2 h fun z k3 w H3 h e3 E3 r3 => ?_
    obtain ⟨d', hd', h⟩ := OkR_mo.mp (OkR_mb.mp h)
    have r2' := RpT.effM (by simp) r2 e3 E2.cup fun a n => nfc n
    exact ⟨_, _, y, z, d', r2', r3, hd', hR _ _ _ h (e1.trans (e2.trans e3)) E3.cup⟩
theorem lastm_of {op op' : CmpOp} {y z : Expr} (h : plainIter z = true) : lastMarks [op, op'] [y, z] = false := mark_of h
mutual
theorem sE : ∀ (ie : IE) (x : Expr) (sc : Scope) (f : Fm) (X : Cx), XOK g ck C cal sc X → chkE ck sc ie x = true → Snd g f C cal X ie x
  | .k c, x, sc, f, X, hX, h => by
    simp only [chkE] at h
    split at h
    · exact Snd.plain (eqG (s_const h) fun ρ => by simp only [evE]) (by simp [mdOf]) (fun _ _ => rfl) rfl
    · cases h
  | .v i, x, sc, f, X, hX, h => by
    simp only [chkE] at h
    split at h
    · simp only [Bool.and_eq_true, decide_eq_true_eq] at h
      obtain ⟨⟨h1, h2⟩, h3⟩ := h
      rename_i n p
      have hN : X.N[i]? = some n := (by rw [hX.N]; exact h1)
      have hv := vis_of (sc := X.env.scope) (by rw [hX.sc]; exact h2)
      have nf : PE X (.Name n p) (tG g f .nf (evE cal C (.v i))) := eqG (s_var (g := g) (f := f) hN hv (okN_of h3).1 (okN_of h3).2) fun ρ => by simp only [evE] <;> rfl
      refine ⟨nf, nf, eqG (s_varB hN hv (okN_of h3).1 (okN_of h3).2) fun ρ => by simp only [evE] <;> rfl, (fun h => by cases h), fun _ => s_test rfl nf, fun op vs pos e => by cases e⟩
    · cases h
  | .g i, x, sc, f, X, hX, h => by
    simp only [chkE] at h
    split at h
    · simp only [Bool.and_eq_true, decide_eq_true_eq] at h
      obtain ⟨⟨h1, h2⟩, h3⟩ := h
      exact Snd.plain (eqG (s_glob hX h1 h2 (okN_of h3).1) fun ρ => by simp only [evE]) (by simp [mdOf]) (fun _ _ => rfl) rfl
    · cases h
  | .cupg i b, x, sc, f, X, hX, h => by
    simp only [chkE] at h
    split at h
    · simp only [Bool.and_eq_true, decide_eq_true_eq] at h
      obtain ⟨⟨⟨h1, h2⟩, h3⟩, h4⟩ := h
      exact Snd.plain (eqG (s_cupg (i := i) h4 (by rw [hX.N]; exact h1) (vis_of (by rw [hX.sc]; exact h2)) (okN_of h3).1 (okN_of h3).2) fun ρ => by simp only [evE] <;> rfl) (by simp [mdOf]) (fun _ _ => rfl) rfl
    · cases h
  | .tup es, x, sc, f, X, hX, h => by
    simp only [chkE] at h
    split at h
    · simp only [Bool.and_eq_true, decide_eq_true_eq] at h
      have ih := sL es _ sc f X hX h.1
      exact Snd.plain (eqG (s_tup ih.ls (len_ok h.2)) fun ρ => by simp only [evE]) (by simp [mdOf]) (fun _ _ => rfl) rfl
    · cases h
  | .lst es, x, sc, f, X, hX, h => by
    simp only [chkE] at h
    split at h
    · simp only [Bool.and_eq_true, decide_eq_true_eq] at h
      have ih := sL es _ sc f X hX h.1
      exact Snd.plain (eqG (s_lst ih.ls (len_ok h.2)) fun ρ => by simp only [evE]) (by simp [mdOf]) (fun _ _ => rfl) rfl fun _ => by
        rw [show evE cal C (.lst es) = fun ρ => mb (evL cal C es ρ) fun ds => mp (.lst ds) from funext fun ρ => by simp only [evE]]
        exact n_lst ih.ls (len_ok h.2)
    · cases h
  | .dict es, x, sc, f, X, hX, h => by simp [chkE] at h
  | .ix a i, x, sc, f, X, hX, h => by
    simp only [chkE] at h
    split at h
    · simp only [Bool.and_eq_true] at h
      have i1 := sE a _ sc f X hX h.1.1
      have i2 := sE i _ sc f X hX h.1.2
      exact Snd.plain (eqG (s_ix hX.K hX.un h.2 i1.bo i2.nf) fun ρ => by simp only [evE]) (by simp [mdOf]) (fun _ _ => rfl) rfl
    · cases h
  | .sl a lo hi, x, sc, f, X, hX, h => by
    simp only [chkE] at h
    split at h
    · rename_i y l u p2 p
      simp only [Bool.and_eq_true] at h
      obtain ⟨⟨h1, h2⟩, h3⟩ := h
      have i1 := sE a _ sc f X hX h1
      have part : ∀ {ie : IE} {o : Option Expr}, (match o with | none => ie = .k .non | some e => ie ≠ .k .non ∧ Snd g f C cal X ie e) → PO X o (tOp' g f fun ρ => partM ie (evE cal C ie ρ)) := fun {ie o} hh => by
        cases o with
        | none => subst hh; exact o_none
        | some e =>
          obtain ⟨n, s⟩ := hh
          have := o_some s.nf
          have e : (fun ρ => partM ie (evE cal C ie ρ)) = fun ρ => mb (evE cal C ie ρ) fun d => match d with | .int i => mp (some i) | _ => mf := funext fun ρ => by
            unfold partM
            split
            · exact absurd rfl n
            · rfl
          rw [e]
          exact this
      have p1 : PO X l (tOp' g f fun ρ => partM lo (evE cal C lo ρ)) := by
        refine part ?_
        cases l with
        | none =>
          exact non_of h2
        | some e =>
          have h2 : (chkE ck sc lo e && !isNon lo) = true := h2
          simp only [Bool.and_eq_true] at h2
          refine ⟨fun q => ?_, sE lo e sc f X hX h2.1⟩
          subst q
          simp [isNon] at h2
      have p2 : PO X u (tOp' g f fun ρ => partM hi (evE cal C hi ρ)) := by
        refine part ?_
        cases u with
        | none =>
          exact non_of h3
        | some e =>
          have h3 : (chkE ck sc hi e && !isNon hi) = true := h3
          simp only [Bool.and_eq_true] at h3
          refine ⟨fun q => ?_, sE hi e sc f X hX h3.1⟩
          subst q
          simp [isNon] at h3
      exact Snd.plain (eqG (s_sl hX.K i1.bo p1 p2) fun ρ => by simp only [evE]) (by simp [mdOf]) (fun _ _ => rfl) rfl
    · cases h
  | .rev a, x, sc, f, X, hX, h => by
    simp only [chkE] at h
    split at h
    · have i1 := sE a _ sc f X hX h
      exact Snd.plain (eqG (s_rev hX.K i1.bo) fun ρ => by simp only [evE]) (by simp [mdOf]) (fun _ _ => rfl) rfl
    · cases h
  | .bin o a b, x, sc, f, X, hX, h => by
    simp only [chkE] at h
    split at h
    · simp only [Bool.and_eq_true, decide_eq_true_eq] at h
      obtain ⟨⟨rfl, h1⟩, h2⟩ := h
      have i1 := sE a _ sc f X hX h1
      have i2 := sE b _ sc f X hX h2
      exact Snd.plain (eqG (s_bin hX.K i1.bo i2.bo) fun ρ => by simp only [evE]) (by simp [mdOf]) (fun _ _ => rfl) rfl
    · cases h
  | .neg a, x, sc, f, X, hX, h => by
    simp only [chkE] at h
    split at h
    · have i1 := sE a _ sc f X hX h
      exact Snd.plain (eqG (s_neg i1.nf) fun ρ => by simp only [evE] <;> rfl) (by simp [mdOf]) (fun _ _ => rfl) rfl
    · cases h
  | .not a, x, sc, f, X, hX, h => by
    simp only [chkE] at h
    split at h
    · have i1 := sE a _ sc f X hX h
      exact Snd.tests (eqG (s_not i1.nf) fun ρ => by simp only [evE]) (by simp [mdOf]) (fun _ _ => rfl) (fun ht => eqT (t_not (i1.tt (by simpa only [tst] using ht))) fun ρ => by simp only [evE]) (fun _ _ _ e => by cases e)
    · cases h
  | .and a b, x, sc, f, X, hX, h => by
    simp only [chkE] at h
    split at h
    · rename_i y z r p
      simp only [Bool.and_eq_true] at h
      have i1 := sE a y sc f X hX h.1
      have ev : ∀ ρ, evE cal C (.and a b) ρ = mb (evE cal C a ρ) fun d => mb (mB d) fun b' => if b' = true then evE cal C b ρ else mp (.bl false) := fun ρ => by simp only [evE]
      have fin : PE X (.BoolOp .And (z :: r) p) (tG g f .nf (evE cal C b)) → (tst b = true → PW X (.BoolOp .And (z :: r) p) (tT g f fun ρ => mb (evE cal C b ρ) mB)) → Snd g f C cal X (.and a b) (.BoolOp .And (y :: z :: r) p) := fun q1 q2 => by
        have md := eqG (B := evE cal C (.and a b)) (s_and (p2 := p) i1.nf q1) ev
        have bw : tst (.and a b) = true → PW X (.BoolOp .And (y :: z :: r) p) (tT g f fun ρ => mb (evE cal C (.and a b) ρ) mB) := fun ht => by
          simp only [tst, Bool.and_eq_true] at ht
          exact eqW (w_and (i1.tt ht.1) (q2 ht.2)) fun ρ => by rw [ev]
        exact ⟨md, md, md.bo, (fun h => by cases h), fun ht => (bw ht).pt, fun op vs pos e ht => by cases e; exact bw ht⟩
      cases r with
      | nil =>
        have i2 := sE b z sc f X hX h.2
        exact fin (pe_one i2.nf) fun ht => pw_and1 (i2.tt ht)
      | cons w r =>
        simp only [Bool.and_eq_true] at h
        have i2 := sE b (.BoolOp .And (z :: w :: r) p) sc f X hX h.2.2
        exact fin i2.nf fun ht => i2.bw _ _ _ rfl ht
    · cases h
  | .or a b, x, sc, f, X, hX, h => by
    simp only [chkE] at h
    split at h
    · rename_i y z r p
      simp only [Bool.and_eq_true] at h
      have i1 := sE a y sc f X hX h.1
      have ev : ∀ ρ, evE cal C (.or a b) ρ = mb (evE cal C a ρ) fun d => mb (mB d) fun b' => if b' = true then mp (.bl true) else evE cal C b ρ := fun ρ => by simp only [evE]
      have fin : PE X (.BoolOp .Or (z :: r) p) (tG g f .nf (evE cal C b)) → (tst b = true → PW X (.BoolOp .Or (z :: r) p) (tT g f fun ρ => mb (evE cal C b ρ) mB)) → Snd g f C cal X (.or a b) (.BoolOp .Or (y :: z :: r) p) := fun q1 q2 => by
        have md := eqG (B := evE cal C (.or a b)) (s_or (p2 := p) i1.nf q1) ev
        have bw : tst (.or a b) = true → PW X (.BoolOp .Or (y :: z :: r) p) (tT g f fun ρ => mb (evE cal C (.or a b) ρ) mB) := fun ht => by
          simp only [tst, Bool.and_eq_true] at ht
          exact eqW (w_or (i1.tt ht.1) (q2 ht.2)) fun ρ => by rw [ev]
        exact ⟨md, md, md.bo, (fun h => by cases h), fun ht => (bw ht).pt, fun op vs pos e ht => by cases e; exact bw ht⟩
      cases r with
      | nil =>
        have i2 := sE b z sc f X hX h.2
        exact fin (pe_one i2.nf) fun ht => pw_or1 (i2.tt ht)
      | cons w r =>
        simp only [Bool.and_eq_true] at h
        have i2 := sE b (.BoolOp .Or (z :: w :: r) p) sc f X hX h.2.2
        exact fin i2.nf fun ht => i2.bw _ _ _ rfl ht
    · cases h
  | .cmp o a b, x, sc, f, X, hX, h => by
    simp only [chkE] at h
    split at h
    · simp only [Bool.and_eq_true, decide_eq_true_eq] at h
      obtain ⟨⟨⟨rfl, h1⟩, h2⟩, h3⟩ := h
      have i1 := sE a _ sc f X hX h1
      have i2 := sE b _ sc f X hX h2
      exact Snd.tests (eqG (s_cmp hX.K hX.un h3 i1.bo i2.bo) fun ρ => by simp only [evE]) (by simp [mdOf]) (fun _ _ => rfl) (fun ht => eqT (t_cmp hX.K hX.un h3 i1.bo i2.bo) fun ρ => by simp only [evE]) (fun _ _ _ e => by cases e)
    · cases h
  | .cmp2 o o' a b c, x, sc, f, X, hX, h => by
    simp only [chkE] at h
    split at h
    · simp only [Bool.and_eq_true, decide_eq_true_eq] at h
      obtain ⟨⟨⟨⟨⟨rfl, rfl⟩, h1⟩, h2⟩, h3⟩, h4⟩ := h
      have i1 := sE a _ sc f X hX h1
      have i2 := sE b _ sc f X hX h2
      have i3 := sE c _ sc f X hX h3
      refine Snd.tests ((pe_chain (op_cmp (g := g) hX.K hX.un o) (op_cmp (g := g) hX.K hX.un o') i1.nf i2.nf i3.nf (lastm_of h4)).imp fun σ H Q ⟨ρ, k, c, E, q⟩ => ?_) (by simp [mdOf]) (fun _ _ => rfl)
        (fun ht => (pt_chain (op_cmp (g := g) hX.K hX.un o) (op_cmp (g := g) hX.K hX.un o') i1.nf i2.nf i3.nf (lastm_of h4)).imp fun σ H Q ⟨ρ, k, c, E, q⟩ => ?_) (fun _ _ _ e => by cases e)
      · simp only [evE] at q
        exact chain_core E q fun b k' H' p e cu => p _ _ e cu (rpT_bl _)
      · simp only [evE] at q
        exact chain_core E (OkR_mb.mp q) fun b k' H' p e cu => ⟨b, rfl, p _ e cu⟩
    · cases h
  | .ite c a b, x, sc, f, X, hX, h => by
    simp only [chkE] at h
    split at h
    · simp only [Bool.and_eq_true] at h
      obtain ⟨⟨⟨h1, h2⟩, h3⟩, h4⟩ := h
      have i1 := sE c _ sc f X hX h1
      have i2 := sE a _ sc f X hX h3
      have i3 := sE b _ sc f X hX h4
      exact Snd.tests (eqG (s_ite (i1.tt h2) i2.nf i3.nf) fun ρ => by simp only [evE]) (by simp [mdOf]) (fun _ _ => rfl) (fun ht => by simp [tst] at ht) (fun _ _ _ e => by cases e)
    · cases h
  | .call i es, x, sc, f, X, hX, h => by
    simp only [chkE] at h
    split at h
    · simp only [Bool.and_eq_true, decide_eq_true_eq] at h
      obtain ⟨⟨⟨h1, h2⟩, h3⟩, h4⟩ := h
      have ih := sL es _ sc f X hX h4
      refine Snd.plain (eqG (s_call hX h1 h2 (okN_of h3).1 ih.st ih.as fun e => ?_) fun ρ => by simp only [evE]) (by simp [mdOf]) (fun _ _ => rfl) rfl
      have := ih.ln
      rw [e] at this
      have : es = [] := by simpa using this
      subst this
      funext ρ
      simp only [evA]
    · cases h
  | .callb i es, x, sc, f, X, hX, h => by simp [chkE] at h
  | .bi b es, x, sc, f, X, hX, h => by
    simp only [chkE] at h
    split at h
    · rename_i n p xs pos
      split at h
      · rename_i m ty hb
        simp only [Bool.and_eq_true, decide_eq_true_eq, Bool.not_eq_true'] at h
        obtain ⟨⟨⟨rfl, h2⟩, h3⟩, h4⟩ := h
        have ih := sL es xs sc f X hX h3
        cases xs with
        | nil => have := ih.ln; cases es <;> simp at this h4
        | cons y ys =>
          have hm : mdOf (.bi b es) = .fr := by cases b <;> first | rfl | cases hb
          refine Snd.plain (by rw [hm]; exact eqG (s_bi hX hb h2 ih.st ih.lb) fun ρ => by simp only [evE]) (by rw [hm]; simp) (fun _ _ => rfl) rfl
      · cases h
    · cases h
  | .ist t a, x, sc, f, X, hX, h => by
    simp only [chkE] at h
    split at h
    · simp only [Bool.and_eq_true, decide_eq_true_eq] at h
      obtain ⟨⟨⟨⟨⟨rfl, rfl⟩, h2⟩, h3⟩, h4⟩, h5⟩ := h
      have i1 := sE a _ sc f X hX h5
      exact Snd.plain (eqG (s_isT hX h2 h3 h4 i1.bo) fun ρ => by simp only [evE]) (by simp [mdOf]) (fun _ _ => rfl) rfl
    · cases h
  | .rg1 tu a, x, sc, f, X, hX, h => by
    simp only [chkE] at h
    split at h
    · simp only [Bool.and_eq_true, decide_eq_true_eq] at h
      obtain ⟨⟨⟨⟨⟨rfl, rfl⟩, h3⟩, h4⟩, h5⟩, h6⟩ := h
      have i1 := sE a _ sc f X hX h6
      exact Snd.plain (eqG (s_rg hX h3 (prg_1' hX h4 h5 i1.nf)) fun ρ => by simp only [evE, mb_assoc] <;> (congr 1; funext x; cases x <;> rfl)) (by simp [mdOf]) (fun _ _ => rfl) rfl
    · cases h
  | .rg2 tu a b, x, sc, f, X, hX, h => by
    simp only [chkE] at h
    split at h
    · simp only [Bool.and_eq_true, decide_eq_true_eq] at h
      obtain ⟨⟨⟨⟨⟨⟨⟨rfl, rfl⟩, h3⟩, h4⟩, h5⟩, h6⟩, h7⟩, h8⟩ := h
      have i1 := sE a _ sc f X hX h7
      have i2 := sE b _ sc f X hX h8
      exact Snd.plain (eqG (s_rg hX h3 (prg_2' hX h4 h5 h6 i1.nf i2.nf)) fun ρ => by simp only [evE, mb_assoc] <;> (congr 1; funext x; congr 1; funext y; cases x <;> cases y <;> rfl)) (by simp [mdOf]) (fun _ _ => rfl) rfl
    · cases h
  | .comp e t s c, x, sc, f, X, hX, h => by
    simp only [chkE] at h
    split at h
    · rename_i el tg it ifs scope p
      simp only [Bool.and_eq_true, List.all_eq_true, decide_eq_true_eq] at h
      obtain ⟨⟨⟨⟨⟨⟨h1, h2⟩, h3⟩, h4⟩, h5⟩, h6⟩, h7⟩ := h
      have cl : Clauses g ck C cal sc scope t c e tg el ifs := by
        refine ⟨h2, h5, h7, fun f X hX' => ?_, fun f X hX' => (sE e el _ f X hX' h4).nf⟩
        cases ifs with
        | nil =>
          have := yes_of h3
          subst this
          rw [show (fun ρ => mb (evE cal C (.k (.bl true)) ρ) mB) = fun _ => mp true from funext fun ρ => by simp only [evE] <;> rfl]
          exact pts_yes
        | cons y r =>
          cases r with
          | nil =>
            simp only [Bool.and_eq_true] at h3
            exact pts_one ((sE c y _ f X hX' h3.1).tt h3.2)
          | cons _ _ => cases h3
      have nw : PE X (.ListComp el [⟨tg, it, ifs, 0⟩] scope p) (tN g f (evE cal C (.comp e t s c))) := by
        simp only [Bool.or_eq_true] at h1
        rcases h1 with h1 | h1
        · exact s_comp (pos := p) hX cl (sR s it tg sc f X hX h1) h6
        · unfold keysC at h1
          split at h1
          · split at h1
            · simp only [Bool.and_eq_true, decide_eq_true_eq] at h1
              obtain ⟨⟨k1, k2⟩, k3⟩ := h1
              exact s_compK hX cl k1 k2 k3
            · cases h1
          · cases h1
      exact Snd.plain (nw.imp fun _ _ _ => tN_of) (by simp [mdOf]) (fun _ _ => rfl) rfl fun _ => nw
    · cases h
  | .comp2 e t s t' s', x, sc, f, X, hX, h => by simp [chkE] at h
  | .dcomp tu ke ve t s c, x, sc, f, X, hX, h => by
    simp only [chkE] at h
    split at h
    · rename_i kx vx tg it ifs scope p
      simp only [Bool.and_eq_true, List.all_eq_true, decide_eq_true_eq] at h
      obtain ⟨⟨⟨⟨⟨⟨⟨h1, h2⟩, h3⟩, h4⟩, h4v⟩, h5⟩, h6⟩, h7⟩ := h
      have ir := sR s it tg sc f X hX h1
      have cl : Clauses g ck C cal sc scope t c ke tg kx ifs := by
        refine ⟨h2, h5, h7, fun f X hX' => ?_, fun f X hX' => (sE ke kx _ f X hX' h4).nf⟩
        cases ifs with
        | nil =>
          have := yes_of h3
          subst this
          rw [show (fun ρ => mb (evE cal C (.k (.bl true)) ρ) mB) = fun _ => mp true from funext fun ρ => by simp only [evE] <;> rfl]
          exact pts_yes
        | cons y r =>
          cases r with
          | nil =>
            simp only [Bool.and_eq_true] at h3
            exact pts_one ((sE c y _ f X hX' h3.1).tt h3.2)
          | cons _ _ => cases h3
      have nw := s_dcomp (pos := p) (tu := tu) (ve := ve) (vx := vx) (f := f) hX cl (fun f X hX' => (sE ve vx _ f X hX' h4v).nf) ir h6
      exact Snd.plain (nw.imp fun _ _ _ => tN_of) (by simp [mdOf]) (fun _ _ => rfl) rfl fun _ => nw
    · cases h
  | .bs b a, x, sc, f, X, hX, h => by
    simp only [chkE] at h
    split at h
    · split at h
      · simp only [Bool.and_eq_true, decide_eq_true_eq] at h
        obtain ⟨⟨⟨rfl, h2⟩, h3⟩, h4⟩ := h
        have i1 := sE a _ sc f X hX h4
        exact Snd.plain (eqG (s_dict hX h2 h3 i1.bo) fun ρ => by simp only [evE] <;> rfl) (by simp [mdOf]) (fun _ _ => rfl) rfl
      · rename_i b0 z0 hnd
        simp only [Bool.and_eq_true, decide_eq_true_eq] at h
        obtain ⟨⟨⟨⟨⟨rfl, h2⟩, h3⟩, h4⟩, h5⟩, h6⟩ := h
        have i1 := sE a _ sc f X hX h5
        split at h6
        · rw [decide_eq_true_eq] at h6
          subst h6
          exact Snd.plain (eqG (s_lset' hX h2 h3 h4 i1.bo) fun ρ => by simp only [evE]) (by simp [mdOf]) (fun _ _ => rfl) rfl
        · rw [decide_eq_true_eq] at h6
          subst h6
          exact Snd.plain (eqG (s_sset' hX h2 h3 h4 i1.bo) fun ρ => by simp only [evE]) (by simp [mdOf]) (fun _ _ => rfl) rfl
        · cases h6
      · cases h
    · cases h
  | .m1 b a k, x, sc, f, X, hX, h => by
    simp only [chkE] at h
    split at h
    · simp only [Bool.and_eq_true] at h
      obtain ⟨⟨⟨⟨⟨h1, h2⟩, h3⟩, h4⟩, h5⟩, h6⟩ := h
      have i1 := sE a _ sc f X hX h1
      have i2 := sE k _ sc f X hX h2
      split at h6
      · rw [decide_eq_true_eq] at h6
        subst h6
        exact Snd.plain (eqG (s_count hX h3 h4 h5 i1.bo i2.bo) fun ρ => by simp only [evE] <;> rfl) (by simp [mdOf]) (fun _ _ => rfl) rfl
      · rw [decide_eq_true_eq] at h6
        subst h6
        exact Snd.plain (eqG (s_index hX h3 h4 h5 i1.bo i2.bo) fun ρ => by simp only [evE] <;> rfl) (by simp [mdOf]) (fun _ _ => rfl) rfl
      · rw [decide_eq_true_eq] at h6
        subst h6
        exact Snd.plain (eqG (s_join hX h3 h4 h5 i1.bo i2.bo) fun ρ => by simp only [evE] <;> rfl) (by simp [mdOf]) (fun _ _ => rfl) rfl
      · cases h6
    · cases h
  | .m2 b a k l, x, sc, f, X, hX, h => by simp [chkE] at h
termination_by structural ie => ie
theorem sL : ∀ (es : List IE) (xs : List Expr) (sc : Scope) (f : Fm) (X : Cx), XOK g ck C cal sc X → chkL ck sc es xs = true → SndL g f C cal X es xs
  | [], xs, sc, f, X, hX, h => by
    simp only [chkL] at h
    split at h
    · exact ⟨eqLs l_nil fun ρ => by simp only [evL], eqLb lb_nil fun ρ => by simp only [evLB], eqA a_nil fun ρ => by simp only [evA], by simp, rfl⟩
    · cases h
  | e :: es, xs, sc, f, X, hX, h => by
    simp only [chkL] at h
    split at h
    · rename_i x r
      simp only [Bool.and_eq_true] at h
      obtain ⟨⟨h1, h2⟩, h3⟩ := h
      have i1 := sE e x sc f X hX h2
      have i2 := sL es r sc f X hX h3
      exact ⟨eqLs (l_cons h1 i1.nf i2.ls) fun ρ => by simp only [evL], eqLb (lb_cons h1 i1.bo i2.lb) fun ρ => by simp only [evLB], a_any hX h2 i1 h1 i2.as, fun z hz => (List.mem_cons.mp hz).elim (fun q => q ▸ h1) (i2.st z), by simp [i2.ln]⟩
    · cases h
termination_by structural es => es
theorem sR : ∀ (s : Src) (it tg : Expr) (sc : Scope) (f : Fm) (X : Cx), XOK g ck C cal sc X → chkR ck sc s it tg = true → SndR g f C cal X s it tg
  | .pl e, it, tg, sc, f, X, hX, h => by
    simp only [chkR] at h
    have i1 := sE e it sc f X hX h
    exact ⟨eqR (r_pl hX.K (by simp) i1.bo) fun ρ => by simp only [evR], eqR (r_pl hX.K (by simp) i1.nf) fun ρ => by simp only [evRn]⟩
  | .rng es, it, tg, sc, f, X, hX, h => by
    simp only [chkR] at h
    split at h
    · simp only [Bool.and_eq_true, decide_eq_true_eq, Bool.or_eq_true] at h
      obtain ⟨⟨⟨rfl, h2⟩, h3⟩, h4⟩ := h
      have ih := sL es _ sc f X hX h3
      rw [ih.ln] at h4
      have hl : ∀ (ρ : EV.Env) (k : Cup) (P : List D → Cup → Prop), OkR (evL cal C es ρ k) P → OkR (evL cal C es ρ k) fun ds k' => P ds k' ∧ ds.length = _ := fun ρ k P h => (evL_len h).imp fun ds k' ⟨h, l⟩ => ⟨h, l.trans ih.ln⟩
      exact ⟨eqR (r_rng hX h2 ih.st h4 hl ih.ls) fun ρ => by simp only [evR], eqR (r_rng hX h2 ih.st h4 hl ih.ls) fun ρ => by simp only [evRn]⟩
    · cases h
  | .enum e, it, tg, sc, f, X, hX, h => by
    simp only [chkR] at h
    split at h
    · simp only [Bool.and_eq_true, decide_eq_true_eq] at h
      obtain ⟨⟨⟨⟨rfl, h2⟩, h3⟩, h4⟩, h5⟩ := h
      have i1 := sE e _ sc f X hX h3
      split at h5
      · exact ⟨eqR (r_enum hX h2 h4 i1.bo) fun ρ => by simp only [evR], eqR (r_enum hX h2 h4 i1.nf) fun ρ => by simp only [evRn]⟩
      · cases h5
    · cases h
  | .enumz a b, it, tg, sc, f, X, hX, h => by simp [chkR] at h
  | .zip a b, it, tg, sc, f, X, hX, h => by
    simp only [chkR] at h
    split at h
    · simp only [Bool.and_eq_true, decide_eq_true_eq] at h
      obtain ⟨⟨⟨⟨⟨⟨rfl, h2⟩, h3⟩, h4⟩, h5⟩, h6⟩, h7⟩ := h
      have i1 := sE a _ sc f X hX h3
      have i2 := sE b _ sc f X hX h4
      split at h7
      · exact ⟨eqR (r_zip (by simp) hX h2 h5 h6 i1.bo i2.bo) fun ρ => by simp only [evR], eqR (r_zip (by simp) hX h2 h5 h6 i1.nf i2.nf) fun ρ => by simp only [evRn]⟩
      · cases h7
    · cases h
  | .zipn a b, it, tg, sc, f, X, hX, h => by
    simp only [chkR] at h
    split at h
    · simp only [Bool.and_eq_true, decide_eq_true_eq] at h
      obtain ⟨⟨⟨⟨⟨⟨rfl, h2⟩, h3⟩, h4⟩, h5⟩, h6⟩, h7⟩ := h
      have i1 := sE a _ sc f X hX h3
      have i2 := sE b _ sc f X hX h4
      split at h7
      · exact ⟨eqR (r_zipN (by simp) hX h2 h5 h6 i1.bo i2.bo) fun ρ => by simp only [evR], eqR (r_zipN (by simp) hX h2 h5 h6 i1.nf i2.nf) fun ρ => by simp only [evRn]⟩
      · cases h7
    · cases h
  | .items e, it, tg, sc, f, X, hX, h => by simp [chkR] at h
  | .keys e, it, tg, sc, f, X, hX, h => by simp [chkR] at h
termination_by structural s => s
end
end
end EV
end

section
set_option Elab.async false
set_option linter.all false
set_option maxRecDepth 100000
set_option maxHeartbeats 1000000
/-! EvT: statements' readings and rules. -/
namespace EV
open PySem PySem.Spec PyProof.Rows L2
/-- what a statement keeps -/
structure Kp (f : Fm) (ρ : EV.Env) (σ : L2.St) (c : Option Addr) (H : Hp) (ρ' : EV.Env) (σ' : L2.St) (c' : Option Addr) (H' : Hp) : Prop where
  nf : ∀ a o, H a = some o → NF f ρ σ c a → H' a = some o ∧ NF f ρ' σ' c' a
  tup : ∀ a vs, H a = some (.tup vs) → H' a = some (.tup vs)
theorem Kp.trans {f : Fm} {ρ ρ1 ρ2 : EV.Env} {σ σ1 σ2 : L2.St} {c c1 c2 : Option Addr} {H H1 H2 : Hp} (a : Kp f ρ σ c H ρ1 σ1 c1 H1) (b : Kp f ρ1 σ1 c1 H1 ρ2 σ2 c2 H2) : Kp f ρ σ c H ρ2 σ2 c2 H2 :=
  ⟨fun x o h n => b.nf x o (a.nf x o h n).1 (a.nf x o h n).2, fun x vs h => b.tup x vs (a.tup x vs h)⟩
theorem Kp.refl {f : Fm} {ρ : EV.Env} {σ : L2.St} {c : Option Addr} {H : Hp} : Kp f ρ σ c H ρ σ c H := ⟨fun _ _ h n => ⟨h, n⟩, fun _ _ h => h⟩
section
variable {g : G} {f : Fm} {ρ ρ' : EV.Env} {k k' : Cup} {c c' : Option Addr} {σ σ' : L2.St} {H H' : Hp}
theorem Kp.eff (E : EOK g f ρ k c σ H) (e : Eff c H H') (sub : ∀ a, NF f ρ σ c a → NF f ρ' σ' c a) : Kp f ρ σ c H ρ' σ' c H' :=
  ⟨fun a o h n => ⟨e a o h n.2.1, sub a n⟩, e.tup E.cup⟩
theorem Kp.ex2 (K : Kp f ρ σ c H ρ' σ' c' H') : Ex2 g (NF f ρ σ c) (NF f ρ' σ' c') H H' :=
  ex2_of (fun a o n h => ⟨(K.nf a o h n).2, (K.nf a o h n).1⟩) K.tup
/-- what a return brings -/
structure RetOK (g : G) (f : Fm) (k : Cup) (H' : Hp) (d : D) (fr : Bool) (v : V) : Prop where
  old : ∀ a o, f.H0 a = some o → some a ≠ f.c0 → H' a = some o
  cup : CupAt f.c0 k H'
  val : if fr = true then NewAt g f.H0 (NN f.N0 f.H0) H' d v else Rp g (NN f.N0 f.H0) H' d v
theorem EOK.ret (E : EOK g f ρ k c σ H) {d : D} {v : V} (r : Rp g (NF f ρ σ c) H d v) : RetOK g f k H d false v :=
  ⟨E.old, fun a e => E.cup a (by rw [E.c0 (by rw [e]; simp)]; exact e), by simp only [Bool.false_eq_true, if_false]; exact r.mono (fun a n => n.1) Ex.refl⟩
/-- a statement's reading -/
def PostS (g : G) (f : Fm) (ρ : EV.Env) (σ : L2.St) (c : Option Addr) (H : Hp) (D : Ends) : Fl → Cup → Prop := fun fl k' => match fl with
  | .nx ρ' => ∀ σ' c' H', EOK g f ρ' k' c' σ' H' → Kp f ρ σ c H ρ' σ' c' H' → D.nx σ' H'
  | .ct ρ' => ∀ σ' c' H', EOK g f ρ' k' c' σ' H' → Kp f ρ σ c H ρ' σ' c' H' → D.ct σ' H'
  | .rt d fr => ∀ v H', RetOK g f k' H' d fr v → D.rt v H'
def tS (g : G) (f : Fm) (m : EV.Env → M Fl) : TS := fun D σ H => ∃ ρ k c, EOK g f ρ k c σ H ∧ OkR (m ρ k) (PostS g f ρ σ c H D)
theorem PostS.pre {fl : Fl} {k' : Cup} {D : Ends} (K : Kp f ρ σ c H ρ' σ' c' H') (h : PostS g f ρ σ c H D fl k') : PostS g f ρ' σ' c' H' D fl k' := by
  cases fl with
  | nx ρ2 => exact fun σ2 c2 H2 E2 K2 => h σ2 c2 H2 E2 (K.trans K2)
  | ct ρ2 => exact fun σ2 c2 H2 E2 K2 => h σ2 c2 H2 E2 (K.trans K2)
  | rt d fr => exact h
end
section
variable {g : G} {f : Fm} {X : Cx} {st : Stmt} {A : EV.Env → M D} {x y v tg : Expr} {pos : Pos} {t : Tg} {S T : EV.Env → M Fl}
theorem PS.imp {t t' : TS} (h : PS X st t) (i : ∀ D σ H, t' D σ H → t D σ H) : PS X st t' := ⟨fun pins s σ H D I q => h.run pins s σ H D I (i D σ H q)⟩
theorem PSs.imp {sts : List Stmt} {t t' : TS} (h : PSs X sts t) (i : ∀ D σ H, t' D σ H → t D σ H) : PSs X sts t' := ⟨fun pins s σ H D I q => h.run pins s σ H D I (i D σ H q)⟩
theorem st_pass : PS X (.Pass pos) (tS g f fun ρ => mp (.nx ρ)) := PS.imp ps_pass fun D σ H ⟨ρ, k, c, E, q⟩ => q σ c H E Kp.refl
theorem st_cont : PS X (.Continue pos) (tS g f fun ρ => mp (.ct ρ)) := PS.imp ps_continue fun D σ H ⟨ρ, k, c, E, q⟩ => q σ c H E Kp.refl
theorem st_never : PS X st (tS g f fun _ => mf) := PS.imp ps_never fun D σ H ⟨ρ, k, c, E, q⟩ => q
theorem st_exp (ha : PE X x (tG g f .nf A)) (hs : swapsWith x none pos.line X.env = pure false) : PS X (.Expr x pos) (tS g f fun ρ => mb (A ρ) fun _ => mp (.nx ρ)) := by
  refine PS.imp (ps_expr ha hs) fun D σ H ⟨ρ, k, c, E, q⟩ => ?_
  exact tG_seq E q fun d k1 v H1 h e1 E1 r1 => h σ c H1 E1 (Kp.eff E e1 fun _ n => n)
theorem st_ret (ha : PE X x (tG g f .nf A)) : PS X (.Return (some x) pos) (tS g f fun ρ => mb (A ρ) fun d => mp (.rt d false)) := by
  refine PS.imp (ps_ret ha) fun D σ H ⟨ρ, k, c, E, q⟩ => ?_
  exact tG_seq E q fun d k1 v H1 h e1 E1 r1 => h v H1 (E1.ret r1.toRp)
theorem st_asg (hst : notStar tg = true) (ha : PE X v (tG g f .nf A)) (hg : PG X tg (gB g t)) (hs : swapsWithSole [tg] v pos.line X.env = pure false) (hw : swappedStores [tg] v X.env = pure none) :
    PS X (.Assign [tg] v pos) (tS g f fun ρ => mb (A ρ) fun d => mb (mo (t.bind d ρ)) fun ρ' => mp (.nx ρ')) := by
  refine PS.imp (ps_asg ha hg hs hw (by rw [asg_of hst]; rfl)) fun D σ H ⟨ρ, k, c, E, q⟩ => ?_
  refine tG_seq E q fun d k1 v H1 h e1 E1 r1 => ?_
  obtain ⟨ρ', hb, q⟩ := OkR_mo.mp (OkR_mb.mp h)
  exact ⟨f, ρ, k1, c, d, ρ', E1, r1.toRp, hb, fun σ' E' out sub => q σ' c H1 E' (Kp.eff E e1 sub)⟩
/-- the same of any rule that ends in one name -/
theorem nm_core {te : TE} {i : Nat} (hte : ∀ σ H Q, tG g f .nf A σ H Q → te σ H Q) {D : Ends} {σ : L2.St} {H : Hp} (h : tS g f (fun ρ => mb (A ρ) fun d => mb (mo (Tg.bind (.nm i) d ρ)) fun ρ' => mp (.nx ρ')) D σ H) : tAsg te (gName i) D σ H := by
  obtain ⟨ρ, k, c, E, q⟩ := h
  refine hte _ _ _ (tG_seq E q fun d k1 v H1 h e1 E1 r1 => ?_)
  obtain ⟨ρ', hb, q⟩ := OkR_mo.mp (OkR_mb.mp h)
  simp only [Tg.bind] at hb
  cases hb
  obtain ⟨E', sub⟩ := E1.setVal (i := i) r1.toRp
  exact q _ c H1 E' (Kp.eff E e1 sub)
/-- a slot gets a list or dict that nothing else means -/
theorem EOK.setOwn {ρ : EV.Env} {k k' : Cup} {c : Option Addr} {σ : L2.St} {H H' : Hp} (E : EOK g f ρ k c σ H) {i : Nat} {d : D} {a : Addr} (cu : CupAt c k' H') (hf : f.H0 a = none) (hc : some a ≠ c) (hb : ¬ f.B a)
    (hn : ∀ (j : Nat) (e : D), j ≠ i → ρ[j]? = some (Slot.own e) → σ[j]? ≠ some (some (V.ref a))) (ho : OwnAt g (fun b => NF f ρ σ c b ∧ b ≠ a) H' a d) (kp : ∀ b o, H b = some o → b ≠ a → some b ≠ c → H' b = some o)
    (ex : Ex2 g (NF f ρ σ c) (fun b => NF f ρ σ c b ∧ b ≠ a) H H') (hbar : ∀ b, f.B b → H' b ≠ none) :
    EOK g f (ρ.set i (.own d)) k' c (σ.set i (some (.ref a))) H' ∧ ∀ b, NF f ρ σ c b → b ≠ a → NF f (ρ.set i (.own d)) (σ.set i (some (.ref a))) c b := by
  have hsub : ∀ b, NF f ρ σ c b ∧ b ≠ a → NF f (ρ.set i (.own d)) (σ.set i (some (.ref a))) c b := fun b ⟨n, ne⟩ => ⟨n.1, n.2.1, n.2.2.1, fun j e hj => by
    rcases set_get hj with ⟨rfl, _, hl⟩ | ⟨nj, hj⟩
    · rw [List.getElem?_set_self (by rw [← E.len]; exact hl)]
      intro q
      injection q with q
      injection q with q
      injection q with q
      exact ne q.symm
    · rw [List.getElem?_set_ne (Ne.symm nj)]
      exact n.2.2.2 j e hj⟩
  have ex : Ex2 g (NF f ρ σ c) (NF f (ρ.set i (.own d)) (σ.set i (some (.ref a))) c) H H' := ⟨ex.tup, fun b vs n r => ⟨hsub b (ex.lst b vs n r).1, (ex.lst b vs n r).2⟩, fun b vs n r => ⟨hsub b (ex.dk b vs n r).1, (ex.dk b vs n r).2⟩, fun b vs n r => ⟨hsub b (ex.dt b vs n r).1, (ex.dt b vs n r).2⟩⟩
  refine ⟨⟨cu, E.c0, E.cn, E.h0, E.n0, fun b o h n => ?_, by simp [E.len], fun j s hs => ?_, fun j1 j2 d1 d2 b h1 h2 h3 h4 => ?_, fun b hb => ⟨hbar b hb, (E.bar b hb).2⟩⟩, fun b n ne => hsub b ⟨n, ne⟩⟩
  · refine kp b o (E.old b o h n) (fun z => by rw [z, hf] at h; cases h) fun q => ?_
    by_cases cc : c = f.c0
    · exact n (by rw [← cc]; exact q)
    · have := E.cn cc b q.symm
      rw [h] at this; cases this
  · rcases set_get hs with ⟨rfl, rfl, hl⟩ | ⟨nj, hs⟩
    · exact ⟨a, List.getElem?_set_self (by rw [← E.len]; exact hl), hf, hc, hb, OwnAt.mono2 ho ⟨fun _ _ h => h, fun b _ n h => ⟨hsub b n, h⟩, fun b _ n h => ⟨hsub b n, h⟩, fun b _ n h => ⟨hsub b n, h⟩⟩ fun _ h => h⟩
    · have := E.slot j s hs
      have e : (σ.set i (some (V.ref a)))[j]? = σ[j]? := List.getElem?_set_ne (Ne.symm nj)
      cases s with
      | no => trivial
      | val d =>
        obtain ⟨v, h3, h4⟩ := this
        exact ⟨v, e.trans h3, h4.mono2 ex⟩
      | own d =>
        obtain ⟨b, h3, h4, h5, h6, h7⟩ := this
        exact ⟨b, e.trans h3, h4, h5, h6, OwnAt.mono2 h7 ex fun o h => kp b o h (fun z => hn j d nj hs (by rw [← z]; exact h3)) h5⟩
      | cup =>
        obtain ⟨b, h3, h4⟩ := this
        exact ⟨b, h3, e.trans h4⟩
  · rcases set_get h1 with ⟨e1, _, hl⟩ | ⟨n1, h1'⟩
    · rcases set_get h2 with ⟨e2, _, _⟩ | ⟨n2, h2'⟩
      · rw [e1, e2]
      · rw [e1, List.getElem?_set_self (by rw [← E.len]; exact hl)] at h3
        rw [List.getElem?_set_ne (Ne.symm n2)] at h4
        cases h3
        exact absurd h4 (hn j2 d2 n2 h2')
    · rw [List.getElem?_set_ne (Ne.symm n1)] at h3
      rcases set_get h2 with ⟨e2, _, hl⟩ | ⟨n2, h2'⟩
      · rw [e2, List.getElem?_set_self (by rw [← E.len]; exact hl)] at h4
        cases h4
        exact absurd h3 (hn j1 d1 n1 h1')
      · rw [List.getElem?_set_ne (Ne.symm n2)] at h4
        exact E.uniq j1 j2 d1 d2 b h1' h2' h3 h4
theorem own_some {ρ : EV.Env} {k : Cup} {c : Option Addr} {σ : L2.St} {H : Hp} (E : EOK g f ρ k c σ H) {j : Nat} {e : D} {a : Addr} (h : ρ[j]? = some (Slot.own e)) (ha : H a = none) : σ[j]? ≠ some (some (V.ref a)) := fun q => by
  obtain ⟨b, h1, _, _, _, h2⟩ := E.slot j _ h
  rw [q] at h1
  cases h1
  obtain ⟨o, h⟩ := OwnAt.isSome h2
  rw [h] at ha; cases ha
/-- a slot gets a new list or dict -/
theorem EOK.setNew {ρ : EV.Env} {k k' : Cup} {c : Option Addr} {σ : L2.St} {H H' : Hp} (E : EOK g f ρ k c σ H) {i : Nat} {d : D} {v : V} (e : Eff c H H') (cu : CupAt c k' H') (n : NewAt g H (NF f ρ σ c) H' d v) :
    EOK g f (ρ.set i (.own d)) k' c (σ.set i (some v)) H' ∧ Kp f ρ σ c H (ρ.set i (.own d)) (σ.set i (some v)) c H' := by
  obtain ⟨a, rfl, h1, h2⟩ := n
  obtain ⟨h3, h4⟩ := E.h0none h1
  have ex : Ex2 g (NF f ρ σ c) (fun b => NF f ρ σ c b ∧ b ≠ a) H H' := e.ex2 E.cup fun b o q n => ⟨n.2.1, n, ne_of_none q h1⟩
  obtain ⟨E', sub⟩ := E.setOwn (i := i) cu h3 h4 (fun b => (E.bar a b).1 h1) (fun j e _ hj => own_some E hj h1) h2 (fun b o q _ nc => e b o q nc) ex (fun b hb q => (E.bar b hb).1 (e.some' (k := k') cu q))
  exact ⟨E', ⟨fun b o q n => ⟨e b o q n.2.1, sub b n (ne_of_none q h1)⟩, e.tup E.cup⟩⟩
/-- an own list or dict is written -/
theorem EOK.write {ρ : EV.Env} {k : Cup} {c : Option Addr} {σ : L2.St} {H : Hp} (E : EOK g f ρ k c σ H) {i : Nat} {d0 d : D} {a : Addr} {o : HO} (hi : ρ[i]? = some (.own d0)) (hs : σ[i]? = some (some (.ref a)))
    (ho : OwnAt g (fun b => NF f ρ σ c b ∧ b ≠ a) (upd H a o) a d) : EOK g f (ρ.set i (.own d)) k c σ (upd H a o) ∧ Kp f ρ σ c H (ρ.set i (.own d)) σ c (upd H a o) := by
  obtain ⟨a', h1, h2, h3, h4, h5⟩ := E.slot i _ hi
  rw [hs] at h1
  cases h1
  have hσ : σ.set i (some (V.ref a)) = σ := by
    refine List.ext_getElem? fun j => ?_
    by_cases e : i = j
    · subst e
      obtain ⟨hl, _⟩ := List.getElem?_eq_some_iff.mp hs
      rw [List.getElem?_set_self hl, hs]
    · rw [List.getElem?_set_ne e]
  have nt : ∀ vs, H a ≠ some (.tup vs) := fun vs q => by
    cases d0 <;> simp only [OwnAt] at h5
    · obtain ⟨_, h, _⟩ := h5; rw [q] at h; cases h
    · rcases h5 with ⟨_, h, _⟩ | ⟨_, h, _⟩ <;> (rw [q] at h; cases h)
  have ne : ∀ b u, H b = some u → NF f ρ σ c b → b ≠ a := fun b u q n z => n.2.2.2 i d0 hi (by rw [z]; exact hs)
  have tup : ∀ b vs, H b = some (.tup vs) → upd H a o b = some (.tup vs) := fun b vs q => by
    rw [upd_ne fun z => nt vs (by rw [← z]; exact q)]; exact q
  have ex : Ex2 g (NF f ρ σ c) (fun b => NF f ρ σ c b ∧ b ≠ a) H (upd H a o) := ex2_of (fun b u n q => ⟨⟨n, ne b u q n⟩, by rw [upd_ne (ne b u q n)]; exact q⟩) tup
  obtain ⟨E', sub⟩ := E.setOwn (i := i) (fun b e => by rw [upd_ne fun z => h3 (by rw [← z]; exact e.symm)]; exact E.cup b e) h2 h3 h4 (fun j e nj hj q => nj (E.uniq j i e d0 a hj hi q hs)) ho
    (fun b u q nb _ => by rw [upd_ne nb]; exact q) ex (fun b hb => by rw [upd_ne fun z => h4 (by rw [← z]; exact hb)]; exact (E.bar b hb).1)
  rw [hσ] at E' sub
  exact ⟨E', ⟨fun b u q n => ⟨by rw [upd_ne (ne b u q n)]; exact q, sub b n (ne b u q n)⟩, tup⟩⟩
/-- own becomes a plain value -/
theorem EOK.frz {ρ : EV.Env} {k : Cup} {c : Option Addr} {σ : L2.St} {H : Hp} (E : EOK g f ρ k c σ H) {i : Nat} {d : D} (hi : ρ[i]? = some (.own d)) : EOK g f (ρ.set i (.val d)) k c σ H ∧ Kp f ρ σ c H (ρ.set i (.val d)) σ c H := by
  obtain ⟨a, h1, h2, h3, h4, h5⟩ := E.slot i _ hi
  have own : ∀ (j : Nat) (e : D), (ρ.set i (.val d))[j]? = some (Slot.own e) → ∃ e', ρ[j]? = some (Slot.own e') ∧ σ[j]? = σ[j]? := fun j e h => by
    rcases set_get h with ⟨_, h, _⟩ | ⟨n, h⟩
    · cases h
    · exact ⟨e, h, rfl⟩
  have sub := nf_sub (f := f) (c := c) own
  have na : NF f (ρ.set i (.val d)) σ c a := ⟨.inr h2, h3, h4, fun j e hj q => by
    rcases set_get hj with ⟨_, hj, _⟩ | ⟨n, hj⟩
    · cases hj
    · exact n (E.uniq j i e d a hj hi q h1)⟩
  refine ⟨E.slots (by simp [E.len]) fun j s h => ?_, ⟨fun b o q n => ⟨q, sub b n⟩, fun _ _ q => q⟩⟩
  rcases set_get h with ⟨rfl, rfl, hl⟩ | ⟨n, h⟩
  · exact .inr (.inr ⟨d, .ref a, rfl, h1, (RpT.mono (T' := NF f (ρ.set j (.val d)) σ c) (fun b hb => by rw [show b = a from hb]; exact na) sub ⟨fun _ _ h => h, fun _ _ _ h => h, fun _ _ _ h => h, fun _ _ _ h => h⟩ (OwnAt.toT (T := fun b => b = a) h5 rfl)).toRp⟩)
  · exact .inl ⟨h, rfl⟩
/-- the cup is written -/
theorem EOK.pour {ρ : EV.Env} {k k' : Cup} {c : Option Addr} {σ : L2.St} {H : Hp} (E : EOK g f ρ k c σ H) {a : Addr} (hc : c = some a) : EOK g f ρ k' c σ (upd H a (.lst [.int k'.1, .int k'.2])) ∧ Eff c H (upd H a (.lst [.int k'.1, .int k'.2])) := by
  have e : Eff c H (upd H a (.lst [.int k'.1, .int k'.2])) := fun b o q n => by rw [upd_ne fun z => n (by rw [hc, z])]; exact q
  exact ⟨E.eff e fun b q => by rw [hc] at q; cases q; exact upd_same, e⟩
end
end EV
end

section
set_option Elab.async false
set_option linter.all false
set_option maxRecDepth 100000
set_option maxHeartbeats 1000000
/-! EvU: rules of statements. -/
namespace EV
open PySem PySem.Spec PyProof.Rows L2
section
variable {g : G} {f : Fm} {X : Cx} {st : Stmt} {A B : EV.Env → M D} {x y v tg o e : Expr} {pos pos' apos : Pos} {t : Tg} {S T : EV.Env → M Fl} {i : Nat} {n : Str}
/-! ### a name's slot -/
structure Nm (ck : Ck) (X : Cx) (i : Nat) (n : Str) : Prop where
  ix : X.N[i]? = some n
  nd : X.N.Nodup
  loc : Loc X.env.scope n
  fn : X.fn n = true ∨ X.env.scope.names.lookup n = some .local
theorem Nm.vis {ck : Ck} (h : Nm ck X i n) : Vis X.env.scope n := h.loc.elim .inl fun z => .inr (.inl z)
theorem own_core {te : TE} (hte : ∀ σ H Q, tN g f A σ H Q → te σ H Q) {D : Ends} {σ : L2.St} {H : Hp} (h : tS g f (fun ρ => mb (A ρ) fun d => mp (.nx (ρ.set i (.own d)))) D σ H) : tAsg te (gName i) D σ H := by
  obtain ⟨ρ, k, c, E, q⟩ := h
  refine hte _ _ _ ⟨ρ, k, c, E, (OkR_mb.mp q).imp fun d k1 h v H1 e1 cu nw => ?_⟩
  obtain ⟨E', K⟩ := E.setNew (i := i) e1 cu nw
  exact h _ c H1 E' K
theorem st_own {ck : Ck} (hn : Nm ck X i n) (ha : PE X v (tN g f A)) (hs : swapsWithSole [.Name n pos'] v pos.line X.env = pure false) (hw : swappedStores [.Name n pos'] v X.env = pure none) :
    PS X (.Assign [.Name n pos'] v pos) (tS g f fun ρ => mb (A ρ) fun d => mp (.nx (ρ.set i (.own d)))) :=
  PS.imp (ps_asg ha (pg_name hn.nd hn.ix hn.loc hn.fn) hs hw) fun D σ H q => own_core (fun _ _ _ h => h) q
theorem st_setc {ck : Ck} {b : Bool} {j : Int} {jj : Nat} {p1 p2 : Pos} (hj : j = if b then 1 else 0) (hn : Nm ck X i n) (hd : okN n = true) (ha : PE X v (tG g f .nf A)) (hs : swapsWithSole [.Subscript (.Name n pos') (.Constant (.int j) jj p1) p2] v pos.line X.env = pure false)
    (hw : swappedStores [.Subscript (.Name n pos') (.Constant (.int j) jj p1) p2] v X.env = pure none) :
    PS X (.Assign [.Subscript (.Name n pos') (.Constant (.int j) jj p1) p2] v pos) (tS g f fun ρ => mb (A ρ) fun d => match EV.Env.get ρ i, d with
      | .cup, .int n => fun k => .ok (.nx ρ) (if b then (k.1, n) else (n, k.2))
      | _, _ => mf) := by
  refine PS.imp (ps_asg ha (pg_sub (pe_var hn.ix hn.vis (okN_of hd).1 (okN_of hd).2) pe_int set_list) hs hw) fun D σ H ⟨ρ, k, c, E, q⟩ => ?_
  refine tG_seq E q fun d k1 v H1 h e1 E1 r1 => ?_
  cases hsl : EV.Env.get ρ i <;> cases d <;> simp only [hsl] at h <;> try exact (OkR_mf h).elim
  rename_i m
  obtain ⟨a, h1, h2⟩ := E1.slot i _ (getD_of hsl (by simp))
  simp only [topW, RpT, Rp] at r1
  subst r1
  refine ⟨.ref a, h2, a, [.int k1.1, .int k1.2], j, j.toNat, rfl, rfl, E1.cup a h1, ?_, ?_⟩
  · subst hj; cases b <;> rfl
  · obtain ⟨E2, e2⟩ := E1.pour (k' := if b then (k1.1, m) else (m, k1.2)) h1
    have : ([.int k1.1, .int k1.2] : List V).set j.toNat (.int m) = [.int (if b then (k1.1, m) else (m, k1.2)).1, .int (if b then (k1.1, m) else (m, k1.2)).2] := by
      subst hj; cases b <;> rfl
    rw [this]
    exact h σ c _ E2 (Kp.eff E (e1.trans e2) fun _ n => n)
theorem st_app {ck : Ck} (hn : Nm ck X i n) (hd : okN n = true) (hst : notStar e = true) (ha : PE X e (tG g f .nf A)) (hline : (apos.endLine == pos'.line) = true) :
    PS X (.Expr (.Call (.Attribute (.Name n p) "append" apos) [e] [] pos') pos) (tS g f fun ρ => mb (A ρ) fun d => match EV.Env.get ρ i with
      | .own (.lst xs) => mb (mlen (xs.length + 1)) fun _ => mp (.nx (ρ.set i (.own (.lst (xs ++ [d])))))
      | _ => mf) := by
  have hs1 := star_of (env := X.env) (es := []) hst
  refine PS.imp (ps_expr (pe_bm PySem.F.plainAttrs_list PySem.F.slot_list_append PySem.F.type_list_append mt_append (pe_var hn.ix hn.vis (okN_of hd).1 (okN_of hd).2) (pa_cons ha pa_nil hs1) rfl (by rw [hs1]; rfl) hline hs1 rfl) rfl) fun D σ H ⟨ρ, k, c, E, q⟩ => ?_
  obtain ⟨d0, k0, hd0, q'⟩ := OkR_ex (OkR_mb.mp q)
  cases hsl : EV.Env.get ρ i <;> simp only [hsl] at q' q <;> try exact (OkR_mf q').elim
  rename_i dd
  cases dd <;> simp only at q' q <;> try exact (OkR_mf q').elim
  rename_i xs
  obtain ⟨a, h1, h2, h3, h4, vs, h5, h6⟩ := E.slot i _ (getD_of hsl (by simp))
  refine ⟨.ref a, h1, .inl ⟨rfl, vs, .inl (.inl h5)⟩, tG_seq E q fun d k1 v H1 h e1 E1 r1 => ?_⟩
  have h := OkR_mb.mp h
  unfold mlen at h
  split at h
  · rename_i hz
    have h : PostS g f ρ σ c H D (.nx (ρ.set i (.own (.lst (xs ++ [d]))))) k1 := h
    have hH1 := e1 a _ h5 h3
    have hl := h6.length
    refine ⟨a, vs, v, rfl, rfl, hH1, by rw [LIM_eq]; omega, ?_⟩
    have r6 := h6.eff e1 E.cup fun a n => nfc n
    have ne : ∀ b u, H1 b = some u → NF f ρ σ c b → b ≠ a := fun b u q n z => n.2.2.2 i _ (getD_of hsl (by simp)) (by rw [z]; exact h1)
    have ex : Ex2 g (NF f ρ σ c) (fun b => NF f ρ σ c b ∧ b ≠ a) H1 (upd H1 a (.lst (vs ++ [v]))) := ex2_of (fun b u n q => ⟨⟨n, ne b u q n⟩, by rw [upd_ne (ne b u q n)]; exact q⟩) fun b us q => by
      rw [upd_ne fun z => by rw [z, hH1] at q; cases q]; exact q
    obtain ⟨E2, K2⟩ := E1.write (i := i) (d := .lst (xs ++ [d])) (getD_of hsl (by simp)) h1 ⟨vs ++ [v], upd_same, (r6.mono2 ex).append (Rps.cons (r1.toRp.mono2 ex) Rps.nil)⟩
    exact h σ c _ E2 ((Kp.eff E e1 fun _ n => n).trans K2)
  · exact (OkR_mf h).elim
theorem st_popi {ck : Ck} {j : Nat} {m : Str} (hm : Nm ck X j m) (hn : Nm ck X i n) (hd : okN n = true) (hline : (apos.endLine == pos'.line) = true) :
    PS X (.Assign [.Name m p1] (.Call (.Attribute (.Name n p) "pop" apos) [] [] pos') pos) (tS g f fun ρ => match EV.Env.get ρ i with
      | .own (.lst xs) => (match xs.reverse with
        | x :: r => mp (.nx ((ρ.set i (.own (.lst r.reverse))).set j (.val x)))
        | [] => mf)
      | _ => mf) := by
  refine PS.imp (ps_asg (pe_bm0 PySem.F.plainAttrs_list PySem.F.slot_list_pop PySem.F.type_list_pop mt_pop (pe_var hn.ix hn.vis (okN_of hd).1 (okN_of hd).2) rfl hline) (pg_name hm.nd hm.ix hm.loc hm.fn) rfl rfl) fun D σ H ⟨ρ, k, c, E, q⟩ => ?_
  cases hsl : EV.Env.get ρ i <;> simp only [hsl] at q <;> try exact (OkR_mf q).elim
  rename_i dd
  cases dd <;> simp only at q <;> try exact (OkR_mf q).elim
  rename_i xs
  have hρ := getD_of hsl (by simp)
  obtain ⟨a, h1, h2, h3, h4, vs, h5, h6⟩ := E.slot i _ hρ
  cases hr : xs.reverse with
  | nil => rw [hr] at q; exact (OkR_mf q).elim
  | cons d r =>
    rw [hr] at q
    have h : PostS g f ρ σ c H D (.nx ((ρ.set i (.own (.lst r.reverse))).set j (.val d))) k := q
    have hxs : xs = r.reverse ++ [d] := by
      have := congrArg List.reverse hr
      simpa using this
    subst hxs
    obtain ⟨us, w, rfl, r1, r2⟩ : ∃ us w, vs = us ++ [w] ∧ Rps g (NF f ρ σ c) H r.reverse us ∧ Rp g (NF f ρ σ c) H d w := by
      have hrr := h6.reverse
      rw [List.reverse_append, List.reverse_singleton, List.singleton_append, List.reverse_reverse] at hrr
      simp only [Rps] at hrr
      obtain ⟨w, us, e, h7, h8⟩ := hrr
      refine ⟨us.reverse, w, ?_, h8.reverse, h7⟩
      have := congrArg List.reverse e
      simpa using this
    refine ⟨.ref a, h1, .inl ⟨rfl, _, .inl (.inl h5)⟩, a, _, w, rfl, rfl, h5, by simp, ?_⟩
    have ne : ∀ b u, H b = some u → NF f ρ σ c b → b ≠ a := fun b u q n z => n.2.2.2 i _ hρ (by rw [z]; exact h1)
    have ex : Ex2 g (NF f ρ σ c) (fun b => NF f ρ σ c b ∧ b ≠ a) H (upd H a (.lst us)) := ex2_of (fun b u n q => ⟨⟨n, ne b u q n⟩, by rw [upd_ne (ne b u q n)]; exact q⟩) fun b us' q => by
      rw [upd_ne fun z => by rw [z, h5] at q; cases q]; exact q
    obtain ⟨E2, K2⟩ := E.write (i := i) (d := .lst r.reverse) hρ h1 ⟨us, upd_same, r1.mono2 ex⟩
    have rw' : Rp g (NF f (ρ.set i (.own (.lst r.reverse))) σ c) (upd H a (.lst us)) d w := r2.mono2 K2.ex2
    obtain ⟨E3, sub⟩ := E2.setVal (i := j) rw'
    have e : (us ++ [w]).dropLast = us := by simp
    rw [e]
    exact h _ c _ E3 (K2.trans ⟨fun b u q n => ⟨q, sub b n⟩, fun _ _ q => q⟩)
def rExtR : R2 := fun x y H Q => ∃ l b xs zs, x = .ref l ∧ y = .ref b ∧ H l = some (.lst xs) ∧ Rd H b (.lst zs) ∧ xs.length + zs.length ≤ sizeLine ∧ Q (.ref l) (upd H l (.lst (xs ++ zs)))
theorem iop_extR : OpR X (inplaceOp .Add) rExtR := by
  intro pins s σ H x y v u Q I rx ry h
  obtain ⟨l, b, xs, zs, rfl, rfl, hH, hB, hz, q⟩ := h
  cases rx
  cases ry
  obtain ⟨z, its, n, r, hl, e⟩ := I.lstM hH
  obtain ⟨z2, its2, n2, r2, hl2, e2⟩ := rd_lstM I hB
  have hsz : its.toArray.size + its2.toArray.size ≤ sizeLine := by rw [List.size_toArray, List.size_toArray]; omega
  have hlong : ¬ (!its.toArray.isEmpty && Builtin.List.listTooLong (its.toArray.size + its2.toArray.size)) = true := by
    rw [notLongL hsz, Bool.and_false]
    exact Bool.false_ne_true
  refine iadd_road ⟨_, e, rfl⟩ ⟨_, e2, rfl⟩ (call_meets PySem.F.slot_list_iadd ⟨_, e, rfl⟩ PySem.F.entry_list_iadd (PySem.F.args_list_iadd_2 _ _)
    (AutoSeq1.list___iadd___list_list_0 l its.toArray n b its2.toArray n2 hlong (by rw [List.size_toArray]; omega) (by omega)) ⟨e, e2, ?_⟩)
  refine ⟨.ref l, _, I.lset (its' := its ++ its2) (t' := s.toks) hH e (by simp) (r.append r2) ?_, rfl, q⟩
  rw [List.length_append]
  omega
end
end EV
end

section
set_option Elab.async false
set_option linter.all false
set_option maxRecDepth 100000
set_option maxHeartbeats 1000000
/-! EvV: more rules of statements. -/
namespace EV
open PySem PySem.Spec PyProof.Rows L2
section
variable {g : G} {f : Fm} {X : Cx} {st : Stmt} {A B : EV.Env → M D} {x y v tg o e : Expr} {pos pos' apos : Pos} {t : Tg} {S T : EV.Env → M Fl} {i : Nat} {n : Str} {a b : List Stmt} {it : Expr}
theorem ex2_write {ρ : EV.Env} {c : Option Addr} {σ : L2.St} {H : Hp} {d0 : D} {a : Addr} {xs : List V} {o : HO} (hρ : ρ[i]? = some (.own d0)) (hs : σ[i]? = some (some (.ref a))) (hH : H a = some (.lst xs)) :
    Ex2 g (NF f ρ σ c) (fun b => NF f ρ σ c b ∧ b ≠ a) H (upd H a o) := by
  have ne : ∀ b u, H b = some u → NF f ρ σ c b → b ≠ a := fun b u q n z => n.2.2.2 i _ hρ (by rw [z]; exact hs)
  exact ex2_of (fun b u n q => ⟨⟨n, ne b u q n⟩, by rw [upd_ne (ne b u q n)]; exact q⟩) fun b us q => by
    rw [upd_ne fun z => by rw [z, hH] at q; cases q]; exact q
theorem st_aug {ck : Ck} (hn : Nm ck X i n) (ha : PE X v (tG g f .nf A)) : PS X (.AugAssign (.Name n pos') .Add v pos) (tS g f fun ρ => match EV.Env.get ρ i with
      | .own (.lst xs) => mb (A ρ) fun d => mb (mo (itemsD d)) fun ys => mb (mlen (xs.length + ys.length)) fun _ => (match d with | .lst _ => mp (.nx (ρ.set i (.own (.lst (xs ++ ys))))) | _ => mf)
      | .val (.int a) => mb (A ρ) fun d => (match d with | .int b => mp (.nx (ρ.set i (.val (.int (a + b))))) | _ => mf)
      | .val (.str a) => mb (A ρ) fun d => (match d with | .str b => mb (mlen (a.length + b.length)) fun _ => mp (.nx (ρ.set i (.val (.str (a ++ b))))) | _ => mf)
      | _ => mf) := by
  refine PS.imp (ps_aug hn.nd hn.ix hn.loc ha (OpR.or iop_extR (OpR.or iop_add iop_add_str)) hn.fn) fun D σ H ⟨ρ, k, c, E, q⟩ => ?_
  cases hsl : EV.Env.get ρ i <;> simp only [hsl] at q <;> try exact (OkR_mf q).elim
  · rename_i dd
    have hρ := getD_of hsl (by simp)
    obtain ⟨w, h1, h2⟩ := E.slot i _ hρ
    cases dd <;> simp only at q <;> try exact (OkR_mf q).elim
    · rename_i a
      refine ⟨w, h1, tG_seq E q fun d k1 u H1 h e1 E1 r1 => ?_⟩
      cases d <;> simp only at h <;> try exact (OkR_mf h).elim
      rename_i b
      simp only [topW, RpT, Rp] at h2 r1
      subst h2 r1
      refine .inr (.inl ⟨a, b, rfl, rfl, ?_⟩)
      obtain ⟨E2, sub⟩ := E1.setVal (i := i) (d := .int (a + b)) (v := .int (a + b)) (by simp only [Rp])
      exact h _ c H1 E2 (Kp.eff E e1 sub)
    · rename_i a
      refine ⟨w, h1, tG_seq E q fun d k1 u H1 h e1 E1 r1 => ?_⟩
      cases d <;> simp only at h <;> try exact (OkR_mf h).elim
      rename_i b
      unfold mlen at h
      split at h
      · rename_i hz
        simp only [topW, RpT, Rp] at h2 r1
        obtain ⟨rfl, ok2⟩ := h2
        obtain ⟨rfl, ok1⟩ := r1
        refine .inr (.inr ⟨strL a, strL b, rfl, rfl, by rw [strL_len, strL_len, LIM_eq]; exact hz, ?_⟩)
        rw [strL_app]
        obtain ⟨E2, sub⟩ := E1.setVal (i := i) (d := .str (a ++ b)) (v := .str (strL (a ++ b))) (Rp_str (okS_app ok2 ok1 hz))
        exact h _ c H1 E2 (Kp.eff E e1 sub)
      · exact h.elim
  · rename_i dd
    cases dd <;> simp only at q <;> try exact (OkR_mf q).elim
    rename_i xs
    have hρ := getD_of hsl (by simp)
    obtain ⟨a, h1, h2, h3, h4, vs, h5, h6⟩ := E.slot i _ hρ
    refine ⟨.ref a, h1, tG_seq E q fun d k1 u H1 h e1 E1 r1 => ?_⟩
    obtain ⟨ys, hy, h⟩ := OkR_mo.mp (OkR_mb.mp h)
    have h := OkR_mb.mp h
    unfold mlen at h
    split at h
    · rename_i hz
      obtain ⟨zs, rfl⟩ : ∃ zs, d = .lst zs := by
        cases d <;> first | exact ⟨_, rfl⟩ | exact (show False from h).elim
      simp only [itemsD] at hy
      obtain rfl := Option.some.inj hy
      have h : PostS g f ρ σ c H D (.nx (ρ.set i (.own (.lst (xs ++ zs))))) k1 := h
      simp only [topW, RpT] at r1
      obtain ⟨b, us, rfl, nb, rd, rs⟩ := r1
      have hH1 := e1 a _ h5 h3
      have hl := h6.length
      have hl2 := rs.length
      refine .inl ⟨a, b, vs, us, rfl, rfl, hH1, rd, by rw [LIM_eq]; omega, ?_⟩
      have r6 := h6.eff e1 E.cup fun a n => nfc n
      have ex := ex2_write (g := g) (f := f) (c := c) (o := .lst (vs ++ us)) hρ h1 hH1
      obtain ⟨E2, K2⟩ := E1.write (i := i) (d := .lst (xs ++ zs)) hρ h1 ⟨vs ++ us, upd_same, (r6.mono2 ex).append (rs.mono2 ex)⟩
      have hσ : σ.set i (some (V.ref a)) = σ := by
        refine List.ext_getElem? fun j => ?_
        by_cases e : i = j
        · subst e
          obtain ⟨hl, _⟩ := List.getElem?_eq_some_iff.mp h1
          rw [List.getElem?_set_self hl, h1]
        · rw [List.getElem?_set_ne e]
      show D.nx (σ.set i (some (V.ref a))) _
      rw [hσ]
      exact h σ c _ E2 ((Kp.eff E e1 fun _ n => n).trans K2)
    · exact h.elim
theorem asub_of {o y : Expr} {p : Pos} {env : PySem.Env} (h : plainIx y = true) (v : Value) : assign (.Subscript o y p) env v = (do
    let ov ← holding [v] (eval o env)
    let iv ← holding [v, ov] (eval y env)
    standAt p
    holding [v, ov, iv] (setItem ov iv v)
    release [v, ov, iv] []) := by
  cases y <;> first | rfl | cases h
theorem ixN_place {n : Nat} {i : Int} : ixN n i = placeOf n i := rfl
/-- x[j] = e, x a list of the def's own -/
theorem st_sets {ck : Ck} (hpi : plainIx y = true) (hn : Nm ck X i n) (hd : okN n = true) (ha : PE X v (tG g f .nf A)) (hb : PE X y (tG g f .nf B)) (hs : swapsWithSole [.Subscript (.Name n pos') y apos] v pos.line X.env = pure false)
    (hw : swappedStores [.Subscript (.Name n pos') y apos] v X.env = pure none) :
    PS X (.Assign [.Subscript (.Name n pos') y apos] v pos) (tS g f fun ρ => mb (A ρ) fun d => mb (B ρ) fun j => match EV.Env.get ρ i, j with
      | .own (.lst xs), .int j => mb (mo (setL xs j d)) fun ys => mp (.nx (ρ.set i (.own (.lst ys))))
      | _, _ => mf) := by
  refine PS.imp (ps_asg ha (pg_sub (pe_var hn.ix hn.vis (okN_of hd).1 (okN_of hd).2) hb set_list (asub_of hpi)) hs hw) fun D σ H ⟨ρ, k, c, E, q⟩ => ?_
  refine tG_seq E q fun d k1 v H1 h e1 E1 r1 => ?_
  obtain ⟨d2, k2, hd2, q'⟩ := OkR_ex (OkR_mb.mp h)
  cases hsl : EV.Env.get ρ i <;> simp only [hsl] at q' h <;> try exact (OkR_mf q').elim
  rename_i dd
  cases dd <;> try exact (OkR_mf q').elim
  rename_i xs
  have hρ := getD_of hsl (by simp)
  obtain ⟨a, h1, h2, h3, h4, vs, h5, h6⟩ := E1.slot i _ hρ
  refine ⟨.ref a, h1, tG_seq E1 h fun j k2 u H2 h e2 E2 r2 => ?_⟩
  cases j <;> simp only at h <;> try exact (OkR_mf h).elim
  rename_i j
  obtain ⟨ys, hy, h⟩ := OkR_mo.mp (OkR_mb.mp h)
  unfold setL at hy
  obtain ⟨m, hm, rfl⟩ := Option.map_eq_some_iff.mp hy
  simp only [topW, RpT, Rp] at r2
  subst r2
  have hH2 := e2 a _ h5 h3
  have hl := h6.length
  refine ⟨a, vs, j, m, rfl, rfl, hH2, by rw [← hl]; exact hm, ?_⟩
  have r6 := h6.eff e2 E1.cup fun a n => nfc n
  have rv := r1.toRp.eff e2 E1.cup fun a n => nfc n
  have ex := ex2_write (g := g) (f := f) (c := c) (o := .lst (vs.set m v)) hρ h1 hH2
  obtain ⟨E3, K3⟩ := E2.write (i := i) (d := .lst (xs.set m d)) hρ h1 ⟨vs.set m v, upd_same, (r6.mono2 ex).set m (rv.mono2 ex)⟩
  exact h σ c _ E3 ((Kp.eff E (e1.trans e2) fun _ n => n).trans K3)

/-! ### blocks -/
theorem ss_nil : PSs X [] (tS g f fun ρ => mp (.nx ρ)) := PSs.imp pss_nil fun D σ H ⟨ρ, k, c, E, q⟩ => q σ c H E Kp.refl
def seqF (f : Fl) (T : EV.Env → M Fl) : M Fl := match f with
  | .nx ρ' => T ρ'
  | .ct ρ' => mp (.ct ρ')
  | .rt d fr => mp (.rt d fr)
theorem seq_core {t u : TS} (ht : ∀ D σ H, tS g f S D σ H → t D σ H) (hu : ∀ D σ H, tS g f T D σ H → u D σ H) {D : Ends} {σ : L2.St} {H : Hp} (h : tS g f (fun ρ => mb (S ρ) fun fl => seqF fl T) D σ H) : tSeq t u D σ H := by
  obtain ⟨ρ, k, c, E, q⟩ := h
  refine ht _ _ _ ⟨ρ, k, c, E, (OkR_mb.mp q).imp fun fl k1 h => ?_⟩
  cases fl with
  | nx ρ' => exact fun σ' c' H' E' K => hu _ _ _ ⟨ρ', k1, c', E', h.imp fun fl k2 h => h.pre K⟩
  | ct ρ' => exact h
  | rt d fr => exact h
theorem ss_cons (h1 : PS X st (tS g f S)) (h2 : PSs X a (tS g f T)) : PSs X (st :: a) (tS g f fun ρ => mb (S ρ) fun fl => seqF fl T) :=
  PSs.imp (pss_cons h1 h2) fun D σ H q => seq_core (fun _ _ _ h => h) (fun _ _ _ h => h) q
theorem ss_frz (h2 : PSs X a (tS g f T)) : PSs X a (tS g f fun ρ => mb (match EV.Env.get ρ i with
      | .own d => mp (.nx (ρ.set i (.val d)))
      | .val d => mp (.nx ρ)
      | _ => mf) fun fl => seqF fl T) := by
  refine PSs.imp h2 fun D σ H ⟨ρ, k, c, E, q⟩ => ?_
  cases hsl : EV.Env.get ρ i <;> simp only [hsl] at q <;> try exact False.elim q
  · exact ⟨ρ, k, c, E, q⟩
  · obtain ⟨E', K⟩ := E.frz (getD_of hsl (by simp))
    exact ⟨_, k, c, E', OkR.imp q fun fl k2 h => h.pre K⟩
theorem st_if (hc : PT X x (tT g f fun ρ => mb (A ρ) mB)) (ha : PSs X a (tS g f S)) (hb : PSs X b (tS g f T)) : PS X (.If x a b pos) (tS g f fun ρ => mb (A ρ) fun d => mb (mB d) fun b => if b = true then S ρ else T ρ) := by
  refine PS.imp (ps_if hc ha hb) fun D σ H ⟨ρ, k, c, E, q⟩ => ?_
  have q := okTest q
  refine tT_seq E q fun b k1 H1 h e1 E1 => ?_
  have K := Kp.eff (ρ' := ρ) (σ' := σ) E e1 fun _ n => n
  cases b <;> exact ⟨ρ, k1, c, E1, OkR.imp h fun fl k2 h => h.pre K⟩
theorem st_while {m : Nat} {Ab : EV.Env → M Bool} (hx : X.xe = fun _ _ => False) (hc : PT X x (tT g f Ab)) (ha : PSs X a (tS g f S)) : PS X (.While x a [] pos) (tS g f fun ρ => whlL Ab S m ρ) := by
  refine PS.imp (ps_while (by rw [hx]; exact PassesOwn.never) hc ha) fun D σ H ⟨ρ, k, c, E, q⟩ => ?_
  refine ⟨fun m σ' H' => ∃ ρ' k' c', EOK g f ρ' k' c' σ' H' ∧ Kp f ρ σ c H ρ' σ' c' H' ∧ OkR (whlL Ab S m ρ' k') (PostS g f ρ σ c H D), ⟨m, ρ, k, c, E, Kp.refl, q⟩, ?_⟩
  rintro m σ' H' ⟨ρ', k', c', E', K, q⟩
  cases m with
  | zero => exact q.elim
  | succ m =>
    unfold whlL at q
    refine tT_seq E' q fun b k1 H1 h e1 E1 => ?_
    have K1 := K.trans (Kp.eff (ρ' := ρ') (σ' := σ') E' e1 fun _ n => n)
    cases b with
    | false => exact h σ' c' H1 E1 K1
    | true =>
      refine ⟨fun σ2 H2 => ∃ ρ2 k2 c2, EOK g f ρ2 k2 c2 σ2 H2 ∧ Kp f ρ σ c H ρ2 σ2 c2 H2 ∧ OkR (whlL Ab S m ρ2 k2) (PostS g f ρ σ c H D), fun σ2 H2 hh => ⟨m, Nat.lt_succ_self m, hh⟩, ?_⟩
      refine ⟨ρ', k1, c', E1, (OkR_mb.mp h).imp fun fl k2 h => ?_⟩
      cases fl with
      | nx ρ2 => exact fun σ2 c2 H2 E2 K2 => ⟨ρ2, k2, c2, E2, K1.trans K2, h⟩
      | ct ρ2 => exact fun σ2 c2 H2 E2 K2 => ⟨ρ2, k2, c2, E2, K1.trans K2, h⟩
      | rt d fr => exact fun v H2 r => h v H2 r
theorem st_for {Sr : EV.Env → M (List D)} (hx : X.xe = fun _ _ => False) (hcm : X.calm = true) (hi : PI X tg it (tSr g f .nf Sr)) (hg : PG X tg (gB g t)) (ha : PSs X a (tS g f S)) (hit : plainIter it = true) :
    PS X (.For tg it a [] pos) (tS g f fun ρ => mb (Sr ρ) fun xs => forL t S xs ρ) := by
  refine PS.imp (ps_for (by rw [hx]; exact PassesOwn.never) hcm hi hg ha (fun x => iter_of hit x)) fun D σ H ⟨ρ, k, c, E, q⟩ => ?_
  refine ⟨ρ, k, c, E, (OkR_mb.mp q).imp fun xs k1 h J H1 e1 cu src => ?_⟩
  obtain ⟨hz, bs, AA, GG, Y, w, rb, hAA, keep, good⟩ := src
  have E1 := E.eff e1 cu
  have K1 := Kp.eff (ρ' := ρ) (σ' := σ) E e1 fun _ n => n
  have gk : ∀ {ρ' : EV.Env} {σ' : L2.St} {c' : Option Addr} {H' : Hp}, Kp f ρ σ c H1 ρ' σ' c' H' → GG H' := fun K => keep _ (fun a u ha q => (K.nf a u q (hAA a ha).1).1) K.tup
  refine for_it w (fun i σ' H' => ∃ ρ' k' c', EOK g f ρ' k' c' σ' H' ∧ Kp f ρ σ c H1 ρ' σ' c' H' ∧ (∀ b ∈ bs, Rps g (NF f ρ' σ' c') H' b.1 b.2) ∧ OkR (forL t S (xs.drop i) ρ' k') (PostS g f ρ σ c H D)) ⟨ρ, k1, c, E1, Kp.refl, rb, h⟩ ?_ ?_ ?_
  · rintro i σ' H' hi ⟨ρ', k', c', E', K, rb', q⟩
    exact gk K
  · rintro i x σ' H' H3 hi ⟨ρ', k', c', E', K, rb', q⟩ hY
    obtain ⟨sm, d, hd, rd⟩ := good i H' x H3 _ hi (gk K) hY rb'
    have E3 := E'.eff (Eff.of sm) (E'.cup.same sm)
    have hdr : xs.drop i = d :: xs.drop (i + 1) := by
      rw [List.drop_eq_getElem_cons hi]
      congr 1
      rw [List.getElem?_eq_getElem hi] at hd
      exact Option.some.inj hd
    rw [hdr] at q
    unfold forL at q
    obtain ⟨ρ1, hb, q⟩ := OkR_mo.mp (OkR_mb.mp q)
    refine ⟨f, ρ', k', c', d, ρ1, E3, E'.finN rd, hb, fun σ1 E4 out sub => ?_⟩
    have K3 : Kp f ρ σ c H1 ρ1 σ1 c' H3 := K.trans (Kp.eff E' (Eff.of sm) sub)
    have rb3 : ∀ b ∈ bs, Rps g (NF f ρ1 σ1 c') H3 b.1 b.2 := fun b hb => (rb b hb).mono2 K3.ex2
    have fin : ∀ {ρ2 : EV.Env} {k2 : Cup} {σ2 : L2.St} {c2 : Option Addr} {H2 : Hp}, OkR (forL t S (xs.drop (i + 1)) ρ2 k2) (PostS g f ρ σ c H D) → EOK g f ρ2 k2 c2 σ2 H2 → Kp f ρ1 σ1 c' H3 ρ2 σ2 c2 H2 →
        ∃ ρ' k' c', EOK g f ρ' k' c' σ2 H2 ∧ Kp f ρ σ c H1 ρ' σ2 c' H2 ∧ (∀ b ∈ bs, Rps g (NF f ρ' σ2 c') H2 b.1 b.2) ∧ OkR (forL t S (xs.drop (i + 1)) ρ' k') (PostS g f ρ σ c H D) :=
      fun {ρ2 k2 σ2 c2 H2} q E2 K2 => ⟨ρ2, k2, c2, E2, K3.trans K2, fun b hb => (rb b hb).mono2 (K3.trans K2).ex2, q⟩
    refine ⟨ρ1, k', c', E4, (OkR_mb.mp q).imp fun fl k2 h => ?_⟩
    cases fl with
    | nx ρ2 => exact fun σ2 c2 H2 E2 K2 => fin h E2 K2
    | ct ρ2 => exact fun σ2 c2 H2 E2 K2 => fin h E2 K2
    | rt d fr => exact h
  · rintro σ' H' ⟨ρ', k', c', E', K, rb', q⟩
    rw [List.drop_length] at q
    have q : PostS g f ρ σ c H D (.nx ρ') k' := q
    exact q σ' c' H' E' (K1.trans K)
end
end EV
end

section
set_option Elab.async false
set_option linter.all false
set_option maxRecDepth 100000
set_option maxHeartbeats 1000000
/-! EvW: several names at once; the cup is made, given back. -/
namespace EV
open PySem PySem.Spec PyProof.Rows L2
abbrev Fm.bars (f : Fm) (L : List Addr) : Fm := { f with B := fun a => f.B a ∨ a ∈ L }
theorem bars_nil (f : Fm) : f.bars [] = f := by
  cases f
  simp [Fm.bars]
def MxOK (g : G) (N : Addr → Prop) (H : Hp) : List Bool → List Addr → List D → List V → Prop
  | [], L, ds, vs => L = [] ∧ ds = [] ∧ vs = []
  | false :: os, L, ds, vs => ∃ d ds' v vs', ds = d :: ds' ∧ vs = v :: vs' ∧ Rp g N H d v ∧ MxOK g N H os L ds' vs'
  | true :: os, L, ds, vs => ∃ d ds' a vs' L', ds = d :: ds' ∧ vs = .ref a :: vs' ∧ L = a :: L' ∧ OwnAt g N H a d ∧ MxOK g N H os L' ds' vs'
def tMx (g : G) (os : List Bool) (m : EV.Env → M (List D)) : TA := fun σ H Q => ∃ (f : Fm) (L0 : List Addr) (ρ : EV.Env) (k : Cup) (c : Option Addr), EOK g (f.bars L0) ρ k c σ H ∧ OkR (m ρ k) fun ds k' =>
  ∀ L vs H', EOK g (f.bars (L0 ++ L)) ρ k' c σ H' → Eff c H H' → (∀ a ∈ L, H a = none) → L.Nodup → MxOK g (NF (f.bars (L0 ++ L)) ρ σ c) H' os L ds vs → Q vs H'
section
variable {g : G} {f f' : Fm} {ρ ρ' : EV.Env} {k k' : Cup} {c : Option Addr} {σ σ' : L2.St} {H H' : Hp} {X : Cx} {x y v : Expr} {es : List Expr} {A : EV.Env → M D} {Lm : EV.Env → M (List D)} {pos : Pos}
theorem MxOK.mono {N N' : Addr → Prop} (ex : Ex2 g N N' H H') : ∀ {os : List Bool} {L : List Addr} {ds : List D} {vs : List V}, (∀ a ∈ L, ∀ o, H a = some o → H' a = some o) → MxOK g N H os L ds vs → MxOK g N' H' os L ds vs
  | [], L, ds, vs, _, h => h
  | false :: os, L, ds, vs, hL, h => by
    obtain ⟨d, ds', v, vs', e1, e2, r, h⟩ := h
    exact ⟨d, ds', v, vs', e1, e2, r.mono2 ex, MxOK.mono ex hL h⟩
  | true :: os, L, ds, vs, hL, h => by
    obtain ⟨d, ds', a, vs', L', e1, e2, e3, r, h⟩ := h
    subst e3
    exact ⟨d, ds', a, vs', L', e1, e2, rfl, OwnAt.mono2 r ex (hL a (by simp)), MxOK.mono ex (fun b hb => hL b (by simp [hb])) h⟩
theorem EOK.move (E : EOK g f ρ k c σ H) (hf : f'.N0 = f.N0 ∧ f'.H0 = f.H0 ∧ f'.c0 = f.c0) (cu : CupAt c k' H') (ex : Ex2 g (NF f ρ σ c) (NF f' ρ σ c) H H') (kp : ∀ a u, H a = some u → some a ≠ c → ¬ f'.B a → H' a = some u) (hb : ∀ a, f'.B a → f.B a ∨ H a = none)
    (bar : ∀ a, f'.B a → H' a ≠ none ∧ f.H0 a = none ∧ some a ≠ c) : EOK g f' ρ k' c σ H' := by
  obtain ⟨hf1, hf2, hf3⟩ := hf
  refine ⟨cu, by rw [hf3]; exact E.c0, by rw [hf2, hf3]; exact E.cn, by rw [hf2, hf3]; exact E.h0, by rw [hf1, hf3]; exact E.n0, fun a u h n => ?_, E.len, fun i s h => ?_, E.uniq, by rw [hf2]; exact bar⟩
  · rw [hf2] at h
    rw [hf3] at n
    refine kp a u (E.old a u h n) (fun q => ?_) fun b => by rw [(bar a b).2.1] at h; cases h
    by_cases cc : c = f.c0
    · exact n (by rw [← cc]; exact q)
    · have := E.cn cc a q.symm
      rw [h] at this; cases this
  · have := E.slot i s h
    cases s with
    | no => trivial
    | val d =>
      obtain ⟨v, h3, h4⟩ := this
      exact ⟨v, h3, h4.mono2 ex⟩
    | own d =>
      obtain ⟨a, h3, h4, h5, h6, h7⟩ := this
      have nb : ¬ f'.B a := fun b => by
        rcases hb a b with z | z
        · exact h6 z
        · obtain ⟨u, hu⟩ := OwnAt.isSome h7
          rw [hu] at z; cases z
      exact ⟨a, h3, by rw [hf2]; exact h4, h5, nb, OwnAt.mono2 h7 ex fun u q => kp a u q h5 nb⟩
    | cup => exact this
theorem mx_nil : PA X [] (tMx g [] fun _ => mp []) := pa_nil.imp fun σ H Q ⟨f, L0, ρ, k, c, E, q⟩ => q [] [] H (by rw [List.append_nil]; exact E) Eff.refl (by simp) List.nodup_nil ⟨rfl, rfl, rfl⟩
def tEN (g : G) (m : EV.Env → M D) : TE := fun σ H Q => ∃ f, tN g f m σ H Q
theorem pe_EN {m : EV.Env → M D} (h : ∀ f, PE X x (tN g f m)) : PE X x (tEN g m) := ⟨fun pins s σ H Q I ⟨f, q⟩ => (h f).run pins s σ H Q I q⟩
theorem mx_val {os : List Bool} (hst : notStar x = true) (ha : ∀ f, PE X x (tG g f .nf A)) (hb : PA X es (tMx g os Lm)) : PA X (x :: es) (tMx g (false :: os) fun ρ => mb (A ρ) fun d => mb (Lm ρ) fun ds => mp (d :: ds)) := by
  refine (pa_cons (pe_EG ha) hb (star_of hst)).imp fun σ H Q ⟨f, L0, ρ, k, c, E, q⟩ => ?_
  refine ⟨f.bars L0, tG_seq E q fun d k1 v H1 h e1 E1 r1 => ?_⟩
  refine ⟨f, L0, ρ, k1, c, E1, (OkR_mb.mp h).imp fun ds k2 h L vs H2 E2 e2 hL nd mx => ?_⟩
  have ex : Ex2 g (NF (f.bars L0) ρ σ c) (NF (f.bars (L0 ++ L)) ρ σ c) H1 H2 := e2.ex2 E1.cup fun a o q n => ⟨n.2.1, n.1, n.2.1, fun b => b.elim (fun z => n.2.2.1 (.inl z)) fun z => (List.mem_append.mp z).elim (fun z => n.2.2.1 (.inr z)) (fun z => by rw [hL a z] at q; cases q), n.2.2.2⟩
  exact h L (v :: vs) H2 E2 (e1.trans e2) (fun a ha => e1.some' (k := k1) E1.cup (hL a ha)) nd ⟨d, ds, v, vs, rfl, rfl, r1.toRp.mono2 ex, mx⟩
theorem mx_new {os : List Bool} (hst : notStar x = true) (ha : ∀ f, PE X x (tN g f A)) (hb : PA X es (tMx g os Lm)) : PA X (x :: es) (tMx g (true :: os) fun ρ => mb (A ρ) fun d => mb (Lm ρ) fun ds => mp (d :: ds)) := by
  refine (pa_cons (pe_EN ha) hb (star_of hst)).imp fun σ H Q ⟨f, L0, ρ, k, c, E, q⟩ => ?_
  refine ⟨f.bars L0, ρ, k, c, E, (OkR_mb.mp q).imp fun d k1 h v H1 e1 cu nw => ?_⟩
  obtain ⟨a, rfl, ha, ow⟩ := nw
  obtain ⟨h0, hc⟩ := E.h0none ha
  obtain ⟨o, ho⟩ := OwnAt.isSome ow
  have ex : Ex2 g (NF (f.bars L0) ρ σ c) (NF (f.bars (L0 ++ [a])) ρ σ c) H H1 := e1.ex2 E.cup fun b u q n => ⟨n.2.1, n.1, n.2.1, fun z => z.elim (fun z => n.2.2.1 (.inl z)) fun z => (List.mem_append.mp z).elim (fun z => n.2.2.1 (.inr z)) (fun z => by rw [List.mem_singleton.mp z, ha] at q; cases q), n.2.2.2⟩
  have E1 : EOK g (f.bars (L0 ++ [a])) ρ k1 c σ H1 := by
    refine E.move ⟨rfl, rfl, rfl⟩ cu ex (fun b u q n _ => e1 b u q n) (fun b z => ?_) fun b z => ?_
    · rcases z with z | z
      · exact .inl (.inl z)
      · rcases List.mem_append.mp z with z | z
        · exact .inl (.inr z)
        · exact .inr (by rw [List.mem_singleton.mp z]; exact ha)
    · have hh : (f.bars L0).B b ∨ b = a := by
        rcases z with z | z
        · exact .inl (.inl z)
        · rcases List.mem_append.mp z with z | z
          · exact .inl (.inr z)
          · exact .inr (List.mem_singleton.mp z)
      rcases hh with z | rfl
      · exact ⟨fun q => (E.bar b z).1 (e1.some' (k := k1) cu q), (E.bar b z).2⟩
      · exact ⟨by rw [ho]; simp, h0, hc⟩
  refine ⟨f, L0 ++ [a], ρ, k1, c, E1, (OkR_mb.mp h).imp fun ds k2 h L vs H2 E2 e2 hL nd mx => ?_⟩
  have el : L0 ++ [a] ++ L = L0 ++ a :: L := by simp
  rw [el] at E2 mx
  have ex2 : Ex2 g (fun b => NF (f.bars L0) ρ σ c b ∧ b ≠ a) (NF (f.bars (L0 ++ a :: L)) ρ σ c) H1 H2 := e2.ex2 E1.cup fun b u q ⟨n, nb⟩ => ⟨n.2.1, n.1, n.2.1, fun z => z.elim (fun z => n.2.2.1 (.inl z)) fun z => (List.mem_append.mp z).elim (fun z => n.2.2.1 (.inr z)) (fun z => (List.mem_cons.mp z).elim nb fun z => by rw [hL b z] at q; cases q), n.2.2.2⟩
  exact h (a :: L) (.ref a :: vs) H2 E2 (e1.trans e2) (fun b hb => (List.mem_cons.mp hb).elim (fun z => by rw [z]; exact ha) fun z => e1.some' (k := k1) cu (hL b z)) (List.nodup_cons.mpr ⟨(fun z => by have := hL a z; rw [ho] at this; exact (by cases this)), nd⟩) ⟨d, ds, a, vs, L, rfl, rfl, rfl, OwnAt.mono2 ow ex2 fun u q => e2 a u q hc, mx⟩

def setAll (σ : L2.St) : List Nat → List V → L2.St
  | i :: is, v :: vs => setAll (σ.set i (some v)) is vs
  | _, _ => σ
/-- a barred new list goes into a slot -/
theorem EOK.unbar {a : Addr} {L : List Addr} {d : D} {i : Nat} (E : EOK g (f.bars (a :: L)) ρ k c σ H) (ow : OwnAt g (NF (f.bars (a :: L)) ρ σ c) H a d) (hn : a ∉ L) (hB : ¬ f.B a) (hso : ∀ (j : Nat) (e : D), ρ[j]? = some (Slot.own e) → σ[j]? ≠ some (some (V.ref a))) :
    EOK g (f.bars L) (ρ.set i (.own d)) k c (σ.set i (some (.ref a))) H ∧ ∀ b, NF (f.bars (a :: L)) ρ σ c b → NF (f.bars L) (ρ.set i (.own d)) (σ.set i (some (.ref a))) c b := by
  obtain ⟨b1, b2, b3⟩ := E.bar a (.inr (by simp))
  have E0 : EOK g (f.bars L) ρ k c σ H := by
    refine E.move ⟨rfl, rfl, rfl⟩ E.cup ⟨fun _ _ h => h, fun b _ n h => ⟨⟨n.1, n.2.1, fun z => n.2.2.1 (z.imp id fun z => by simp [z]), n.2.2.2⟩, h⟩, fun b _ n h => ⟨⟨n.1, n.2.1, fun z => n.2.2.1 (z.imp id fun z => by simp [z]), n.2.2.2⟩, h⟩, fun b _ n h => ⟨⟨n.1, n.2.1, fun z => n.2.2.1 (z.imp id fun z => by simp [z]), n.2.2.2⟩, h⟩⟩ (fun b u q _ _ => q) (fun b z => .inl (z.imp id fun z => by simp [z])) fun b z => E.bar b (z.imp id fun z => by simp [z])
  -- values avoid a
  have hsub : ∀ b, NF (f.bars (a :: L)) ρ σ c b → NF (f.bars L) (ρ.set i (.own d)) (σ.set i (some (.ref a))) c b := fun b n => by
    have nb : b ≠ a := fun z => n.2.2.1 (.inr (by rw [z]; simp))
    refine ⟨n.1, n.2.1, fun z => n.2.2.1 (z.imp id fun z => by simp [z]), fun j e hj => ?_⟩
    rcases set_get hj with ⟨rfl, _, hl⟩ | ⟨nj, hj⟩
    · rw [List.getElem?_set_self (by rw [← E.len]; exact hl)]
      intro q
      injection q with q
      injection q with q
      injection q with q
      exact nb q.symm
    · rw [List.getElem?_set_ne (Ne.symm nj)]
      exact n.2.2.2 j e hj
  have ex : Ex2 g (NF (f.bars (a :: L)) ρ σ c) (NF (f.bars L) (ρ.set i (.own d)) (σ.set i (some (.ref a))) c) H H := ⟨fun _ _ h => h, fun b _ n h => ⟨hsub b n, h⟩, fun b _ n h => ⟨hsub b n, h⟩, fun b _ n h => ⟨hsub b n, h⟩⟩
  refine ⟨⟨E.cup, E.c0, E.cn, E.h0, E.n0, E.old, by simp [E.len], fun j s hs => ?_, fun j1 j2 d1 d2 b h1 h2 h3 h4 => ?_, E0.bar⟩, hsub⟩
  · rcases set_get hs with ⟨rfl, rfl, hl⟩ | ⟨nj, hs⟩
    · exact ⟨a, List.getElem?_set_self (by rw [← E.len]; exact hl), b2, b3, fun z => z.elim hB hn, OwnAt.mono2 ow ex fun _ h => h⟩
    · have := E.slot j s hs
      have e : (σ.set i (some (V.ref a)))[j]? = σ[j]? := List.getElem?_set_ne (Ne.symm nj)
      cases s with
      | no => trivial
      | val d =>
        obtain ⟨v, h3, h4⟩ := this
        exact ⟨v, e.trans h3, h4.mono2 ex⟩
      | own d =>
        obtain ⟨b, h3, h4, h5, h6, h7⟩ := this
        exact ⟨b, e.trans h3, h4, h5, fun z => h6 (z.imp id fun z => by simp [z]), OwnAt.mono2 h7 ex fun o h => h⟩
      | cup =>
        obtain ⟨b, h3, h4⟩ := this
        exact ⟨b, h3, e.trans h4⟩
  · rcases set_get h1 with ⟨e1, _, hl⟩ | ⟨n1, h1'⟩
    · rcases set_get h2 with ⟨e2, _, _⟩ | ⟨n2, h2'⟩
      · rw [e1, e2]
      · rw [e1, List.getElem?_set_self (by rw [← E.len]; exact hl)] at h3
        rw [List.getElem?_set_ne (Ne.symm n2)] at h4
        cases h3
        exact absurd h4 (hso j2 d2 h2')
    · rw [List.getElem?_set_ne (Ne.symm n1)] at h3
      rcases set_get h2 with ⟨e2, _, hl⟩ | ⟨n2, h2'⟩
      · rw [e2, List.getElem?_set_self (by rw [← E.len]; exact hl)] at h4
        cases h4
        exact absurd h3 (hso j1 d1 h1')
      · rw [List.getElem?_set_ne (Ne.symm n2)] at h4
        exact E.uniq j1 j2 d1 d2 b h1' h2' h3 h4
theorem mx_store : ∀ (ts : List (Nat × Bool)) (L : List Addr) (ds : List D) (vs : List V) (ρ ρ' : EV.Env) (σ : L2.St), EOK g (f.bars L) ρ k c σ H → L.Nodup → (∀ a ∈ L, ¬ f.B a) → (∀ a ∈ L, ∀ (j : Nat) (e : D), ρ[j]? = some (Slot.own e) → σ[j]? ≠ some (some (V.ref a))) →
    MxOK g (NF (f.bars L) ρ σ c) H (ts.map (·.2)) L ds vs → bindPar ts ds ρ = some ρ' → vs.length = ts.length ∧ EOK g f ρ' k c (setAll σ (ts.map (·.1)) vs) H ∧ ∀ b, NF (f.bars L) ρ σ c b → NF f ρ' (setAll σ (ts.map (·.1)) vs) c b
  | [], L, ds, vs, ρ, ρ', σ, E, nd, nB, so, mx, hb => by
    obtain ⟨rfl, rfl, rfl⟩ := mx
    simp only [bindPar] at hb
    cases hb
    rw [bars_nil] at E
    exact ⟨rfl, E, fun b n => by rw [bars_nil] at n; exact n⟩
  | (i, false) :: ts, L, ds, vs, ρ, ρ', σ, E, nd, nB, so, mx, hb => by
    obtain ⟨d, ds', v, vs', rfl, rfl, r, mx⟩ := mx
    simp only [bindPar, Bool.false_eq_true, if_false] at hb
    obtain ⟨E1, sub⟩ := E.setVal (i := i) r
    have mx1 := MxOK.mono (H' := H) ⟨fun _ _ h => h, fun b _ n h => ⟨sub b n, h⟩, fun b _ n h => ⟨sub b n, h⟩, fun b _ n h => ⟨sub b n, h⟩⟩ (fun _ _ _ h => h) mx
    have so1 : ∀ a ∈ L, ∀ (j : Nat) (e : D), (ρ.set i (.val d))[j]? = some (Slot.own e) → (σ.set i (some v))[j]? ≠ some (some (V.ref a)) := fun a ha j e hj => by
      rcases set_get hj with ⟨_, hj, _⟩ | ⟨n, hj⟩
      · cases hj
      · rw [List.getElem?_set_ne (Ne.symm n)]; exact so a ha j e hj
    obtain ⟨h1, h2, h3⟩ := mx_store ts L ds' vs' _ ρ' _ E1 nd nB so1 mx1 hb
    exact ⟨by simp [h1], h2, fun b n => h3 b (sub b n)⟩
  | (i, true) :: ts, L, ds, vs, ρ, ρ', σ, E, nd, nB, so, mx, hb => by
    obtain ⟨d, ds', a, vs', L', rfl, rfl, rfl, r, mx⟩ := mx
    simp only [bindPar, if_true] at hb
    obtain ⟨n1, n2⟩ := List.nodup_cons.mp nd
    obtain ⟨E1, sub⟩ := E.unbar (i := i) r n1 (nB a (by simp)) (so a (by simp))
    have mx1 := MxOK.mono (H' := H) ⟨fun _ _ h => h, fun b _ n h => ⟨sub b n, h⟩, fun b _ n h => ⟨sub b n, h⟩, fun b _ n h => ⟨sub b n, h⟩⟩ (fun _ _ _ h => h) mx
    have so1 : ∀ b ∈ L', ∀ (j : Nat) (e : D), (ρ.set i (.own d))[j]? = some (Slot.own e) → (σ.set i (some (V.ref a)))[j]? ≠ some (some (V.ref b)) := fun b hbL j e hj => by
      rcases set_get hj with ⟨rfl, _, hl⟩ | ⟨n, hj⟩
      · rw [List.getElem?_set_self (by rw [← E.len]; exact hl)]
        intro q
        injection q with q
        injection q with q
        injection q with q
        exact n1 (by rw [q]; exact hbL)
      · rw [List.getElem?_set_ne (Ne.symm n)]; exact so b (by simp [hbL]) j e hj
    obtain ⟨h1, h2, h3⟩ := mx_store ts L' ds' vs' _ ρ' _ E1 n2 (fun b hb => nB b (by simp [hb])) so1 mx1 hb
    exact ⟨by simp [h1], h2, fun b n => h3 b (sub b n)⟩
/-- distinct new lists -/
theorem mx_nodup : ∀ {os : List Bool} {L : List Addr} {ds : List D} {vs : List V} {N : Addr → Prop}, MxOK g N H os L ds vs → True := fun _ => trivial
end
end EV
end

section
set_option Elab.async false
set_option linter.all false
set_option maxRecDepth 100000
set_option maxHeartbeats 1000000
/-! EvX: several names; the cup; the check of statements. -/
namespace EV
open PySem PySem.Spec PyProof.Rows L2
section
variable {g : G} {f : Fm} {X : Cx} {ts : List (Nat × Bool)} {Lm : EV.Env → M (List D)} {A : EV.Env → M D} {x v : Expr} {es : List Expr} {pos : Pos}
theorem par_core {D : Ends} {σ : L2.St} {H : Hp} {Q : List V → Hp → Prop} (h : tS g f (fun ρ => mb (Lm ρ) fun ds => mb (mo (bindPar ts ds ρ)) fun ρ' => mp (.nx ρ')) D σ H)
    (hq : ∀ vs H1, vs.length = ts.length → (∀ H2, Same H1 H2 → D.nx (setAll σ (ts.map (·.1)) vs) H2) → Q vs H1) : tMx g (ts.map (·.2)) Lm σ H Q := by
  obtain ⟨ρ, k, c, E, q⟩ := h
  refine ⟨f, [], ρ, k, c, by rw [bars_nil]; exact E, (OkR_mb.mp q).imp fun ds k1 h L vs H' E2 e2 hL nd mx => ?_⟩
  rw [List.nil_append] at E2 mx
  obtain ⟨ρ', hb, h⟩ := OkR_mo.mp (OkR_mb.mp h)
  obtain ⟨hl, E3, sub⟩ := mx_store ts L ds vs ρ ρ' σ E2 nd (fun a ha b => (E.bar a b).1 (hL a ha)) (fun a ha j e hj => own_some E hj (hL a ha)) mx hb
  refine hq vs H' hl fun H2 sm => h _ c H2 (E3.eff (Eff.of sm) (E3.cup.same sm)) ⟨fun a o q n => ⟨sm a o (e2 a o q n.2.1), sub a ⟨n.1, n.2.1, (fun b => Or.elim b n.2.2.1 fun z => by rw [hL a z] at q; cases q), n.2.2.2⟩⟩, fun a vs q => sm a _ (e2.tup E.cup a vs q)⟩
/-- the names of a target -/
def gsN (is : List Nat) : TGs := fun vs σ H Q => vs.length = is.length ∧ Q (setAll σ is vs) H
inductive Nms (ck : Ck) (X : Cx) : List Nat → List Expr → Prop
  | nil : Nms ck X [] []
  | cons {i : Nat} {n : Str} {p : Pos} {is : List Nat} {es : List Expr} : Nm ck X i n → Nms ck X is es → Nms ck X (i :: is) (.Name n p :: es)
theorem g_names {ck : Ck} {is : List Nat} (h : Nms ck X is es) : PGs X es (gsN is) := by
  induction h with
  | nil =>
    refine PGs.imp pgs_nil fun v σ H Q ⟨hl, q⟩ => ?_
    have : v = [] := by simpa using hl
    subst this
    exact ⟨rfl, q⟩
  | cons hn _ ih =>
    refine PGs.imp (pgs_cons (pg_name hn.nd hn.ix hn.loc hn.fn) ih rfl) fun v σ H Q ⟨hl, q⟩ => ?_
    cases v with
    | nil => simp at hl
    | cons v vs => exact ⟨v, vs, rfl, by simpa using hl, q⟩
theorem names_len {ck : Ck} {is : List Nat} (h : Nms ck X is es) : (assignEach es X.env).length = is.length ∧ (assignEach es X.env).findIdx? (·.1) = none ∧ es.length = is.length := by
  have h1 : (∀ e ∈ es, notStar e = true) ∧ es.length = is.length := by
    induction h with
    | nil => simp
    | cons hn _ ih => exact ⟨fun e he => (List.mem_cons.mp he).elim (fun z => by rw [z]; rfl) (ih.1 e), by simp [ih.2]⟩
  obtain ⟨a1, a2⟩ := asg_all (env := X.env) h1.1
  exact ⟨a1.trans h1.2, a2, h1.2⟩
theorem st_par {ck : Ck} {k1 k2 : Nat} {p1 p2 : Pos} {xs : List Expr} (hcm : X.calm = true) (hK : True) (hn : Nms ck X (ts.map (·.1)) es) (ha : PA X xs (tMx g (ts.map (·.2)) Lm)) (hlen : ts.length < 1000)
    (hw : swappedStores [.Tuple es k1 p1] (.Tuple xs k2 p2) X.env = pure none) :
    PS X (.Assign [.Tuple es k1 p1] (.Tuple xs k2 p2) pos) (tS g f fun ρ => mb (Lm ρ) fun ds => mb (mo (bindPar ts ds ρ)) fun ρ' => mp (.nx ρ')) := by
  obtain ⟨l1, l2, l3⟩ := names_len hn
  refine PS.imp (ps_asg (pe_tup ha) (pg_tup (n := ts.length) hcm (g_names hn) (by rw [l1]; simp) l2) rfl hw rfl) fun D σ H q => ?_
  refine par_core q fun vs H1 hl hq => ⟨by rw [LIM_eq]; have : LIM = 16777216 := rfl; omega, fun p hp => ?_⟩
  exact ⟨p, vs, rfl, .inl (.inl upd_same), hl, by simpa using hl, hq _ (sameNew hp)⟩
theorem st_par2 {ck : Ck} {i j : Nat} {o1 o2 : Bool} {n m : Str} {a b : Expr} {px py p1 p2 : Pos} {k1 k2 : Nat} (hcm : X.calm = true) (hi : Nm ck X i n) (hj : Nm ck X j m) (hij : i ≠ j) (hx : X.env.scope.names.lookup n = some .local) (hy : X.env.scope.names.lookup m = some .local)
    (ha : PA X [a, b] (tMx g [o1, o2] Lm)) (hw : swappedStores [.Tuple [.Name n px, .Name m py] k1 p1] (.Tuple [a, b] k2 p2) X.env = pure (some [n, m])) :
    PS X (.Assign [.Tuple [.Name n px, .Name m py] k1 p1] (.Tuple [a, b] k2 p2) pos) (tS g f fun ρ => mb (Lm ρ) fun ds => mb (mo (bindPar [(i, o1), (j, o2)] ds ρ)) fun ρ' => mp (.nx ρ')) := by
  refine PS.imp (ps_par hcm hi.nd hi.ix hj.ix hij hx hy ha hw) fun D σ H q => ?_
  refine par_core q fun vs H1 hl hq => ?_
  match vs, hl with
  | [v, w], _ => exact ⟨v, w, rfl, hq _ (Same.refl _)⟩
theorem st_par3 {ck : Ck} {i j l : Nat} {o1 o2 o3 : Bool} {n m r : Str} {a b d : Expr} {px py pz p1 p2 : Pos} {k1 k2 : Nat} (hcm : X.calm = true) (hi : Nm ck X i n) (hj : Nm ck X j m) (hl : Nm ck X l r) (hij : i ≠ j) (hil : i ≠ l) (hjl : j ≠ l)
    (hx : X.env.scope.names.lookup n = some .local) (hy : X.env.scope.names.lookup m = some .local) (hz : X.env.scope.names.lookup r = some .local)
    (ha : PA X [a, b, d] (tMx g [o1, o2, o3] Lm)) (hw : swappedStores [.Tuple [.Name n px, .Name m py, .Name r pz] k1 p1] (.Tuple [a, b, d] k2 p2) X.env = pure (some [n, m, r])) :
    PS X (.Assign [.Tuple [.Name n px, .Name m py, .Name r pz] k1 p1] (.Tuple [a, b, d] k2 p2) pos) (tS g f fun ρ => mb (Lm ρ) fun ds => mb (mo (bindPar [(i, o1), (j, o2), (l, o3)] ds ρ)) fun ρ' => mp (.nx ρ')) := by
  refine PS.imp (ps_par3 hcm hi.nd hi.ix hj.ix hl.ix hij hil hjl hx hy hz ha hw) fun D σ H q => ?_
  refine par_core q fun vs H1 hl hq => ?_
  match vs, hl with
  | [v, w, u], _ => exact ⟨v, w, u, rfl, hq _ (Same.refl _)⟩
/-! ### the cup is made -/
theorem st_retn (ha : PE X x (tN g f A)) : PS X (.Return (some x) pos) (tS g f fun ρ => mb (A ρ) fun d => mp (.rt d true)) := by
  refine PS.imp (ps_ret ha) fun D σ H ⟨ρ, k, c, E, q⟩ => ?_
  refine ⟨ρ, k, c, E, (OkR_mb.mp q).imp fun d k1 h v H1 e1 cu nw => ?_⟩
  have E1 := E.eff e1 cu
  refine h v H1 ⟨E1.old, fun a e => cu a (by rw [E1.c0 (by rw [e]; simp)]; exact e), ?_⟩
  simp only [if_true]
  exact nw.mono (fun a n => n.1) fun a n => (E.h0none n).1
theorem EOK.setCup {ρ : EV.Env} {k k' : Cup} {c : Option Addr} {σ : L2.St} {H H' : Hp} (E : EOK g f ρ k c σ H) (hc0 : f.c0 = none) {i : Nat} {p : Addr} (e : Eff c H H') (hp : H p = none) (hp' : H' p = some (.lst [.int k'.1, .int k'.2]))
    (hn : ρ.all (fun s => match s with | .cup => false | _ => true) = true) {k2 : Cup} (cu : CupAt c k2 H') : EOK g f (ρ.set i .cup) k' (some p) (σ.set i (some (.ref p))) H' ∧ Kp f ρ σ c H (ρ.set i .cup) (σ.set i (some (.ref p))) (some p) H' := by
  obtain ⟨h0, hc⟩ := E.h0none hp
  have hsub : ∀ b, NF f ρ σ c b → b ≠ p → NF f (ρ.set i .cup) (σ.set i (some (.ref p))) (some p) b := fun b n nb => ⟨n.1, fun q => nb (Option.some.inj q), n.2.2.1, fun j e hj => by
    rcases set_get hj with ⟨_, hj, _⟩ | ⟨nj, hj⟩
    · cases hj
    · rw [List.getElem?_set_ne (Ne.symm nj)]
      exact n.2.2.2 j e hj⟩
  have ex : Ex2 g (NF f ρ σ c) (NF f (ρ.set i .cup) (σ.set i (some (.ref p))) (some p)) H H' := e.ex2 E.cup fun b o q n => ⟨n.2.1, hsub b n (ne_of_none q hp)⟩
  refine ⟨⟨fun a q => by cases q; exact hp', fun n => absurd hc0 n, fun _ a q => by cases q; exact h0, E.h0, E.n0, fun a o h n => ?_, by simp [E.len], fun j s hs => ?_, fun j1 j2 d1 d2 b h1 h2 h3 h4 => ?_, fun b hb => ⟨fun q => (E.bar b hb).1 (e.some' (k := k2) cu q), (E.bar b hb).2.1, fun q => by cases q; exact (E.bar _ hb).1 hp⟩⟩,
    ⟨fun b o q n => ⟨e b o q n.2.1, hsub b n (ne_of_none q hp)⟩, e.tup E.cup⟩⟩
  · refine e a o (E.old a o h n) fun q => ?_
    have := E.cn (by rw [hc0, ← q]; simp) a q.symm
    rw [h] at this; cases this
  · rcases set_get hs with ⟨rfl, rfl, hl⟩ | ⟨nj, hs⟩
    · exact ⟨p, rfl, List.getElem?_set_self (by rw [← E.len]; exact hl)⟩
    · have := E.slot j s hs
      have es : (σ.set i (some (V.ref p)))[j]? = σ[j]? := List.getElem?_set_ne (Ne.symm nj)
      cases s with
      | no => trivial
      | val d =>
        obtain ⟨v, h3, h4⟩ := this
        exact ⟨v, es.trans h3, h4.mono2 ex⟩
      | own d =>
        obtain ⟨b, h3, h4, h5, h6, h7⟩ := this
        obtain ⟨o, ho⟩ := OwnAt.isSome h7
        exact ⟨b, es.trans h3, h4, (fun q => by cases q; rw [hp] at ho; cases ho), h6, OwnAt.mono2 h7 ex fun o q => e b o q h5⟩
      | cup =>
        have := List.all_eq_true.mp hn .cup (List.mem_of_getElem? hs)
        cases this
  · rcases set_get h1 with ⟨_, q, _⟩ | ⟨n1, h1'⟩
    · cases q
    · rcases set_get h2 with ⟨_, q, _⟩ | ⟨n2, h2'⟩
      · cases q
      · rw [List.getElem?_set_ne (Ne.symm n1)] at h3
        rw [List.getElem?_set_ne (Ne.symm n2)] at h4
        exact E.uniq j1 j2 d1 d2 b h1' h2' h3 h4
end
end EV
end

section
set_option Elab.async false
set_option linter.all false
set_option maxRecDepth 100000
set_option maxHeartbeats 1000000
/-! EvY: the check of statements; every checked statement is reckoned rightly. -/
namespace EV
open PySem PySem.Spec PyProof.Rows L2
/-- the value goes straight into the name -/
def swB (sc : Scope) (tg v : Expr) : Bool := match v with
  | .ListComp _ _ s _ => (match tg with
    | .Name t p => sc.names.lookup t == some .local && p.line == v.pos.line && !(s.names.any fun (n, k) => n == t && (k == .local || k == .cell))
    | _ => false)
  | .SetComp .. => true
  | .DictComp .. => true
  | _ => false
/-- no stores that are swapped -/
def nd2 : Expr → Expr → Bool
  | .Tuple .., .Tuple .. => false
  | .List .., _ => false
  | _, _ => true
def notComp : Expr → Bool
  | .ListComp .. => false
  | .SetComp .. => false
  | .DictComp .. => false
  | _ => true
def parNames (sc : Scope) (ts : List Expr) : List Str := ts.filterMap fun
  | .Name id pos => if sc.names.lookup id == some .local && pos.line == (ts.head?.map (·.pos.line)).getD 0 then some id else none
  | _ => none
def swR (sc : Scope) (ts vs : List Expr) : Option (Option (List Str)) :=
  if !(ts.length == 2 || ts.length == 3) || vs.length != ts.length then some none
  else if vs.any (fun | .Starred .. => true | _ => false) then some none
  else if (parNames sc ts).length != ts.length || (parNames sc ts).eraseDups.length != (parNames sc ts).length then some none
  else if vs.all (foldedForSure 8) then some none
  else if vs.all (constantsAlone 8) then none
  else some (some (parNames sc ts))
section
variable {env : PySem.Env} {sc : Scope}
theorem blk_fn (hs : env.scope = sc) (hf : sc.kind = .function) : env.blockKind = .function := by
  unfold Env.blockKind
  rw [hs, hf]
  rfl
theorem swapped_eq {ts vs : List Expr} {k k2 : Nat} {p p2 : Pos} : swappedStores [.Tuple ts k p] (.Tuple vs k2 p2) env =
    if (!(ts.length == 2 || ts.length == 3) || vs.length != ts.length || env.blockKind != .function) = true then pure none
    else if (vs.any (fun | .Starred .. => true | _ => false)) = true then pure none
    else if ((parNames env.scope ts).length != ts.length || (parNames env.scope ts).eraseDups.length != (parNames env.scope ts).length) = true then pure none
    else if (vs.all (foldedForSure 8)) = true then pure none
    else if (vs.all (constantsAlone 8)) = true then (do let _ ← (unsupported "assign.tuple-of-constant-expressions:order-of-the-stores" : Sem Unit); pure (some (parNames env.scope ts)))
    else pure (some (parNames env.scope ts)) := rfl
theorem swR_ok {ts vs : List Expr} {k k2 : Nat} {p p2 : Pos} {r : Option (List Str)} (hs : env.scope = sc) (hf : sc.kind = .function) (h : swR sc ts vs = some r) : swappedStores [.Tuple ts k p] (.Tuple vs k2 p2) env = pure r := by
  have hb := blk_fn hs hf
  rw [swapped_eq, hb, hs]
  have hbb : ((ScopeKind.function != ScopeKind.function) : Bool) = false := rfl
  rw [hbb, Bool.or_false]
  unfold swR at h
  split at h
  · rename_i c; cases h; rw [if_pos c]
  · rename_i c
    rw [if_neg c]
    split at h
    · rename_i c2; cases h; rw [if_pos c2]
    · rename_i c2
      rw [if_neg c2]
      split at h
      · rename_i c3; cases h; rw [if_pos c3]
      · rename_i c3
        rw [if_neg c3]
        split at h
        · rename_i c4; cases h; rw [if_pos c4]
        · rename_i c4
          rw [if_neg c4]
          split at h
          · cases h
          · rename_i c5
            cases h
            rw [if_neg c5]
theorem sw_none {tg v : Expr} {l : Nat} (hs : env.scope = sc) (hf : sc.kind = .function) (h : swB sc tg v = false) : swapsWithSole [tg] v l env = pure false := by
  have hb := blk_fn hs hf
  have hk : ∀ id, env.kindOf id = sc.names.lookup id := fun id => by rw [← hs]; rfl
  show swapsWith v (some tg) l env = pure false
  cases v <;> first | rfl | skip
  case ListComp el gs s p =>
    cases tg <;> first | rfl | skip
    case Name t tp =>
      unfold swapsWith
      simp only [swB] at h
      simp only [hb, hk]
      have : ((ScopeKind.function == ScopeKind.function) : Bool) = true := rfl
      simp only [this, Bool.true_and, h]
  case SetComp => cases h
  case DictComp => cases h
theorem nd_none {tg v : Expr} (h : nd2 tg v = true) : swappedStores [tg] v env = pure none := by
  cases tg <;> first | rfl | cases h | skip
  case Tuple => cases v <;> first | rfl | cases h
theorem swx_none {v : Expr} {l : Nat} (h : notComp v = true) : swapsWith v none l env = pure false := by
  cases v <;> first | rfl | cases h
end
def nmC (ck : Ck) (sc : Scope) (i : Nat) (n : Str) : Bool := decide (ck.N[i]? = some n) && (locC sc n || celC sc n)
def chkNs (ck : Ck) (sc : Scope) : List Nat → List Expr → Bool
  | [], es => (match es with | [] => true | _ => false)
  | i :: is, es => (match es with | .Name n _ :: r => nmC ck sc i n && chkNs ck sc is r | _ => false)
def chkPs (ck : Ck) (sc : Scope) : List Bool → List IE → List Expr → Bool
  | [], es, xs => (match es, xs with | [], [] => true | _, _ => false)
  | o :: os, es, xs => (match es, xs with | e :: es, x :: xs => notStar x && chkE ck sc e x && (!o || isNew e) && chkPs ck sc os es xs | _, _ => false)
/-- a comprehension that goes straight into the name -/
def compOk (sc : Scope) (tg v : Expr) : IE → Bool
  | .comp _ _ (.keys _) _ => !swB sc tg v
  | .comp .. => true
  | _ => !swB sc tg v
mutual
def chkS (ck : Ck) (sc : Scope) (top : Bool) : IS → Stmt → Bool
  | .asg t e, s => (match s with
    | .Assign [tg] v _ => chkT ck.N (fun _ => true) sc t tg && notStar tg && chkE ck sc e v && nd2 tg v && compOk sc tg v e
    | _ => false)
  | .own i e, s => (match s with
    | .Assign [.Name n p] v _ => nmC ck sc i n && isNew e && chkE ck sc e v && compOk sc (.Name n p) v e
    | _ => false)
  | .par ts es, s => (match s with
    | .Assign [.Tuple tgs _ _] (.Tuple vs _ _) _ => chkNs ck sc (ts.map (·.1)) tgs && chkPs ck sc (ts.map (·.2)) es vs && decide (ts.length < 1000) && (match swR sc tgs vs with
      | some none => true
      | some (some ns) => (match ts, tgs, vs with
        | [(i, _), (j, _)], [.Name a _, .Name b _], [_, _] => decide (ns = [a, b]) && decide (i ≠ j) && locC sc a && locC sc b
        | [(i, _), (j, _), (l, _)], [.Name a _, .Name b _, .Name c _], [_, _, _] => decide (ns = [a, b, c]) && decide (i ≠ j) && decide (i ≠ l) && decide (j ≠ l) && locC sc a && locC sc b && locC sc c
        | _, _, _ => false)
      | none => false)
    | _ => false)
  | .cupn i f es, s => (match s with
    | .Assign [.Name n _] (.Call (.Name x _) xs [] _) _ => top && nmC ck sc i n && decide (ck.fnm[f]? = some x) && glC sc x && okN x && chkL ck sc es xs
    | _ => false)
  | .setc i b e, s => (match s with
    | .Assign [.Subscript (.Name n _) (.Constant (.int j) _ _) _] v _ => nmC ck sc i n && okN n && decide (j = if b then 1 else 0) && chkE ck sc e v && notComp v
    | _ => false)
  | .app i e, s => (match s with
    | .Expr (.Call (.Attribute (.Name n _) m ap) [x] [] cp) _ => decide (m = "append") && ap.endLine == cp.line && nmC ck sc i n && okN n && notStar x && chkE ck sc e x
    | _ => false)
  | .sets i ix e, s => (match s with
    | .Assign [.Subscript (.Name n _) y _] v _ => nmC ck sc i n && okN n && plainIx y && chkE ck sc ix y && chkE ck sc e v && notComp v
    | _ => false)
  | .aug i e, s => (match s with
    | .AugAssign (.Name n _) .Add v _ => nmC ck sc i n && chkE ck sc e v
    | _ => false)
  | .popi t i, s => (match s with
    | .Assign [.Name z _] (.Call (.Attribute (.Name n _) m ap) [] [] cp) _ => decide (m = "pop") && ap.endLine == cp.line && nmC ck sc t z && nmC ck sc i n && okN n
    | _ => false)
  | .exp e, s => (match s with
    | .Expr v _ => chkE ck sc e v && notComp v
    | _ => false)
  | .ret e, s => (match s with
    | .Return (some v) _ => chkE ck sc e v
    | _ => false)
  | .retn e, s => (match s with
    | .Return (some v) _ => chkE ck sc e v && isNew e
    | _ => false)
  | .if_ c a b, s => (match s with
    | .If x ya yb _ => chkE ck sc c x && tst c && chkSs ck sc top a ya && chkSs ck sc top b yb
    | _ => false)
  | .for_ t r b, s => (match s with
    | .For tg it body [] _ => chkR ck sc r it tg && chkT ck.N (fun _ => true) sc t tg && plainIter it && chkSs ck sc top b body
    | _ => false)
  | .whl _ c b, s => (match s with
    | .While x body [] _ => chkE ck sc c x && tst c && chkSs ck sc top b body
    | _ => false)
  | .cont, s => (match s with
    | .Continue _ => true
    | _ => false)
  | .pass, s => (match s with
    | .Pass _ => true
    | _ => false)
  | .never, _ => true
  | _, _ => false
termination_by structural s => s
def chkSs (ck : Ck) (sc : Scope) (top : Bool) : List IS → List Stmt → Bool
  | [], ss => (match ss with | [] => true | _ => false)
  | s :: r, ss => (match s with
    | .frz _ => chkSs ck sc top r ss
    | _ => (match ss with
      | x :: xs => chkS ck sc top s x && chkSs ck sc top r xs
      | [] => false))
termination_by structural s => s
end
end EV
end

section
set_option Elab.async false
set_option linter.all false
set_option maxRecDepth 100000
set_option maxHeartbeats 1000000
/-! EvZ: every checked statement is reckoned rightly. -/
namespace EV
open PySem PySem.Spec PyProof.Rows L2
structure SOK (g : G) (ck : Ck) (C : Cfg) (cal : Cal) (sc : Scope) (X : Cx) : Prop where
  x : XOK g ck C cal sc X
  xe : X.xe = fun _ _ => False
  fn : ∀ n, X.fn n = true
  kd : sc.kind = .function
section
variable {g : G} {C : Cfg} {cal : Cal} {ck : Ck} {sc : Scope} {f : Fm} {X : Cx} {top : Bool}
theorem nm_of (h : SOK g ck C cal sc X) {i : Nat} {n : Str} (hn : nmC ck sc i n = true) : Nm ck X i n := by
  unfold nmC at hn
  simp only [Bool.and_eq_true, decide_eq_true_eq, Bool.or_eq_true] at hn
  refine ⟨by rw [h.x.N]; exact hn.1, by rw [h.x.N]; exact h.x.nd, ?_, .inl (h.fn n)⟩
  rw [h.x.sc]
  exact hn.2.imp loc_of cel_of
theorem nms_of (h : SOK g ck C cal sc X) : ∀ {is : List Nat} {es : List Expr}, chkNs ck sc is es = true → Nms ck X is es
  | [], es, hc => by
    simp only [chkNs] at hc
    split at hc
    · exact .nil
    · cases hc
  | i :: is, es, hc => by
    simp only [chkNs] at hc
    split at hc
    · simp only [Bool.and_eq_true] at hc
      exact .cons (nm_of h hc.1) (nms_of h hc.2)
    · cases hc
theorem mx_of (h : XOK g ck C cal sc X) : ∀ {os : List Bool} {es : List IE} {xs : List Expr}, chkPs ck sc os es xs = true → PA X xs (tMx g os (evL cal C es))
  | [], es, xs, hc => by
    simp only [chkPs] at hc
    split at hc
    · rw [show evL cal C [] = fun _ => mp [] from funext fun ρ => by simp only [evL]]
      exact mx_nil
    · cases hc
  | o :: os, es, xs, hc => by
    simp only [chkPs] at hc
    split at hc
    · rename_i e es x xs
      simp only [Bool.and_eq_true, Bool.or_eq_true, Bool.not_eq_true'] at hc
      obtain ⟨⟨⟨h1, h2⟩, h3⟩, h4⟩ := hc
      have ih := mx_of h h4
      rw [show evL cal C (e :: es) = fun ρ => mb (evE cal C e ρ) fun d => mb (evL cal C es ρ) fun ds => mp (d :: ds) from funext fun ρ => by simp only [evL]]
      cases o with
      | false => exact mx_val h1 (fun f => (sE e x sc f X h h2).nf) ih
      | true => exact mx_new h1 (fun f => (sE e x sc f X h h2).nw (by simpa using h3)) ih
    · cases hc
theorem eqS {st : Stmt} {A B : EV.Env → M Fl} (h : PS X st (tS g f A)) (e : ∀ ρ, B ρ = A ρ) : PS X st (tS g f B) := by rw [show B = A from funext e]; exact h
theorem eqSs {st : List Stmt} {A B : EV.Env → M Fl} (h : PSs X st (tS g f A)) (e : ∀ ρ, B ρ = A ρ) : PSs X st (tS g f B) := by rw [show B = A from funext e]; exact h
/-- a name gets a list comprehension, at once -/
theorem ps_lc {t : Tg} {s : Src} {cc e : IE} {i : Nat} {n : Str} {pn p : Pos} {v : Expr} {m : EV.Env → M Fl} (h : SOK g ck C cal sc X) (hn : nmC ck sc i n = true) (hc : chkE ck sc (.comp e t s cc) v = true) (hco : compOk sc (.Name n pn) v (.comp e t s cc) = true)
    (hm : ∀ te : TE, (∀ σ H Q, tN g f (evE cal C (.comp e t s cc)) σ H Q → te σ H Q) → ∀ D σ H, tS g f m D σ H → tAsg te (gName i) D σ H) : PS X (.Assign [.Name n pn] v p) (tS g f m) := by
  have hN := nm_of h hn
  cases hb : swB sc (.Name n pn) v with
  | false =>
    have nw := (sE _ v sc f X h.x hc).nw rfl
    exact PS.imp (ps_asg nw (pg_name hN.nd hN.ix hN.loc hN.fn) (sw_none h.x.sc h.kd hb) rfl) fun D σ H q => hm _ (fun _ _ _ h => h) D σ H q
  | true =>
    have hb0 := hb
    simp only [chkE] at hc
    split at hc
    · rename_i el tg it ifs scope p2
      simp only [swB, Bool.and_eq_true, beq_iff_eq, Bool.not_eq_true'] at hb
      simp only [Bool.and_eq_true, List.all_eq_true, decide_eq_true_eq] at hc
      obtain ⟨⟨⟨⟨⟨⟨h1, h2⟩, h3⟩, h4⟩, h5⟩, h6⟩, h7⟩ := hc
      have h1 : chkR ck sc s it tg = true := by
        simp only [Bool.or_eq_true] at h1
        rcases h1 with h1 | h1
        · exact h1
        · exfalso
          unfold keysC at h1
          split at h1
          · simp only [compOk, Bool.not_eq_true'] at hco
            rw [hb0] at hco
            cases hco
          · cases h1
      have ir := sR s it tg sc f X h.x h1
      have cl : Clauses g ck C cal sc scope t cc e tg el ifs := by
        refine ⟨h2, h5, h7, fun f X hX' => ?_, fun f X hX' => (sE e el _ f X hX' h4).nf⟩
        cases ifs with
        | nil =>
          have := yes_of h3
          subst this
          rw [show (fun ρ => mb (evE cal C (.k (.bl true)) ρ) mB) = fun _ => mp true from funext fun ρ => by simp only [evE] <;> rfl]
          exact pts_yes
        | cons y r =>
          cases r with
          | nil =>
            simp only [Bool.and_eq_true] at h3
            exact pts_one ((sE cc y _ f X hX' h3.1).tt h3.2)
          | cons _ _ => cases h3
      have hblk : BlkOk X.N X.env.scope scope (ownOf ck.N t.names) := by rw [h.x.N, h.x.sc]; exact blkOk_by cl.blk
      have hl : X.env.scope.names.lookup n = some .local := by rw [h.x.sc]; exact hb.1.1
      refine PS.imp (ps_setLc (own := ownOf ck.N t.names) h.x.calm hN.nd hN.ix hl (sw_true (by rw [h.x.sc]; exact h.kd) hl (beq_iff_eq.mpr (show pn.line = p2.line from hb.1.2)) hb.2) ir.bo hblk (g_blk h.x cl)
        (fun s H A cl' fp => pts_ET fun f => cl.ts f _ (h.x.blk s H scope cl' A fp)) (fun s H A cl' fp => pe_EG fun f => cl.el f _ (h.x.blk s H scope cl' A fp)) (fun x => iter_of h6 x)) fun D σ H q => ?_
      rw [own_names cl.lt]
      refine hm _ (fun σ H Q q => ?_) D σ H q
      rw [show evE cal C (.comp e t s cc) = _ from funext fun ρ => comp_ev] at q
      exact comp_core q
    · cases hc
def cupF (i : Nat) (ρ : EV.Env) (r : D × Bool) : M Fl := match r with
  | (.lst [.int a, .int b], true) => if ρ.all (fun s => match s with | .cup => false | _ => true) then fun _ => .ok (.nx (ρ.set i .cup)) (a, b) else mf
  | _ => mf
theorem cup_end {i j : Nat} {D : Ends} {ρ : EV.Env} {k k1 : Cup} {c : Option Addr} {σ : L2.St} {H H1 : Hp} {as : List Arg} {vs : List V} (h0 : f.c0 = none) (E : EOK g f ρ k c σ H) (e1 : Eff c H H1) (E1 : EOK g f ρ k1 c σ H1) (r : RpA g (NF f ρ σ c) H1 c as vs)
    (h : OkR (mb (cal j as) (cupF i ρ) k1) (PostS g f ρ σ c H D)) : spF g cal j vs H1 (fun x H2 => gName i x σ H2 D.nx) (fun _ _ _ => False) := by
  refine ⟨as, NF f ρ σ c, k1, c, r, E1.cup, fun a n => nfc n, (OkR_mb.mp h).imp fun r k2 h v H' e2 cu rr => ?_⟩
  unfold cupF at h
  split at h
  · rename_i a b
    split at h
    · rename_i hall
      simp only [if_true] at rr
      obtain ⟨p, rfl, hp, vs, hp', rs⟩ := rr
      simp only [Rps, Rp] at rs
      obtain ⟨_, _, rfl, rfl, _, _, rfl, rfl, rfl⟩ := rs
      obtain ⟨E2, K2⟩ := E1.setCup (k' := (a, b)) h0 (i := i) e2 hp hp' hall cu
      exact h _ _ H' E2 ((Kp.eff E e1 fun _ n => n).trans K2)
    · exact h.elim
  · exact h.elim
theorem st_cupn {i j : Nat} {n x : Str} {pn p p2 p3 : Pos} {es : List Expr} {LA : EV.Env → M (List Arg)} (h0 : f.c0 = none) (hX : XOK g ck C cal sc X) (hn : Nm ck X i n) (hN : ck.fnm[j]? = some x) (hg : glC sc x = true) (hd : (x == ("__debug__" : Str)) = false) (hst : ∀ e ∈ es, notStar e = true)
    (ha : PA X es (tA g f LA)) (hnil : es = [] → LA = fun _ => mp []) :
    PS X (.Assign [.Name n pn] (.Call (.Name x p) es [] p2) p3) (tS g f fun ρ => mb (LA ρ) fun as => mb (cal j as) (cupF i ρ)) := by
  obtain ⟨kk, fa, fd, ps, h1, h2, h3, h4, h5⟩ := hX.fn j x hN
  have hg' : Gl X x := gl_of (by rw [hX.sc]; exact hg)
  cases es with
  | nil =>
    refine PS.imp (ps_asg (pe_call0 (E := fun _ _ _ => False) (dvs := []) (ds := []) h3 h4 hg' h1 h2 h5 .nil C8.pass0 hd) (pg_name hn.nd hn.ix hn.loc hn.fn) rfl rfl) fun D σ H ⟨ρ, k, c, E, q⟩ => ?_
    rw [hnil rfl] at q
    exact cup_end (vs := []) h0 E Eff.refl E (by simp only [RpA]) q
  | cons e es =>
    refine PS.imp (ps_asg (pe_call (E := fun _ _ _ => False) (dvs := []) (ds := []) h3 h4 hg' h1 h2 h5 .nil C8.pass0 ha hd (star_of (hst e (by simp))) (noStar fun x hx => hst x (by simp [hx]))) (pg_name hn.nd hn.ix hn.loc hn.fn) rfl rfl) fun D σ H ⟨ρ, k, c, E, q⟩ => ?_
    refine tA_seq E q fun as k1 vs H1 h e1 E1 r1 => ?_
    show spF g cal j (vs ++ []) H1 _ _
    rw [List.append_nil]
    exact cup_end h0 E e1 E1 r1 h
theorem okN2 {n : Str} (h : okN n = true) : (n == ("__debug__" : Str)) = false := (okN_of h).1
mutual
theorem sS : ∀ (s : IS) (st : Stmt) (f : Fm) (X : Cx), SOK g ck C cal sc X → (top = true → f.c0 = none) → chkS ck sc top s st = true → PS X st (tS g f (evS cal C s))
  | .asg t e, st, f, X, h, ht, hc => by
    simp only [chkS] at hc
    split at hc
    · rename_i tg v p
      simp only [Bool.and_eq_true] at hc
      obtain ⟨⟨⟨⟨h1, h2⟩, h3⟩, h4⟩, h5⟩ := hc
      have ev : ∀ ρ, evS cal C (.asg t e) ρ = mb (evE cal C e ρ) fun d => mb (mo (t.bind d ρ)) fun ρ' => mp (.nx ρ') := fun ρ => by simp only [evS]
      by_cases hb : swB sc tg v = false
      · have hg := g_bind (g := g) (X := X) h.x.K h.x.calm h.x.N h.x.nd h.x.sc (fun n _ => h.fn n) t tg h1
        exact eqS (st_asg h2 (sE e v sc f X h.x h3).nf hg (sw_none h.x.sc h.kd hb) (nd_none h4)) ev
      · simp only [Bool.not_eq_false] at hb
        have h5c := h5
        cases e <;> first | (simp only [compOk, hb, Bool.not_true, Bool.false_eq_true] at h5; done) | skip
        rename_i e t' s' cc
        have htg : ∃ n pn, tg = .Name n pn := by
          cases v <;> simp only [swB, Bool.false_eq_true] at hb <;> try (simp [chkE] at h3; done)
          cases tg <;> simp only [Bool.false_eq_true] at hb
          exact ⟨_, _, rfl⟩
        obtain ⟨n, pn, rfl⟩ := htg
        cases t with
        | tp ts => simp [chkT] at h1
        | nm i =>
          simp only [chkT, Bool.and_eq_true, decide_eq_true_eq, Bool.or_eq_true] at h1
          have hn : nmC ck sc i n = true := by
            unfold nmC
            simp only [Bool.and_eq_true, decide_eq_true_eq, Bool.or_eq_true]
            exact ⟨h1.1, h1.2.imp id fun z => z.1⟩
          exact eqS (ps_lc h hn h3 h5c fun te hte D σ H q => nm_core (fun σ H Q q => hte σ H Q (tN_of (tG_weak q))) q) ev
    · cases hc
  | .own i e, st, f, X, h, ht, hc => by
    simp only [chkS] at hc
    split at hc
    · rename_i n p v p2
      simp only [Bool.and_eq_true] at hc
      obtain ⟨⟨⟨h1, h2⟩, h3⟩, h4⟩ := hc
      have hN := nm_of h h1
      have ev : ∀ ρ, evS cal C (.own i e) ρ = mb (evE cal C e ρ) fun d => mp (.nx (ρ.set i (.own d))) := fun ρ => by simp only [evS]
      by_cases hb : swB sc (.Name n p) v = false
      · exact eqS (st_own hN ((sE e v sc f X h.x h3).nw h2) (sw_none h.x.sc h.kd hb) rfl) ev
      · simp only [Bool.not_eq_false] at hb
        have h5c := h4
        cases e <;> first | (simp only [compOk, hb, Bool.not_true, Bool.false_eq_true] at h4; done) | skip
        exact eqS (ps_lc h h1 h3 h5c fun te hte D σ H q => own_core hte q) ev
    · cases hc
  | .par ts es, st, f, X, h, ht, hc => by
    simp only [chkS] at hc
    split at hc
    · rename_i tgs k1 p1 vs k2 p2 p
      simp only [Bool.and_eq_true, decide_eq_true_eq] at hc
      obtain ⟨⟨⟨h1, h2⟩, h3⟩, h4⟩ := hc
      have hn := nms_of h h1
      have ha := mx_of h.x h2
      have ev : ∀ ρ, evS cal C (.par ts es) ρ = mb (evL cal C es ρ) fun ds => mb (mo (bindPar ts ds ρ)) fun ρ' => mp (.nx ρ') := fun ρ => by simp only [evS]
      split at h4
      · rename_i hw
        exact eqS (st_par h.x.calm trivial hn ha h3 (swR_ok h.x.sc h.kd hw)) ev
      · rename_i ns hw
        have hw' := fun k k2 p p2 => swR_ok (env := X.env) (k := k) (k2 := k2) (p := p) (p2 := p2) h.x.sc h.kd hw
        split at h4
        · simp only [Bool.and_eq_true, decide_eq_true_eq] at h4
          obtain ⟨⟨⟨rfl, h5⟩, h6⟩, h7⟩ := h4
          cases hn with
          | cons n1 hn =>
            cases hn with
            | cons n2 hn => exact eqS (st_par2 h.x.calm n1 n2 h5 (by rw [h.x.sc]; exact loc_of h6) (by rw [h.x.sc]; exact loc_of h7) ha (hw' _ _ _ _)) ev
        · simp only [Bool.and_eq_true, decide_eq_true_eq] at h4
          obtain ⟨⟨⟨⟨⟨⟨rfl, h5⟩, h6⟩, h7⟩, h8⟩, h9⟩, h10⟩ := h4
          cases hn with
          | cons n1 hn =>
            cases hn with
            | cons n2 hn =>
              cases hn with
              | cons n3 hn => exact eqS (st_par3 h.x.calm n1 n2 n3 h5 h6 h7 (by rw [h.x.sc]; exact loc_of h8) (by rw [h.x.sc]; exact loc_of h9) (by rw [h.x.sc]; exact loc_of h10) ha (hw' _ _ _ _)) ev
        · cases h4
      · cases h4
    · cases hc
  | .cupn i j es, st, f, X, h, ht, hc => by
    simp only [chkS] at hc
    split at hc
    · rename_i n p x p2 xs p3 p4
      simp only [Bool.and_eq_true, decide_eq_true_eq] at hc
      obtain ⟨⟨⟨⟨⟨h1, h2⟩, h3⟩, h4⟩, h5⟩, h6⟩ := hc
      have ih := sL es _ sc f X h.x h6
      refine eqS (st_cupn (ht h1) h.x (nm_of h h2) h3 h4 (okN_of h5).1 ih.st ih.as fun e => ?_) fun ρ => by simp only [evS] <;> rfl
      have := ih.ln
      rw [e] at this
      have : es = [] := by simpa using this
      subst this
      funext ρ
      simp only [evA]
    · cases hc
  | .setc i b e, st, f, X, h, ht, hc => by
    simp only [chkS] at hc
    split at hc
    · simp only [Bool.and_eq_true, decide_eq_true_eq] at hc
      obtain ⟨⟨⟨⟨h1, h2⟩, h3⟩, h4⟩, h5⟩ := hc
      exact eqS (st_setc h3 (nm_of h h1) h2 (sE e _ sc f X h.x h4).nf (sw_none h.x.sc h.kd (by rename_i v _; cases v <;> first | rfl | cases h5)) rfl) fun ρ => by simp only [evS] <;> rfl
    · cases hc
  | .app i e, st, f, X, h, ht, hc => by
    simp only [chkS] at hc
    split at hc
    · simp only [Bool.and_eq_true, decide_eq_true_eq] at hc
      obtain ⟨⟨⟨⟨⟨rfl, h1⟩, h2⟩, h3⟩, h4⟩, h5⟩ := hc
      exact eqS (st_app (nm_of h h2) h3 h4 (sE e _ sc f X h.x h5).nf h1) fun ρ => by simp only [evS] <;> rfl
    · cases hc
  | .sets i ix e, st, f, X, h, ht, hc => by
    simp only [chkS] at hc
    split at hc
    · simp only [Bool.and_eq_true, decide_eq_true_eq] at hc
      obtain ⟨⟨⟨⟨⟨h1, h2⟩, h3⟩, h4⟩, h5⟩, h6⟩ := hc
      exact eqS (st_sets h3 (nm_of h h1) h2 (sE e _ sc f X h.x h5).nf (sE ix _ sc f X h.x h4).nf (sw_none h.x.sc h.kd (by rename_i v _; cases v <;> first | rfl | cases h6)) rfl) fun ρ => by simp only [evS] <;> rfl
    · cases hc
  | .aug i e, st, f, X, h, ht, hc => by
    simp only [chkS] at hc
    split at hc
    · simp only [Bool.and_eq_true] at hc
      exact eqS (st_aug (nm_of h hc.1) (sE e _ sc f X h.x hc.2).nf) fun ρ => by simp only [evS] <;> rfl
    · cases hc
  | .popi t i, st, f, X, h, ht, hc => by
    simp only [chkS] at hc
    split at hc
    · simp only [Bool.and_eq_true, decide_eq_true_eq] at hc
      obtain ⟨⟨⟨⟨rfl, h1⟩, h2⟩, h3⟩, h4⟩ := hc
      exact eqS (st_popi (nm_of h h2) (nm_of h h3) h4 h1) fun ρ => by simp only [evS] <;> rfl
    · cases hc
  | .exp e, st, f, X, h, ht, hc => by
    simp only [chkS] at hc
    split at hc
    · simp only [Bool.and_eq_true] at hc
      exact eqS (st_exp (sE e _ sc f X h.x hc.1).nf (swx_none hc.2)) fun ρ => by simp only [evS]
    · cases hc
  | .ret e, st, f, X, h, ht, hc => by
    simp only [chkS] at hc
    split at hc
    · exact eqS (st_ret (sE e _ sc f X h.x hc).nf) fun ρ => by simp only [evS]
    · cases hc
  | .retn e, st, f, X, h, ht, hc => by
    simp only [chkS] at hc
    split at hc
    · simp only [Bool.and_eq_true] at hc
      exact eqS (st_retn ((sE e _ sc f X h.x hc.1).nw hc.2)) fun ρ => by simp only [evS]
    · cases hc
  | .if_ c a b, st, f, X, h, ht, hc => by
    simp only [chkS] at hc
    split at hc
    · simp only [Bool.and_eq_true] at hc
      obtain ⟨⟨⟨h1, h2⟩, h3⟩, h4⟩ := hc
      exact eqS (st_if ((sE c _ sc f X h.x h1).tt h2) (sSs a _ f X h ht h3) (sSs b _ f X h ht h4)) fun ρ => by simp only [evS]
    · cases hc
  | .for_ t r b, st, f, X, h, ht, hc => by
    simp only [chkS] at hc
    split at hc
    · rename_i tg it body p
      simp only [Bool.and_eq_true] at hc
      obtain ⟨⟨⟨h1, h2⟩, h3⟩, h4⟩ := hc
      have hg := g_bind (g := g) (X := X) h.x.K h.x.calm h.x.N h.x.nd h.x.sc (fun n _ => h.fn n) t tg h2
      exact eqS (st_for h.xe h.x.calm (sR r it tg sc f X h.x h1).nf hg (sSs b _ f X h ht h4) h3) fun ρ => by simp only [evS]
    · cases hc
  | .whl m c b, st, f, X, h, ht, hc => by
    simp only [chkS] at hc
    split at hc
    · simp only [Bool.and_eq_true] at hc
      obtain ⟨⟨h1, h2⟩, h3⟩ := hc
      exact eqS (st_while (m := m) h.xe ((sE c _ sc f X h.x h1).tt h2) (sSs b _ f X h ht h3)) fun ρ => by simp only [evS]
    · cases hc
  | .raise c es, st, f, X, h, ht, hc => by simp [chkS] at hc
  | .frz i, st, f, X, h, ht, hc => by simp [chkS] at hc
  | .cont, st, f, X, h, ht, hc => by
    simp only [chkS] at hc
    split at hc
    · exact eqS st_cont fun ρ => by simp only [evS]
    · cases hc
  | .pass, st, f, X, h, ht, hc => by
    simp only [chkS] at hc
    split at hc
    · exact eqS st_pass fun ρ => by simp only [evS]
    · cases hc
  | .never, st, f, X, h, ht, hc => eqS st_never fun ρ => by simp only [evS]
termination_by structural s => s
theorem sSs : ∀ (ss : List IS) (st : List Stmt) (f : Fm) (X : Cx), SOK g ck C cal sc X → (top = true → f.c0 = none) → chkSs ck sc top ss st = true → PSs X st (tS g f (evSs cal C ss))
  | [], st, f, X, h, ht, hc => by
    simp only [chkSs] at hc
    split at hc
    · exact eqSs ss_nil fun ρ => by simp only [evSs]
    · cases hc
  | s :: r, st, f, X, h, ht, hc => by
    have ev : ∀ ρ, evSs cal C (s :: r) ρ = mb (evS cal C s ρ) fun fl => seqF fl (evSs cal C r) := fun ρ => by simp only [evSs] <;> rfl
    by_cases hf : ∃ i, s = .frz i
    · obtain ⟨i, rfl⟩ := hf
      simp only [chkSs] at hc
      exact eqSs (ss_frz (i := i) (sSs r st f X h ht hc)) fun ρ => by rw [ev]; simp only [evS] <;> rfl
    · cases st with
      | nil => cases s <;> first | exact absurd ⟨_, rfl⟩ hf | (simp only [chkSs] at hc; cases hc)
      | cons x xs =>
        have h2 : (chkS ck sc top s x && chkSs ck sc top r xs) = true := by
          cases s <;> first | exact absurd ⟨_, rfl⟩ hf | (simp only [chkSs] at hc; exact hc)
        simp only [Bool.and_eq_true] at h2
        exact eqSs (ss_cons (sS s x f X h ht h2.1) (sSs r xs f X h ht h2.2)) ev
termination_by structural ss => ss
end
end
end EV
end

section
set_option Elab.async false
set_option linter.all false
set_option maxRecDepth 100000
set_option maxHeartbeats 1000000
/-! EwA: the defs of a text. -/
namespace EV
open PySem PySem.Spec PyProof.Rows L2
section
variable {g : G} {H : Hp} {c : Option Addr} {N0 : Addr → Prop} {k : Cup}
def ArgR (g : G) (N : Addr → Prop) (H : Hp) (c : Option Addr) : Arg → V → Prop
  | .val d, v => Rp g N H d v
  | .cup, v => ∃ a, v = .ref a ∧ c = some a
theorem RpA.get : ∀ {as : List Arg} {vs : List V}, RpA g N0 H c as vs → as.length = vs.length ∧ ∀ (i : Nat) (a : Arg), as[i]? = some a → ∃ v, vs[i]? = some v ∧ ArgR g N0 H c a v
  | [], vs, h => by
    simp only [RpA] at h
    subst h
    exact ⟨rfl, fun i a e => by simp at e⟩
  | .val d :: as, vs, h => by
    simp only [RpA] at h
    obtain ⟨v, r, rfl, h1, h2⟩ := h
    obtain ⟨l, h3⟩ := RpA.get h2
    refine ⟨by simp [l], fun i a e => ?_⟩
    cases i with
    | zero => simp at e; subst e; exact ⟨v, rfl, h1⟩
    | succ i => exact h3 i a (by simpa using e)
  | .cup :: as, vs, h => by
    simp only [RpA] at h
    obtain ⟨b, r, rfl, h1, h2⟩ := h
    obtain ⟨l, h3⟩ := RpA.get h2
    refine ⟨by simp [l], fun i a e => ?_⟩
    cases i with
    | zero => simp at e; subst e; exact ⟨.ref b, rfl, b, rfl, h1⟩
    | succ i => exact h3 i a (by simpa using e)
theorem start_get {N : List Str} {vs : List V} {i : Nat} {v : V} (h : vs[i]? = some v) : (L2.start N vs)[i]? = some (some v) := by
  unfold L2.start
  obtain ⟨hl, e⟩ := List.getElem?_eq_some_iff.mp h
  rw [List.getElem?_append_left (by simpa using hl)]
  simp [h]
theorem eok_start {as : List Arg} {vs : List V} {N : List Str} (ra : RpA g N0 H c as vs) (cu : CupAt c k H) (hn : ∀ a, N0 a → some a ≠ c) :
    EOK g ⟨N0, H, c, fun _ => False⟩ (as.map argSlot ++ List.replicate (N.length - as.length) .no) k c (L2.start N vs) H := by
  obtain ⟨hl, hg⟩ := ra.get
  have slot : ∀ (i : Nat) (s : Slot), (as.map argSlot ++ List.replicate (N.length - as.length) Slot.no)[i]? = some s → s = .no ∨ ∃ a, as[i]? = some a ∧ s = argSlot a := fun i s h => by
    by_cases hi : i < as.length
    · rw [List.getElem?_append_left (by simpa using hi)] at h
      rw [List.getElem?_map] at h
      cases q : as[i]? with
      | none => rw [q] at h; cases h
      | some a => rw [q] at h; exact .inr ⟨a, rfl, (Option.some.inj h).symm⟩
    · rw [List.getElem?_append_right (by simpa using hi)] at h
      rw [List.getElem?_replicate] at h
      split at h
      · exact .inl (Option.some.inj h).symm
      · cases h
  have noown : ∀ (j : Nat) (d : D), (as.map argSlot ++ List.replicate (N.length - as.length) Slot.no)[j]? ≠ some (Slot.own d) := fun j d h => by
    rcases slot j _ h with z | ⟨a, _, z⟩
    · cases z
    · cases a <;> cases z
  refine ⟨cu, fun _ => rfl, fun n => absurd rfl n, fun a e => (by have := cu a e; show H a ≠ none; rw [this]; simp), hn, fun a o h _ => h, ?_, fun i s h => ?_, fun i j d e a h1 => absurd h1 (noown i d), fun a h => h.elim⟩
  · unfold L2.start
    simp [hl]
  · rcases slot i s h with rfl | ⟨a, ha, rfl⟩
    · trivial
    · obtain ⟨v, hv, r⟩ := hg i a ha
      cases a with
      | val d =>
        refine ⟨v, start_get hv, Rp.mono (fun b n => ?_) Ex.refl r⟩
        exact ⟨.inl n, hn b n, fun z => z, fun j e hj => absurd hj (noown j e)⟩
      | cup =>
        obtain ⟨b, rfl, hb⟩ := r
        exact ⟨b, hb, start_get hv⟩
end
/-- one def: the row's data; the names of its slots; its parameters -/
structure Df where
  d : He.DefD
  N : List Str
  ps : List Str
def dfOk (fnm gnm : List Str) (top : Bool) (e : Df) (fn : Fn) : Bool :=
  decide (fn.np = e.ps.length) && decide (fn.ns = e.N.length) && C8.scC e.N e.ps e.d.scope && chkSs ⟨e.N, fnm, gnm⟩ e.d.scope top fn.body e.d.body && e.d.dfl.isEmpty && e.d.kwd.isEmpty
/-- the text's defs in the module -/
structure Lib (P : Program) (w : World) (K : PySem.W.Frag) (mg : Str → Option Value) (base : Heap) (g : G) (C : Cfg) (fns : List Fn) (ds : List Df) (fnm gnm : List Str) where
  hK : K = g.K
  kt : C.kt = g.kt
  fa : Nat → Addr
  fd : Nat → FuncData
  def_ : ∀ (i : Nat) (e : Df), ds[i]? = some e → FunD K e.d.name e.d.qual e.d.params e.d.body e.d.scope [] [] (fa i) (fd i) ∧ L2.Binds K (fd i) e.ps []
  fnm_ : ∀ (i : Nat) (x : Str), fnm[i]? = some x → ∃ e fn, ds[i]? = some e ∧ fns[i]? = some fn ∧ e.d.name = x ∧ mg x = some (.ref (fa i)) ∧ dfOk fnm gnm false e fn = true
  free : ∀ x ∈ biNames, mg x = none
  gl : ∀ (i : Nat) (x : Str), gnm[i]? = some x → ∃ d v u, C.gl[i]? = some d ∧ mg x = some u ∧ RelV v u ∧ ∀ (T N : Addr → Prop) (H : Hp), RpT g T N H d v
/-- what the law's def promises: it makes its own cup -/
def spT (g : G) (cal : Cal) (i : Nat) : Sp := fun vs H Q _ => ∃ (as : List Arg) (N0 : Addr → Prop), RpA g N0 H none as vs ∧
  OkR (cal i as (0, 0)) fun r k' => ∀ v H', Rp g (NN N0 H) H' r.1 v → Q v H'
section
variable {P : Program} {w : World} {K : PySem.W.Frag} {mg : Str → Option Value} {base : Heap} {g : G} {C : Cfg} {fns : List Fn} {ds : List Df} {fnm gnm : List Str}
theorem run_len {n i : Nat} {as : List Arg} {k : Cup} {Pp : D × Bool → Cup → Prop} (h : OkR (run fns C n i as k) Pp) : ∃ m fn, n = m + 1 ∧ fns[i]? = some fn ∧ as.length = fn.np ∧
    OkR (mb (evSs (run fns C m) C fn.body (as.map argSlot ++ List.replicate (fn.ns - fn.np) .no)) (fun fl => (match fl with
        | .nx _ => mp (.non, false)
        | .rt d fr => mp (d, fr)
        | .ct _ => mf)) k) Pp := by
  cases n with
  | zero => exact h.elim
  | succ m =>
    cases hf : fns[i]? with
    | none => simp only [run, hf] at h; exact h.elim
    | some fn =>
      simp only [run, hf] at h
      by_cases hl : as.length = fn.np
      · rw [if_pos hl] at h
        exact ⟨m, fn, rfl, rfl, hl, h⟩
      · rw [if_neg hl] at h
        exact h.elim
theorem body_ok (L : Lib P w K mg base g C fns ds fnm gnm) {n : Nat} {e : Df} {fn : Fn} {top : Bool} (hok : dfOk fnm gnm top e fn = true)
    (ih : ∀ (j : Nat) (x : Str) (e : Df), fnm[j]? = some x → ds[j]? = some e → FnOk P w K mg base CX0 n (L.fa j) (L.fd j) e.ps (spF g (run fns C n) j))
    {cdv : Value} {A : Around} {outer : List PySem.Env} {s : Shared} {H : Hp} {E : XK} {fad : Addr} (hr : Room n (A.deeper (envOfC e.d.qual e.d.scope s.heap.objs.size fad cdv))) (f : Fm) (ht : top = true → f.c0 = none) :
    PSs (cxOf CX0 P w K mg base e.N e.d.qual e.d.scope fad cdv A outer s H E) e.d.body (tS g f (evSs (run fns C n) C fn.body)) := by
  unfold dfOk at hok
  simp only [Bool.and_eq_true, decide_eq_true_eq] at hok
  obtain ⟨⟨⟨⟨⟨h1, h2⟩, h3⟩, h4⟩, _⟩, _⟩ := hok
  have S := C8.fnScope_by h3
  refine PSs.nox (sSs (ck := ⟨e.N, fnm, gnm⟩) (sc := e.d.scope) (top := top) fn.body e.d.body f _ ⟨⟨L.hK, L.kt, rfl, rfl, S.nd, rfl, ?_, L.free, L.gl, ?_⟩, rfl, fun _ => rfl, S.kind⟩ ht h4)
  · have := hr.un
    show (A.deeper _).units + 200 < cLine
    omega
  · intro j x hx
    obtain ⟨e', fn', h5, h6, rfl, h7, h8⟩ := L.fnm_ j x hx
    obtain ⟨F, b⟩ := L.def_ j e' h5
    exact ⟨n, L.fa j, L.fd j, e'.ps, h7, F.kp, ih j _ e' hx h5, hr, b⟩
theorem dfOk_len {top : Bool} {e : Df} {fn : Fn} (h : dfOk fnm gnm top e fn = true) : fn.np = e.ps.length ∧ fn.ns = e.N.length ∧ FnScope e.N e.ps e.d.scope := by
  unfold dfOk at h
  simp only [Bool.and_eq_true, decide_eq_true_eq] at h
  obtain ⟨⟨⟨⟨⟨h1, h2⟩, h3⟩, h4⟩, _⟩, _⟩ := h
  exact ⟨h1, h2, C8.fnScope_by h3⟩
theorem lib_fn (L : Lib P w K mg base g C fns ds fnm gnm) : ∀ (n j : Nat) (x : Str) (e : Df), fnm[j]? = some x → ds[j]? = some e → FnOk P w K mg base CX0 n (L.fa j) (L.fd j) e.ps (spF g (run fns C n) j)
  | 0, j, x, e, hx, he => ⟨fun vs H Q E ⟨as, N0, k, c, _, _, _, h⟩ => h.elim, fun A outer s H args us vs Q E _ _ _ _ ⟨as, N0, k, c, _, _, _, h⟩ => h.elim⟩
  | n + 1, j, x, e, hx, he => by
    obtain ⟨F, b⟩ := L.def_ j e he
    obtain ⟨e', fn, h5, h6, rfl, h7, hok⟩ := L.fnm_ j x hx
    rw [he] at h5
    cases h5
    obtain ⟨l1, l2, S⟩ := dfOk_len hok
    refine F.ok S (fun vs H Q E ⟨as, N0, k, c, ra, _, _, h⟩ => ?_) fun cdv A outer s H vs Q E hr ⟨as, N0, k, c, ra, cu, hn, h⟩ => ?_
    · obtain ⟨m, fn', _, hf, hl, _⟩ := run_len h
      rw [h6] at hf
      cases hf
      rw [← ra.get.1, hl, l1]
    · obtain ⟨m, fn', hm, hf, hl, h⟩ := run_len h
      cases hm
      rw [h6] at hf
      cases hf
      refine ⟨_, body_ok L hok (lib_fn L n) hr ⟨N0, H, c, fun _ => False⟩ (fun z => by cases z), ?_⟩
      have E0 := eok_start (N := e.N) ra cu hn
      rw [← l2, hl] at E0
      refine ⟨_, k, c, E0, (OkR_mb.mp h).imp fun fl k1 h => ?_⟩
      cases fl with
      | nx ρ' => exact fun σ' c' H' E' K => h .non H' (fun a o q n => E'.old a o q n) (fun a e => E'.cup a (by rw [E'.c0 (by rw [e]; simp)]; exact e)) (by simp only [Bool.false_eq_true, if_false, Rp])
      | ct ρ' => exact h.elim
      | rt d fr => exact fun v H' r => h v H' (fun a o q n => r.old a o q n) r.cup r.val
theorem lib_top (L : Lib P w K mg base g C fns ds fnm gnm) {n j : Nat} {e : Df} {fn : Fn} (he : ds[j]? = some e) (hf : fns[j]? = some fn) (hok : dfOk fnm gnm true e fn = true) : FnOk P w K mg base CX0 (n + 1) (L.fa j) (L.fd j) e.ps (spT g (run fns C (n + 1)) j) := by
  obtain ⟨F, b⟩ := L.def_ j e he
  obtain ⟨l1, l2, S⟩ := dfOk_len hok
  refine F.ok S (fun vs H Q E ⟨as, N0, ra, h⟩ => ?_) fun cdv A outer s H vs Q E hr ⟨as, N0, ra, h⟩ => ?_
  · obtain ⟨m, fn', _, hf', hl, _⟩ := run_len h
    rw [hf] at hf'
    cases hf'
    rw [← ra.get.1, hl, l1]
  · obtain ⟨m, fn', hm, hf', hl, h⟩ := run_len h
    cases hm
    rw [hf] at hf'
    cases hf'
    refine ⟨_, body_ok L hok (lib_fn L n) hr ⟨N0, H, none, fun _ => False⟩ (fun _ => rfl), ?_⟩
    have E0 := eok_start (N := e.N) (k := (0, 0)) ra (fun a q => by cases q) (fun a _ q => by cases q)
    rw [← l2, hl] at E0
    refine ⟨_, (0, 0), none, E0, (OkR_mb.mp h).imp fun fl k1 h => ?_⟩
    cases fl with
    | nx ρ' => exact fun σ' c' H' E' K => h .non H' (by simp only [Rp])
    | ct ρ' => exact h.elim
    | rt d fr =>
      refine fun v H' r => h v H' ?_
      have := r.val
      cases fr <;> simp only [if_true, Bool.false_eq_true, if_false] at this
      · exact this
      · exact (this.toT.mono (T' := NN N0 H) (fun a n => .inr n) (fun _ n => n) ⟨fun _ _ h => h, fun _ _ _ h => h, fun _ _ _ h => h, fun _ _ _ h => h⟩).toRp
end
end EV
end

section
set_option Elab.async false
set_option linter.all false
set_option maxRecDepth 100000
set_option maxHeartbeats 1000000
/-! EwB: the head's facts; the law's end. -/
namespace EV
open PySem PySem.Spec PyProof.Rows L2
/-! ### a part of the module that holds no list -/
def isLst : Obj → Bool
  | ⟨.type c, _, .seq _ _, _⟩ => decide (c = "list")
  | _ => false
def frL (h : Addr → Option Obj) (as : List Addr) : PySem.W.Frag := (He.frG h as).filter fun q => !isLst q.2
theorem frL_mem {h : Addr → Option Obj} {as : List Addr} {a : Addr} {o : Obj} (e : (frL h as).lookup a = some o) : h a = some o ∧ isLst o = false := by
  obtain ⟨h1, h2⟩ := List.mem_filter.mp (He.lookup_mem e)
  refine ⟨He.frG_mem h1, ?_⟩
  have h3 : (!isLst o) = true := h2
  simpa using h3
theorem frL_in {as : List Addr} {h : Heap} : (frL h.get? as).In h := fun _ _ e => (frL_mem e).1
def NoL (K : PySem.W.Frag) : Prop := ∀ a o, K.lookup a = some o → isLst o = false
theorem sql_rd {K : PySem.W.Frag} (n : NoL K) {H : Hp} {a : Addr} {xs : List V} (h : SqL K H a xs) : Rd H a (.lst xs) := by
  rcases h with h | ⟨o, its, m, hk, hc, hd, hs, _⟩
  · exact h
  · have := n a o hk
    obtain ⟨oc, od, dt, sl⟩ := o
    cases hc
    cases hs
    simp [isLst] at this
/-! ### constants -/
mutual
def valB (K : PySem.W.Frag) (kt : D → Bool) : D → Value → Bool
  | .non, u => (match u with | .none => true | _ => false)
  | .bl b, u => (match u with | .bool c => b == c | _ => false)
  | .int i, u => (match u with | .int j _ => decide (i = j) | _ => false)
  | .str x, u => (match u with | .str y _ => decide (strL x = y) && okS x | _ => false)
  | .tup ds, u => (match u with
    | .ref a => kt (.tup ds) && (match K.lookup a with
      | some ⟨.type c, _, .seq its _, _⟩ => decide (c = "tuple") && decide (its.size ≤ sizeLine) && valsB K kt ds its.toList
      | _ => false)
    | _ => false)
  | _, _ => false
def valsB (K : PySem.W.Frag) (kt : D → Bool) : List D → List Value → Bool
  | [], us => (match us with | [] => true | _ => false)
  | d :: ds, us => (match us with | u :: us => valB K kt d u && valsB K kt ds us | [] => false)
end
section
variable {g : G}
mutual
theorem valB_ok : ∀ (d : D) (u : Value), valB g.K g.kt d u = true → ∃ v, RelV v u ∧ ∀ (N : Addr → Prop) (H : Hp), Rp g N H d v ∧ ∀ T, RpT g T N H d v
  | .non, u, h => by
    simp only [valB] at h
    split at h
    · exact ⟨.non, rfl, fun N H => ⟨by simp only [Rp], fun T => by simp only [RpT, Rp]⟩⟩
    · cases h
  | .bl b, u, h => by
    simp only [valB] at h
    split at h
    · rw [beq_iff_eq] at h
      subst h
      exact ⟨.bl b, rfl, fun N H => ⟨by simp only [Rp], fun T => by simp only [RpT, Rp]⟩⟩
    · cases h
  | .int i, u, h => by
    simp only [valB] at h
    split at h
    · rw [decide_eq_true_eq] at h
      subst h
      exact ⟨.int i, ⟨_, rfl⟩, fun N H => ⟨by simp only [Rp], fun T => by simp only [RpT, Rp]⟩⟩
    · cases h
  | .str x, u, h => by
    simp only [valB] at h
    split at h
    · simp only [Bool.and_eq_true, decide_eq_true_eq] at h
      obtain ⟨rfl, h⟩ := h
      exact ⟨.str (strL x), ⟨_, rfl⟩, fun N H => ⟨by simp only [Rp]; exact ⟨trivial, h⟩, fun T => by simp only [RpT, Rp]; exact ⟨trivial, h⟩⟩⟩
    · cases h
  | .tup ds, u, h => by
    simp only [valB] at h
    split at h
    · rename_i a
      simp only [Bool.and_eq_true] at h
      obtain ⟨hk, h⟩ := h
      split at h
      · rename_i c d0 its n0 sl hl
        simp only [Bool.and_eq_true, decide_eq_true_eq] at h
        obtain ⟨⟨rfl, hz⟩, h⟩ := h
        obtain ⟨vs, rv, r⟩ := valsB_ok ds _ h
        have go : ∀ (N : Addr → Prop) (H : Hp), Rp g N H (.tup ds) (.ref a) := fun N H => by
          simp only [Rp]
          exact ⟨a, vs, rfl, .inr ⟨hk, _, its, n0, hl, rfl, rfl, hz, rv⟩, r N H⟩
        exact ⟨.ref a, rfl, fun N H => ⟨go N H, fun T => by simp only [RpT]; exact go N H⟩⟩
      · cases h
    · cases h
  | .lst _, _, h => by simp [valB] at h
  | .dic _, _, h => by simp [valB] at h
  | .fn _, _, h => by simp [valB] at h
theorem valsB_ok : ∀ (ds : List D) (us : List Value), valsB g.K g.kt ds us = true → ∃ vs, Vals vs us ∧ ∀ (N : Addr → Prop) (H : Hp), Rps g N H ds vs
  | [], us, h => by
    simp only [valsB] at h
    split at h
    · exact ⟨[], .nil, fun N H => Rps.nil⟩
    · cases h
  | d :: ds, us, h => by
    simp only [valsB] at h
    split at h
    · simp only [Bool.and_eq_true] at h
      obtain ⟨v, rv, r⟩ := valB_ok d _ h.1
      obtain ⟨vs, rvs, rs⟩ := valsB_ok ds _ h.2
      exact ⟨v :: vs, .cons rv rvs, fun N H => Rps.cons (r N H).1 (rs N H)⟩
    · cases h
end
end
/-- the module's constants stand -/
def glB (K : PySem.W.Frag) (kt : D → Bool) : List D → List Str → Bool
  | [], ns => (match ns with | [] => true | _ => false)
  | d :: ds, ns => (match ns with
    | n :: ns => (match PySem.W.nsIn K mainGlobals n with
      | some (some u) => valB K kt d u
      | _ => false) && glB K kt ds ns
    | [] => false)
theorem glB_ok {g : G} {h : Heap} {mg : Str → Option Value} (X : g.K.In h) (G : h.Ns mainGlobals mg) : ∀ (ds : List D) (ns : List Str), glB g.K g.kt ds ns = true → ∀ (i : Nat) (x : Str), ns[i]? = some x →
    ∃ d v u, ds[i]? = some d ∧ mg x = some u ∧ RelV v u ∧ ∀ (T N : Addr → Prop) (H : Hp), RpT g T N H d v
  | [], ns, hc, i, x, hx => by
    simp only [glB] at hc
    split at hc
    · simp at hx
    · cases hc
  | d :: ds, ns, hc, i, x, hx => by
    simp only [glB] at hc
    split at hc
    · rename_i n ns
      simp only [Bool.and_eq_true] at hc
      obtain ⟨h1, h2⟩ := hc
      cases i with
      | succ i =>
        obtain ⟨d', v, u, e1, e2⟩ := glB_ok X G ds ns h2 i x (by simpa using hx)
        exact ⟨d', v, u, by simpa using e1, e2⟩
      | zero =>
        simp at hx
        subst hx
        split at h1
        · rename_i u hu
          obtain ⟨v, rv, r⟩ := valB_ok d u h1
          exact ⟨d, v, u, rfl, PySem.W.mg_of X G hu, rv, fun T N H => (r N H).2 T⟩
        · cases h1
    · cases hc
/-! ### the hook -/
abbrev AlL : Type := He.AlD × Bool
def obsL (n : Nat) (fa : List He.Fa) (fn : List He.DefD) (ex : PySem.W.Frag → Bool) (g : Addr → Option Obj) : AlL := (He.obsD fa fn (frL g (He.asD g n)), ex (frL g (He.asD g n)))
def hookL (n : Nat) (fa : List He.Fa) (fn : List He.DefD) (ex : PySem.W.Frag → Bool) : PySem.W.Hook where
  α := AlL
  obs := fun s => obsL n fa fn ex s.heap.get?
  val := fun _ => (He.valD fn, true)
  says := fun _ h => ∃ K : PySem.W.Frag, K.In h ∧ He.SaysD fa fn K ∧ ex K = true ∧ NoL K
  of := fun _ _ e => ⟨_, frL_in, congrArg (fun z : AlL => z.1) e, congrArg (fun z : AlL => z.2) e, fun _ _ q => (frL_mem q).2⟩
  keeps := fun _ _ _ ⟨K, hK, c⟩ k => ⟨K, PySem.W.Frag.In.keeps hK k, c⟩
theorem obsL_eq {n : Nat} {fa : List He.Fa} {fn : List He.DefD} {ex : PySem.W.Frag → Bool} {g : Addr → Option Obj} {s : Shared} (h : ∀ a, g a = s.heap.get? a) : obsL n fa fn ex g = (hookL n fa fn ex).obs s := by
  have e : g = s.heap.get? := funext h
  rw [e] <;> rfl
/-! ### the text as a whole -/
/-- how a def binds its arguments -/
def BindOk (e : Df) : Prop := ∀ (kV doc pm : Value) (an : Option Addr) (cdv ct : Value) (us : List Value), us.length = e.ps.length → bindArgs (PySem.W.fnOf e.d.name e.d.qual e.d.params e.d.body e.d.scope .none kV doc pm an cdv ct) ⟨us, []⟩ = pure (e.ps.zip us)
/-- a text: its defs' data (the law's own def last), the reckonings, the names -/
structure Txt where
  ds : List Df
  fns : List Fn
  gl : List D
  gnm : List Str
  kt : D → Bool
def Txt.C (t : Txt) : Cfg := ⟨t.gl, t.kt⟩
/-- the defs that may be called -/
def Txt.fnm (t : Txt) : List Str := (t.ds.take (t.ds.length - 1)).map (·.d.name)
def okAll (fnm gnm : List Str) : List Df → List Fn → Bool
  | [e], fs => (match fs with | [f] => dfOk fnm gnm true e f | _ => false)
  | e :: es, fs => (match fs with | f :: fs => dfOk fnm gnm false e f && okAll fnm gnm es fs | [] => false)
  | [], _ => false
def Txt.ok (t : Txt) : Bool := okAll t.fnm t.gnm t.ds t.fns && t.ds.all (fun e => decide (e.d.at_ = (e.d.name, none)))
def Txt.fa (t : Txt) : List He.Fa := t.ds.map (fun e => He.Fa.glo e.d.name) ++ biNames.map He.Fa.free
def Txt.ex (t : Txt) (K : PySem.W.Frag) : Bool := glB K t.kt t.gl t.gnm
theorem okAll_at {fnm gnm : List Str} : ∀ {ds : List Df} {fs : List Fn}, okAll fnm gnm ds fs = true → ds.length = fs.length ∧ ∀ (i : Nat) (e : Df), ds[i]? = some e → ∃ fn, fs[i]? = some fn ∧ dfOk fnm gnm (decide (i + 1 = ds.length)) e fn = true
  | [], fs, h => by simp [okAll] at h
  | [e], fs, h => by
    simp only [okAll] at h
    split at h
    · refine ⟨rfl, fun i e' he => ?_⟩
      cases i with
      | zero => simp at he; subst he; exact ⟨_, rfl, h⟩
      | succ i => simp at he
    · cases h
  | e :: e2 :: es, fs, h => by
    simp only [okAll] at h
    split at h
    · rename_i f fs
      simp only [Bool.and_eq_true] at h
      obtain ⟨hl, ih⟩ := okAll_at h.2
      refine ⟨by simpa using hl, fun i e' he => ?_⟩
      cases i with
      | zero =>
        simp at he
        subst he
        refine ⟨f, rfl, ?_⟩
        have : decide (0 + 1 = (e :: e2 :: es).length) = false := by simp
        rw [this]
        exact h.1
      | succ i =>
        obtain ⟨fn, h1, h2⟩ := ih i e' (by simpa using he)
        refine ⟨fn, by simpa using h1, ?_⟩
        have : decide (i + 1 + 1 = (e :: e2 :: es).length) = decide (i + 1 = (e2 :: es).length) := by simp
        rw [this]
        exact h2
    · cases h
def gOf (t : Txt) (K : PySem.W.Frag) : G := ⟨K, fun i => He.ga K (t.fnm.getD i ""), t.kt⟩
theorem lib_of {P : Program} {w : World} {K : PySem.W.Frag} {mg : Str → Option Value} {base h : Heap} (t : Txt) (hok : t.ok = true) (hb : ∀ e ∈ t.ds, BindOk e) (X : K.In h) (G : h.Ns mainGlobals mg) (c : He.SaysD t.fa (t.ds.map (·.d)) K) (hex : t.ex K = true) :
    ∃ L : Lib P w K mg base (gOf t K) t.C t.fns t.ds t.fnm t.gnm, ∀ (i : Nat) (e : Df), t.ds[i]? = some e → mg e.d.name = some (.ref (L.fa i)) := by
  unfold Txt.ok at hok
  simp only [Bool.and_eq_true, List.all_eq_true, decide_eq_true_eq] at hok
  obtain ⟨hall, hat⟩ := hok
  obtain ⟨hlen, hat2⟩ := okAll_at hall
  have emp : ∀ e ∈ t.ds, e.d.dfl = [] ∧ e.d.kwd = [] := fun e he => by
    obtain ⟨i, hi, q⟩ := List.mem_iff_getElem.mp he
    obtain ⟨fn, _, h2⟩ := hat2 i e (by rw [List.getElem?_eq_getElem hi, q])
    unfold dfOk at h2
    simp only [Bool.and_eq_true, List.isEmpty_iff] at h2
    exact ⟨h2.1.2, h2.2⟩
  have fdx : ∀ i : Nat, ∃ fd : FuncData, ∀ e, t.ds[i]? = some e → FunD K e.d.name e.d.qual e.d.params e.d.body e.d.scope [] [] (He.ga K e.d.name) fd := fun i => by
    cases q : t.ds[i]? with
    | none => exact ⟨default, fun e he => by cases he⟩
    | some e =>
      have he : e ∈ t.ds := List.mem_of_getElem? q
      obtain ⟨fd, F⟩ := c.defs (d := e.d) (List.mem_map.mpr ⟨e, he, rfl⟩)
      obtain ⟨e1, e2⟩ := emp e he
      refine ⟨fd, fun e' h' => ?_⟩
      cases h'
      have e3 : He.fAd K e.d.at_ = He.ga K e.d.name := by rw [hat e he]; rfl
      rw [e3] at F
      have e4 : e.d.dvs K = [] := by unfold He.DefD.dvs; rw [e1]; rfl
      have e5 : e.d.kws K = [] := by unfold He.DefD.kws; rw [e2]; rfl
      rw [e4, e5] at F
      exact F
  obtain ⟨fdf, hfd⟩ := Classical.axiomOfChoice fdx
  have glo : ∀ e ∈ t.ds, mg e.d.name = some (.ref (He.ga K e.d.name)) := fun e he =>
    He.glo_ok X G (c.facts (f := .glo e.d.name) (List.mem_append_left _ (List.mem_map.mpr ⟨e, he, rfl⟩)))
  refine ⟨⟨rfl, rfl, fun i => match t.ds[i]? with | some e => He.ga K e.d.name | none => 0, fdf, fun i e he => ?_, fun i x hx => ?_, fun x hx => ?_, glB_ok (g := gOf t K) X G t.gl t.gnm hex⟩, fun i e he => ?_⟩
  · have F := hfd i e he
    simp only [he]
    exact ⟨F, FunD.bindsN F (hb e (List.mem_of_getElem? he))⟩
  · unfold Txt.fnm at hx
    rw [List.getElem?_map] at hx
    obtain ⟨e, he, rfl⟩ := Option.map_eq_some_iff.mp hx
    rw [List.getElem?_take] at he
    split at he
    · rename_i hi
      obtain ⟨fn, h1, h2⟩ := hat2 i e he
      have : decide (i + 1 = t.ds.length) = false := by simp; omega
      rw [this] at h2
      refine ⟨e, fn, he, h1, rfl, ?_, h2⟩
      simp only [he]
      exact glo e (List.mem_of_getElem? he)
    · cases he
  · exact He.free_ok X G (c.facts (f := .free x) (List.mem_append_right _ (List.mem_map.mpr ⟨x, hx, rfl⟩)))
  · simp only [he]
    exact glo e (List.mem_of_getElem? he)
theorem rps_ints {g : G} {N : Addr → Prop} {H : Hp} : ∀ ns : List Int, Rps g N H (ns.map D.int) (ns.map V.int)
  | [] => Rps.nil
  | n :: ns => Rps.cons (by simp only [Rp]) (rps_ints ns)
/-- what the law asks, as a reckoning -/
def Txt.law (t : Txt) (k : Nat) : Prop := ∀ ns : List Int, ns.length ≤ 63 → OkR (run t.fns t.C k (t.ds.length - 1) [.val (.lst (ns.map D.int))] (0, 0)) fun r _ => r.1 = .bl true
theorem law_facts {P : Program} {w : World} {h : Heap} {mg : Str → Option Value} {f : Addr} (t : Txt) (k : Nat) (nm sn : Str) (hok : t.ok = true) (hb : ∀ e ∈ t.ds, BindOk e) (hlast : (t.ds[t.ds.length - 1]?).map (fun e => (e.d.name, e.ps)) = some (nm, [sn])) (hlaw : t.law (k + 1))
    (G : h.Ns mainGlobals mg) (hfa : mg nm = some (.ref f)) (Y : (hookL 5 t.fa (t.ds.map (·.d)) t.ex).says w h) :
    ∃ (K : PySem.W.Frag) (fd : FuncData) (sp : Sp), K.In h ∧ (∀ (s : Shared) (u : Value), BindsTo s fd ⟨[u], []⟩ [(sn, u)]) ∧
        (∀ (H : Hp) (a : Addr) (ns : List Int), ns.length ≤ 63 → Only H → SqL K H a (ns.map V.int) → sp [.ref a] H (fun v _ => v = .bl true) fun _ _ _ => False) ∧
        ∀ base : Heap, K.In base → base.Ns mainGlobals mg → FnOk P w K mg base CX0 (k + 1) f fd [sn] sp := by
  obtain ⟨K, X, c, hex, nl⟩ := Y
  obtain ⟨e, he, q⟩ := Option.map_eq_some_iff.mp hlast
  have en : e.d.name = nm := congrArg Prod.fst q
  have ep : e.ps = [sn] := congrArg Prod.snd q
  obtain ⟨L0, hm⟩ := lib_of (P := P) (w := w) (base := h) t hok hb X G c hex
  obtain ⟨F, b⟩ := L0.def_ _ e he
  have hf : f = L0.fa (t.ds.length - 1) := by
    have := hm _ e he
    rw [en, hfa] at this
    injection this with this
    injection this
  have hF : FunD K e.d.name e.d.qual e.d.params e.d.body e.d.scope [] [] f (L0.fd (t.ds.length - 1)) := by rw [hf]; exact F
  refine ⟨K, L0.fd (t.ds.length - 1), spT (gOf t K) (run t.fns t.C (k + 1)) (t.ds.length - 1), X, fun s u => ?_, fun H a ns hl hO hS => ?_, fun base KB GB => ?_⟩
  · have := FunD.bindsA hF (ps := e.ps) (hb e (List.mem_of_getElem? he)) s [u] (by rw [ep]; rfl)
    rw [ep] at this
    exact this
  · refine ⟨[.val (.lst (ns.map D.int))], fun b => b = a, ?_, (hlaw ns hl).imp fun r k' hr v H' hv => ?_⟩
    · simp only [RpA, Rp]
      exact ⟨.ref a, [], rfl, ⟨a, ns.map V.int, rfl, rfl, sql_rd nl hS, rps_ints ns⟩, rfl⟩
    · rw [hr] at hv
      simpa only [Rp] using hv
  · have hok' := hok
    unfold Txt.ok at hok'
    simp only [Bool.and_eq_true] at hok'
    obtain ⟨hlen, hat2⟩ := okAll_at hok'.1
    obtain ⟨fn, h1, h2⟩ := hat2 _ e he
    have hpos : t.ds.length - 1 + 1 = t.ds.length := by
      have := (List.getElem?_eq_some_iff.mp he).1
      omega
    have : decide (t.ds.length - 1 + 1 = t.ds.length) = true := by simp [hpos]
    rw [this] at h2
    -- the same library over base, with these objects
    let L : Lib P w K mg base (gOf t K) t.C t.fns t.ds t.fnm t.gnm := ⟨L0.hK, L0.kt, L0.fa, L0.fd, L0.def_, L0.fnm_, L0.free, L0.gl⟩
    have := lib_top L (n := k) he h1 h2
    rw [ep] at this
    rw [hf]
    exact this
end EV
end

section
set_option Elab.async false
set_option linter.all false
set_option maxRecDepth 100000
/-! P0: reckoning made short. -/
namespace KL
open EV
/-- a def gives back -/
def rn (fl : Fl) : M (D × Bool) := match fl with
  | .nx _ => mp (.non, false)
  | .rt d fr => mp (d, fr)
  | .ct _ => mf
/-! ### steps -/
@[simp] theorem getS {s : Slot} {r : Env} {i : Nat} : Env.get (s :: r) (i + 1) = Env.get r i := by simp [Env.get]
@[simp] theorem getZ {s : Slot} {r : Env} : Env.get (s :: r) 0 = s := (rfl)
@[simp] theorem mB_bl (b : Bool) : mB (.bl b) = mp b := (rfl)
@[simp] theorem mb_mp' {α β : Type} (a : α) (f : α → M β) : mb (mp a) f = f a := (rfl)
@[simp] theorem mb_mf' {α β : Type} (f : α → M β) : mb mf f = mf := (rfl)
@[simp] theorem mo_s {α : Type} (a : α) : mo (some a) = mp a := (rfl)
@[simp] theorem mb_as {α β γ : Type} (m : M α) (f : α → M β) (g : β → M γ) : mb (mb m f) g = mb m fun a => mb (f a) g := mb_assoc m f g
@[simp] theorem mb_ite {α β : Type} (c : Prop) [Decidable c] (a b : M α) (f : α → M β) : mb (if c then a else b) f = if c then mb a f else mb b f := by
  split <;> rfl
@[simp] theorem argV (d : D) : argSlot (.val d) = .val d := (rfl)
@[simp] theorem argC : argSlot .cup = .cup := (rfl)
@[simp] theorem rn_nx (ρ : Env) : rn (.nx ρ) = mp (.non, false) := (rfl)
@[simp] theorem rn_rt (d : D) (b : Bool) : rn (.rt d b) = mp (d, b) := (rfl)
section
variable {cal : Cal} {C : Cfg} {ρ : Env}
def aft (cal : Cal) (C : Cfg) (r : List IS) : Fl → M Fl
  | .nx ρ' => evSs cal C r ρ'
  | .ct ρ' => mp (.ct ρ')
  | .rt d fr => mp (.rt d fr)
@[simp] theorem aft_nx {r : List IS} : aft cal C r (.nx ρ) = evSs cal C r ρ := (rfl)
@[simp] theorem aft_ct {r : List IS} : aft cal C r (.ct ρ) = mp (.ct ρ) := (rfl)
@[simp] theorem aft_rt {r : List IS} {d : D} {b : Bool} : aft cal C r (.rt d b) = mp (.rt d b) := (rfl)
@[simp] theorem ss_nil : evSs cal C [] ρ = mp (.nx ρ) := by simp only [evSs]
@[simp] theorem ss_cons {s : IS} {r : List IS} : evSs cal C (s :: r) ρ = mb (evS cal C s ρ) (aft cal C r) := by
  simp only [evSs]
  rfl
@[simp] theorem st_asg {t : Tg} {e : IE} : evS cal C (.asg t e) ρ = mb (evE cal C e ρ) fun d => mb (mo (t.bind d ρ)) fun ρ' => mp (.nx ρ') := by simp only [evS]
@[simp] theorem st_own {i : Nat} {e : IE} : evS cal C (.own i e) ρ = mb (evE cal C e ρ) fun d => mp (.nx (ρ.set i (.own d))) := by simp only [evS]
@[simp] theorem st_par {ts : List (Nat × Bool)} {es : List IE} : evS cal C (.par ts es) ρ = mb (evL cal C es ρ) fun ds => mb (mo (bindPar ts ds ρ)) fun ρ' => mp (.nx ρ') := by simp only [evS]
@[simp] theorem st_exp {e : IE} : evS cal C (.exp e) ρ = mb (evE cal C e ρ) fun _ => mp (.nx ρ) := by simp only [evS]
@[simp] theorem st_ret {e : IE} : evS cal C (.ret e) ρ = mb (evE cal C e ρ) fun d => mp (.rt d false) := by simp only [evS]
@[simp] theorem st_retn {e : IE} : evS cal C (.retn e) ρ = mb (evE cal C e ρ) fun d => mp (.rt d true) := by simp only [evS]
@[simp] theorem st_if {c : IE} {a b : List IS} : evS cal C (.if_ c a b) ρ = mb (evE cal C c ρ) fun x => mb (mB x) fun d => if d = true then evSs cal C a ρ else evSs cal C b ρ := by simp only [evS]
@[simp] theorem st_for {t : Tg} {s : Src} {b : List IS} : evS cal C (.for_ t s b) ρ = mb (evRn cal C s ρ) fun xs => forL t (evSs cal C b) xs ρ := by simp only [evS]
@[simp] theorem st_whl {n : Nat} {c : IE} {b : List IS} : evS cal C (.whl n c b) ρ = whlL (fun ρ => mb (evE cal C c ρ) mB) (evSs cal C b) n ρ := by simp only [evS]
@[simp] theorem st_frz {i : Nat} : evS cal C (.frz i) ρ = (match Env.get ρ i with
      | .own d => mp (.nx (ρ.set i (.val d)))
      | .val d => mp (.nx ρ)
      | _ => mf) := by simp only [evS] <;> rfl
@[simp] theorem st_cont : evS cal C .cont ρ = mp (.ct ρ) := by simp only [evS]
@[simp] theorem st_pass : evS cal C .pass ρ = mp (.nx ρ) := by simp only [evS]
@[simp] theorem st_never : evS cal C .never ρ = mf := by simp only [evS]
@[simp] theorem st_app {i : Nat} {e : IE} : evS cal C (.app i e) ρ = mb (evE cal C e ρ) fun d => (match Env.get ρ i with
      | .own (.lst xs) => mb (mlen (xs.length + 1)) fun _ => mp (.nx (ρ.set i (.own (.lst (xs ++ [d])))))
      | _ => mf) := by simp only [evS] <;> rfl
@[simp] theorem st_sets {i : Nat} {ix e : IE} : evS cal C (.sets i ix e) ρ = mb (evE cal C e ρ) fun d => mb (evE cal C ix ρ) fun j => (match Env.get ρ i, j with
      | .own (.lst xs), .int j => mb (mo (setL xs j d)) fun ys => mp (.nx (ρ.set i (.own (.lst ys))))
      | _, _ => mf) := by simp only [evS] <;> rfl
@[simp] theorem st_aug {i : Nat} {e : IE} : evS cal C (.aug i e) ρ = (match Env.get ρ i with
      | .own (.lst xs) => mb (evE cal C e ρ) fun d => mb (mo (itemsD d)) fun ys => mb (mlen (xs.length + ys.length)) fun _ => (match d with | .lst _ => mp (.nx (ρ.set i (.own (.lst (xs ++ ys))))) | _ => mf)
      | .val (.int a) => mb (evE cal C e ρ) fun d => (match d with | .int b => mp (.nx (ρ.set i (.val (.int (a + b))))) | _ => mf)
      | .val (.str a) => mb (evE cal C e ρ) fun d => (match d with | .str b => mb (mlen (a.length + b.length)) fun _ => mp (.nx (ρ.set i (.val (.str (a ++ b))))) | _ => mf)
      | _ => mf) := by simp only [evS] <;> rfl
@[simp] theorem st_popi {t i : Nat} : evS cal C (.popi t i) ρ = (match Env.get ρ i with
      | .own (.lst xs) => (match xs.reverse with
        | x :: r => mp (.nx ((ρ.set i (.own (.lst r.reverse))).set t (.val x)))
        | [] => mf)
      | _ => mf) := by simp only [evS] <;> rfl
@[simp] theorem st_cupn {i f : Nat} {es : List IE} : evS cal C (.cupn i f es) ρ = mb (evA cal C es ρ) fun as => mb (cal f as) fun r => (match r with
      | (.lst [.int a, .int b], true) => if ρ.all (fun s => match s with | .cup => false | _ => true) then fun _ => .ok (.nx (ρ.set i .cup)) (a, b) else mf
      | _ => mf) := by simp only [evS] <;> rfl
@[simp] theorem st_setc {i : Nat} {b : Bool} {e : IE} : evS cal C (.setc i b e) ρ = mb (evE cal C e ρ) fun d => (match Env.get ρ i, d with
      | .cup, .int n => fun k => .ok (.nx ρ) (if b then (k.1, n) else (n, k.2))
      | _, _ => mf) := by simp only [evS] <;> rfl
@[simp] theorem e_k {c : D} : evE cal C (.k c) ρ = mp c := by simp only [evE]
@[simp] theorem e_v {i : Nat} : evE cal C (.v i) ρ = (match Env.get ρ i with | .val d => mp d | _ => mf) := by simp only [evE] <;> rfl
@[simp] theorem e_g {i : Nat} : evE cal C (.g i) ρ = mo C.gl[i]? := by simp only [evE]
@[simp] theorem e_cupg {i : Nat} {b : Bool} : evE cal C (.cupg i b) ρ = (match Env.get ρ i with | .cup => fun k => .ok (.int (if b then k.2 else k.1)) k | _ => mf) := by simp only [evE] <;> rfl
@[simp] theorem e_tup {es : List IE} : evE cal C (.tup es) ρ = mb (evL cal C es ρ) fun ds => mp (.tup ds) := by simp only [evE]
@[simp] theorem e_lst {es : List IE} : evE cal C (.lst es) ρ = mb (evL cal C es ρ) fun ds => mp (.lst ds) := by simp only [evE]
@[simp] theorem e_ix {a i : IE} : evE cal C (.ix a i) ρ = mb (brw a ρ (evE cal C a ρ)) fun x => mb (evE cal C i ρ) fun y => mo (ixD x y) := by simp only [evE]
@[simp] theorem e_sl {a lo hi : IE} : evE cal C (.sl a lo hi) ρ = mb (brw a ρ (evE cal C a ρ)) fun x => mb (partM lo (evE cal C lo ρ)) fun y => mb (partM hi (evE cal C hi ρ)) fun z => mo (slD x y z) := by simp only [evE]
@[simp] theorem e_rev {a : IE} : evE cal C (.rev a) ρ = mb (brw a ρ (evE cal C a ρ)) fun x => mo (revD x) := by simp only [evE]
@[simp] theorem e_bin {o : BOp} {a b : IE} : evE cal C (.bin o a b) ρ = mb (brw a ρ (evE cal C a ρ)) fun x => mb (brw b ρ (evE cal C b ρ)) fun y => mo (binD o x y) := by simp only [evE]
@[simp] theorem e_neg {a : IE} : evE cal C (.neg a) ρ = mb (evE cal C a ρ) fun x => (match x with | .int i => mp (.int (-i)) | _ => mf) := by simp only [evE] <;> rfl
@[simp] theorem e_not {a : IE} : evE cal C (.not a) ρ = mb (evE cal C a ρ) fun x => mb (mB x) fun b => mp (.bl (!b)) := by simp only [evE]
@[simp] theorem e_and {a b : IE} : evE cal C (.and a b) ρ = mb (evE cal C a ρ) fun x => mb (mB x) fun c => if c = true then evE cal C b ρ else mp (.bl false) := by simp only [evE]
@[simp] theorem e_or {a b : IE} : evE cal C (.or a b) ρ = mb (evE cal C a ρ) fun x => mb (mB x) fun c => if c = true then mp (.bl true) else evE cal C b ρ := by simp only [evE]
@[simp] theorem e_cmp {o : COp} {a b : IE} : evE cal C (.cmp o a b) ρ = mb (brw a ρ (evE cal C a ρ)) fun x => mb (brw b ρ (evE cal C b ρ)) fun y => mb (mo (cmpB o x y)) fun c => mp (.bl c) := by simp only [evE]
@[simp] theorem e_cmp2 {o o' : COp} {a b c : IE} : evE cal C (.cmp2 o o' a b c) ρ = mb (evE cal C a ρ) fun x => mb (evE cal C b ρ) fun y => mb (mo (cmpB o x y)) fun d => if d = true then mb (evE cal C c ρ) fun z => mb (mo (cmpB o' y z)) fun d' => mp (.bl d') else mp (.bl false) := by simp only [evE]
@[simp] theorem e_ite {c a b : IE} : evE cal C (.ite c a b) ρ = mb (evE cal C c ρ) fun x => mb (mB x) fun d => if d = true then evE cal C a ρ else evE cal C b ρ := by simp only [evE]
@[simp] theorem e_call {f : Nat} {es : List IE} : evE cal C (.call f es) ρ = mb (evA cal C es ρ) fun as => mb (cal f as) fun r => mp r.1 := by simp only [evE]
@[simp] theorem e_bi {b : Bi} {es : List IE} : evE cal C (.bi b es) ρ = mb (evLB cal C es ρ) fun ds => mo (biD C.kt b ds) := by simp only [evE]
@[simp] theorem e_bs {b : Bi} {a : IE} : evE cal C (.bs b a) ρ = mb (brw a ρ (evE cal C a ρ)) fun x => mo (biD C.kt b [x]) := by simp only [evE]
@[simp] theorem e_m1 {b : Bi} {a k : IE} : evE cal C (.m1 b a k) ρ = mb (brw a ρ (evE cal C a ρ)) fun x => mb (brw k ρ (evE cal C k ρ)) fun y => mo (biD C.kt b [x, y]) := by simp only [evE]
@[simp] theorem e_rg1 {tu : Bool} {a : IE} : evE cal C (.rg1 tu a) ρ = mb (evE cal C a ρ) fun x => mo ((rngD [x]).map (seqD tu)) := by simp only [evE]
@[simp] theorem e_rg2 {tu : Bool} {a b : IE} : evE cal C (.rg2 tu a b) ρ = mb (evE cal C a ρ) fun x => mb (evE cal C b ρ) fun y => mo ((rngD [x, y]).map (seqD tu)) := by simp only [evE]
@[simp] theorem e_ist {t : Ty} {a : IE} : evE cal C (.ist t a) ρ = mb (brw a ρ (evE cal C a ρ)) fun x => mo ((isTy t x).map .bl) := by simp only [evE]
/-- a comprehension's turn -/
def cT (cal : Cal) (C : Cfg) (e : IE) (t : Tg) (c : IE) (ρw : Env) : D → M (Option D) := fun x => mb (mo (t.bind x ρw)) fun ρ' => mb (evE cal C c ρ') fun y => mb (mB y) fun d => if d = true then mb (evE cal C e ρ') fun z => mp (some z) else mp none
@[simp] theorem e_comp {e c : IE} {t : Tg} {s : Src} : evE cal C (.comp e t s c) ρ = mb (evR cal C s ρ) fun xs => mb (mo (t.opn ρ)) fun ρw => mb (filtL (cT cal C e t c ρw) xs) fun ys => mp (.lst ys) := by simp only [evE] <;> rfl
def dT (cal : Cal) (C : Cfg) (tu : Bool) (ke ve : IE) (t : Tg) (c : IE) (ρw : Env) : D → M (Option (D × D)) := fun x => mb (mo (t.bind x ρw)) fun ρ' => mb (evE cal C c ρ') fun y => mb (mB y) fun d => if d = true then mb (evE cal C ke ρ') fun a => mb (evE cal C ve ρ') fun b => if keyF C.kt tu a = true then mp (some (a, b)) else mf else mp none
@[simp] theorem e_dcomp {tu : Bool} {ke ve c : IE} {t : Tg} {s : Src} : evE cal C (.dcomp tu ke ve t s c) ρ = mb (evR cal C s ρ) fun xs => mb (mo (t.opn ρ)) fun ρw => mb (filtL (dT cal C tu ke ve t c ρw) xs) fun ys => mp (.dic (putAll [] ys)) := by simp only [evE] <;> rfl
@[simp] theorem l_nil : evL cal C [] ρ = mp [] := by simp only [evL]
@[simp] theorem l_cons {e : IE} {es : List IE} : evL cal C (e :: es) ρ = mb (evE cal C e ρ) fun x => mb (evL cal C es ρ) fun xs => mp (x :: xs) := by simp only [evL]
@[simp] theorem lb_nil : evLB cal C [] ρ = mp [] := by simp only [evLB]
@[simp] theorem lb_cons {e : IE} {es : List IE} : evLB cal C (e :: es) ρ = mb (brw e ρ (evE cal C e ρ)) fun x => mb (evLB cal C es ρ) fun xs => mp (x :: xs) := by simp only [evLB]
/-- an argument -/
def aM (cal : Cal) (C : Cfg) (e : IE) (ρ : Env) : M Arg := match e with
  | .v i => (match Env.get ρ i with | .cup => mp .cup | .val d => mp (.val d) | _ => mf)
  | e => mb (evE cal C e ρ) fun x => mp (.val x)
@[simp] theorem a_nil : evA cal C [] ρ = mp [] := by simp only [evA]
@[simp] theorem a_cons {e : IE} {es : List IE} : evA cal C (e :: es) ρ = mb (aM cal C e ρ) fun a => mb (evA cal C es ρ) fun as => mp (a :: as) := by
  simp only [evA]
  cases e <;> rfl
@[simp] theorem aM_v {i : Nat} : aM cal C (.v i) ρ = (match Env.get ρ i with | .cup => mp .cup | .val d => mp (.val d) | _ => mf) := (rfl)
@[simp] theorem aM_k {c : D} : aM cal C (.k c) ρ = mp (.val c) := by simp [aM]
@[simp] theorem aM_g {i : Nat} : aM cal C (.g i) ρ = mb (mo C.gl[i]?) fun x => mp (.val x) := by simp [aM]
@[simp] theorem aM_tup {es : List IE} : aM cal C (.tup es) ρ = mb (evE cal C (.tup es) ρ) fun x => mp (.val x) := (rfl)
@[simp] theorem aM_lst {es : List IE} : aM cal C (.lst es) ρ = mb (evE cal C (.lst es) ρ) fun x => mp (.val x) := (rfl)
@[simp] theorem aM_ix {a b : IE} : aM cal C (.ix a b) ρ = mb (evE cal C (.ix a b) ρ) fun x => mp (.val x) := (rfl)
@[simp] theorem aM_sl {a b c : IE} : aM cal C (.sl a b c) ρ = mb (evE cal C (.sl a b c) ρ) fun x => mp (.val x) := (rfl)
@[simp] theorem aM_bin {o : BOp} {a b : IE} : aM cal C (.bin o a b) ρ = mb (evE cal C (.bin o a b) ρ) fun x => mp (.val x) := (rfl)
@[simp] theorem aM_neg {a : IE} : aM cal C (.neg a) ρ = mb (evE cal C (.neg a) ρ) fun x => mp (.val x) := (rfl)
@[simp] theorem aM_call {f : Nat} {es : List IE} : aM cal C (.call f es) ρ = mb (evE cal C (.call f es) ρ) fun x => mp (.val x) := (rfl)
@[simp] theorem aM_bi {b : Bi} {es : List IE} : aM cal C (.bi b es) ρ = mb (evE cal C (.bi b es) ρ) fun x => mp (.val x) := (rfl)
@[simp] theorem aM_ite {a b c : IE} : aM cal C (.ite a b c) ρ = mb (evE cal C (.ite a b c) ρ) fun x => mp (.val x) := (rfl)
@[simp] theorem aM_comp {e c : IE} {t : Tg} {s : Src} : aM cal C (.comp e t s c) ρ = mb (evE cal C (.comp e t s c) ρ) fun x => mp (.val x) := (rfl)
@[simp] theorem br_v {i : Nat} {r : M D} : brw (.v i) ρ r = (match Env.get ρ i with | .own d => mp d | _ => r) := (rfl)
@[simp] theorem br_k {c : D} {r : M D} : brw (.k c) ρ r = r := (rfl)
@[simp] theorem br_g {i : Nat} {r : M D} : brw (.g i) ρ r = r := (rfl)
@[simp] theorem br_cupg {i : Nat} {b : Bool} {r : M D} : brw (.cupg i b) ρ r = r := (rfl)
@[simp] theorem br_tup {es : List IE} {r : M D} : brw (.tup es) ρ r = r := (rfl)
@[simp] theorem br_lst {es : List IE} {r : M D} : brw (.lst es) ρ r = r := (rfl)
@[simp] theorem br_ix {a b : IE} {r : M D} : brw (.ix a b) ρ r = r := (rfl)
@[simp] theorem br_sl {a b c : IE} {r : M D} : brw (.sl a b c) ρ r = r := (rfl)
@[simp] theorem br_rev {a : IE} {r : M D} : brw (.rev a) ρ r = r := (rfl)
@[simp] theorem br_bin {o : BOp} {a b : IE} {r : M D} : brw (.bin o a b) ρ r = r := (rfl)
@[simp] theorem br_neg {a : IE} {r : M D} : brw (.neg a) ρ r = r := (rfl)
@[simp] theorem br_ite {a b c : IE} {r : M D} : brw (.ite a b c) ρ r = r := (rfl)
@[simp] theorem br_call {f : Nat} {es : List IE} {r : M D} : brw (.call f es) ρ r = r := (rfl)
@[simp] theorem br_bi {b : Bi} {es : List IE} {r : M D} : brw (.bi b es) ρ r = r := (rfl)
@[simp] theorem br_bs {b : Bi} {a : IE} {r : M D} : brw (.bs b a) ρ r = r := (rfl)
@[simp] theorem br_m1 {b : Bi} {a k : IE} {r : M D} : brw (.m1 b a k) ρ r = r := (rfl)
@[simp] theorem br_rg1 {b : Bool} {a : IE} {r : M D} : brw (.rg1 b a) ρ r = r := (rfl)
@[simp] theorem br_rg2 {b : Bool} {a k : IE} {r : M D} : brw (.rg2 b a k) ρ r = r := (rfl)
@[simp] theorem br_comp {e c : IE} {t : Tg} {s : Src} {r : M D} : brw (.comp e t s c) ρ r = r := (rfl)
@[simp] theorem r_pl {e : IE} : evR cal C (.pl e) ρ = mb (brw e ρ (evE cal C e ρ)) fun x => mo (walkD x) := by simp only [evR]
@[simp] theorem r_rng {es : List IE} : evR cal C (.rng es) ρ = mb (evL cal C es ρ) fun xs => mo (rngD xs) := by simp only [evR]
@[simp] theorem r_enum {e : IE} : evR cal C (.enum e) ρ = mb (brw e ρ (evE cal C e ρ)) fun x => mo (enumD x) := by simp only [evR]
@[simp] theorem r_zip {a b : IE} : evR cal C (.zip a b) ρ = mb (brw a ρ (evE cal C a ρ)) fun x => mb (brw b ρ (evE cal C b ρ)) fun y => mo (zipD x y) := by simp only [evR]
@[simp] theorem r_zipn {a b : IE} : evR cal C (.zipn a b) ρ = mb (brw a ρ (evE cal C a ρ)) fun x => mb (brw b ρ (evE cal C b ρ)) fun y => mo (zipT x y) := by simp only [evR]
@[simp] theorem r_keys {e : IE} : evR cal C (.keys e) ρ = mb (evE cal C e ρ) keysM := by simp only [evR]
@[simp] theorem n_pl {e : IE} : evRn cal C (.pl e) ρ = mb (evE cal C e ρ) fun x => mo (walkD x) := by simp only [evRn]
@[simp] theorem n_rng {es : List IE} : evRn cal C (.rng es) ρ = mb (evL cal C es ρ) fun xs => mo (rngD xs) := by simp only [evRn]
@[simp] theorem n_enum {e : IE} : evRn cal C (.enum e) ρ = mb (evE cal C e ρ) fun x => mo (enumD x) := by simp only [evRn]
@[simp] theorem n_zip {a b : IE} : evRn cal C (.zip a b) ρ = mb (evE cal C a ρ) fun x => mb (evE cal C b ρ) fun y => mo (zipD x y) := by simp only [evRn]
end
@[simp] theorem pm_non {r : M D} : partM (.k .non) r = mp none := (rfl)
@[simp] theorem pm_v {i : Nat} {r : M D} : partM (.v i) r = mb r fun d => match d with | .int i => mp (some i) | _ => mf := (rfl)
@[simp] theorem pm_ki {i : Int} {r : M D} : partM (.k (.int i)) r = mb r fun d => match d with | .int i => mp (some i) | _ => mf := (rfl)
@[simp] theorem pm_ix {a b : IE} {r : M D} : partM (.ix a b) r = mb r fun d => match d with | .int i => mp (some i) | _ => mf := (rfl)
@[simp] theorem pm_bin {o : BOp} {a b : IE} {r : M D} : partM (.bin o a b) r = mb r fun d => match d with | .int i => mp (some i) | _ => mf := (rfl)
@[simp] theorem pm_neg {a : IE} {r : M D} : partM (.neg a) r = mb r fun d => match d with | .int i => mp (some i) | _ => mf := (rfl)
@[simp] theorem pm_call {f : Nat} {es : List IE} {r : M D} : partM (.call f es) r = mb r fun d => match d with | .int i => mp (some i) | _ => mf := (rfl)
@[simp] theorem tg_nm {i : Nat} {d : D} {ρ : Env} : Tg.bind (.nm i) d ρ = some (ρ.set i (.val d)) := by simp only [Tg.bind]
@[simp] theorem tg_tp {ts : List Tg} {ds : List D} {ρ : Env} : Tg.bind (.tp ts) (.tup ds) ρ = Tg.binds ts ds ρ := by simp only [Tg.bind]
@[simp] theorem tgs_nil {ρ : Env} : Tg.binds [] [] ρ = some ρ := by simp only [Tg.binds]
@[simp] theorem tgs_cons {t : Tg} {ts : List Tg} {d : D} {ds : List D} {ρ : Env} : Tg.binds (t :: ts) (d :: ds) ρ = (Tg.bind t d ρ).bind fun ρ' => Tg.binds ts ds ρ' := by simp only [Tg.binds]
@[simp] theorem bp_nil {ρ : Env} : bindPar [] [] ρ = some ρ := (rfl)
@[simp] theorem bp_cons {i : Nat} {o : Bool} {ts : List (Nat × Bool)} {d : D} {ds : List D} {ρ : Env} : bindPar ((i, o) :: ts) (d :: ds) ρ = bindPar ts ds (ρ.set i (if o then .own d else .val d)) := (rfl)
@[simp] theorem nm_names {i : Nat} : Tg.names (.nm i) = [i] := by simp only [Tg.names]
@[simp] theorem tp_names {ts : List Tg} : Tg.names (.tp ts) = Tg.namesL ts := by simp only [Tg.names]
@[simp] theorem nmL_nil : Tg.namesL [] = [] := by simp only [Tg.namesL]
@[simp] theorem nmL_cons {t : Tg} {ts : List Tg} : Tg.namesL (t :: ts) = t.names ++ Tg.namesL ts := by simp only [Tg.namesL]
@[simp] theorem opn_eq {t : Tg} {ρ : Env} : t.opn ρ = if t.names.all (fun i => plainSlot (Env.get ρ i)) = true then some (wipeR ρ t.names) else none := (rfl)
@[simp] theorem ps_no : plainSlot .no = true := (rfl)
@[simp] theorem ps_val {d : D} : plainSlot (.val d) = true := (rfl)
@[simp] theorem wipe_nil {ρ : Env} : wipeR ρ [] = ρ := (rfl)
@[simp] theorem wipe_cons {ρ : Env} {i : Nat} {is : List Nat} : wipeR ρ (i :: is) = (wipeR ρ is).set i .no := (rfl)
@[simp] theorem get_wipe1 {ρ : Env} : True := trivial
/-! ### walks over encoded lists -/
/-- a list comprehension's work, item by item -/
theorem filtL_enc {α β : Type} {F : D → M (Option β)} {enc : α → D} (p : α → Bool) (h : α → β) : ∀ {l : List α}, (∀ a ∈ l, F (enc a) = if p a = true then mp (some (h a)) else mp none) → filtL F (l.map enc) = mp ((l.filter p).map h)
  | [], _ => rfl
  | a :: l, H => by
    have h1 := H a (by simp)
    have h2 := filtL_enc p h (l := l) fun b hb => H b (by simp [hb])
    simp only [List.map_cons, filtL, h1, h2]
    cases hp : p a <;> simp [List.filter_cons, hp]
theorem filtL_all {α β : Type} {F : D → M (Option β)} {enc : α → D} (h : α → β) {l : List α} (H : ∀ a ∈ l, F (enc a) = mp (some (h a))) : filtL F (l.map enc) = mp (l.map h) := by
  have := filtL_enc (F := F) (enc := enc) (fun _ => true) h (l := l) fun a ha => by rw [H a ha]; rfl
  rw [this]
  congr 1
  congr 1
  exact List.filter_eq_self.mpr fun _ _ => rfl
theorem allBools_map {α : Type} {f : α → Bool} : ∀ l : List α, allBools (l.map fun a => .bl (f a)) = some (l.map f)
  | [] => rfl
  | a :: l => by simp only [List.map_cons, allBools, allBools_map l, Option.map_some]
theorem allInts_map : ∀ l : List Int, allInts (l.map D.int) = some l
  | [] => rfl
  | a :: l => by simp only [List.map_cons, allInts, allInts_map l, Option.map_some]
theorem all_bl {kt : D → Bool} {α : Type} (f : α → Bool) (l : List α) : biD kt .all [.lst (l.map fun a => .bl (f a))] = some (.bl (l.all f)) := by
  simp only [biD, allF, allBools_map, Option.map_some, List.all_map]
  rfl
theorem any_bl {kt : D → Bool} {α : Type} (f : α → Bool) (l : List α) : biD kt .any [.lst (l.map fun a => .bl (f a))] = some (.bl (l.any f)) := by
  simp only [biD, anyF, allBools_map, Option.map_some, List.any_map]
  rfl
/-! ### plain comparisons -/
@[simp] theorem le_int (a b : Int) : cmpB .le (.int a) (.int b) = some (decide (a ≤ b)) := by
  show some (!decide (b < a)) = _
  congr 1
  by_cases h : b < a <;> simp [h] <;> omega
@[simp] theorem lt_int (a b : Int) : cmpB .lt (.int a) (.int b) = some (decide (a < b)) := (rfl)
@[simp] theorem gt_int (a b : Int) : cmpB .gt (.int a) (.int b) = some (decide (b < a)) := (rfl)
@[simp] theorem ge_int (a b : Int) : cmpB .ge (.int a) (.int b) = some (decide (b ≤ a)) := by
  show some (!decide (a < b)) = _
  congr 1
  by_cases h : a < b <;> simp [h] <;> omega
@[simp] theorem eq_int (a b : Int) : cmpB .eq (.int a) (.int b) = some (decide (a = b)) := by
  show some (a == b) = _
  congr 1
@[simp] theorem ne_int (a b : Int) : cmpB .ne (.int a) (.int b) = some (decide (a ≠ b)) := by
  show some (!(a == b)) = _
  by_cases h : a = b <;> simp [h]
@[simp] theorem add_int (a b : Int) : binD .add (.int a) (.int b) = some (.int (a + b)) := (rfl)
@[simp] theorem sub_int (a b : Int) : binD .sub (.int a) (.int b) = some (.int (a - b)) := (rfl)
@[simp] theorem len_tup {kt : D → Bool} (xs : List D) : biD kt .len [.tup xs] = some (.int xs.length) := (rfl)
@[simp] theorem len_lst {kt : D → Bool} (xs : List D) : biD kt .len [.lst xs] = some (.int xs.length) := (rfl)
@[simp] theorem len_str {kt : D → Bool} (xs : List Nat) : biD kt .len [.str xs] = some (.int xs.length) := (rfl)
@[simp] theorem tup_of_lst {kt : D → Bool} (xs : List D) : biD kt .tuple [.lst xs] = some (.tup xs) := (rfl)
@[simp] theorem walk_tup (xs : List D) : walkD (.tup xs) = some xs := (rfl)
@[simp] theorem walk_lst (xs : List D) : walkD (.lst xs) = some xs := (rfl)
@[simp] theorem in_str (x y : List Nat) : cmpB .«in» (.str x) (.str y) = some (occN x y) := (rfl)
@[simp] theorem eq_str (x y : List Nat) : cmpB .eq (.str x) (.str y) = some (decide (x = y)) := by
  show some (x == y) = _
  by_cases h : x = y <;> simp [h]
@[simp] theorem ne_str (x y : List Nat) : cmpB .ne (.str x) (.str y) = some (!decide (x = y)) := by
  show some (!(x == y)) = _
  by_cases h : x = y <;> simp [h]
@[simp] theorem all_tt {α : Type} (l : List α) : (l.all fun _ => true) = true := List.all_eq_true.mpr fun _ _ => rfl
/-! ### lists of data -/
theorem zipI_map {α β : Type} (f : α → D) (g : β → D) : ∀ (l : List α) (k : List β), zipI (l.map f) (k.map g) = (l.zip k).map fun z => D.tup [f z.1, g z.2]
  | [], _ => by simp [zipI]
  | _ :: _, [] => by simp [zipI]
  | x :: p, y :: q => by simp [zipI, zipI_map f g p q]
theorem rangeI_map : ∀ (n : Nat) (lo : Int), rangeI lo n = (List.range n).map fun i : Nat => D.int (lo + i)
  | 0, lo => rfl
  | n + 1, lo => by
    rw [List.range_succ_eq_map]
    simp only [rangeI, List.map_cons, List.map_map, rangeI_map n (lo + 1)]
    congr 1
    · simp
    · refine List.map_congr_left fun i _ => ?_
      simp only [Function.comp, Nat.succ_eq_add_one]
      congr 1
      omega
theorem rng_one {n : Nat} (h : n ≤ 1000) : rngD [.int n] = some ((List.range n).map fun i : Nat => D.int i) := by
  have h1 : decide (-(LIM : Int) ≤ n) = true := decide_eq_true (by simp only [LIM]; omega)
  have h2 : decide ((n : Int) ≤ LIM) = true := decide_eq_true (by simp only [LIM]; omega)
  simp only [rngD, h1, h2, Bool.and_self, if_true, Int.toNat_natCast, rangeI_map]
  congr 1
  refine List.map_congr_left fun i _ => ?_
  simp
theorem rng_two {a : Int} {b : Int} (h : -1000 ≤ a) (h0 : a ≤ 1000) (h1 : b ≤ 1000) (h2 : -1000 ≤ b) : rngD [.int a, .int b] = some ((List.range (b - a).toNat).map fun i : Nat => D.int (a + i)) := by
  have e1 : decide (-(LIM : Int) ≤ a) = true := decide_eq_true (by simp only [LIM]; omega)
  have e2 : decide (a ≤ (LIM : Int)) = true := decide_eq_true (by simp only [LIM]; omega)
  have e3 : decide (-(LIM : Int) ≤ b) = true := decide_eq_true (by simp only [LIM]; omega)
  have e4 : decide (b ≤ (LIM : Int)) = true := decide_eq_true (by simp only [LIM]; omega)
  have e5 : decide (b - a ≤ (LIM : Int)) = true := decide_eq_true (by simp only [LIM]; omega)
  simp only [rngD, e1, e2, e3, e4, e5, Bool.and_self, if_true, rangeI_map]
theorem cut_lo {α : Type} (xs : List α) {i : Int} (h : 0 ≤ i) : cutD xs (some i) none = xs.drop i.toNat := by
  unfold cutD clampD
  have hn : ¬ i < 0 := by omega
  simp only [hn, if_false]
  by_cases hl : i.toNat ≤ xs.length
  · rw [Nat.min_eq_left hl, List.take_of_length_le (by simp)]
  · rw [Nat.min_eq_right (by omega), List.drop_of_length_le (by omega), List.drop_of_length_le (by omega)]
    simp
theorem cut_hi {α : Type} (xs : List α) {i : Int} (h : 0 ≤ i) : cutD xs none (some i) = xs.take i.toNat := by
  unfold cutD clampD
  have hn : ¬ i < 0 := by omega
  simp only [hn, if_false, List.drop_zero, Nat.sub_zero]
  by_cases hl : i.toNat ≤ xs.length
  · rw [Nat.min_eq_left hl]
  · rw [Nat.min_eq_right (by omega), List.take_of_length_le (by omega), List.take_of_length_le (by omega)]
theorem plainL_map {α : Type} {f : α → D} : ∀ {l : List α}, (∀ a ∈ l, plainD (f a) = true) → plainL (l.map f) = true
  | [], _ => rfl
  | a :: l, h => by
    simp only [List.map_cons, plainL, Bool.and_eq_true]
    exact ⟨h a (by simp), plainL_map fun b hb => h b (by simp [hb])⟩
theorem depL_map {α : Type} {f : α → D} {k : Nat} : ∀ {l : List α}, (∀ a ∈ l, depD (f a) ≤ k) → depL (l.map f) ≤ k
  | [], _ => Nat.zero_le _
  | a :: l, h => by
    simp only [List.map_cons, depL]
    exact Nat.max_le.mpr ⟨h a (by simp), depL_map fun b hb => h b (by simp [hb])⟩
/-- what == looks at, no deeper than k -/
structure Fl0 (k : Nat) (d : D) : Prop where
  pl : plainD d = true
  dp : depD d ≤ k
theorem Fl0.ok {k : Nat} {d : D} (h : Fl0 k d) (hk : k ≤ 60) : okD d = true := by
  unfold okD
  rw [h.pl, Bool.true_and, decide_eq_true_eq]
  exact Nat.le_trans h.dp hk
theorem Fl0.int {k : Nat} (i : Int) : Fl0 k (.int i) := ⟨rfl, Nat.zero_le _⟩
theorem Fl0.str {k : Nat} (i : List Nat) : Fl0 k (.str i) := ⟨rfl, Nat.zero_le _⟩
theorem Fl0.bl {k : Nat} (i : Bool) : Fl0 k (.bl i) := ⟨rfl, Nat.zero_le _⟩
theorem Fl0.non {k : Nat} : Fl0 k .non := ⟨rfl, Nat.zero_le _⟩
theorem Fl0.lst {α : Type} {f : α → D} {l : List α} {k : Nat} (h : ∀ a ∈ l, Fl0 k (f a)) : Fl0 (k + 1) (.lst (l.map f)) :=
  ⟨by simp only [plainD]; exact plainL_map fun a ha => (h a ha).pl, by simp only [depD]; exact Nat.succ_le_succ (depL_map fun a ha => (h a ha).dp)⟩
theorem Fl0.tup {α : Type} {f : α → D} {l : List α} {k : Nat} (h : ∀ a ∈ l, Fl0 k (f a)) : Fl0 (k + 1) (.tup (l.map f)) :=
  ⟨by simp only [plainD]; exact plainL_map fun a ha => (h a ha).pl, by simp only [depD]; exact Nat.succ_le_succ (depL_map fun a ha => (h a ha).dp)⟩
theorem Fl0.mono {k j : Nat} {d : D} (h : Fl0 k d) (hk : k ≤ j) : Fl0 j d := ⟨h.pl, Nat.le_trans h.dp hk⟩
/-- equality of encoded lists -/
theorem eqL_map {α : Type} [DecidableEq α] {f : α → D} (hf : ∀ a b, eqD (f a) (f b) = decide (a = b)) : ∀ (a b : List α), eqL (a.map f) (b.map f) = decide (a = b)
  | [], [] => by simp [eqL]
  | [], _ :: _ => by simp [eqL]
  | _ :: _, [] => by simp [eqL]
  | x :: a, y :: b => by
    simp only [List.map_cons, eqL, hf, eqL_map hf a b]
    by_cases h : x = y
    · subst h; simp
    · simp [h]
theorem eqD_int (a b : Int) : eqD (.int a) (.int b) = decide (a = b) := by
  simp only [eqD]
  by_cases h : a = b
  · subst h; simp
  · simp [h]
theorem cmp_eq {x y : D} {b : Bool} (hx : okD x = true) (hy : okD y = true) (h : eqD x y = b) : cmpB .eq x y = some b := by
  show (if okD x && okD y then some (eqD x y) else none) = _
  rw [hx, hy, h]; rfl
theorem cmp_ne {x y : D} {b : Bool} (hx : okD x = true) (hy : okD y = true) (h : eqD x y = b) : cmpB .ne x y = some (!b) := by
  show (if okD x && okD y then some (!eqD x y) else none) = _
  rw [hx, hy, h]; rfl
theorem okI (l : List Int) : okD (.lst (l.map D.int)) = true := (Fl0.lst (k := 0) fun a _ => Fl0.int a).ok (by omega)
theorem ne_ints (a b : List Int) : cmpB .ne (.lst (a.map D.int)) (.lst (b.map D.int)) = some (!decide (a = b)) :=
  cmp_ne (okI a) (okI b) (by simp only [eqD]; exact eqL_map eqD_int a b)
/-! ### loops that keep a word -/
theorem forL_inv {t : Tg} {b : Env → M Fl} (I : Env → Prop) : ∀ {xs : List D} {ρ : Env}, (∀ x ∈ xs, ∀ ρ, I ρ → ∃ ρ1 ρ2, t.bind x ρ = some ρ1 ∧ b ρ1 = mp (.nx ρ2) ∧ I ρ2) → I ρ → ∃ ρ', forL t b xs ρ = mp (.nx ρ') ∧ I ρ'
  | [], ρ, _, h => ⟨ρ, rfl, h⟩
  | x :: xs, ρ, H, h => by
    obtain ⟨ρ1, ρ2, h1, h2, h3⟩ := H x (by simp) ρ h
    obtain ⟨ρ', h4, h5⟩ := forL_inv I (xs := xs) (fun y hy => H y (by simp [hy])) h3
    refine ⟨ρ', ?_, h5⟩
    unfold forL
    rw [h1, mo_s, mb_mp', h2, mb_mp']
    exact h4
/-- with the turn's number -/
theorem forL_nat {t : Tg} {b : Env → M Fl} (I : Nat → Env → Prop) : ∀ {xs : List D} {i : Nat} {ρ : Env}, (∀ j x ρ, xs[j]? = some x → I (i + j) ρ → ∃ ρ1 ρ2, t.bind x ρ = some ρ1 ∧ b ρ1 = mp (.nx ρ2) ∧ I (i + j + 1) ρ2) → I i ρ → ∃ ρ', forL t b xs ρ = mp (.nx ρ') ∧ I (i + xs.length) ρ'
  | [], i, ρ, _, h => ⟨ρ, rfl, h⟩
  | x :: xs, i, ρ, H, h => by
    obtain ⟨ρ1, ρ2, h1, h2, h3⟩ := H 0 x ρ rfl h
    obtain ⟨ρ', h4, h5⟩ := forL_nat I (xs := xs) (i := i + 1) (fun j y ρ hy hI => by
      have := H (j + 1) y ρ (by simpa using hy) (by rw [show i + (j + 1) = i + 1 + j by omega]; exact hI)
      rw [show i + (j + 1) + 1 = i + 1 + j + 1 by omega] at this
      exact this) (by simpa using h3)
    refine ⟨ρ', ?_, by rw [List.length_cons, show i + (xs.length + 1) = i + 1 + xs.length by omega]; exact h5⟩
    unfold forL
    rw [h1, mo_s, mb_mp', h2, mb_mp']
    exact h4
end KL
end

section
set_option Elab.async false
set_option linter.all false
set_option maxRecDepth 100000
namespace KL
open EV
abbrev cA : Int := 30911
abbrev cB : Int := 7927
abbrev cM : Int := 2147483069
abbrev cC : Int := 229
abbrev cN : Int := 2147483077
abbrev cD : Int := 809
abbrev uD : Int := 61
abbrev uA : Int := 293
abbrev uB : Int := 4091
abbrev uM : Int := 2077502969
abbrev uC : Int := 199
def i_is_whole : Nat := 0
def i_fits_whole : Nat := 1
def i_is_tuple_of : Nat := 2
def i_is_sign : Nat := 3
def i_fits_mark : Nat := 4
def i_fits_vector : Nat := 5
def i_fits_what : Nat := 6
def i_fits_deed : Nat := 7
def i_fits_below : Nat := 8
def i_known_in : Nat := 9
def i_fits_in : Nat := 10
def i_fits_deeds : Nat := 11
def i_need_sites : Nat := 12
def i_need_deeds : Nat := 13
def i_is_deeds : Nat := 14
def i_puts_in : Nat := 15
def i_order_in : Nat := 16
def i_need_put : Nat := 17
def i_need_spot : Nat := 18
def i_order_of : Nat := 19
def i_behind_of : Nat := 20
def i_by_site : Nat := 21
def i_goes_on : Nat := 22
def i_runs_in : Nat := 23
def i_fits_marks : Nat := 24
def i_need_marks : Nat := 25
def i_need_way : Nat := 26
def i_runs_of : Nat := 27
def i_run_of : Nat := 28
def i_longest_run : Nat := 29
def i_runs_counted : Nat := 30
def i_heads_of : Nat := 31
def i_is_run : Nat := 32
def i_law_cup : Nat := 33
def i_law_roll : Nat := 34
def i_law_some : Nat := 35
def i_law_same : Nat := 36
def i_law_typed : Nat := 37
def i_law_runs : Nat := 38
def i_law_right : Nat := 39
def i_law : Nat := 40
def g_LETTERS : Nat := 0
def g_MOST : Nat := 1
def g_BEGIN : Nat := 2
def g_KNOWN : Nat := 3
def g_SITES : Nat := 4
def f_is_whole : Fn := ⟨1, 1, [.ret (.and (.ist .int (.v 0)) (.not (.ist .bool (.v 0))))]⟩
def f_fits_whole : Fn := ⟨3, 3, [.ret (.and (.call i_is_whole [.v 0]) (.cmp2 .le .le (.v 1) (.v 0) (.v 2)))]⟩
def f_is_tuple_of : Fn := ⟨3, 3, [.ret (.and (.ist .tuple (.v 0)) (.cmp2 .le .le (.v 1) (.bi .len [.v 0]) (.v 2)))]⟩
def f_is_sign : Fn := ⟨1, 1, [.ret (.and (.ist .str (.v 0)) (.and (.cmp .eq (.bi .len [.v 0]) (.k (.int 1))) (.cmp .«in» (.v 0) (.g g_LETTERS))))]⟩
def f_fits_mark : Fn := ⟨2, 2, [.ret (.and (.call i_is_tuple_of [.v 1, .k (.int 2), .k (.int 2)]) (.and (.call i_fits_whole [.ix (.v 1) (.k (.int 0)), .k (.int 1), .g g_MOST]) (.call i_fits_whole [.ix (.v 1) (.k (.int 1)), .k (.int 0), .bin .sub (.v 0) (.k (.int 1))])))]⟩
def f_fits_vector : Fn := ⟨2, 3, [.ret (.and (.call i_is_tuple_of [.v 1, .v 0, .v 0]) (.bi .all [.comp (.call i_fits_whole [.v 2, .k (.int 0), .g g_MOST]) (.nm 2) (.pl (.v 1)) (.k (.bl true))]))]⟩
def f_fits_what : Fn := ⟨3, 5, [.if_ (.or (.not (.call i_is_tuple_of [.v 2, .k (.int 2), .k (.int 3)])) (.not (.ist .str (.ix (.v 2) (.k (.int 0))))))
  [.ret (.k (.bl false))]
  [],
  .if_ (.and (.cmp .eq (.ix (.v 2) (.k (.int 0))) (.k (.str [112, 117, 116]))) (.and (.cmp .eq (.bi .len [.v 2]) (.k (.int 3))) (.cmp .eq (.ix (.v 2) (.k (.int 1))) (.g g_BEGIN))))
  [.ret (.and (.call i_is_tuple_of [.ix (.v 2) (.k (.int 1)), .k (.int 2), .k (.int 2)]) (.and (.bi .all [.comp (.call i_is_whole [.v 4]) (.nm 4) (.pl (.ix (.v 2) (.k (.int 1)))) (.k (.bl true))]) (.call i_is_sign [.ix (.v 2) (.k (.int 2))])))]
  [],
  .if_ (.or (.cmp .notin (.ix (.v 2) (.k (.int 0))) (.tup [.k (.str [112, 117, 116]), .k (.str [116, 97, 107, 101])])) (.cmp .ne (.bi .len [.v 2]) (.ite (.cmp .eq (.ix (.v 2) (.k (.int 0))) (.k (.str [112, 117, 116]))) (.k (.int 3)) (.k (.int 2)))))
  [.ret (.k (.bl false))]
  [],
  .asg (.nm 3) (.and (.call i_fits_mark [.v 0, .ix (.v 2) (.k (.int 1))]) (.cmp .lt (.ix (.ix (.v 2) (.k (.int 1))) (.k (.int 0))) (.v 1))),
  .ret (.and (.v 3) (.or (.cmp .eq (.ix (.v 2) (.k (.int 0))) (.k (.str [116, 97, 107, 101]))) (.call i_is_sign [.ix (.v 2) (.k (.int 2))])))]⟩
def f_fits_deed : Fn := ⟨2, 7, [.if_ (.or (.not (.call i_is_tuple_of [.v 1, .k (.int 4), .k (.int 4)])) (.or (.not (.call i_fits_mark [.v 0, .ix (.v 1) (.k (.int 0))])) (.not (.call i_fits_whole [.ix (.v 1) (.k (.int 1)), .k (.int 1), .g g_MOST]))))
  [.ret (.k (.bl false))]
  [],
  .asg (.tp [.tp [.nm 5, .nm 6], .nm 2, .nm 3, .nm 4]) (.v 1),
  .ret (.and (.call i_fits_vector [.v 0, .v 3]) (.and (.cmp .eq (.ix (.v 3) (.v 6)) (.bin .sub (.v 2) (.k (.int 1)))) (.call i_fits_what [.v 0, .v 5, .v 4])))]⟩
def f_fits_below : Fn := ⟨2, 4, [.ret (.bi .all [.comp (.cmp .le (.v 2) (.v 3)) (.tp [.nm 2, .nm 3]) (.zip (.v 0) (.v 1)) (.k (.bl true))])]⟩
def f_known_in : Fn := ⟨2, 3, [.ret (.comp (.v 2) (.nm 2) (.pl (.v 0)) (.cmp .le (.ix (.v 2) (.k (.int 1))) (.ix (.v 1) (.ix (.ix (.v 2) (.k (.int 0))) (.k (.int 1))))))]⟩
def f_fits_in : Fn := ⟨2, 4, [.asg (.nm 2) (.call i_known_in [.v 0, .ix (.v 1) (.k (.int 2))]),
  .if_ (.or (.cmp .ne (.bi .len [.v 2]) (.bi .sum [.ix (.v 1) (.k (.int 2))])) (.not (.bi .all [.comp (.cmp .lt (.ix (.ix (.v 3) (.k (.int 0))) (.k (.int 0))) (.ix (.ix (.v 1) (.k (.int 0))) (.k (.int 0)))) (.nm 3) (.pl (.v 2)) (.k (.bl true))])))
  [.ret (.k (.bl false))]
  [],
  .if_ (.not (.bi .all [.comp (.call i_fits_below [.ix (.v 3) (.k (.int 2)), .ix (.v 1) (.k (.int 2))]) (.nm 3) (.pl (.v 2)) (.k (.bl true))]))
  [.ret (.k (.bl false))]
  [],
  .ret (.or (.cmp .eq (.ix (.ix (.v 1) (.k (.int 3))) (.k (.int 1))) (.g g_BEGIN)) (.bi .any [.comp (.and (.cmp .eq (.ix (.v 3) (.k (.int 0))) (.ix (.ix (.v 1) (.k (.int 3))) (.k (.int 1)))) (.cmp .eq (.ix (.ix (.v 3) (.k (.int 3))) (.k (.int 0))) (.k (.str [112, 117, 116])))) (.nm 3) (.pl (.v 2)) (.k (.bl true))]))]⟩
def f_fits_deeds : Fn := ⟨2, 8, [.if_ (.or (.not (.call i_is_tuple_of [.v 1, .k (.int 0), .g g_KNOWN])) (.not (.bi .all [.comp (.call i_fits_deed [.v 0, .v 5]) (.nm 5) (.pl (.v 1)) (.k (.bl true))])))
  [.ret (.k (.bl false))]
  [],
  .asg (.nm 2) (.comp (.ix (.v 5) (.k (.int 0))) (.nm 5) (.pl (.v 1)) (.k (.bl true))),
  .if_ (.not (.bi .all [.comp (.cmp .lt (.v 6) (.v 7)) (.tp [.nm 6, .nm 7]) (.zip (.v 2) (.sl (.v 2) (.k (.int 1)) (.k .non))) (.k (.bl true))]))
  [.ret (.k (.bl false))]
  [],
  .for_ (.nm 3) (.rng [.v 0])
  [.asg (.nm 4) (.comp (.ix (.v 5) (.k (.int 1))) (.nm 5) (.pl (.v 1)) (.cmp .eq (.ix (.ix (.v 5) (.k (.int 0))) (.k (.int 1))) (.v 3))),
  .if_ (.cmp .ne (.v 4) (.rg2 false (.k (.int 1)) (.bin .add (.bi .len [.v 4]) (.k (.int 1)))))
  [.ret (.k (.bl false))]
  []],
  .ret (.bi .all [.comp (.call i_fits_in [.v 1, .v 5]) (.nm 5) (.pl (.v 1)) (.k (.bl true))])]⟩
def f_need_sites : Fn := ⟨1, 1, [.if_ (.not (.call i_fits_whole [.v 0, .k (.int 1), .g g_SITES]))
  [.never]
  []]⟩
def f_need_deeds : Fn := ⟨2, 2, [.exp (.call i_need_sites [.v 0]),
  .if_ (.not (.call i_fits_deeds [.v 0, .v 1]))
  [.never]
  []]⟩
def f_is_deeds : Fn := ⟨2, 2, [.exp (.call i_need_sites [.v 0]),
  .ret (.call i_fits_deeds [.v 0, .v 1])]⟩
def f_puts_in : Fn := ⟨1, 2, [.ret (.dcomp true (.ix (.v 1) (.k (.int 0))) (.sl (.ix (.v 1) (.k (.int 3))) (.k (.int 1)) (.k .non)) (.nm 1) (.pl (.v 0)) (.cmp .eq (.ix (.ix (.v 1) (.k (.int 3))) (.k (.int 0))) (.k (.str [112, 117, 116]))))]⟩
def f_order_in : Fn := ⟨1, 6, [.par [(1, false), (2, true), (3, true)] [.call i_puts_in [.v 0], .lst [.g g_BEGIN], .lst []],
  .whl 100 (.cmp .ne (.v 2) (.lst []))
  [.popi 4 2,
  .app 3 (.v 4),
  .aug 2 (.bi .sorted [.comp (.v 5) (.nm 5) (.keys (.v 1)) (.cmp .eq (.ix (.ix (.v 1) (.v 5)) (.k (.int 0))) (.v 4))])],
  .ret (.sl (.v 3) (.k (.int 1)) (.k .non))]⟩
def f_need_put : Fn := ⟨2, 3, [.if_ (.or (.not (.call i_fits_mark [.g g_SITES, .v 1])) (.not (.bi .any [.comp (.and (.cmp .eq (.ix (.v 2) (.k (.int 0))) (.v 1)) (.cmp .eq (.ix (.ix (.v 2) (.k (.int 3))) (.k (.int 0))) (.k (.str [112, 117, 116])))) (.nm 2) (.pl (.v 0)) (.k (.bl true))])))
  [.never]
  []]⟩
def f_need_spot : Fn := ⟨2, 3, [.if_ (.or (.not (.ist .tuple (.v 1))) (.or (.cmp .ne (.v 1) (.g g_BEGIN)) (.not (.bi .all [.comp (.call i_fits_whole [.v 2, .k (.int 0), .k (.int 0)]) (.nm 2) (.pl (.v 1)) (.k (.bl true))]))))
  [.exp (.call i_need_put [.v 0, .v 1])]
  []]⟩
def f_order_of : Fn := ⟨2, 2, [.exp (.call i_need_deeds [.v 0, .v 1]),
  .ret (.bi .tuple [.call i_order_in [.v 1]])]⟩
def f_behind_of : Fn := ⟨3, 5, [.exp (.call i_need_deeds [.v 0, .v 1]),
  .exp (.call i_need_spot [.v 1, .v 2]),
  .asg (.nm 3) (.call i_puts_in [.v 1]),
  .ret (.bi .tuple [.rev (.bi .sorted [.comp (.v 4) (.nm 4) (.keys (.v 3)) (.cmp .eq (.ix (.ix (.v 3) (.v 4)) (.k (.int 0))) (.v 2))])])]⟩
def f_by_site : Fn := ⟨2, 4, [.ret (.comp (.comp (.v 3) (.nm 3) (.pl (.v 1)) (.cmp .eq (.ix (.ix (.v 3) (.k (.int 0))) (.k (.int 1))) (.v 2))) (.nm 2) (.rng [.v 0]) (.k (.bl true)))]⟩
def f_goes_on : Fn := ⟨3, 3, [.if_ (.or (.cmp .ne (.ix (.ix (.v 0) (.k (.int 3))) (.k (.int 0))) (.k (.str [112, 117, 116]))) (.cmp .ne (.ix (.ix (.v 1) (.k (.int 3))) (.k (.int 0))) (.k (.str [112, 117, 116]))))
  [.ret (.k (.bl false))]
  [],
  .ret (.cmp .eq (.ix (.ix (.v 1) (.k (.int 3))) (.k (.int 1))) (.ite (.cmp .eq (.v 2) (.k (.str [111, 110]))) (.ix (.v 0) (.k (.int 0))) (.ix (.ix (.v 0) (.k (.int 3))) (.k (.int 1)))))]⟩
def f_runs_in : Fn := ⟨3, 7, [.own 3 (.lst []),
  .for_ (.nm 4) (.pl (.call i_by_site [.v 0, .v 1]))
  [.for_ (.tp [.nm 5, .nm 6]) (.enum (.v 4))
  [.if_ (.and (.cmp .gt (.v 5) (.k (.int 0))) (.call i_goes_on [.ix (.v 4) (.bin .sub (.v 5) (.k (.int 1))), .v 6, .v 2]))
  [.sets 3 (.neg (.k (.int 1))) (.bin .add (.ix (.v 3) (.neg (.k (.int 1)))) (.tup [.ix (.v 6) (.k (.int 0))]))]
  [.if_ (.cmp .eq (.ix (.ix (.v 6) (.k (.int 3))) (.k (.int 0))) (.k (.str [112, 117, 116])))
  [.app 3 (.tup [.ix (.v 6) (.k (.int 0))])]
  []]]],
  .ret (.bi .sorted [.v 3])]⟩
def f_fits_marks : Fn := ⟨2, 4, [.if_ (.or (.not (.call i_is_tuple_of [.v 1, .k (.int 1), .g g_KNOWN])) (.not (.bi .all [.comp (.call i_fits_mark [.g g_SITES, .v 3]) (.nm 3) (.pl (.v 1)) (.k (.bl true))])))
  [.ret (.k (.bl false))]
  [],
  .asg (.nm 2) (.call i_puts_in [.v 0]),
  .ret (.and (.bi .all [.comp (.cmp .«in» (.v 3) (.v 2)) (.nm 3) (.pl (.v 1)) (.k (.bl true))]) (.cmp .eq (.bs .lset (.v 1)) (.bi .len [.v 1])))]⟩
def f_need_marks : Fn := ⟨2, 2, [.if_ (.not (.call i_fits_marks [.v 0, .v 1]))
  [.never]
  []]⟩
def f_need_way : Fn := ⟨1, 1, [.if_ (.or (.not (.ist .str (.v 0))) (.cmp .notin (.v 0) (.tup [.k (.str [111, 110]), .k (.str [98, 97, 99, 107])])))
  [.never]
  []]⟩
def f_runs_of : Fn := ⟨3, 3, [.exp (.call i_need_deeds [.v 0, .v 1]),
  .exp (.call i_need_way [.v 2]),
  .ret (.bi .tuple [.call i_runs_in [.v 0, .v 1, .v 2]])]⟩
def f_run_of : Fn := ⟨4, 5, [.exp (.call i_need_deeds [.v 0, .v 1]),
  .exp (.call i_need_way [.v 2]),
  .exp (.call i_need_put [.v 1, .v 3]),
  .ret (.ix (.comp (.v 4) (.nm 4) (.pl (.call i_runs_in [.v 0, .v 1, .v 2])) (.cmp .«in» (.v 3) (.v 4))) (.k (.int 0)))]⟩
def f_longest_run : Fn := ⟨3, 6, [.exp (.call i_need_deeds [.v 0, .v 1]),
  .exp (.call i_need_way [.v 2]),
  .asg (.nm 3) (.call i_runs_in [.v 0, .v 1, .v 2]),
  .ret (.ite (.cmp .ne (.v 3) (.lst [])) (.ix (.comp (.v 4) (.nm 4) (.pl (.v 3)) (.cmp .eq (.bi .len [.v 4]) (.bi .max [.comp (.bi .len [.v 5]) (.nm 5) (.pl (.v 3)) (.k (.bl true))]))) (.k (.int 0))) (.tup []))]⟩
def f_runs_counted : Fn := ⟨3, 6, [.exp (.call i_need_deeds [.v 0, .v 1]),
  .exp (.call i_need_way [.v 2]),
  .asg (.nm 3) (.comp (.bi .len [.v 4]) (.nm 4) (.pl (.call i_runs_in [.v 0, .v 1, .v 2])) (.k (.bl true))),
  .ret (.bi .tuple [.comp (.tup [.v 5, .m1 .count (.v 3) (.v 5)]) (.nm 5) (.pl (.bs .sset (.v 3))) (.k (.bl true))])]⟩
def f_heads_of : Fn := ⟨3, 5, [.exp (.call i_need_deeds [.v 0, .v 1]),
  .exp (.call i_need_way [.v 2]),
  .asg (.nm 3) (.call i_puts_in [.v 1]),
  .ret (.bi .tuple [.comp (.tup [.ix (.v 4) (.k (.int 0)), .ix (.ix (.v 3) (.ix (.v 4) (.k (.int 0)))) (.k (.int 0))]) (.nm 4) (.pl (.call i_runs_in [.v 0, .v 1, .v 2])) (.k (.bl true))])]⟩
def f_is_run : Fn := ⟨4, 4, [.exp (.call i_need_deeds [.v 0, .v 1]),
  .exp (.call i_need_way [.v 2]),
  .exp (.call i_need_marks [.v 1, .v 3]),
  .ret (.cmp .«in» (.v 3) (.call i_runs_in [.v 0, .v 1, .v 2]))]⟩
def f_law_cup : Fn := ⟨1, 2, [.asg (.nm 1) (.bi .abs [.ix (.bin .add (.bi .list [.v 0]) (.lst [.k (.int 0)])) (.k (.int 0))]),
  .retn (.lst [.ite (.cmp .ge (.v 1) (.bin .pow (.k (.int 10)) (.k (.int 18)))) (.bin .fdiv (.v 1) (.k (.int 61))) (.k (.int 0)), .bin .add (.bin .mod (.bi .int [.bin .add (.bin .mul (.v 1) (.k (.int 293))) (.k (.int 4091))]) (.k (.int 2077502969))) (.k (.int 199))])]⟩
def f_law_roll : Fn := ⟨2, 4, [.if_ (.cmp .gt (.cupg 0 false) (.k (.int 0)))
  [.asg (.nm 3) (.bin .mod (.bi .int [.cupg 0 false]) (.v 1)),
  .setc 0 false (.bin .fdiv (.cupg 0 false) (.v 1)),
  .ret (.v 3)]
  [],
  .setc 0 true (.bin .mod (.bi .int [.bin .add (.bin .mul (.cupg 0 true) (.k (.int 30911))) (.k (.int 7927))]) (.k (.int 2147483069))),
  .asg (.nm 2) (.bin .mod (.bi .int [.bin .mul (.cupg 0 true) (.bin .add (.cupg 0 true) (.k (.int 229)))]) (.k (.int 2147483077))),
  .ret (.bin .mod (.bi .int [.bin .fdiv (.v 2) (.k (.int 809))]) (.v 1))]⟩
def f_law_some : Fn := ⟨2, 2, [.ret (.ix (.v 1) (.call i_law_roll [.v 0, .bi .len [.v 1]]))]⟩
def f_law_same : Fn := ⟨2, 3, [.if_ (.ist .tuple (.v 1))
  [.if_ (.or (.not (.ist .tuple (.v 0))) (.cmp .ne (.bi .len [.v 0]) (.bi .len [.v 1])))
  [.ret (.k (.bl false))]
  [],
  .ret (.bi .all [.comp (.call i_law_same [.ix (.v 0) (.v 2), .ix (.v 1) (.v 2)]) (.nm 2) (.rng [.bi .len [.v 1]]) (.k (.bl true))])]
  [],
  .if_ (.cmp .is (.v 1) (.k .non))
  [.ret (.cmp .is (.v 0) (.k .non))]
  [],
  .if_ (.ist .bool (.v 1))
  [.ret (.ite (.v 1) (.cmp .is (.v 0) (.k (.bl true))) (.cmp .is (.v 0) (.k (.bl false))))]
  [],
  .if_ (.ist .int (.v 1))
  [.ret (.and (.ist .int (.v 0)) (.and (.not (.ist .bool (.v 0))) (.cmp .eq (.bi .int [.v 0]) (.v 1))))]
  [],
  .ret (.and (.ist .str (.v 0)) (.cmp .eq (.bi .str [.v 0]) (.v 1)))]⟩
def f_law_typed : Fn := ⟨3, 18, [.par [(4, true), (5, true)] [.comp (.bin .mul (.tup [.k (.int 0)]) (.v 1)) (.nm 11) (.rng [.v 1]) (.k (.bl true)), .lst []],
  .for_ (.nm 3) (.rng [.v 2])
  [.par [(11, false), (12, false)] [.call i_law_roll [.v 0, .v 1], .call i_law_roll [.v 0, .k (.int 6)]],
  .if_ (.cmp .eq (.call i_law_roll [.v 0, .k (.int 4)]) (.k (.int 0)))
  [.asg (.nm 13) (.ix (.v 4) (.call i_law_roll [.v 0, .v 1])),
  .sets 4 (.v 11) (.bi .tuple [.comp (.bi .max [.v 17]) (.nm 17) (.zipn (.ix (.v 4) (.v 11)) (.v 13)) (.k (.bl true))])]
  [],
  .asg (.nm 6) (.ix (.v 4) (.v 11)),
  .asg (.nm 7) (.comp (.v 16) (.nm 16) (.pl (.v 5)) (.cmp .le (.ix (.v 16) (.k (.int 1))) (.ix (.v 6) (.ix (.ix (.v 16) (.k (.int 0))) (.k (.int 1)))))),
  .par [(14, false), (15, false)] [.comp (.v 16) (.nm 16) (.pl (.v 7)) (.cmp .eq (.ix (.ix (.v 16) (.k (.int 3))) (.k (.int 0))) (.k (.str [112, 117, 116]))), .comp (.v 16) (.nm 16) (.pl (.v 7)) (.and (.cmp .eq (.ix (.ix (.v 16) (.k (.int 0))) (.k (.int 1))) (.v 11)) (.cmp .eq (.ix (.ix (.v 16) (.k (.int 3))) (.k (.int 0))) (.k (.str [112, 117, 116]))))],
  .asg (.nm 8) (.bin .add (.bi .max [.bin .add (.lst [.k (.int 0)]) (.comp (.ix (.ix (.v 16) (.k (.int 0))) (.k (.int 0))) (.nm 16) (.pl (.v 7)) (.k (.bl true)))]) (.call i_law_some [.v 0, .lst [.k (.int 1), .k (.int 1), .k (.int 1), .k (.int 3)]])),
  .asg (.nm 9) (.call i_law_some [.v 0, .bin .add (.lst [.tup [.k (.int 0), .k (.int 0)]]) (.comp (.ix (.v 16) (.k (.int 0))) (.nm 16) (.pl (.v 14)) (.k (.bl true)))]),
  .if_ (.and (.cmp .ne (.v 15) (.lst [])) (.cmp .gt (.v 12) (.k (.int 1))))
  [.asg (.nm 9) (.ite (.cmp .lt (.v 12) (.k (.int 4))) (.ix (.ix (.v 15) (.neg (.k (.int 1)))) (.k (.int 0))) (.ix (.ix (.ix (.v 15) (.neg (.k (.int 1)))) (.k (.int 3))) (.k (.int 1))))]
  [],
  .asg (.nm 10) (.tup [.k (.str [112, 117, 116]), .v 9, .ix (.k (.str [97, 98, 99, 120, 121, 122])) (.call i_law_roll [.v 0, .k (.int 6)])]),
  .if_ (.and (.cmp .ne (.v 14) (.lst [])) (.cmp .eq (.call i_law_roll [.v 0, .k (.int 7)]) (.k (.int 0))))
  [.asg (.nm 10) (.tup [.k (.str [116, 97, 107, 101]), .ix (.call i_law_some [.v 0, .v 14]) (.k (.int 0))])]
  [],
  .app 5 (.tup [.tup [.v 8, .v 11], .bin .add (.ix (.v 6) (.v 11)) (.k (.int 1)), .v 6, .v 10]),
  .sets 4 (.v 11) (.bin .add (.bin .add (.sl (.v 6) (.k .non) (.v 11)) (.tup [.bin .add (.ix (.v 6) (.v 11)) (.k (.int 1))])) (.sl (.v 6) (.bin .add (.v 11) (.k (.int 1))) (.k .non)))],
  .ret (.bi .tuple [.bi .sorted [.v 5]])]⟩
def f_law_runs : Fn := ⟨3, 10, [.own 3 (.lst []),
  .for_ (.nm 4) (.rng [.v 0])
  [.asg (.nm 5) (.bi .sorted [.comp (.v 7) (.nm 7) (.pl (.v 1)) (.cmp .eq (.ix (.ix (.v 7) (.k (.int 0))) (.k (.int 1))) (.v 4))]),
  .for_ (.tp [.nm 6, .nm 7]) (.enum (.v 5))
  [.asg (.nm 8) (.ite (.cmp .gt (.v 6) (.k (.int 0))) (.ix (.v 5) (.bin .sub (.v 6) (.k (.int 1)))) (.k .non)),
  .asg (.nm 9) (.and (.cmp .isnot (.v 8) (.k .non)) (.and (.cmp .eq (.ix (.ix (.v 8) (.k (.int 3))) (.k (.int 0))) (.k (.str [112, 117, 116]))) (.cmp .eq (.ix (.ix (.v 7) (.k (.int 3))) (.k (.int 0))) (.k (.str [112, 117, 116]))))),
  .asg (.nm 9) (.and (.v 9) (.cmp .eq (.ix (.ix (.v 7) (.k (.int 3))) (.k (.int 1))) (.ite (.cmp .eq (.v 2) (.k (.str [111, 110]))) (.ix (.v 8) (.k (.int 0))) (.ix (.ix (.v 8) (.k (.int 3))) (.k (.int 1)))))),
  .if_ (.v 9)
  [.sets 3 (.neg (.k (.int 1))) (.bin .add (.ix (.v 3) (.neg (.k (.int 1)))) (.tup [.ix (.v 7) (.k (.int 0))]))]
  [.if_ (.cmp .eq (.ix (.ix (.v 7) (.k (.int 3))) (.k (.int 0))) (.k (.str [112, 117, 116])))
  [.app 3 (.tup [.ix (.v 7) (.k (.int 0))])]
  []]]],
  .ret (.bi .sorted [.v 3])]⟩
def f_law_right : Fn := ⟨1, 17, [.par [(10, false), (11, false)] [.bin .add (.k (.int 1)) (.call i_law_roll [.v 0, .k (.int 4)]), .call i_law_some [.v 0, .lst [.k (.str [111, 110]), .k (.str [98, 97, 99, 107])]]],
  .asg (.nm 1) (.call i_law_typed [.v 0, .v 10, .call i_law_roll [.v 0, .k (.int 15)]]),
  .asg (.nm 2) (.call i_law_runs [.v 10, .v 1, .v 11]),
  .if_ (.not (.call i_law_same [.tup [.call i_is_deeds [.v 10, .v 1], .call i_runs_of [.v 10, .v 1, .v 11]], .tup [.k (.bl true), .bi .tuple [.v 2]]]))
  [.ret (.k (.bl false))]
  [],
  .asg (.nm 3) (.bs (.dict true) (.comp (.tup [.ix (.v 15) (.k (.int 0)), .ix (.ix (.v 15) (.k (.int 3))) (.k (.int 1))]) (.nm 15) (.pl (.v 1)) (.cmp .eq (.ix (.ix (.v 15) (.k (.int 3))) (.k (.int 0))) (.k (.str [112, 117, 116]))))),
  .asg (.nm 4) (.comp (.bi .len [.v 9]) (.nm 9) (.pl (.v 2)) (.k (.bl true))),
  .asg (.nm 5) (.ite (.cmp .ne (.v 2) (.lst [])) (.ix (.comp (.v 9) (.nm 9) (.pl (.v 2)) (.cmp .eq (.bi .len [.v 9]) (.bi .max [.v 4]))) (.k (.int 0))) (.tup [])),
  .asg (.nm 6) (.tup [.call i_heads_of [.v 10, .v 1, .v 11], .call i_runs_counted [.v 10, .v 1, .v 11], .call i_longest_run [.v 10, .v 1, .v 11]]),
  .asg (.nm 7) (.bi .tuple [.comp (.tup [.v 16, .m1 .count (.v 4) (.v 16)]) (.nm 16) (.pl (.bs .sset (.v 4))) (.k (.bl true))]),
  .if_ (.not (.call i_law_same [.v 6, .tup [.bi .tuple [.comp (.tup [.ix (.v 9) (.k (.int 0)), .ix (.v 3) (.ix (.v 9) (.k (.int 0)))]) (.nm 9) (.pl (.v 2)) (.k (.bl true))], .v 7, .v 5]]))
  [.ret (.k (.bl false))]
  [],
  .asg (.nm 8) (.lst []),
  .for_ (.nm 9) (.pl (.v 2))
  [.asg (.nm 8) (.bin .add (.v 8) (.bi .list [.v 9])),
  .if_ (.or (.cmp .isnot (.call i_is_run [.v 10, .v 1, .v 11, .v 9]) (.k (.bl true))) (.and (.cmp .gt (.bi .len [.v 9]) (.k (.int 1))) (.cmp .isnot (.call i_is_run [.v 10, .v 1, .v 11, .sl (.v 9) (.k (.int 1)) (.k .non)]) (.k (.bl false)))))
  [.ret (.k (.bl false))]
  [],
  .for_ (.nm 12) (.pl (.v 9))
  [.if_ (.not (.call i_law_same [.call i_run_of [.v 10, .v 1, .v 11, .v 12], .v 9]))
  [.ret (.k (.bl false))]
  []],
  .for_ (.tp [.nm 13, .nm 14]) (.zip (.v 9) (.sl (.v 9) (.k (.int 1)) (.k .non)))
  [.if_ (.cmp .notin (.v 14) (.call i_behind_of [.v 10, .v 1, .ite (.cmp .eq (.v 11) (.k (.str [111, 110]))) (.v 13) (.ix (.v 3) (.v 13))]))
  [.ret (.k (.bl false))]
  []]],
  .ret (.cmp .eq (.bi .sorted [.v 8]) (.bi .sorted [.call i_order_of [.v 10, .v 1]]))]⟩
def f_law : Fn := ⟨1, 14, [.cupn 1 i_law_cup [.v 0],
  .for_ (.nm 2) (.rng [.k (.int 4)])
  [.if_ (.not (.call i_law_right [.v 1]))
  [.ret (.k (.bl false))]
  []],
  .asg (.nm 3) (.tup [.tup [.tup [.k (.int 1), .k (.int 0)], .k (.int 1), .tup [.k (.int 0)], .tup [.k (.str [112, 117, 116]), .tup [.k (.int 0), .k (.int 0)], .k (.str [97])]], .tup [.tup [.k (.int 2), .k (.int 0)], .k (.int 2), .tup [.k (.int 1)], .tup [.k (.str [112, 117, 116]), .tup [.k (.int 1), .k (.int 0)], .k (.str [98])]], .tup [.tup [.k (.int 3), .k (.int 0)], .k (.int 3), .tup [.k (.int 2)], .tup [.k (.str [112, 117, 116]), .tup [.k (.int 0), .k (.int 0)], .k (.str [99])]]]),
  .if_ (.not (.call i_law_same [.tup [.call i_longest_run [.k (.int 1), .v 3, .k (.str [111, 110])], .call i_longest_run [.k (.int 1), .sl (.v 3) (.k .non) (.k (.int 0)), .k (.str [111, 110])]], .tup [.tup [.tup [.k (.int 1), .k (.int 0)], .tup [.k (.int 2), .k (.int 0)]], .tup []]]))
  [.ret (.k (.bl false))]
  [],
  .par [(7, false), (8, false), (9, false)] [.bin .add (.k (.int 1)) (.call i_law_roll [.v 1, .k (.int 4)]), .bin .add (.k (.int 1)) (.call i_law_roll [.v 1, .k (.int 4)]), .call i_law_roll [.v 1, .k (.int 2)]],
  .par [(10, true), (11, false)] [.lst [], .tup [.k (.int 0), .k (.int 0)]],
  .for_ (.nm 4) (.rng [.k (.int 1), .bin .add (.bin .add (.bin .add (.v 7) (.v 8)) (.v 9)) (.k (.int 1))])
  [.if_ (.and (.cmp .eq (.v 4) (.bin .add (.v 7) (.k (.int 1)))) (.cmp .eq (.v 9) (.k (.int 1))))
  [.app 10 (.tup [.tup [.v 4, .k (.int 0)], .v 4, .tup [.bin .sub (.v 4) (.k (.int 1))], .tup [.k (.str [116, 97, 107, 101]), .tup [.k (.int 1), .k (.int 0)]]])]
  [.app 10 (.tup [.tup [.v 4, .k (.int 0)], .v 4, .tup [.bin .sub (.v 4) (.k (.int 1))], .tup [.k (.str [112, 117, 116]), .v 11, .k (.str [97])]]),
  .asg (.nm 11) (.tup [.v 4, .k (.int 0)])]],
  .par [(12, false), (13, false)] [.bi .tuple [.comp (.tup [.v 4, .k (.int 0)]) (.nm 4) (.rng [.k (.int 1), .bin .add (.v 7) (.k (.int 1))]) (.k (.bl true))], .bi .tuple [.comp (.tup [.bin .add (.bin .add (.v 4) (.v 7)) (.v 9), .k (.int 0)]) (.nm 4) (.rng [.k (.int 1), .bin .add (.v 8) (.k (.int 1))]) (.k (.bl true))]],
  .asg (.nm 5) (.ite (.cmp .eq (.v 9) (.k (.int 1))) (.tup [.v 12, .v 13]) (.tup [.bin .add (.v 12) (.v 13)])),
  .asg (.nm 6) (.bi .tuple [.comp (.tup [.tup [.v 4, .k (.int 0)]]) (.nm 4) (.rng [.k (.int 1), .bin .add (.bin .add (.bin .add (.v 7) (.v 8)) (.v 9)) (.k (.int 1))]) (.or (.cmp .eq (.v 9) (.k (.int 0))) (.cmp .ne (.v 4) (.bin .add (.v 7) (.k (.int 1)))))]),
  .ret (.call i_law_same [.tup [.call i_runs_of [.k (.int 1), .bi .tuple [.v 10], .k (.str [111, 110])], .call i_runs_of [.k (.int 1), .bi .tuple [.v 10], .k (.str [98, 97, 99, 107])]], .tup [.v 5, .v 6]])]⟩
def fns : List Fn := [f_is_whole, f_fits_whole, f_is_tuple_of, f_is_sign, f_fits_mark, f_fits_vector, f_fits_what, f_fits_deed, f_fits_below, f_known_in, f_fits_in, f_fits_deeds, f_need_sites, f_need_deeds, f_is_deeds, f_puts_in, f_order_in, f_need_put, f_need_spot, f_order_of, f_behind_of, f_by_site, f_goes_on, f_runs_in, f_fits_marks, f_need_marks, f_need_way, f_runs_of, f_run_of, f_longest_run, f_runs_counted, f_heads_of, f_is_run, f_law_cup, f_law_roll, f_law_some, f_law_same, f_law_typed, f_law_runs, f_law_right, f_law]
def glo : List D := [.str [97, 98, 99, 100, 101, 102, 103, 104, 105, 106, 107, 108, 109, 110, 111, 112, 113, 114, 115, 116, 117, 118, 119, 120, 121, 122], .int 999, .tup [.int 0, .int 0], .int 60, .int 4]
def kt0 : D → Bool := fun d => match d with | .tup [.int 0, .int 0] => true | _ => false
def CC : Cfg := ⟨glo, kt0⟩
theorem at_is_whole (n : Nat) (as : List Arg) : run fns CC (n + 1) i_is_whole as = if as.length = 1 then mb (evSs (run fns CC n) CC f_is_whole.body (as.map argSlot ++ List.replicate 0 .no)) rn else mf := (rfl)
theorem at_fits_whole (n : Nat) (as : List Arg) : run fns CC (n + 1) i_fits_whole as = if as.length = 3 then mb (evSs (run fns CC n) CC f_fits_whole.body (as.map argSlot ++ List.replicate 0 .no)) rn else mf := (rfl)
theorem at_is_tuple_of (n : Nat) (as : List Arg) : run fns CC (n + 1) i_is_tuple_of as = if as.length = 3 then mb (evSs (run fns CC n) CC f_is_tuple_of.body (as.map argSlot ++ List.replicate 0 .no)) rn else mf := (rfl)
theorem at_is_sign (n : Nat) (as : List Arg) : run fns CC (n + 1) i_is_sign as = if as.length = 1 then mb (evSs (run fns CC n) CC f_is_sign.body (as.map argSlot ++ List.replicate 0 .no)) rn else mf := (rfl)
theorem at_fits_mark (n : Nat) (as : List Arg) : run fns CC (n + 1) i_fits_mark as = if as.length = 2 then mb (evSs (run fns CC n) CC f_fits_mark.body (as.map argSlot ++ List.replicate 0 .no)) rn else mf := (rfl)
theorem at_fits_vector (n : Nat) (as : List Arg) : run fns CC (n + 1) i_fits_vector as = if as.length = 2 then mb (evSs (run fns CC n) CC f_fits_vector.body (as.map argSlot ++ List.replicate 1 .no)) rn else mf := (rfl)
theorem at_fits_what (n : Nat) (as : List Arg) : run fns CC (n + 1) i_fits_what as = if as.length = 3 then mb (evSs (run fns CC n) CC f_fits_what.body (as.map argSlot ++ List.replicate 2 .no)) rn else mf := (rfl)
theorem at_fits_deed (n : Nat) (as : List Arg) : run fns CC (n + 1) i_fits_deed as = if as.length = 2 then mb (evSs (run fns CC n) CC f_fits_deed.body (as.map argSlot ++ List.replicate 5 .no)) rn else mf := (rfl)
theorem at_fits_below (n : Nat) (as : List Arg) : run fns CC (n + 1) i_fits_below as = if as.length = 2 then mb (evSs (run fns CC n) CC f_fits_below.body (as.map argSlot ++ List.replicate 2 .no)) rn else mf := (rfl)
theorem at_known_in (n : Nat) (as : List Arg) : run fns CC (n + 1) i_known_in as = if as.length = 2 then mb (evSs (run fns CC n) CC f_known_in.body (as.map argSlot ++ List.replicate 1 .no)) rn else mf := (rfl)
theorem at_fits_in (n : Nat) (as : List Arg) : run fns CC (n + 1) i_fits_in as = if as.length = 2 then mb (evSs (run fns CC n) CC f_fits_in.body (as.map argSlot ++ List.replicate 2 .no)) rn else mf := (rfl)
theorem at_fits_deeds (n : Nat) (as : List Arg) : run fns CC (n + 1) i_fits_deeds as = if as.length = 2 then mb (evSs (run fns CC n) CC f_fits_deeds.body (as.map argSlot ++ List.replicate 6 .no)) rn else mf := (rfl)
theorem at_need_sites (n : Nat) (as : List Arg) : run fns CC (n + 1) i_need_sites as = if as.length = 1 then mb (evSs (run fns CC n) CC f_need_sites.body (as.map argSlot ++ List.replicate 0 .no)) rn else mf := (rfl)
theorem at_need_deeds (n : Nat) (as : List Arg) : run fns CC (n + 1) i_need_deeds as = if as.length = 2 then mb (evSs (run fns CC n) CC f_need_deeds.body (as.map argSlot ++ List.replicate 0 .no)) rn else mf := (rfl)
theorem at_is_deeds (n : Nat) (as : List Arg) : run fns CC (n + 1) i_is_deeds as = if as.length = 2 then mb (evSs (run fns CC n) CC f_is_deeds.body (as.map argSlot ++ List.replicate 0 .no)) rn else mf := (rfl)
theorem at_puts_in (n : Nat) (as : List Arg) : run fns CC (n + 1) i_puts_in as = if as.length = 1 then mb (evSs (run fns CC n) CC f_puts_in.body (as.map argSlot ++ List.replicate 1 .no)) rn else mf := (rfl)
theorem at_order_in (n : Nat) (as : List Arg) : run fns CC (n + 1) i_order_in as = if as.length = 1 then mb (evSs (run fns CC n) CC f_order_in.body (as.map argSlot ++ List.replicate 5 .no)) rn else mf := (rfl)
theorem at_need_put (n : Nat) (as : List Arg) : run fns CC (n + 1) i_need_put as = if as.length = 2 then mb (evSs (run fns CC n) CC f_need_put.body (as.map argSlot ++ List.replicate 1 .no)) rn else mf := (rfl)
theorem at_need_spot (n : Nat) (as : List Arg) : run fns CC (n + 1) i_need_spot as = if as.length = 2 then mb (evSs (run fns CC n) CC f_need_spot.body (as.map argSlot ++ List.replicate 1 .no)) rn else mf := (rfl)
theorem at_order_of (n : Nat) (as : List Arg) : run fns CC (n + 1) i_order_of as = if as.length = 2 then mb (evSs (run fns CC n) CC f_order_of.body (as.map argSlot ++ List.replicate 0 .no)) rn else mf := (rfl)
theorem at_behind_of (n : Nat) (as : List Arg) : run fns CC (n + 1) i_behind_of as = if as.length = 3 then mb (evSs (run fns CC n) CC f_behind_of.body (as.map argSlot ++ List.replicate 2 .no)) rn else mf := (rfl)
theorem at_by_site (n : Nat) (as : List Arg) : run fns CC (n + 1) i_by_site as = if as.length = 2 then mb (evSs (run fns CC n) CC f_by_site.body (as.map argSlot ++ List.replicate 2 .no)) rn else mf := (rfl)
theorem at_goes_on (n : Nat) (as : List Arg) : run fns CC (n + 1) i_goes_on as = if as.length = 3 then mb (evSs (run fns CC n) CC f_goes_on.body (as.map argSlot ++ List.replicate 0 .no)) rn else mf := (rfl)
theorem at_runs_in (n : Nat) (as : List Arg) : run fns CC (n + 1) i_runs_in as = if as.length = 3 then mb (evSs (run fns CC n) CC f_runs_in.body (as.map argSlot ++ List.replicate 4 .no)) rn else mf := (rfl)
theorem at_fits_marks (n : Nat) (as : List Arg) : run fns CC (n + 1) i_fits_marks as = if as.length = 2 then mb (evSs (run fns CC n) CC f_fits_marks.body (as.map argSlot ++ List.replicate 2 .no)) rn else mf := (rfl)
theorem at_need_marks (n : Nat) (as : List Arg) : run fns CC (n + 1) i_need_marks as = if as.length = 2 then mb (evSs (run fns CC n) CC f_need_marks.body (as.map argSlot ++ List.replicate 0 .no)) rn else mf := (rfl)
theorem at_need_way (n : Nat) (as : List Arg) : run fns CC (n + 1) i_need_way as = if as.length = 1 then mb (evSs (run fns CC n) CC f_need_way.body (as.map argSlot ++ List.replicate 0 .no)) rn else mf := (rfl)
theorem at_runs_of (n : Nat) (as : List Arg) : run fns CC (n + 1) i_runs_of as = if as.length = 3 then mb (evSs (run fns CC n) CC f_runs_of.body (as.map argSlot ++ List.replicate 0 .no)) rn else mf := (rfl)
theorem at_run_of (n : Nat) (as : List Arg) : run fns CC (n + 1) i_run_of as = if as.length = 4 then mb (evSs (run fns CC n) CC f_run_of.body (as.map argSlot ++ List.replicate 1 .no)) rn else mf := (rfl)
theorem at_longest_run (n : Nat) (as : List Arg) : run fns CC (n + 1) i_longest_run as = if as.length = 3 then mb (evSs (run fns CC n) CC f_longest_run.body (as.map argSlot ++ List.replicate 3 .no)) rn else mf := (rfl)
theorem at_runs_counted (n : Nat) (as : List Arg) : run fns CC (n + 1) i_runs_counted as = if as.length = 3 then mb (evSs (run fns CC n) CC f_runs_counted.body (as.map argSlot ++ List.replicate 3 .no)) rn else mf := (rfl)
theorem at_heads_of (n : Nat) (as : List Arg) : run fns CC (n + 1) i_heads_of as = if as.length = 3 then mb (evSs (run fns CC n) CC f_heads_of.body (as.map argSlot ++ List.replicate 2 .no)) rn else mf := (rfl)
theorem at_is_run (n : Nat) (as : List Arg) : run fns CC (n + 1) i_is_run as = if as.length = 4 then mb (evSs (run fns CC n) CC f_is_run.body (as.map argSlot ++ List.replicate 0 .no)) rn else mf := (rfl)
theorem at_law_cup (n : Nat) (as : List Arg) : run fns CC (n + 1) i_law_cup as = if as.length = 1 then mb (evSs (run fns CC n) CC f_law_cup.body (as.map argSlot ++ List.replicate 1 .no)) rn else mf := (rfl)
theorem at_law_roll (n : Nat) (as : List Arg) : run fns CC (n + 1) i_law_roll as = if as.length = 2 then mb (evSs (run fns CC n) CC f_law_roll.body (as.map argSlot ++ List.replicate 2 .no)) rn else mf := (rfl)
theorem at_law_some (n : Nat) (as : List Arg) : run fns CC (n + 1) i_law_some as = if as.length = 2 then mb (evSs (run fns CC n) CC f_law_some.body (as.map argSlot ++ List.replicate 0 .no)) rn else mf := (rfl)
theorem at_law_same (n : Nat) (as : List Arg) : run fns CC (n + 1) i_law_same as = if as.length = 2 then mb (evSs (run fns CC n) CC f_law_same.body (as.map argSlot ++ List.replicate 1 .no)) rn else mf := (rfl)
theorem at_law_typed (n : Nat) (as : List Arg) : run fns CC (n + 1) i_law_typed as = if as.length = 3 then mb (evSs (run fns CC n) CC f_law_typed.body (as.map argSlot ++ List.replicate 15 .no)) rn else mf := (rfl)
theorem at_law_runs (n : Nat) (as : List Arg) : run fns CC (n + 1) i_law_runs as = if as.length = 3 then mb (evSs (run fns CC n) CC f_law_runs.body (as.map argSlot ++ List.replicate 7 .no)) rn else mf := (rfl)
theorem at_law_right (n : Nat) (as : List Arg) : run fns CC (n + 1) i_law_right as = if as.length = 1 then mb (evSs (run fns CC n) CC f_law_right.body (as.map argSlot ++ List.replicate 16 .no)) rn else mf := (rfl)
theorem at_law (n : Nat) (as : List Arg) : run fns CC (n + 1) i_law as = if as.length = 1 then mb (evSs (run fns CC n) CC f_law.body (as.map argSlot ++ List.replicate 13 .no)) rn else mf := (rfl)
theorem gl_LETTERS : CC.gl[g_LETTERS]? = some (.str [97, 98, 99, 100, 101, 102, 103, 104, 105, 106, 107, 108, 109, 110, 111, 112, 113, 114, 115, 116, 117, 118, 119, 120, 121, 122]) := (rfl)
theorem gl_MOST : CC.gl[g_MOST]? = some (.int 999) := (rfl)
theorem gl_BEGIN : CC.gl[g_BEGIN]? = some (.tup [.int 0, .int 0]) := (rfl)
theorem gl_KNOWN : CC.gl[g_KNOWN]? = some (.int 60) := (rfl)
theorem gl_SITES : CC.gl[g_SITES]? = some (.int 4) := (rfl)
end KL
end

section
set_option Elab.async false
set_option linter.all false
set_option maxRecDepth 100000
/-! P1: deeds that can be known together. -/
namespace KL
open EV
abbrev Mark := Int × Int
inductive What | put (a : Mark) (c : Nat) | take (m : Mark)
structure Deed where
  m : Mark
  n : Int
  p : List Int
  w : What
def eM (m : Mark) : D := .tup [.int m.1, .int m.2]
def eV (p : List Int) : D := .tup (p.map .int)
def eW : What → D
  | .put a c => .tup [.str [112, 117, 116], eM a, .str [c]]
  | .take m => .tup [.str [116, 97, 107, 101], eM m]
def eD (d : Deed) : D := .tup [eM d.m, .int d.n, eV d.p, eW d.w]
def eDs (ds : List Deed) : D := .tup (ds.map eD)
def wk : What → List Nat
  | .put .. => [112, 117, 116]
  | .take .. => [116, 97, 107, 101]
def wm : What → Mark
  | .put a _ => a
  | .take m => m
def isPut : What → Bool
  | .put .. => true
  | .take .. => false
@[simp] theorem ix_d0 (d : Deed) : ixD (eD d) (.int 0) = some (eM d.m) := (rfl)
@[simp] theorem ix_d1 (d : Deed) : ixD (eD d) (.int 1) = some (.int d.n) := (rfl)
@[simp] theorem ix_d2 (d : Deed) : ixD (eD d) (.int 2) = some (eV d.p) := (rfl)
@[simp] theorem ix_d3 (d : Deed) : ixD (eD d) (.int 3) = some (eW d.w) := (rfl)
@[simp] theorem ix_m0 (m : Mark) : ixD (eM m) (.int 0) = some (.int m.1) := (rfl)
@[simp] theorem ix_m1 (m : Mark) : ixD (eM m) (.int 1) = some (.int m.2) := (rfl)
@[simp] theorem ix_w0 (w : What) : ixD (eW w) (.int 0) = some (.str (wk w)) := by cases w <;> exact (rfl)
@[simp] theorem ix_w1 (w : What) : ixD (eW w) (.int 1) = some (eM (wm w)) := by cases w <;> exact (rfl)
@[simp] theorem ix_w2 (a : Mark) (c : Nat) : ixD (eW (.put a c)) (.int 2) = some (.str [c]) := (rfl)
@[simp] theorem wk_isp (w : What) : wk w = [112, 117, 116] ↔ isPut w = true := by cases w <;> simp [wk, isPut]
@[simp] theorem wk_ist (w : What) : wk w = [116, 97, 107, 101] ↔ isPut w = false := by cases w <;> simp [wk, isPut]
@[simp] theorem wk_put (a : Mark) (c : Nat) : wk (.put a c) = [112, 117, 116] := (rfl)
@[simp] theorem wk_take (a : Mark) : wk (.take a) = [116, 97, 107, 101] := (rfl)
@[simp] theorem wm_put (a : Mark) (c : Nat) : wm (.put a c) = a := (rfl)
@[simp] theorem wm_take (a : Mark) : wm (.take a) = a := (rfl)
@[simp] theorem ip_put (a : Mark) (c : Nat) : isPut (.put a c) = true := (rfl)
@[simp] theorem ip_take (a : Mark) : isPut (.take a) = false := (rfl)
theorem eqD_m (a b : Mark) : eqD (eM a) (eM b) = decide (a = b) := by
  obtain ⟨a1, a2⟩ := a
  obtain ⟨b1, b2⟩ := b
  show ((a1 == b1) && ((a2 == b2) && true)) = _
  by_cases h1 : a1 = b1 <;> by_cases h2 : a2 = b2 <;> simp [h1, h2]
@[simp] theorem okD_m (a : Mark) : okD (eM a) = true := (rfl)
@[simp] theorem eq_m (a b : Mark) : cmpB .eq (eM a) (eM b) = some (decide (a = b)) := by
  show (if okD (eM a) && okD (eM b) then some (eqD (eM a) (eM b)) else none) = _
  rw [eqD_m]; rfl
@[simp] theorem ne_m (a b : Mark) : cmpB .ne (eM a) (eM b) = some (!decide (a = b)) := by
  show (if okD (eM a) && okD (eM b) then some (!eqD (eM a) (eM b)) else none) = _
  rw [eqD_m]; rfl
/-- marks as they stand -/
def mlt (a b : Mark) : Bool := if a.1 = b.1 then decide (a.2 < b.2) else decide (a.1 < b.1)
theorem ltD_m (a b : Mark) : ltD (eM a) (eM b) = mlt a b := by
  obtain ⟨a1, a2⟩ := a
  obtain ⟨b1, b2⟩ := b
  show (if (a1 == b1) = true then (if (a2 == b2) = true then false else decide (a2 < b2)) else decide (a1 < b1)) = _
  unfold mlt
  by_cases h1 : a1 = b1
  · simp only [h1, beq_self_eq_true, if_true]
    by_cases h2 : a2 = b2 <;> simp [h2]
  · simp [h1]
@[simp] theorem lt_m (a b : Mark) : cmpB .lt (eM a) (eM b) = some (mlt a b) := by
  show (if ordO (eM a) (eM b) then some (ltD (eM a) (eM b)) else none) = _
  rw [ltD_m]; rfl
@[simp] theorem walk_ds (ds : List Deed) : walkD (eDs ds) = some (ds.map eD) := (rfl)
@[simp] theorem walk_v (p : List Int) : walkD (eV p) = some (p.map .int) := (rfl)
@[simp] theorem walk_m (m : Mark) : walkD (eM m) = some [.int m.1, .int m.2] := (rfl)
@[simp] theorem ist_tup_m (m : Mark) : isTy .tuple (eM m) = some true := (rfl)
@[simp] theorem ist_tup_v (p : List Int) : isTy .tuple (eV p) = some true := (rfl)
@[simp] theorem ist_tup_d (d : Deed) : isTy .tuple (eD d) = some true := (rfl)
@[simp] theorem ist_tup_ds (d : List Deed) : isTy .tuple (eDs d) = some true := (rfl)
@[simp] theorem ist_tup_w (w : What) : isTy .tuple (eW w) = some true := by cases w <;> exact (rfl)
@[simp] theorem ist_str (x : List Nat) : isTy .str (.str x) = some true := (rfl)
@[simp] theorem ist_int (i : Int) : isTy .int (.int i) = some true := (rfl)
@[simp] theorem ist_bool (i : Int) : isTy .bool (.int i) = some false := (rfl)
/-- a vector's number for a site -/
def vat (p : List Int) (i : Int) : Int := p.getD i.toNat 0
theorem ix_v {p : List Int} {i : Int} (h0 : 0 ≤ i) (h1 : i < p.length) : ixD (eV p) (.int i) = some (.int (vat p i)) := by
  have hl : i.toNat < p.length := by omega
  unfold vat
  simp [ixD, eV, placeOf, h0, h1, List.getElem?_eq_getElem hl, List.getD_eq_getElem?_getD]
@[simp] theorem r_is_whole (n : Nat) (i : Int) : run fns CC (n + 1) i_is_whole [.val (.int i)] = mp (.bl true, false) := (rfl)
@[simp] theorem r_fits_whole (n : Nat) (v a b : Int) : run fns CC (n + 2) i_fits_whole [.val (.int v), .val (.int a), .val (.int b)] = mp (.bl (decide (a ≤ v) && decide (v ≤ b)), false) := by
  simp [at_fits_whole, f_fits_whole]
  by_cases h : a ≤ v <;> simp [h]
theorem r_is_tuple_of (n : Nat) (xs : List D) (a b : Int) : run fns CC (n + 1) i_is_tuple_of [.val (.tup xs), .val (.int a), .val (.int b)] = mp (.bl (decide (a ≤ xs.length) && decide ((xs.length : Int) ≤ b)), false) := by
  simp [at_is_tuple_of, f_is_tuple_of, isTy]
  by_cases h : a ≤ xs.length <;> simp [h]
theorem sign_occ : ∀ c, c < 123 → 97 ≤ c → occN [c] [97, 98, 99, 100, 101, 102, 103, 104, 105, 106, 107, 108, 109, 110, 111, 112, 113, 114, 115, 116, 117, 118, 119, 120, 121, 122] = true := by decide
theorem r_is_sign (n c : Nat) (h1 : 97 ≤ c) (h2 : c ≤ 122) : run fns CC (n + 1) i_is_sign [.val (.str [c])] = mp (.bl true, false) := by
  have := sign_occ c (by omega) h1
  simp [at_is_sign, f_is_sign, gl_LETTERS, this]
/-- a mark of so many sites -/
def okM (s : Int) (m : Mark) : Bool := decide (1 ≤ m.1) && decide (m.1 ≤ 999) && (decide (0 ≤ m.2) && decide (m.2 ≤ s - 1))
theorem r_fits_mark (n : Nat) (s : Int) (m : Mark) : run fns CC (n + 3) i_fits_mark [.val (.int s), .val (eM m)] = mp (.bl (okM s m), false) := by
  have := r_is_tuple_of (n + 1) [.int m.1, .int m.2] 2 2
  simp [at_fits_mark, f_fits_mark, gl_MOST, okM]
  simp [eM] at *
  simp [this, ixD, placeOf]
  by_cases h1 : 1 ≤ m.1 <;> by_cases h2 : m.1 ≤ 999 <;> simp [h1, h2]
theorem r_fits_vector (n s : Nat) {p : List Int} (hl : p.length = s) (hb : ∀ x ∈ p, 0 ≤ x ∧ x ≤ 999) : run fns CC (n + 3) i_fits_vector [.val (.int s), .val (eV p)] = mp (.bl true, false) := by
  have h1 := r_is_tuple_of (n + 1) (p.map .int) s s
  have hf : filtL (cT (run fns CC (n + 2)) CC (.call i_fits_whole [.v 2, .k (.int 0), .g g_MOST]) (.nm 2) (.k (.bl true)) [.val (.int s), .val (eV p), .no]) (p.map .int) = mp (p.map fun _ => D.bl true) := by
    refine filtL_all (fun _ => D.bl true) fun x hx => ?_
    obtain ⟨h1, h2⟩ := hb x hx
    simp [cT, gl_MOST, h1, h2]
  simp [at_fits_vector, f_fits_vector]
  rw [show eV p = .tup (p.map .int) from rfl] at *
  simp [h1, hl, hf]
  rw [all_bl (fun _ : Int => true)]
  simp
@[simp] theorem r_tup_m (n : Nat) (m : Mark) : run fns CC (n + 1) i_is_tuple_of [.val (eM m), .val (.int 2), .val (.int 2)] = mp (.bl true, false) := r_is_tuple_of n _ 2 2
@[simp] theorem r_tup_w (n : Nat) (w : What) : run fns CC (n + 1) i_is_tuple_of [.val (eW w), .val (.int 2), .val (.int 3)] = mp (.bl true, false) := by cases w <;> exact r_is_tuple_of n _ 2 3
@[simp] theorem r_tup_d (n : Nat) (d : Deed) : run fns CC (n + 1) i_is_tuple_of [.val (eD d), .val (.int 4), .val (.int 4)] = mp (.bl true, false) := r_is_tuple_of n _ 4 4
@[simp] theorem len_w {kt : D → Bool} (w : What) : biD kt .len [eW w] = some (.int (if isPut w = true then 3 else 2)) := by cases w <;> exact (rfl)
@[simp] theorem glB : CC.gl[g_BEGIN]? = some (eM (0, 0)) := (rfl)
@[simp] theorem nin_wk (w : What) : cmpB .notin (.str (wk w)) (.tup [.str [112, 117, 116], .str [116, 97, 107, 101]]) = some false := by cases w <;> exact (rfl)
@[simp] theorem nin_put : cmpB .notin (.str [112, 117, 116]) (.tup [.str [112, 117, 116], .str [116, 97, 107, 101]]) = some false := (rfl)
@[simp] theorem nin_take : cmpB .notin (.str [116, 97, 107, 101]) (.tup [.str [112, 117, 116], .str [116, 97, 107, 101]]) = some false := (rfl)
/-- what a deed does is well said -/
structure WhatOk (s : Int) (d : Deed) : Prop where
  spot : (isPut d.w = true ∧ wm d.w = (0, 0)) ∨ (okM s (wm d.w) = true ∧ (wm d.w).1 < d.m.1)
  sign : ∀ a c, d.w = .put a c → 97 ≤ c ∧ c ≤ 122
theorem okM_nz {s : Int} {m : Mark} (h : okM s m = true) : m ≠ (0, 0) := fun e => by
  subst e
  simp [okM] at h
theorem r_fits_what (n : Nat) (s : Int) (d : Deed) (h : WhatOk s d) : run fns CC (n + 4) i_fits_what [.val (.int s), .val (.int d.m.1), .val (eW d.w)] = mp (.bl true, false) := by
  obtain ⟨h1, h2⟩ := h
  cases hw : d.w with
  | put a c =>
    rw [hw] at h1
    simp at h1
    obtain ⟨c1, c2⟩ := h2 a c hw
    have sg := r_is_sign (n + 2) c c1 c2
    have fm := r_fits_mark n s a
    by_cases ha : a = (0, 0)
    · subst ha
      have hf : filtL (cT (run fns CC (n + 3)) CC (.call i_is_whole [.v 4]) (.nm 4) (.k (.bl true)) [.val (.int s), .val (.int d.m.1), .val (eW (.put (0, 0) c)), .no, .no]) [.int 0, .int 0] = mp [.bl true, .bl true] := by
        simp [filtL, cT]
      have ha2 : biD CC.kt .all [.lst [.bl true, .bl true]] = some (.bl true) := (rfl)
      simp [at_fits_what, f_fits_what, hf, ha2, sg]
    · obtain ⟨h3, h4⟩ := h1.resolve_left ha
      simp [at_fits_what, f_fits_what, ha, fm, h3, h4, sg]
  | take m =>
    rw [hw] at h1
    simp at h1
    have fm := r_fits_mark n s m
    simp [at_fits_what, f_fits_what, fm, h1]
/-- a deed by itself -/
structure DeedOk (s : Nat) (d : Deed) : Prop where
  m : okM s d.m = true
  n : 1 ≤ d.n ∧ d.n ≤ 999
  pl : d.p.length = s
  pb : ∀ x ∈ d.p, 0 ≤ x ∧ x ≤ 999
  pn : vat d.p d.m.2 = d.n - 1
  w : WhatOk s d
theorem okM_site {s : Nat} {m : Mark} (h : okM s m = true) : 0 ≤ m.2 ∧ m.2 < s := by
  simp [okM] at h
  omega
theorem r_fits_deed (n s : Nat) (d : Deed) (h : DeedOk s d) : run fns CC (n + 5) i_fits_deed [.val (.int s), .val (eD d)] = mp (.bl true, false) := by
  have h1 := r_fits_mark (n + 1) s d.m
  have h2 := r_fits_vector (n + 1) s h.pl h.pb
  have h3 := r_fits_what n s d h.w
  obtain ⟨s1, s2⟩ := okM_site h.m
  have h4 := ix_v (p := d.p) s1 (by rw [h.pl]; exact s2)
  have e : eD d = .tup [.tup [.int d.m.1, .int d.m.2], .int d.n, eV d.p, eW d.w] := (rfl)
  have hb : ∀ ρ, Tg.bind (.tp [.tp [.nm 5, .nm 6], .nm 2, .nm 3, .nm 4]) (eD d) ρ = some (((((ρ.set 5 (.val (.int d.m.1))).set 6 (.val (.int d.m.2))).set 2 (.val (.int d.n))).set 3 (.val (eV d.p))).set 4 (.val (eW d.w))) := fun ρ => by
    rw [e]; simp
  have hn := h.n
  simp [at_fits_deed, f_fits_deed, h1, h.m, gl_MOST, hn, hb, h2, h4, h.pn, h3]
/-- .. below one another -/
def vle (p q : List Int) : Bool := (p.zip q).all fun z => decide (z.1 ≤ z.2)
theorem zip_ints : ∀ p q : List Int, zipI (p.map D.int) (q.map D.int) = (p.zip q).map fun z => D.tup [.int z.1, .int z.2]
  | [], _ => by simp [zipI]
  | _ :: _, [] => by simp [zipI]
  | x :: p, y :: q => by simp [zipI, zip_ints p q]
theorem r_fits_below (n : Nat) (p q : List Int) : run fns CC (n + 1) i_fits_below [.val (eV p), .val (eV q)] = mp (.bl (vle p q), false) := by
  have hf : filtL (cT (run fns CC n) CC (.cmp .le (.v 2) (.v 3)) (.tp [.nm 2, .nm 3]) (.k (.bl true)) [.val (eV p), .val (eV q), .no, .no]) ((p.zip q).map fun z => D.tup [.int z.1, .int z.2]) = mp ((p.zip q).map fun z => D.bl (decide (z.1 ≤ z.2))) := by
    refine filtL_all (enc := fun z : Int × Int => D.tup [.int z.1, .int z.2]) (fun z => D.bl (decide (z.1 ≤ z.2))) fun z _ => ?_
    simp [cT]
  have hz : zipD (eV p) (eV q) = some ((p.zip q).map fun z => D.tup [.int z.1, .int z.2]) := by
    rw [← zip_ints]; rfl
  simp [at_fits_below, f_fits_below, hz, hf]
  rw [all_bl (fun z : Int × Int => decide (z.1 ≤ z.2))]
  rfl
/-- what a vector knows -/
def kn (v : List Int) (d : Deed) : Bool := decide (d.n ≤ vat v d.m.2)
theorem r_known_in (n : Nat) (ds : List Deed) (v : List Int) (x : D) (hx : walkD x = some (ds.map eD)) (h : ∀ d ∈ ds, 0 ≤ d.m.2 ∧ d.m.2 < v.length) :
    run fns CC (n + 1) i_known_in [.val x, .val (eV v)] = mp (.lst ((ds.filter (kn v)).map eD), false) := by
  have hf : filtL (cT (run fns CC n) CC (.v 2) (.nm 2) (.cmp .le (.ix (.v 2) (.k (.int 1))) (.ix (.v 1) (.ix (.ix (.v 2) (.k (.int 0))) (.k (.int 1))))) [.val x, .val (eV v), .no]) (ds.map eD) = mp ((ds.filter (kn v)).map eD) := by
    refine filtL_enc (kn v) eD fun d hd => ?_
    obtain ⟨h1, h2⟩ := h d hd
    simp [cT, ix_v h1 h2, kn]
  simp [at_known_in, f_known_in, hx, hf]
/-- a deed stands well among deeds -/
structure InOk (ds : List Deed) (d : Deed) : Prop where
  sum : ((ds.filter (kn d.p)).length : Int) = d.p.sum
  less : ∀ e ∈ ds, kn d.p e = true → e.m.1 < d.m.1
  below : ∀ e ∈ ds, kn d.p e = true → vle e.p d.p = true
  named : wm d.w = (0, 0) ∨ ∃ e ∈ ds, kn d.p e = true ∧ e.m = wm d.w ∧ isPut e.w = true
theorem sum_v {kt : D → Bool} (p : List Int) : biD kt .sum [eV p] = some (.int p.sum) := by
  show (allInts (p.map D.int)).map (fun is => D.int is.sum) = _
  rw [allInts_map]; rfl
theorem r_fits_in (n : Nat) (ds : List Deed) (d : Deed) (h : InOk ds d) (hs : ∀ e ∈ ds, 0 ≤ e.m.2 ∧ e.m.2 < d.p.length) : run fns CC (n + 2) i_fits_in [.val (eDs ds), .val (eD d)] = mp (.bl true, false) := by
  have h1 := r_known_in n ds d.p (eDs ds) rfl hs
  have f1 : ∀ x, filtL (cT (run fns CC (n + 1)) CC (.cmp .lt (.ix (.ix (.v 3) (.k (.int 0))) (.k (.int 0))) (.ix (.ix (.v 1) (.k (.int 0))) (.k (.int 0)))) (.nm 3) (.k (.bl true)) [.val (eDs ds), .val (eD d), .val x, .no]) ((ds.filter (kn d.p)).map eD) = mp ((ds.filter (kn d.p)).map fun _ => D.bl true) := fun x => by
    refine filtL_all (fun _ => D.bl true) fun e he => ?_
    obtain ⟨h1, h2⟩ := List.mem_filter.mp he
    simp [cT, h.less e h1 h2]
  have f2 : ∀ x, filtL (cT (run fns CC (n + 1)) CC (.call i_fits_below [.ix (.v 3) (.k (.int 2)), .ix (.v 1) (.k (.int 2))]) (.nm 3) (.k (.bl true)) [.val (eDs ds), .val (eD d), .val x, .no]) ((ds.filter (kn d.p)).map eD) = mp ((ds.filter (kn d.p)).map fun _ => D.bl true) := fun x => by
    refine filtL_all (fun _ => D.bl true) fun e he => ?_
    obtain ⟨h1, h2⟩ := List.mem_filter.mp he
    simp [cT, r_fits_below, h.below e h1 h2]
  have f3 : ∀ x, filtL (cT (run fns CC (n + 1)) CC (.and (.cmp .eq (.ix (.v 3) (.k (.int 0))) (.ix (.ix (.v 1) (.k (.int 3))) (.k (.int 1)))) (.cmp .eq (.ix (.ix (.v 3) (.k (.int 3))) (.k (.int 0))) (.k (.str [112, 117, 116])))) (.nm 3) (.k (.bl true)) [.val (eDs ds), .val (eD d), .val x, .no]) ((ds.filter (kn d.p)).map eD) = mp ((ds.filter (kn d.p)).map fun (e : Deed) => D.bl (decide (e.m = wm d.w) && isPut e.w)) := fun x => by
    refine filtL_all (fun (e : Deed) => D.bl (decide (e.m = wm d.w) && isPut e.w)) fun e he => ?_
    by_cases hm : e.m = wm d.w <;> simp [cT, hm]
  have a1 : biD CC.kt .all [.lst ((ds.filter (kn d.p)).map fun _ => D.bl true)] = some (.bl true) := by
    rw [all_bl (fun _ : Deed => true)]; simp
  have a3 := any_bl (kt := CC.kt) (fun e : Deed => decide (e.m = wm d.w) && isPut e.w) (ds.filter (kn d.p))
  have a4 : wm d.w ≠ (0, 0) → biD CC.kt .any [.lst ((ds.filter (kn d.p)).map fun (e : Deed) => D.bl (decide (e.m = wm d.w) && isPut e.w))] = some (.bl true) := fun hz => by
    rw [a3]
    obtain ⟨e, he, hk, hm, hp⟩ := h.named.resolve_left hz
    rw [show ((ds.filter (kn d.p)).any fun (e : Deed) => decide (e.m = wm d.w) && isPut e.w) = true from List.any_eq_true.mpr ⟨e, List.mem_filter.mpr ⟨he, hk⟩, by simp [hm, hp]⟩]
  by_cases hz : wm d.w = (0, 0)
  · simp [at_fits_in, f_fits_in, h1, sum_v, h.sum, f1, a1, f2, f3, hz]
  · have a5 := a4 hz
    simp [at_fits_in, f_fits_in, h1, sum_v, h.sum, f1, a1, f2, f3, a5, hz]
/-- of a site -/
def st (j : Nat) (d : Deed) : Bool := decide (d.m.2 = (j : Int))
/-- deeds that can be known together -/
structure Valid (s : Nat) (ds : List Deed) : Prop where
  s1 : 1 ≤ s
  s4 : s ≤ 4
  len : ds.length ≤ 60
  ok : ∀ d ∈ ds, DeedOk s d
  asc : ∀ z ∈ ds.zip ds.tail, mlt z.1.m z.2.m = true
  nums : ∀ j : Nat, j < s → (ds.filter (st j)).map (·.n) = (List.range (ds.filter (st j)).length).map fun i : Nat => 1 + (i : Int)
  inn : ∀ d ∈ ds, InOk ds d
theorem Valid.site {s : Nat} {ds : List Deed} (h : Valid s ds) : ∀ d ∈ ds, 0 ≤ d.m.2 ∧ d.m.2 < s := fun d hd => okM_site (h.ok d hd).m
theorem r_fits_deeds (n s : Nat) (ds : List Deed) (h : Valid s ds) : run fns CC (n + 6) i_fits_deeds [.val (.int s), .val (eDs ds)] = mp (.bl true, false) := by
  have t0 : run fns CC (n + 5) i_is_tuple_of [.val (eDs ds), .val (.int 0), .val (.int 60)] = mp (.bl true, false) := by
    have := r_is_tuple_of (n + 4) (ds.map eD) 0 60
    have hl : (ds.length : Int) ≤ 60 := by have := h.len; omega
    rw [show eDs ds = .tup (ds.map eD) from rfl, this]
    simp [hl]
  have f1 : filtL (cT (run fns CC (n + 5)) CC (.call i_fits_deed [.v 0, .v 5]) (.nm 5) (.k (.bl true)) [.val (.int s), .val (eDs ds), .no, .no, .no, .no, .no, .no]) (ds.map eD) = mp (ds.map fun _ => D.bl true) := by
    refine filtL_all (fun _ => D.bl true) fun d hd => ?_
    have := r_fits_deed n s d (h.ok d hd)
    simp [cT, this]
  have a1 : biD CC.kt .all [.lst (ds.map fun _ => D.bl true)] = some (.bl true) := by
    rw [all_bl (fun _ : Deed => true)]; simp
  have f2 : filtL (cT (run fns CC (n + 5)) CC (.ix (.v 5) (.k (.int 0))) (.nm 5) (.k (.bl true)) [.val (.int s), .val (eDs ds), .no, .no, .no, .no, .no, .no]) (ds.map eD) = mp (ds.map fun d => eM d.m) :=
    filtL_all (fun (d : Deed) => eM d.m) fun d hd => by simp [cT]
  have hz : zipD (.lst (ds.map fun d => eM d.m)) (.lst ((ds.map fun d => eM d.m).tail)) = some ((ds.zip ds.tail).map fun z => D.tup [eM z.1.m, eM z.2.m]) := by
    rw [← List.map_tail]
    exact congrArg some (zipI_map (fun d : Deed => eM d.m) (fun d : Deed => eM d.m) ds ds.tail)
  have f3 : ∀ x, filtL (cT (run fns CC (n + 5)) CC (.cmp .lt (.v 6) (.v 7)) (.tp [.nm 6, .nm 7]) (.k (.bl true)) [.val (.int s), .val (eDs ds), .val x, .no, .no, .no, .no, .no]) ((ds.zip ds.tail).map fun z => D.tup [eM z.1.m, eM z.2.m]) = mp ((ds.zip ds.tail).map fun _ => D.bl true) := fun x => by
    refine filtL_all (enc := fun z : Deed × Deed => D.tup [eM z.1.m, eM z.2.m]) (fun _ => D.bl true) fun z hz => ?_
    simp [cT, h.asc z hz]
  have a3 : biD CC.kt .all [.lst ((ds.zip ds.tail).map fun _ => D.bl true)] = some (.bl true) := by
    rw [all_bl (fun _ : Deed × Deed => true)]; simp
  have f5 : ∀ x y z, filtL (cT (run fns CC (n + 5)) CC (.call i_fits_in [.v 1, .v 5]) (.nm 5) (.k (.bl true)) [.val (.int s), .val (eDs ds), .val x, y, z, .no, .no, .no]) (ds.map eD) = mp (ds.map fun _ => D.bl true) := fun x y z => by
    refine filtL_all (fun _ => D.bl true) fun d hd => ?_
    have := r_fits_in (n + 3) ds d (h.inn d hd) fun e he => by rw [(h.ok d hd).pl]; exact h.site e he
    simp [cT, this]
  have hs := h.s4
  have hr := rng_one (n := s) (by omega)
  have hsl : ∀ xs : List D, slD (.lst xs) (some 1) none = some (.lst xs.tail) := fun xs => by
    show some (D.lst (cutD xs (some 1) none)) = _
    rw [cut_lo xs (by omega)]; simp
  have loop : ∃ ρ', forL (.nm 3) (evSs (run fns CC (n + 5)) CC [.asg (.nm 4) (.comp (.ix (.v 5) (.k (.int 1))) (.nm 5) (.pl (.v 1)) (.cmp .eq (.ix (.ix (.v 5) (.k (.int 0))) (.k (.int 1))) (.v 3))), .if_ (.cmp .ne (.v 4) (.rg2 false (.k (.int 1)) (.bin .add (.bi .len [.v 4]) (.k (.int 1))))) [.ret (.k (.bl false))] []]) ((List.range s).map fun i : Nat => D.int i) [.val (.int s), .val (eDs ds), .val (.lst (ds.map fun d => eM d.m)), .no, .no, .no, .no, .no] = mp (.nx ρ') ∧
      ∃ y z, ρ' = [.val (.int s), .val (eDs ds), .val (.lst (ds.map fun d => eM d.m)), y, z, .no, .no, .no] := by
    refine forL_inv (fun ρ => ∃ y z, ρ = [.val (.int s), .val (eDs ds), .val (.lst (ds.map fun d => eM d.m)), y, z, .no, .no, .no]) ?_ ⟨_, _, rfl⟩
    rintro x hx ρ ⟨y, z, rfl⟩
    obtain ⟨j, hj, rfl⟩ := List.mem_map.mp hx
    have hj := List.mem_range.mp hj
    have hn := h.nums j hj
    have f4 : ∀ z, filtL (cT (run fns CC (n + 5)) CC (.ix (.v 5) (.k (.int 1))) (.nm 5) (.cmp .eq (.ix (.ix (.v 5) (.k (.int 0))) (.k (.int 1))) (.v 3)) [.val (.int s), .val (eDs ds), .val (.lst (ds.map fun d => eM d.m)), .val (.int j), z, .no, .no, .no]) (ds.map eD) = mp (((ds.filter (st j)).map (·.n)).map D.int) := fun z => by
      rw [List.map_map]
      refine filtL_enc (st j) (fun (d : Deed) => D.int d.n) fun d hd => ?_
      simp [cT, st]
    have hlen : ((ds.filter (st j)).map (·.n)).length ≤ 60 := by
      rw [List.length_map]
      exact Nat.le_trans (List.length_filter_le _ _) h.len
    generalize hns : (ds.filter (st j)).map (·.n) = ns at *
    have hk : (ds.filter (st j)).length = ns.length := by rw [← hns, List.length_map]
    rw [hk] at hn
    have hr2 := rng_two (a := 1) (b := (ns.length : Int) + 1) (by omega) (by omega) (by omega) (by omega)
    have e2 : ((List.range ((ns.length : Int) + 1 - 1).toNat).map fun i : Nat => D.int (1 + i)) = ns.map D.int := by
      rw [show ((ns.length : Int) + 1 - 1).toNat = ns.length by omega]
      conv => rhs; rw [hn]
      rw [List.map_map]
      rfl
    rw [e2] at hr2
    have hne := ne_ints ns ns
    refine ⟨_, [.val (.int s), .val (eDs ds), .val (.lst (ds.map fun d => eM d.m)), .val (.int j), .val (.lst (ns.map D.int)), .no, .no, .no], tg_nm, ?_, _, _, rfl⟩
    simp [f4, hr2, seqD, hne]
  obtain ⟨ρ', hl, y, z, rfl⟩ := loop
  have gK : CC.gl[g_KNOWN]? = some (.int 60) := (rfl)
  simp [at_fits_deeds, f_fits_deeds, gK, t0, f1, a1, f2, hsl, hz, f3, a3, hr]
  rw [hl]
  simp [f5, a1]
@[simp] theorem r_need_sites (n s : Nat) (h1 : 1 ≤ s) (h4 : s ≤ 4) : run fns CC (n + 3) i_need_sites [.val (.int s)] = mp (.non, false) := by
  have gS : CC.gl[g_SITES]? = some (.int 4) := (rfl)
  have e1 : (1 : Int) ≤ s := by omega
  have e2 : (s : Int) ≤ 4 := by omega
  simp [at_need_sites, f_need_sites, gS, e1, e2]
theorem r_need_deeds (n s : Nat) (ds : List Deed) (h : Valid s ds) : run fns CC (n + 7) i_need_deeds [.val (.int s), .val (eDs ds)] = mp (.non, false) := by
  have h1 := r_need_sites (n + 3) s h.s1 h.s4
  have h2 := r_fits_deeds n s ds h
  simp [at_need_deeds, f_need_deeds, h1, h2]
theorem r_is_deeds (n s : Nat) (ds : List Deed) (h : Valid s ds) : run fns CC (n + 7) i_is_deeds [.val (.int s), .val (eDs ds)] = mp (.bl true, false) := by
  have h1 := r_need_sites (n + 3) s h.s1 h.s4
  have h2 := r_fits_deeds n s ds h
  simp [at_is_deeds, f_is_deeds, h1, h2]
end KL
end

section
set_option Elab.async false
set_option linter.all false
set_option maxRecDepth 100000
/-! P2: draws. -/
namespace KL
open EV
/-- it ends well -/
def Ok {α : Type} (m : M α) (k : Cup) (P : α → Cup → Prop) : Prop := ∃ a k', m k = .ok a k' ∧ P a k'
theorem Ok.bind {α β : Type} {m : M α} {f : α → M β} {k : Cup} {P : α → Cup → Prop} {Q : β → Cup → Prop} (h : Ok m k P) (h2 : ∀ a k', P a k' → Ok (f a) k' Q) : Ok (mb m f) k Q := by
  obtain ⟨a, k', e, p⟩ := h
  obtain ⟨b, k2, e2, q⟩ := h2 a k' p
  exact ⟨b, k2, by show (match m k with | .ok a k' => f a k' | .ex c x k' => .ex c x k' | .fail => .fail) = _; rw [e]; exact e2, q⟩
theorem Ok.mp {α : Type} {a : α} {k : Cup} {P : α → Cup → Prop} (h : P a k) : Ok (mp a) k P := ⟨a, k, rfl, h⟩
theorem Ok.imp {α : Type} {m : M α} {k : Cup} {P Q : α → Cup → Prop} (h : Ok m k P) (i : ∀ a k, P a k → Q a k) : Ok m k Q := by
  obtain ⟨a, k', e, p⟩ := h
  exact ⟨a, k', e, i _ _ p⟩
theorem Ok.of_eq {α : Type} {m m' : M α} {k : Cup} {P : α → Cup → Prop} (h : Ok m k P) (e : m' = m) : Ok m' k P := e ▸ h
/-- a cup that can be drawn from -/
def CupOk (k : Cup) : Prop := 0 ≤ k.1 ∧ 0 ≤ k.2 ∧ k.2 < 4294967296
theorem mod_pos' {a b : Int} (h : 0 < b) : binD .mod (.int a) (.int b) = some (.int (a % b)) := by
  show (if decide (0 < b) then some (D.int (a % b)) else none) = _
  simp [h]
theorem fdiv_pos' {a b : Int} (h : 0 < b) (h2 : b < 1073741824) : binD .fdiv (.int a) (.int b) = some (.int (a / b)) := by
  show (if decide (0 < b) && decide (b < 1073741824) then some (D.int (a / b)) else none) = _
  simp [h, h2]
theorem mul_r {a b : Int} (h : b.natAbs < 18446744073709551616) : binD .mul (.int a) (.int b) = some (.int (a * b)) := by
  show (if decide (a.natAbs < 2 ^ 64) || decide (b.natAbs < 2 ^ 64) then some (D.int (a * b)) else none) = _
  simp [h]
@[simp] theorem int_int {kt : D → Bool} (i : Int) : biD kt .int [.int i] = some (.int i) := (rfl)
theorem r_roll (n : Nat) (m : Int) (h1 : 1 ≤ m) (h2 : m < 1073741824) (k : Cup) (hk : CupOk k) : Ok (run fns CC (n + 1) i_law_roll [.cup, .val (.int m)]) k fun r k' => (∃ i : Int, r = (.int i, false) ∧ 0 ≤ i ∧ i < m) ∧ CupOk k' := by
  obtain ⟨k1, k2⟩ := k
  obtain ⟨p1, p2, p3⟩ := hk
  simp only at p1 p2 p3
  have hm : ∀ a, binD .mod (.int a) (.int m) = some (.int (a % m)) := fun a => mod_pos' (by omega)
  have hd := fdiv_pos' (a := k1) (b := m) (by omega) h2
  simp [at_law_roll, f_law_roll]
  by_cases hp : 0 < k1
  · refine ⟨(.int (k1 % m), false), (k1 / m, k2), ?_, ⟨_, rfl, Int.emod_nonneg _ (by omega), Int.emod_lt_of_pos _ (by omega)⟩, Int.ediv_nonneg p1 (by omega), p2, p3⟩
    simp [mb, hp, hm, hd, mp, mo]
  · have e1 : binD .mul (.int k2) (.int cA) = some (.int (k2 * cA)) := mul_r (by decide)
    have x1 : 0 ≤ (k2 * cA + cB) % cM := Int.emod_nonneg _ (by decide)
    have x2 : (k2 * cA + cB) % cM < cM := Int.emod_lt_of_pos _ (by decide)
    have hM : cM < 4294967296 := by decide
    have hC : 0 ≤ cC ∧ cC < 4294967296 := by decide
    have e2 : binD .mod (.int (k2 * cA + cB)) (.int cM) = some (.int ((k2 * cA + cB) % cM)) := mod_pos' (by decide)
    generalize hx : (k2 * cA + cB) % cM = x at *
    have e3 : binD .mul (.int x) (.int (x + cC)) = some (.int (x * (x + cC))) := mul_r (by omega)
    have e4 : binD .mod (.int (x * (x + cC))) (.int cN) = some (.int (x * (x + cC) % cN)) := mod_pos' (by decide)
    have e5 : binD .fdiv (.int (x * (x + cC) % cN)) (.int cD) = some (.int (x * (x + cC) % cN / cD)) := fdiv_pos' (by decide) (by decide)
    refine ⟨(.int (x * (x + cC) % cN / cD % m), false), (k1, x), ?_, ⟨_, rfl, Int.emod_nonneg _ (by omega), Int.emod_lt_of_pos _ (by omega)⟩, p1, x1, by omega⟩
    simp [mb, hp, hm, mp, mo, e1, e2, e3, e4, e5]
theorem ix_cons0 (d : D) (ds : List D) : ixD (.lst (d :: ds)) (.int 0) = some d := by
  have h : (0 : Int) < ((ds.length + 1 : Nat) : Int) := by omega
  simp only [ixD, placeOf, List.length_cons, Int.le_refl, if_true, h, Option.bind_some]
  rfl
theorem ixt_cons0 (d : D) (ds : List D) : ixD (.tup (d :: ds)) (.int 0) = some d := by
  have h : (0 : Int) < ((ds.length + 1 : Nat) : Int) := by omega
  simp only [ixD, placeOf, List.length_cons, Int.le_refl, if_true, h, Option.bind_some]
  rfl
@[simp] theorem is_i (i : Int) : cmpB .is (.int i) .non = some false := (rfl)
@[simp] theorem is_s (i : List Nat) : cmpB .is (.str i) .non = some false := (rfl)
@[simp] theorem is_b (i : Bool) : cmpB .is (.bl i) .non = some false := (rfl)
@[simp] theorem is_t (i : List D) : cmpB .is (.tup i) .non = some false := (rfl)
@[simp] theorem is_l (i : List D) : cmpB .is (.lst i) .non = some false := (rfl)
@[simp] theorem is_n : cmpB .is .non .non = some true := (rfl)
@[simp] theorem isn_i (i : Int) : cmpB .isnot (.int i) .non = some true := (rfl)
@[simp] theorem isn_t (i : List D) : cmpB .isnot (.tup i) .non = some true := (rfl)
@[simp] theorem isn_n : cmpB .isnot .non .non = some false := (rfl)
@[simp] theorem is_bb (a b : Bool) : cmpB .is (.bl a) (.bl b) = some (a == b) := (rfl)
@[simp] theorem isn_bb (a b : Bool) : cmpB .isnot (.bl a) (.bl b) = some (!(a == b)) := (rfl)
@[simp] theorem ty_ti (i : Int) : isTy .tuple (.int i) = some false := (rfl)
@[simp] theorem ty_ts (i : List Nat) : isTy .tuple (.str i) = some false := (rfl)
@[simp] theorem ty_tb (i : Bool) : isTy .tuple (.bl i) = some false := (rfl)
@[simp] theorem ty_tn : isTy .tuple .non = some false := (rfl)
@[simp] theorem ty_tt (i : List D) : isTy .tuple (.tup i) = some true := (rfl)
@[simp] theorem ty_bs (i : List Nat) : isTy .bool (.str i) = some false := (rfl)
@[simp] theorem ty_bb (i : Bool) : isTy .bool (.bl i) = some true := (rfl)
@[simp] theorem ty_is (i : List Nat) : isTy .int (.str i) = some false := (rfl)
theorem pow18 : binD .pow (.int 10) (.int 18) = some (.int 1000000000000000000) := (rfl)
theorem r_cup (n : Nat) (ns : List Int) (hl : ns.length ≤ 63) (k : Cup) : ∃ a b : Int, run fns CC (n + 1) i_law_cup [.val (.lst (ns.map D.int))] k = .ok (.lst [.int a, .int b], true) k ∧ CupOk (a, b) := by
  have h1 : binD .add (.lst (ns.map D.int)) (.lst [.int 0]) = some (.lst (ns.map D.int ++ [.int 0])) := by
    show (if (ns.map D.int).length + 1 ≤ LIM then some (D.lst (ns.map D.int ++ [.int 0])) else none) = _
    rw [if_pos (by rw [List.length_map]; simp only [LIM]; omega)]
  have h2 : ∃ c : Int, ixD (.lst (ns.map D.int ++ [.int 0])) (.int 0) = some (.int c) := by
    cases ns with
    | nil => exact ⟨0, rfl⟩
    | cons c r => exact ⟨c, ix_cons0 _ _⟩
  obtain ⟨c, h2⟩ := h2
  have h3 : biD CC.kt .list [.lst (ns.map D.int)] = some (.lst (ns.map D.int)) := rfl
  have h4 : biD CC.kt .abs [.int c] = some (.int c.natAbs) := rfl
  generalize hx : (c.natAbs : Int) = x at *
  have x0 : 0 ≤ x := by omega
  have e1 : binD .mul (.int x) (.int uA) = some (.int (x * uA)) := mul_r (by decide)
  have e2 : binD .mod (.int (x * uA + uB)) (.int uM) = some (.int ((x * uA + uB) % uM)) := mod_pos' (by decide)
  have e3 : binD .fdiv (.int x) (.int uD) = some (.int (x / uD)) := fdiv_pos' (by decide) (by decide)
  have b1 : 0 ≤ (x * uA + uB) % uM := Int.emod_nonneg _ (by decide)
  have b2 : (x * uA + uB) % uM < uM := Int.emod_lt_of_pos _ (by decide)
  have b3 : 0 ≤ uC ∧ uM + uC < 4294967296 := by decide
  have b4 : 0 ≤ x / uD := Int.ediv_nonneg x0 (by decide)
  refine ⟨if 1000000000000000000 ≤ x then x / uD else 0, (x * uA + uB) % uM + uC, ?_, ?_, ?_, ?_⟩
  · simp [at_law_cup, f_law_cup, h1, h2, h3, h4, pow18, e1, e2, e3]
    by_cases hc : 1000000000000000000 ≤ x <;> simp [hc, mp]
  · show 0 ≤ _
    split <;> omega
  · show 0 ≤ _
    omega
  · show _ < _
    omega
theorem ix_lst {xs : List D} {i : Int} (h0 : 0 ≤ i) (h1 : i < xs.length) : ∃ d, ixD (.lst xs) (.int i) = some d ∧ d ∈ xs := by
  have hl : i.toNat < xs.length := by omega
  exact ⟨xs[i.toNat], by simp [ixD, placeOf, h0, h1, List.getElem?_eq_getElem hl], List.getElem_mem hl⟩
theorem ix_tup {xs : List D} {i : Int} (h0 : 0 ≤ i) (h1 : i < xs.length) : ∃ d, ixD (.tup xs) (.int i) = some d ∧ d ∈ xs := by
  have hl : i.toNat < xs.length := by omega
  exact ⟨xs[i.toNat], by simp [ixD, placeOf, h0, h1, List.getElem?_eq_getElem hl], List.getElem_mem hl⟩
theorem ix_str {xs : List Nat} {i : Int} (h0 : 0 ≤ i) (h1 : i < xs.length) : ∃ d, ixD (.str xs) (.int i) = some (.str [d]) ∧ d ∈ xs := by
  have hl : i.toNat < xs.length := by omega
  exact ⟨xs[i.toNat], by simp [ixD, placeOf, h0, h1, List.getElem?_eq_getElem hl], List.getElem_mem hl⟩
theorem some_core (n : Nat) (x : D) (len : Nat) (hlen : biD CC.kt .len [x] = some (.int len)) (h1 : 1 ≤ len) (h2 : len < 1000000) (Pd : D → Prop) (hix : ∀ i : Int, 0 ≤ i → i < len → ∃ d, ixD x (.int i) = some d ∧ Pd d) (k : Cup) (hk : CupOk k) :
    Ok (run fns CC (n + 2) i_law_some [.cup, .val x]) k fun r k' => (∃ d, r = (d, false) ∧ Pd d) ∧ CupOk k' := by
  have hr := r_roll n len (by omega) (by omega) k hk
  refine Ok.of_eq (m := mb (run fns CC (n + 1) i_law_roll [.cup, .val (.int len)]) fun r => mb (mo (ixD x r.1)) fun d => mp (d, false)) ?_ (by simp [at_law_some, f_law_some, hlen])
  refine hr.bind fun r k' ⟨⟨i, e, h0, hi⟩, hk'⟩ => ?_
  obtain ⟨d, hd, hp⟩ := hix i h0 hi
  subst e
  simp only [hd, mo_s, mb_mp']
  exact Ok.mp ⟨⟨d, rfl, hp⟩, hk'⟩
theorem r_some_lst (n : Nat) {xs : List D} (h1 : 1 ≤ xs.length) (h2 : xs.length < 1000000) (k : Cup) (hk : CupOk k) : Ok (run fns CC (n + 2) i_law_some [.cup, .val (.lst xs)]) k fun r k' => (∃ d, r = (d, false) ∧ d ∈ xs) ∧ CupOk k' :=
  some_core n _ xs.length rfl h1 h2 (· ∈ xs) (fun i h0 hi => ix_lst h0 hi) k hk
theorem r_some_tup (n : Nat) {xs : List D} (h1 : 1 ≤ xs.length) (h2 : xs.length < 1000000) (k : Cup) (hk : CupOk k) : Ok (run fns CC (n + 2) i_law_some [.cup, .val (.tup xs)]) k fun r k' => (∃ d, r = (d, false) ∧ d ∈ xs) ∧ CupOk k' :=
  some_core n _ xs.length rfl h1 h2 (· ∈ xs) (fun i h0 hi => ix_tup h0 hi) k hk
/-! ### data that are the same -/
mutual
def sameOk : D → Bool
  | .non => true
  | .bl _ => true
  | .int _ => true
  | .str _ => true
  | .tup xs => sameOkL xs && decide (xs.length ≤ 1000)
  | _ => false
def sameOkL : List D → Bool
  | [] => true
  | x :: xs => sameOk x && sameOkL xs
end
theorem sameOkL_mem : ∀ {xs : List D}, sameOkL xs = true → ∀ x ∈ xs, sameOk x = true
  | [], _, x, hx => by simp at hx
  | y :: ys, h, x, hx => by
    simp only [sameOkL, Bool.and_eq_true] at h
    rcases List.mem_cons.mp hx with rfl | hx
    · exact h.1
    · exact sameOkL_mem h.2 x hx
theorem depL_mem : ∀ {xs : List D}, ∀ x ∈ xs, depD x ≤ depL xs
  | [], x, hx => by simp at hx
  | y :: ys, x, hx => by
    simp only [depL]
    rcases List.mem_cons.mp hx with rfl | hx
    · exact Nat.le_max_left _ _
    · exact Nat.le_trans (depL_mem x hx) (Nat.le_max_right _ _)
theorem range_get {xs : List D} : ((List.range xs.length).map fun i : Nat => xs.getD i .non) = xs := by
  refine List.ext_getElem (by simp) fun i h1 h2 => ?_
  simp [List.getElem?_eq_getElem h2]
/-- one more level changes nothing, for what has none left -/
theorem r_same_lift {j : Nat} (ih : ∀ d : D, sameOk d = true → depD d ≤ j → ∀ n, run fns CC (n + j + 1) i_law_same [.val d, .val d] = mp (.bl true, false)) (d : D) (hs : sameOk d = true) (hd : depD d ≤ j) (n : Nat) : run fns CC (n + (j + 1) + 1) i_law_same [.val d, .val d] = mp (.bl true, false) := by
  have := ih d hs hd (n + 1)
  rw [show n + (j + 1) + 1 = n + 1 + j + 1 by omega]
  exact this
theorem r_same : ∀ (j : Nat) (d : D), sameOk d = true → depD d ≤ j → ∀ n, run fns CC (n + j + 1) i_law_same [.val d, .val d] = mp (.bl true, false) := by
  intro j
  induction j with
  | zero =>
    intro d hs hd n
    cases d <;> simp only [sameOk, Bool.false_eq_true] at hs
    · simp [at_law_same, f_law_same]
    · rename_i b; cases b <;> simp [at_law_same, f_law_same]
    · simp [at_law_same, f_law_same]
    · rename_i x
      have e : biD CC.kt .str [.str x] = some (.str x) := rfl
      simp [at_law_same, f_law_same, e]
    · simp [depD] at hd
  | succ j ih =>
    intro d hs hd n
    by_cases h0 : depD d ≤ j
    · exact (by
        have := r_same_lift ih d hs h0 n
        exact this)
    cases d with
    | tup xs =>
      simp only [sameOk, Bool.and_eq_true, decide_eq_true_eq] at hs
      simp only [depD] at hd
      have hr := rng_one (n := xs.length) hs.2
      have hf : filtL (cT (run fns CC (n + j + 1)) CC (.call i_law_same [.ix (.v 0) (.v 2), .ix (.v 1) (.v 2)]) (.nm 2) (.k (.bl true)) [.val (.tup xs), .val (.tup xs), .no]) ((List.range xs.length).map fun i : Nat => D.int i) = mp ((List.range xs.length).map fun _ => D.bl true) := by
        refine filtL_all (fun _ => D.bl true) fun i hi => ?_
        have hi := List.mem_range.mp hi
        have hx : ixD (.tup xs) (.int i) = some xs[i] := by
          have h1 : ((i : Int)) < (xs.length : Int) := by omega
          simp [ixD, placeOf, h1, List.getElem?_eq_getElem hi]
        have hc := ih xs[i] (sameOkL_mem hs.1 _ (List.getElem_mem hi)) (Nat.le_trans (depL_mem _ (List.getElem_mem hi)) (by omega)) n
        simp [cT, hx, hc]
      have ha : biD CC.kt .all [.lst ((List.range xs.length).map fun _ => D.bl true)] = some (.bl true) := by
        rw [all_bl (fun _ : Nat => true)]; simp
      rw [show n + (j + 1) + 1 = n + j + 1 + 1 by omega]
      simp [at_law_same, f_law_same, hr, hf]
      exact congrArg (fun o => mb (mo o) fun d => mp (d, false)) ha
    | _ => first | (simp [depD] at h0; done) | (simp [sameOk] at hs; done)
end KL
end

section
set_option Elab.async false
set_option linter.all false
set_option maxRecDepth 100000
/-! P3: deeds one by one: the mathematics of what is drawn. -/
namespace KL
open EV
theorem vat_ofNat (p : List Int) (j : Nat) : vat p (j : Int) = p.getD j 0 := by simp [vat]
theorem vle_iff {s : Nat} {p q : List Int} (hp : p.length = s) (hq : q.length = s) : vle p q = true ↔ ∀ j : Nat, j < s → vat p j ≤ vat q j := by
  induction p generalizing q s with
  | nil =>
    subst hp
    constructor
    · intro _ j hj; simp at hj
    · intro _; simp [vle]
  | cons x p ih =>
    cases q with
    | nil => subst hp; simp at hq
    | cons y q =>
      cases s with
      | zero => simp at hp
      | succ s =>
        have := ih (q := q) (s := s) (by simpa using hp) (by simpa using hq)
        simp only [vle, List.zip_cons_cons, List.all_cons, Bool.and_eq_true, decide_eq_true_eq] at this ⊢
        rw [this]
        constructor
        · rintro ⟨h1, h2⟩ j hj
          cases j with
          | zero => simpa [vat] using h1
          | succ j =>
            have := h2 j (by omega)
            rw [vat_ofNat, vat_ofNat] at this ⊢
            simpa using this
        · intro h
          refine ⟨by simpa [vat] using h 0 (by omega), fun j hj => ?_⟩
          have := h (j + 1) (by omega)
          rw [vat_ofNat, vat_ofNat] at this ⊢
          simpa using this
def vmax (p q : List Int) : List Int := (p.zip q).map fun z => max z.1 z.2
theorem vmax_len {s : Nat} {p q : List Int} (hp : p.length = s) (hq : q.length = s) : (vmax p q).length = s := by simp [vmax, hp, hq]
theorem vmax_at {s : Nat} {p q : List Int} (hp : p.length = s) (hq : q.length = s) {j : Nat} (hj : j < s) : vat (vmax p q) j = max (vat p j) (vat q j) := by
  rw [vat_ofNat, vat_ofNat, vat_ofNat]
  have h1 : j < p.length := by omega
  have h2 : j < q.length := by omega
  simp [vmax, List.getD_eq_getElem?_getD, h1, h2, List.getElem?_map, List.getElem?_zip_eq_some]
  rw [List.getElem?_eq_getElem (by simp; omega)]
  simp
theorem vset_at {p : List Int} {i j : Nat} {x : Int} (hi : i < p.length) : vat (p.set i x) j = if i = j then x else vat p j := by
  rw [vat_ofNat, vat_ofNat]
  simp only [List.getD_eq_getElem?_getD]
  by_cases h : i = j
  · subst h; simp [hi]
  · simp [h, List.getElem?_set_ne h]
def cnt (found : List Deed) (j : Nat) : Nat := (found.filter (st j)).length
/-! ### how many a vector knows -/
theorem sum_range_one (s i : Nat) (h : i < s) (x : Int) : ((List.range s).map fun j => if i = j then x else 0).sum = x := by
  induction s with
  | zero => omega
  | succ s ih =>
    rw [List.range_succ, List.map_append, List.sum_append]
    by_cases e : i = s
    · subst e
      have z : ((List.range i).map fun j => if i = j then x else 0) = (List.range i).map fun _ => (0 : Int) := List.map_congr_left fun j hj => by
        have := List.mem_range.mp hj
        rw [if_neg (by omega)]
      have z2 : ∀ n : Nat, ((List.range n).map fun _ => (0 : Int)).sum = 0 := fun n => by
        induction n with
        | zero => rfl
        | succ n ih => rw [List.range_succ, List.map_append, List.sum_append, ih]; rfl
      rw [z, z2]
      simp
    · rw [ih (by omega)]
      simp [e]
theorem sum_map_add (l : List Nat) (f g : Nat → Int) : (l.map fun j => f j + g j).sum = (l.map f).sum + (l.map g).sum := by
  induction l with
  | nil => rfl
  | cons a l ih => simp only [List.map_cons, List.sum_cons, ih]; omega
theorem len_by_site (s : Nat) (p : Deed → Bool) : ∀ l : List Deed, (∀ d ∈ l, 0 ≤ d.m.2 ∧ d.m.2 < s) → ((l.filter p).length : Int) = ((List.range s).map fun j => (((l.filter (st j)).filter p).length : Int)).sum
  | [], _ => by
    have : ∀ n : Nat, ((List.range n).map fun _ => (0 : Int)).sum = 0 := fun n => by
      induction n with
      | zero => rfl
      | succ n ih => rw [List.range_succ, List.map_append, List.sum_append, ih]; rfl
    simp [this]
  | d :: l, h => by
    have ih := len_by_site s p l fun e he => h e (by simp [he])
    obtain ⟨h0, h1⟩ := h d (by simp)
    have key : ∀ j : Nat, ((((d :: l).filter (st j)).filter p).length : Int) = (if d.m.2.toNat = j then (if p d = true then 1 else 0) else 0) + (((l.filter (st j)).filter p).length : Int) := fun j => by
      by_cases e : d.m.2 = (j : Int)
      · have : d.m.2.toNat = j := by omega
        rw [if_pos this, List.filter_cons, if_pos (by simp [st, e])]
        by_cases hp : p d = true
        · simp [List.filter_cons, hp]; omega
        · simp [List.filter_cons, hp]
      · have : ¬ d.m.2.toNat = j := by omega
        rw [if_neg this, List.filter_cons, if_neg (by simp [st, e])]
        omega
    rw [List.map_congr_left fun j _ => key j, sum_map_add, sum_range_one s d.m.2.toNat (by omega), ← ih]
    by_cases hp : p d = true
    · simp [List.filter_cons, hp]; omega
    · simp [List.filter_cons, hp]
theorem count_upto : ∀ (n : Nat) (x : Int), 0 ≤ x → x ≤ n → ((((List.range n).map fun i : Nat => 1 + (i : Int)).filter fun k => decide (k ≤ x)).length : Int) = x
  | 0, x, h0, h1 => by simp; omega
  | n + 1, x, h0, h1 => by
    rw [List.range_succ, List.map_append, List.filter_append, List.length_append]
    by_cases h : x ≤ n
    · have := count_upto n x h0 h
      have hn : ¬ (1 + (n : Int) ≤ x) := by omega
      simp [List.filter_cons, hn]
      simpa using this
    · have hx : x = (n : Int) + 1 := by omega
      have : ((List.range n).map fun i : Nat => 1 + (i : Int)).filter (fun k => decide (k ≤ x)) = (List.range n).map fun i : Nat => 1 + (i : Int) := List.filter_eq_self.mpr fun k hk => by
        obtain ⟨i, hi, rfl⟩ := List.mem_map.mp hk
        have := List.mem_range.mp hi
        simp only [decide_eq_true_eq]; omega
      rw [this]
      have hn : 1 + (n : Int) ≤ x := by omega
      simp [List.filter_cons, hn]
      omega
theorem vec_sum {s : Nat} {v : List Int} (h : v.length = s) : v.sum = ((List.range s).map fun j : Nat => vat v j).sum := by
  have : ((List.range s).map fun j : Nat => vat v j) = v := by
    refine List.ext_getElem (by simp [h]) fun i h1 h2 => ?_
    simp [vat_ofNat, List.getElem?_eq_getElem h2]
  rw [this]
/-- what holds of numbers -/
structure Nums (s : Nat) (found : List Deed) : Prop where
  site : ∀ d ∈ found, 0 ≤ d.m.2 ∧ d.m.2 < s
  nums : ∀ j : Nat, j < s → (found.filter (st j)).map (·.n) = (List.range (cnt found j)).map fun i : Nat => 1 + (i : Int)
theorem known_len {s : Nat} {found : List Deed} (h : Nums s found) {v : List Int} (hl : v.length = s) (hv : ∀ j : Nat, j < s → 0 ≤ vat v j ∧ vat v j ≤ cnt found j) : ((found.filter (kn v)).length : Int) = v.sum := by
  rw [len_by_site s (kn v) found h.site, vec_sum hl]
  congr 1
  refine List.map_congr_left fun j hj => ?_
  have hj := List.mem_range.mp hj
  obtain ⟨h0, h1⟩ := hv j hj
  have e : ((found.filter (st j)).filter (kn v)).length = (((found.filter (st j)).map (·.n)).filter fun k => decide (k ≤ vat v j)).length := by
    rw [List.filter_map, List.length_map]
    congr 1
    refine List.filter_congr fun d hd => ?_
    have := (List.mem_filter.mp hd).2
    simp only [st, decide_eq_true_eq] at this
    simp only [kn, Function.comp, this]
  rw [e, h.nums j hj]
  exact count_upto _ _ h0 h1
theorem num_bound {s : Nat} {found : List Deed} (h : Nums s found) {d : Deed} (hd : d ∈ found) : 1 ≤ d.n ∧ d.n ≤ cnt found d.m.2.toNat := by
  obtain ⟨h0, h1⟩ := h.site d hd
  have hj : d.m.2.toNat < s := by omega
  have hm : d.n ∈ (found.filter (st d.m.2.toNat)).map (·.n) := List.mem_map.mpr ⟨d, List.mem_filter.mpr ⟨hd, by simp [st]; omega⟩, rfl⟩
  rw [h.nums _ hj] at hm
  obtain ⟨i, hi, e⟩ := List.mem_map.mp hm
  have := List.mem_range.mp hi
  omega
/-- what holds while deeds are drawn -/
structure Gen (s : Nat) (known : List (List Int)) (found : List Deed) : Prop where
  kl : known.length = s
  vl : ∀ v ∈ known, v.length = s
  lo : ∀ v ∈ known, ∀ j : Nat, j < s → 0 ≤ vat v j ∧ vat v j ≤ cnt found j
  own : ∀ j : Nat, j < s → vat (known.getD j []) j = cnt found j
  clo : ∀ v ∈ known, ∀ d ∈ found, kn v d = true → vle d.p v = true
  ok : ∀ d ∈ found, DeedOk s d
  inn : ∀ d ∈ found, InOk found d
  pc : ∀ d ∈ found, ∀ j : Nat, j < s → vat d.p j ≤ cnt found j
  nums : Nums s found
  inc : found.Pairwise fun a b => a.m.2 = b.m.2 → a.m.1 < b.m.1
  cb : ∀ d ∈ found, d.m.1 ≤ 3 * found.length
theorem Gen.nil {s : Nat} : Gen s ((List.range s).map fun _ => List.replicate s 0) [] := by
  have hz : ∀ j : Nat, vat (List.replicate s 0) j = 0 := fun j => by
    rw [vat_ofNat, List.getD_eq_getElem?_getD, List.getElem?_replicate]
    split <;> rfl
  refine ⟨by simp, fun v hv => ?_, fun v hv j hj => ?_, fun j hj => ?_, by simp, by simp, by simp, by simp, ⟨by simp, fun j hj => rfl⟩, List.Pairwise.nil, by simp⟩
  · obtain ⟨_, _, rfl⟩ := List.mem_map.mp hv
    simp
  · obtain ⟨_, _, rfl⟩ := List.mem_map.mp hv
    rw [hz]
    exact ⟨Int.le_refl _, by simp [cnt]⟩
  · have : ((List.range s).map fun _ => List.replicate s (0 : Int)).getD j [] = List.replicate s 0 := by
      simp [List.getD_eq_getElem?_getD, List.getElem?_map, hj]
    rw [this, hz]
    rfl
theorem Gen.mem {s : Nat} {known : List (List Int)} {found : List Deed} (G : Gen s known found) {i : Nat} (hi : i < s) : known.getD i [] ∈ known := by
  have h : i < known.length := by rw [G.kl]; exact hi
  simp [List.getD_eq_getElem?_getD, h]
theorem getD_set {α : Type} {l : List α} {i j : Nat} {x d : α} (hi : i < l.length) : (l.set i x).getD j d = if i = j then x else l.getD j d := by
  simp only [List.getD_eq_getElem?_getD]
  by_cases h : i = j
  · subst h; simp [hi]
  · simp [h, List.getElem?_set_ne h]
theorem mem_set' {α : Type} {l : List α} {i : Nat} {x y : α} (h : y ∈ l.set i x) : y = x ∨ y ∈ l := by
  rcases List.mem_or_eq_of_mem_set h with h | h
  · exact .inr h
  · exact .inl h
theorem kn_max {s : Nat} {p q : List Int} (hp : p.length = s) (hq : q.length = s) {d : Deed} (hd : 0 ≤ d.m.2 ∧ d.m.2 < s) (h : kn (vmax p q) d = true) : kn p d = true ∨ kn q d = true := by
  have hj : d.m.2.toNat < s := by omega
  have e : d.m.2 = (d.m.2.toNat : Int) := by omega
  simp only [kn, decide_eq_true_eq] at h ⊢
  rw [e, vmax_at hp hq hj] at h
  rw [e]
  omega
/-- one site hears of another -/
theorem Gen.merge {s : Nat} {known : List (List Int)} {found : List Deed} (G : Gen s known found) {i j : Nat} (hi : i < s) (hj : j < s) : Gen s (known.set i (vmax (known.getD i []) (known.getD j []))) found := by
  have mi := G.mem hi
  have mj := G.mem hj
  have li := G.vl _ mi
  have lj := G.vl _ mj
  refine ⟨by rw [List.length_set, G.kl], fun v hv => ?_, fun v hv l hl => ?_, fun l hl => ?_, fun v hv d hd hk => ?_, G.ok, G.inn, G.pc, G.nums, G.inc, G.cb⟩
  · rcases mem_set' hv with rfl | hv
    · exact vmax_len li lj
    · exact G.vl v hv
  · rcases mem_set' hv with rfl | hv
    · rw [vmax_at li lj hl]
      have := G.lo _ mi l hl
      have := G.lo _ mj l hl
      omega
    · exact G.lo v hv l hl
  · rw [getD_set (by rw [G.kl]; exact hi)]
    split
    · rename_i e
      subst e
      rw [vmax_at li lj hl, G.own i hl]
      have := G.lo _ mj i hl
      omega
    · exact G.own l hl
  · rcases mem_set' hv with rfl | hv
    · have ld := (G.ok d hd).pl
      refine (vle_iff ld (vmax_len li lj)).mpr fun l hl => ?_
      rw [vmax_at li lj hl]
      rcases kn_max li lj (G.nums.site d hd) hk with h | h
      · have := (vle_iff ld li).mp (G.clo _ mi d hd h) l hl
        omega
      · have := (vle_iff ld lj).mp (G.clo _ mj d hd h) l hl
        omega
    · exact G.clo v hv d hd hk
/-- what is put to the deeds -/
structure NewOk (s : Nat) (found : List Deed) (past : List Int) (i : Nat) (d : Deed) : Prop where
  site : d.m.2 = (i : Int)
  num : d.n = vat past i + 1
  pst : d.p = past
  more : ∀ e ∈ found, kn past e = true → e.m.1 < d.m.1
  pos : 1 ≤ d.m.1
  bnd : d.m.1 ≤ 3 * (found.length + 1 : Int)
  sign : ∀ a c, d.w = .put a c → 97 ≤ c ∧ c ≤ 122
  named : (isPut d.w = true ∧ wm d.w = (0, 0)) ∨ ∃ e ∈ found, kn past e = true ∧ e.m = wm d.w ∧ isPut e.w = true
theorem filter_app {α : Type} (p : α → Bool) (l : List α) (x : α) : (l ++ [x]).filter p = if p x = true then l.filter p ++ [x] else l.filter p := by
  rw [List.filter_append]
  by_cases h : p x = true <;> simp [List.filter_cons, h]
theorem cnt_app (found : List Deed) (d : Deed) (j : Nat) : cnt (found ++ [d]) j = cnt found j + if d.m.2 = (j : Int) then 1 else 0 := by
  unfold cnt
  rw [filter_app]
  by_cases h : d.m.2 = (j : Int)
  · rw [if_pos (by simp [st, h]), if_pos h]; simp
  · rw [if_neg (by simp [st, h]), if_neg h]; simp
theorem Gen.push {s : Nat} {known : List (List Int)} {found : List Deed} (G : Gen s known found) (hs : s ≤ 4) (hf : found.length < 60) {i : Nat} (hi : i < s) {d : Deed} (N : NewOk s found (known.getD i []) i d) :
    Gen s (known.set i ((known.getD i []).set i (vat (known.getD i []) i + 1))) (found ++ [d]) := by
  have mi := G.mem hi
  have li := G.vl _ mi
  have oi := G.own i hi
  obtain ⟨hsite, hnum, hpast, hmore, hpos, hbnd, hsign, hnamed⟩ := N
  generalize hp : known.getD i [] = past at *
  have hn : d.n = cnt found i + 1 := by rw [hnum, oi]
  have clen : (cnt found i : Int) ≤ 59 := by
    have : cnt found i ≤ found.length := List.length_filter_le _ _
    omega
  -- the new deed is known to none of the vectors ahead
  have unk : ∀ v : List Int, vat v i ≤ cnt found i → kn v d = false := fun v h => by
    simp only [kn, decide_eq_false_iff_not, hsite]
    omega
  have unkP : kn past d = false := unk past (by omega)
  have nofilt : ∀ v : List Int, vat v i ≤ cnt found i → (found ++ [d]).filter (kn v) = found.filter (kn v) := fun v h => by
    rw [filter_app, if_neg (by rw [unk v h]; simp)]
  have okd : DeedOk s d := by
    have wspot : WhatOk s d := by
      refine ⟨?_, hsign⟩
      rcases hnamed with h | ⟨e, he, hk, hm, hpu⟩
      · exact .inl h
      · refine .inr ⟨?_, ?_⟩
        · rw [← hm]; exact (G.ok e he).m
        · rw [← hm]; exact hmore e he hk
    refine ⟨?_, by omega, by rw [hpast]; exact li, fun x hx => ?_, by rw [hpast, hsite, hnum]; omega, wspot⟩
    · simp only [okM, Bool.and_eq_true, decide_eq_true_eq, hsite]
      refine ⟨⟨hpos, by omega⟩, by omega, by omega⟩
    · rw [hpast] at hx
      obtain ⟨j, hj, rfl⟩ := List.getElem_of_mem hx
      have := G.lo past mi j (by omega)
      rw [vat_ofNat, List.getD_eq_getElem?_getD, List.getElem?_eq_getElem hj] at this
      have hc : cnt found j ≤ found.length := List.length_filter_le _ _
      simp only [Option.getD_some] at this
      omega
  have innd : InOk (found ++ [d]) d := by
    refine ⟨?_, fun e he hk => ?_, fun e he hk => ?_, ?_⟩
    · rw [hpast, nofilt past (by omega)]
      exact known_len G.nums li fun j hj => G.lo past mi j hj
    · rw [hpast] at hk
      rcases List.mem_append.mp he with he | he
      · exact hmore e he hk
      · rw [List.mem_singleton.mp he, unkP] at hk; cases hk
    · rw [hpast] at hk ⊢
      rcases List.mem_append.mp he with he | he
      · exact G.clo past mi e he hk
      · rw [List.mem_singleton.mp he, unkP] at hk; cases hk
    · rcases hnamed with h | ⟨e, he, hk, hm, hpu⟩
      · exact .inl h.2
      · exact .inr ⟨e, List.mem_append_left _ he, by rw [hpast]; exact hk, hm, hpu⟩
  have cntI : ∀ j : Nat, cnt (found ++ [d]) j = cnt found j + if i = j then 1 else 0 := fun j => by
    rw [cnt_app, hsite]
    by_cases h : i = j
    · subst h; simp
    · rw [if_neg (by omega), if_neg h]
  have numsN : Nums s (found ++ [d]) := by
    refine ⟨fun e he => ?_, fun j hj => ?_⟩
    · rcases List.mem_append.mp he with he | he
      · exact G.nums.site e he
      · rw [List.mem_singleton.mp he, hsite]; omega
    · rw [filter_app, cntI]
      by_cases h : i = j
      · subst h
        rw [if_pos (by simp [st, hsite]), if_pos rfl, List.map_append, G.nums.nums i hj, List.range_succ, List.map_append]
        simp only [List.map_cons, List.map_nil, hn]
        congr 2
        omega
      · rw [if_neg (by simp [st, hsite]; omega), if_neg h]
        exact G.nums.nums j hj
  refine ⟨by rw [List.length_set, G.kl], fun v hv => ?_, fun v hv j hj => ?_, fun j hj => ?_, fun v hv e he hk => ?_, fun e he => ?_, fun e he => ?_, fun e he j hj => ?_, numsN, ?_, fun e he => ?_⟩
  · rcases mem_set' hv with rfl | hv
    · rw [List.length_set, li]
    · exact G.vl v hv
  · rw [cntI]
    rcases mem_set' hv with rfl | hv
    · rw [vset_at (by omega)]
      have := G.lo past mi j hj
      split
      · rename_i e; subst e; omega
      · omega
    · have := G.lo v hv j hj
      split <;> omega
  · rw [cntI, getD_set (by rw [G.kl]; exact hi)]
    by_cases h : i = j
    · subst h
      rw [if_pos rfl, if_pos rfl, vset_at (by omega), if_pos rfl, oi]
      omega
    · rw [if_neg h, if_neg h, G.own j hj]
      omega
  · -- what a vector knows is closed
    have up : ∀ e ∈ found, kn past e = true → vle e.p (past.set i (vat past i + 1)) = true := fun e he hk => by
      have ld := (G.ok e he).pl
      refine (vle_iff ld (by rw [List.length_set, li])).mpr fun j hj => ?_
      have := (vle_iff ld li).mp (G.clo past mi e he hk) j hj
      rw [vset_at (by omega)]
      split
      · rename_i e'; subst e'; omega
      · exact this
    rcases mem_set' hv with rfl | hv
    · rcases List.mem_append.mp he with he | he
      · refine up e he ?_
        obtain ⟨s0, s1⟩ := G.nums.site e he
        obtain ⟨n1, n2⟩ := num_bound G.nums he
        have ei : e.m.2 = (e.m.2.toNat : Int) := by omega
        simp only [kn, decide_eq_true_eq] at hk ⊢
        rw [ei] at hk ⊢
        rw [vset_at (by omega)] at hk
        split at hk
        · rename_i e'
          rw [← e'] at n2 ⊢
          omega
        · exact hk
      · have ee := List.mem_singleton.mp he
        subst ee
        rw [hpast]
        refine (vle_iff li (by rw [List.length_set, li])).mpr fun j hj => ?_
        rw [vset_at (by omega)]
        split
        · rename_i e'; subst e'; omega
        · exact Int.le_refl _
    · rcases List.mem_append.mp he with he | he
      · exact G.clo v hv e he hk
      · have ee := List.mem_singleton.mp he
        subst ee
        rw [unk v (G.lo v hv i hi).2] at hk
        cases hk
  · rcases List.mem_append.mp he with he | he
    · exact G.ok e he
    · rw [List.mem_singleton.mp he]; exact okd
  · rcases List.mem_append.mp he with he | he
    · have I := G.inn e he
      have hk0 : vat e.p i ≤ cnt found i := G.pc e he i hi
      have nk := unk e.p hk0
      refine ⟨by rw [nofilt e.p hk0]; exact I.sum, fun x hx hk => ?_, fun x hx hk => ?_, ?_⟩
      · rcases List.mem_append.mp hx with hx | hx
        · exact I.less x hx hk
        · rw [List.mem_singleton.mp hx, nk] at hk; cases hk
      · rcases List.mem_append.mp hx with hx | hx
        · exact I.below x hx hk
        · rw [List.mem_singleton.mp hx, nk] at hk; cases hk
      · rcases I.named with h | ⟨x, hx, h⟩
        · exact .inl h
        · exact .inr ⟨x, List.mem_append_left _ hx, h⟩
    · rw [List.mem_singleton.mp he]; exact innd
  · rw [cntI]
    rcases List.mem_append.mp he with he | he
    · have := G.pc e he j hj
      split <;> omega
    · rw [List.mem_singleton.mp he, hpast]
      have := G.lo past mi j hj
      split <;> omega
  · rw [List.pairwise_append]
    refine ⟨G.inc, List.pairwise_singleton _ _, fun a ha b hb hab => ?_⟩
    rw [List.mem_singleton.mp hb] at hab ⊢
    refine hmore a ha ?_
    obtain ⟨n1, n2⟩ := num_bound G.nums ha
    have e' : a.m.2.toNat = i := by rw [hab, hsite]; omega
    simp only [kn, decide_eq_true_eq, hab, hsite, oi]
    rw [e'] at n2
    exact n2
  · rw [List.length_append]
    rcases List.mem_append.mp he with he | he
    · have := G.cb e he
      simp
      omega
    · rw [List.mem_singleton.mp he]
      simp
      omega
end KL
end

section
set_option Elab.async false
set_option linter.all false
set_option maxRecDepth 100000
/-! P4: draws of deeds, turn by turn. -/
namespace KL
open EV
theorem Ok.sim {α : Type} {m m' : M α} {k : Cup} {P : α → Cup → Prop} (e : m = m') (h : Ok m' k P) : Ok m k P := e ▸ h
theorem okSs {cal : Cal} {s : IS} {r : List IS} {ρ : Env} {k : Cup} {P : Env → Cup → Prop} {Q : Fl → Cup → Prop} (h : Ok (evS cal CC s ρ) k fun fl k' => ∃ ρ', fl = .nx ρ' ∧ P ρ' k') (h2 : ∀ ρ' k', P ρ' k' → Ok (evSs cal CC r ρ') k' Q) : Ok (evSs cal CC (s :: r) ρ) k Q := by
  refine Ok.sim ss_cons (h.bind ?_)
  rintro fl k' ⟨ρ', rfl, hp⟩
  exact Ok.sim aft_nx (h2 ρ' k' hp)
theorem okNil {cal : Cal} {ρ : Env} {k : Cup} {P : Env → Cup → Prop} (h : P ρ k) : Ok (evSs cal CC [] ρ) k fun fl k' => ∃ ρ', fl = .nx ρ' ∧ P ρ' k' := Ok.sim ss_nil (Ok.mp ⟨ρ, rfl, h⟩)
theorem forL_ok {t : Tg} {b : Env → M Fl} (I : Nat → Env → Cup → Prop) : ∀ {xs : List D} {i : Nat} {ρ : Env} {k : Cup}, (∀ j x ρ k, xs[j]? = some x → I (i + j) ρ k → ∃ ρ1, t.bind x ρ = some ρ1 ∧ Ok (b ρ1) k fun fl k' => ∃ ρ', fl = .nx ρ' ∧ I (i + j + 1) ρ' k') → I i ρ k → Ok (forL t b xs ρ) k fun fl k' => ∃ ρ', fl = .nx ρ' ∧ I (i + xs.length) ρ' k'
  | [], i, ρ, k, _, h => Ok.mp ⟨ρ, rfl, h⟩
  | x :: xs, i, ρ, k, H, h => by
    obtain ⟨ρ1, h1, h2⟩ := H 0 x ρ k rfl h
    unfold forL
    rw [h1, mo_s, mb_mp']
    refine h2.bind ?_
    rintro fl k' ⟨ρ', rfl, h3⟩
    have := forL_ok I (t := t) (b := b) (xs := xs) (i := i + 1) (ρ := ρ') (k := k') (fun j y ρ k hy hI => by
      have := H (j + 1) y ρ k (by simpa using hy) (by rw [show i + (j + 1) = i + 1 + j by omega]; exact hI)
      rw [show i + (j + 1) + 1 = i + 1 + j + 1 by omega] at this
      exact this) (by simpa using h3)
    rw [List.length_cons, show i + (xs.length + 1) = i + 1 + xs.length by omega]
    exact this
theorem fl_m (m : Mark) : Fl0 1 (eM m) := ⟨rfl, Nat.le_refl _⟩
theorem fl_v (p : List Int) : Fl0 1 (eV p) := Fl0.tup fun a _ => Fl0.int a
theorem fl_w (w : What) : Fl0 2 (eW w) := by cases w <;> exact ⟨rfl, by simp [eW, eM, depD, depL]⟩
theorem fl_d (d : Deed) : Fl0 3 (eD d) := by
  have h1 := fl_v d.p
  have h2 := fl_w d.w
  have h0 := fl_m d.m
  refine ⟨?_, ?_⟩
  · simp [eD, plainD, plainL, h1.pl, h2.pl, h0.pl]
  · have := h1.dp
    have := h2.dp
    have := h0.dp
    simp only [eD, depD, depL]
    omega
theorem okDs (l : List Deed) : okD (.lst (l.map eD)) = true := (Fl0.lst (k := 3) fun a _ => fl_d a).ok (by omega)
@[simp] theorem ne_nil_ds (l : List Deed) : cmpB .ne (.lst (l.map eD)) (.lst []) = some (!l.isEmpty) := by
  refine cmp_ne (okDs l) rfl ?_
  cases l <;> rfl
@[simp] theorem ix_known {known : List (List Int)} {i : Int} (h0 : 0 ≤ i) (h1 : i < known.length) : ixD (.lst (known.map eV)) (.int i) = some (eV (known.getD i.toNat [])) := by
  have hl : i.toNat < known.length := by omega
  simp [ixD, placeOf, h0, h1, List.getElem?_eq_getElem hl, List.getD_eq_getElem?_getD]
theorem ix_last {α : Type} {enc : α → D} {l : List α} (h : l ≠ []) : ixD (.lst (l.map enc)) (.int (-1)) = some (enc (l.getLast h)) := by
  have hl : 0 < l.length := List.length_pos_iff.mpr h
  have h1 : ¬ (0 : Int) ≤ -1 := by omega
  have h2 : -(l.length : Int) ≤ -1 := by omega
  have h3 : (-1 + (l.length : Int)).toNat = l.length - 1 := by omega
  simp [ixD, placeOf, h2, h3, List.getLast_eq_getElem, List.getElem?_eq_getElem (show l.length - 1 < l.length by omega)]
theorem maxL_map : ∀ (x : Int) (l : List Int), ∃ m, biD CC.kt .max [.lst ((x :: l).map D.int)] = some (.int m) ∧ m ∈ x :: l ∧ ∀ y ∈ x :: l, y ≤ m := by
  intro x l
  have e : ∀ (l : List Int) (x : Int), (maxI x l ∈ x :: l) ∧ ∀ y ∈ x :: l, y ≤ maxI x l := by
    intro l
    induction l with
    | nil => intro x; simp [maxI]
    | cons y l ih =>
      intro x
      obtain ⟨h1, h2⟩ := ih (max x y)
      have e : maxI x (y :: l) = maxI (max x y) l := rfl
      rw [e]
      constructor
      · rcases List.mem_cons.mp h1 with h | h
        · rw [h]
          rcases Int.le_total x y with hh | hh
          · rw [Int.max_eq_right hh]; simp
          · rw [Int.max_eq_left hh]; simp
        · simp [h]
      · intro z hz
        have hm := h2 (max x y) (by simp)
        rcases List.mem_cons.mp hz with rfl | hz
        · omega
        · rcases List.mem_cons.mp hz with rfl | hz
          · omega
          · exact h2 z (by simp [hz])
  obtain ⟨h1, h2⟩ := e l x
  refine ⟨maxI x l, ?_, h1, h2⟩
  show ((itemsD (.lst ((x :: l).map D.int))).bind fun xs => (allInts xs).bind maxL) = _
  simp only [itemsD, Option.bind_some, allInts_map]
  rfl
theorem max_two (a b : Int) : biD CC.kt .max [.tup [.int a, .int b]] = some (.int (max a b)) := by
  show some (D.int (max a b)) = _
  rfl
theorem setL_map {α : Type} {enc : α → D} {l : List α} {i : Int} (x : α) (h0 : 0 ≤ i) (h1 : i < l.length) : setL (l.map enc) i (enc x) = some ((l.set i.toNat x).map enc) := by
  simp [setL, placeOf, h0, h1, List.map_set]
theorem mlen_ok {n : Nat} (h : n ≤ 1000) : mlen n = mp () := by
  unfold mlen
  rw [if_pos (by simp only [LIM]; omega)]
theorem add_lst {xs ys : List D} (h : xs.length + ys.length ≤ 1000) : binD .add (.lst xs) (.lst ys) = some (.lst (xs ++ ys)) := by
  show (if xs.length + ys.length ≤ LIM then some (D.lst (xs ++ ys)) else none) = _
  rw [if_pos (by simp only [LIM]; omega)]
theorem add_tup {xs ys : List D} (h : xs.length + ys.length ≤ 1000) : binD .add (.tup xs) (.tup ys) = some (.tup (xs ++ ys)) := by
  show (if xs.length + ys.length ≤ LIM then some (D.tup (xs ++ ys)) else none) = _
  rw [if_pos (by simp only [LIM]; omega)]
/-- what a put may be behind -/
def SpotOk (found : List Deed) (past : List Int) (a : Mark) : Prop := a = (0, 0) ∨ ∃ e ∈ found, kn past e = true ∧ e.m = a ∧ isPut e.w = true
/-- the state ahead of a turn -/
def tE (s many : Nat) (t : Slot) (known : List (List Int)) (found : List Deed) (a6 a7 a8 a9 a10 a11 a12 a13 a14 a15 : Slot) : Env :=
  [.cup, .val (.int s), .val (.int many), t, .own (.lst (known.map eV)), .own (.lst (found.map eD)), a6, a7, a8, a9, a10, a11, a12, a13, a14, a15, .no, .no]
section
variable {n s many : Nat} {t : Slot} {known : List (List Int)} {found : List Deed} {a6 a7 a8 a9 a10 a11 a12 a13 a14 a15 : Slot} {k : Cup}
theorem t0 (h1 : 1 ≤ s) (h4 : s ≤ 4) (hk : CupOk k) : Ok (evS (run fns CC (n + 3)) CC (.par [(11, false), (12, false)] [.call i_law_roll [.v 0, .v 1], .call i_law_roll [.v 0, .k (.int 6)]]) (tE s many t known found a6 a7 a8 a9 a10 a11 a12 a13 a14 a15)) k fun fl k' => ∃ ρ', fl = .nx ρ' ∧ ∃ (i : Nat) (w : Int), i < s ∧ CupOk k' ∧ ρ' = tE s many t known found a6 a7 a8 a9 a10 (.val (.int i)) (.val (.int w)) a13 a14 a15 := by
  refine Ok.sim (by simp [tE]; rfl) ?_
  refine (r_roll (n + 2) s (by omega) (by omega) k hk).bind fun r k1 ⟨⟨i, e, i0, i1⟩, hk1⟩ => ?_
  subst e
  refine Ok.sim (by simp; rfl) ?_
  refine (r_roll (n + 2) 6 (by omega) (by omega) k1 hk1).bind fun r k2 ⟨⟨w, e, _, _⟩, hk2⟩ => ?_
  subst e
  refine Ok.sim (by simp; rfl) (Ok.mp ⟨_, rfl, i.toNat, w, by omega, hk2, ?_⟩)
  have : ((i.toNat : Nat) : Int) = i := by omega
  simp [tE, this]
theorem t1 {i : Nat} {w : Int} (h1 : 1 ≤ s) (h4 : s ≤ 4) (hi : i < s) (hk : CupOk k) (G : Gen s known found) : Ok (evS (run fns CC (n + 3)) CC (.if_ (.cmp .eq (.call i_law_roll [.v 0, .k (.int 4)]) (.k (.int 0)))
  [.asg (.nm 13) (.ix (.v 4) (.call i_law_roll [.v 0, .v 1])),
  .sets 4 (.v 11) (.bi .tuple [.comp (.bi .max [.v 17]) (.nm 17) (.zipn (.ix (.v 4) (.v 11)) (.v 13)) (.k (.bl true))])]
  []) (tE s many t known found a6 a7 a8 a9 a10 (.val (.int i)) (.val (.int w)) a13 a14 a15)) k fun fl k' => ∃ ρ', fl = .nx ρ' ∧ ∃ known' b13, Gen s known' found ∧ CupOk k' ∧ ρ' = tE s many t known' found a6 a7 a8 a9 a10 (.val (.int i)) (.val (.int w)) b13 a14 a15 := by
  refine Ok.sim (by simp [tE]; rfl) ?_
  refine (r_roll (n + 2) 4 (by omega) (by omega) k hk).bind fun r k1 ⟨⟨q, e, _, _⟩, hk1⟩ => ?_
  subst e
  by_cases hq : q = 0
  · refine Ok.sim (by simp [hq]; rfl) ?_
    refine (r_roll (n + 2) s (by omega) (by omega) k1 hk1).bind fun r k2 ⟨⟨j, e, j0, j1⟩, hk2⟩ => ?_
    subst e
    have x1 := ix_known (known := known) j0 (by rw [G.kl]; exact j1)
    have x2 := ix_known (known := known) (i := i) (by omega) (by rw [G.kl]; omega)
    have li := G.vl _ (G.mem hi)
    have lj := G.vl _ (G.mem (i := j.toNat) (by omega))
    simp only [Int.toNat_natCast] at x2
    have z : zipT (eV (known.getD i [])) (eV (known.getD j.toNat [])) = some (((known.getD i []).zip (known.getD j.toNat [])).map fun z => D.tup [.int z.1, .int z.2]) := by
      rw [← zip_ints]; rfl
    have f : ∀ ρ : Env, ρ.length = 18 → filtL (cT (run fns CC (n + 3)) CC (.bi .max [.v 17]) (.nm 17) (.k (.bl true)) ρ) (((known.getD i []).zip (known.getD j.toNat [])).map fun z => D.tup [.int z.1, .int z.2]) = mp ((vmax (known.getD i []) (known.getD j.toNat [])).map D.int) := fun ρ hρ => by
      have hg : ∀ d, Env.get (ρ.set 17 (.val d)) 17 = .val d := fun d => by simp [Env.get, hρ]
      unfold vmax
      rw [List.map_map]
      refine filtL_all (enc := fun z : Int × Int => D.tup [.int z.1, .int z.2]) (fun z : Int × Int => D.int (max z.1 z.2)) fun z _ => ?_
      simp [cT, hg, max_two]
    have sl := setL_map (enc := eV) (l := known) (i := i) (vmax (known.getD i []) (known.getD j.toNat [])) (by omega) (by rw [G.kl]; omega)
    have es : D.tup ((vmax (known.getD i []) (known.getD j.toNat [])).map D.int) = eV (vmax (known.getD i []) (known.getD j.toNat [])) := rfl
    refine Ok.sim (by simp [-List.getD_eq_getElem?_getD, x1, x2, z, f, sl, es]; rfl) ?_
    exact Ok.mp ⟨_, rfl, _, .val (eV (known.getD j.toNat [])), G.merge hi (j := j.toNat) (by omega), hk2, by simp [tE, List.map_set]⟩
  · refine Ok.sim (by simp [hq]; rfl) (Ok.mp ⟨_, rfl, known, _, G, hk1, rfl⟩)
theorem t2 {i : Nat} (hi : i < s) (hk : CupOk k) (G : Gen s known found) : Ok (evS (run fns CC (n + 3)) CC (.asg (.nm 6) (.ix (.v 4) (.v 11))) (tE s many t known found a6 a7 a8 a9 a10 (.val (.int i)) a12 a13 a14 a15)) k fun fl k' => ∃ ρ', fl = .nx ρ' ∧ CupOk k' ∧ ρ' = tE s many t known found (.val (eV (known.getD i []))) a7 a8 a9 a10 (.val (.int i)) a12 a13 a14 a15 := by
  have x2 := ix_known (known := known) (i := i) (by omega) (by rw [G.kl]; omega)
  simp only [Int.toNat_natCast] at x2
  refine Ok.sim (by simp [tE, x2]; rfl) ?_
  exact Ok.mp ⟨_, rfl, hk, by simp [tE]⟩
theorem t3 {p : List Int} (hp : ∀ d ∈ found, 0 ≤ d.m.2 ∧ d.m.2 < p.length) (hk : CupOk k) : Ok (evS (run fns CC (n + 3)) CC (.asg (.nm 7) (.comp (.v 16) (.nm 16) (.pl (.v 5)) (.cmp .le (.ix (.v 16) (.k (.int 1))) (.ix (.v 6) (.ix (.ix (.v 16) (.k (.int 0))) (.k (.int 1))))))) (tE s many t known found (.val (eV p)) a7 a8 a9 a10 a11 a12 a13 a14 a15)) k fun fl k' => ∃ ρ', fl = .nx ρ' ∧ CupOk k' ∧ ρ' = tE s many t known found (.val (eV p)) (.val (.lst ((found.filter (kn p)).map eD))) a8 a9 a10 a11 a12 a13 a14 a15 := by
  have f : filtL (cT (run fns CC (n + 3)) CC (.v 16) (.nm 16) (.cmp .le (.ix (.v 16) (.k (.int 1))) (.ix (.v 6) (.ix (.ix (.v 16) (.k (.int 0))) (.k (.int 1))))) (tE s many t known found (.val (eV p)) a7 a8 a9 a10 a11 a12 a13 a14 a15)) (found.map eD) = mp ((found.filter (kn p)).map eD) := by
    refine filtL_enc (kn p) eD fun d hd => ?_
    obtain ⟨h1, h2⟩ := hp d hd
    simp [cT, tE, ix_v h1 h2, kn]
  simp only [tE] at f
  refine Ok.sim (by simp [tE, f]; rfl) ?_
  exact Ok.mp ⟨_, rfl, hk, by simp [tE]⟩
theorem t4 {i : Nat} {mine : List Deed} (hk : CupOk k) : Ok (evS (run fns CC (n + 3)) CC (.par [(14, false), (15, false)] [.comp (.v 16) (.nm 16) (.pl (.v 7)) (.cmp .eq (.ix (.ix (.v 16) (.k (.int 3))) (.k (.int 0))) (.k (.str [112, 117, 116]))), .comp (.v 16) (.nm 16) (.pl (.v 7)) (.and (.cmp .eq (.ix (.ix (.v 16) (.k (.int 0))) (.k (.int 1))) (.v 11)) (.cmp .eq (.ix (.ix (.v 16) (.k (.int 3))) (.k (.int 0))) (.k (.str [112, 117, 116]))))]) (tE s many t known found a6 (.val (.lst (mine.map eD))) a8 a9 a10 (.val (.int i)) a12 a13 a14 a15)) k fun fl k' => ∃ ρ', fl = .nx ρ' ∧ CupOk k' ∧ ρ' = tE s many t known found a6 (.val (.lst (mine.map eD))) a8 a9 a10 (.val (.int i)) a12 a13 (.val (.lst ((mine.filter fun d => isPut d.w).map eD))) (.val (.lst ((mine.filter fun d => st i d && isPut d.w).map eD))) := by
  have f : filtL (cT (run fns CC (n + 3)) CC (.v 16) (.nm 16) (.cmp .eq (.ix (.ix (.v 16) (.k (.int 3))) (.k (.int 0))) (.k (.str [112, 117, 116]))) (tE s many t known found a6 (.val (.lst (mine.map eD))) a8 a9 a10 (.val (.int i)) a12 a13 a14 a15)) (mine.map eD) = mp ((mine.filter fun d => isPut d.w).map eD) := by
    refine filtL_enc (fun d => isPut d.w) eD fun d hd => ?_
    simp [cT, tE]
  have f2 : filtL (cT (run fns CC (n + 3)) CC (.v 16) (.nm 16) (.and (.cmp .eq (.ix (.ix (.v 16) (.k (.int 0))) (.k (.int 1))) (.v 11)) (.cmp .eq (.ix (.ix (.v 16) (.k (.int 3))) (.k (.int 0))) (.k (.str [112, 117, 116])))) (tE s many t known found a6 (.val (.lst (mine.map eD))) a8 a9 a10 (.val (.int i)) a12 a13 a14 a15)) (mine.map eD) = mp ((mine.filter fun d => st i d && isPut d.w).map eD) := by
    refine filtL_enc (fun d => st i d && isPut d.w) eD fun d hd => ?_
    by_cases h : d.m.2 = (i : Int) <;> simp [cT, tE, st, h]
  simp only [tE] at f f2
  refine Ok.sim (by simp [tE, f, f2]; rfl) ?_
  exact Ok.mp ⟨_, rfl, hk, by simp [tE]⟩
theorem t5 {mine : List Deed} {b : Int} (hl : mine.length ≤ 60) (hb : ∀ d ∈ mine, d.m.1 ≤ b) (b0 : 0 ≤ b) (hk : CupOk k) : Ok (evS (run fns CC (n + 3)) CC (.asg (.nm 8) (.bin .add (.bi .max [.bin .add (.lst [.k (.int 0)]) (.comp (.ix (.ix (.v 16) (.k (.int 0))) (.k (.int 0))) (.nm 16) (.pl (.v 7)) (.k (.bl true)))]) (.call i_law_some [.v 0, .lst [.k (.int 1), .k (.int 1), .k (.int 1), .k (.int 3)]]))) (tE s many t known found a6 (.val (.lst (mine.map eD))) a8 a9 a10 a11 a12 a13 a14 a15)) k fun fl k' => ∃ ρ', fl = .nx ρ' ∧ ∃ c : Int, (∀ d ∈ mine, d.m.1 < c) ∧ 1 ≤ c ∧ c ≤ b + 3 ∧ CupOk k' ∧ ρ' = tE s many t known found a6 (.val (.lst (mine.map eD))) (.val (.int c)) a9 a10 a11 a12 a13 a14 a15 := by
  have f : filtL (cT (run fns CC (n + 3)) CC (.ix (.ix (.v 16) (.k (.int 0))) (.k (.int 0))) (.nm 16) (.k (.bl true)) (tE s many t known found a6 (.val (.lst (mine.map eD))) a8 a9 a10 a11 a12 a13 a14 a15)) (mine.map eD) = mp (mine.map fun d => D.int d.m.1) :=
    filtL_all (fun d : Deed => D.int d.m.1) fun d hd => by simp [cT, tE]
  simp only [tE] at f
  obtain ⟨m, hm, h1, h2⟩ := maxL_map 0 (mine.map fun d => d.m.1)
  have ha : binD .add (.lst [.int 0]) (.lst (mine.map fun d => D.int d.m.1)) = some (.lst ((0 :: mine.map fun d => d.m.1).map D.int)) := by
    rw [add_lst (by simp; omega)]
    simp [Function.comp_def]
  refine Ok.sim (by simp [tE, f, ha, hm, -List.map_cons, -List.map_map]; rfl) ?_
  refine (r_some_lst (n + 1) (by simp) (by simp) k hk).bind fun r k1 ⟨⟨d, e, hd⟩, hk1⟩ => ?_
  subst e
  have : ∃ q : Int, d = .int q ∧ 1 ≤ q ∧ q ≤ 3 := by
    simp at hd
    rcases hd with rfl | rfl <;> exact ⟨_, rfl, by omega, by omega⟩
  obtain ⟨q, rfl, q1, q3⟩ := this
  have hh : ∀ d ∈ mine, d.m.1 ≤ m := fun d hd => h2 _ (List.mem_cons_of_mem _ (List.mem_map.mpr ⟨d, hd, rfl⟩))
  have hmb : 0 ≤ m ∧ m ≤ b := by
    have h0 := h2 0 (by simp)
    refine ⟨h0, ?_⟩
    rcases List.mem_cons.mp h1 with rfl | h1
    · exact b0
    · obtain ⟨d, hd, rfl⟩ := List.mem_map.mp h1
      exact hb d hd
  refine Ok.sim (by simp; rfl) ?_
  refine Ok.mp ⟨_, rfl, m + q, fun d hd => ?_, by omega, by omega, hk1, by simp [tE]⟩
  have := hh d hd
  omega
theorem t6 {puts : List Deed} {p : List Int} (hl : puts.length ≤ 60) (hp : ∀ d ∈ puts, d ∈ found ∧ kn p d = true ∧ isPut d.w = true) (hk : CupOk k) : Ok (evS (run fns CC (n + 3)) CC (.asg (.nm 9) (.call i_law_some [.v 0, .bin .add (.lst [.tup [.k (.int 0), .k (.int 0)]]) (.comp (.ix (.v 16) (.k (.int 0))) (.nm 16) (.pl (.v 14)) (.k (.bl true)))])) (tE s many t known found a6 a7 a8 a9 a10 a11 a12 a13 (.val (.lst (puts.map eD))) a15)) k fun fl k' => ∃ ρ', fl = .nx ρ' ∧ ∃ a, SpotOk found p a ∧ CupOk k' ∧ ρ' = tE s many t known found a6 a7 a8 (.val (eM a)) a10 a11 a12 a13 (.val (.lst (puts.map eD))) a15 := by
  have f : filtL (cT (run fns CC (n + 3)) CC (.ix (.v 16) (.k (.int 0))) (.nm 16) (.k (.bl true)) (tE s many t known found a6 a7 a8 a9 a10 a11 a12 a13 (.val (.lst (puts.map eD))) a15)) (puts.map eD) = mp (puts.map fun d => eM d.m) :=
    filtL_all (fun d : Deed => eM d.m) fun d hd => by simp [cT, tE]
  simp only [tE] at f
  have ha : binD .add (.lst [.tup [.int 0, .int 0]]) (.lst (puts.map fun d => eM d.m)) = some (.lst (eM (0, 0) :: puts.map fun d => eM d.m)) := by
    rw [add_lst (by simp; omega)]
    rfl
  refine Ok.sim (by simp [tE, f, ha]; rfl) ?_
  refine (r_some_lst (n + 1) (by simp) (by simp; omega) k hk).bind fun r k1 ⟨⟨d, e, hd⟩, hk1⟩ => ?_
  subst e
  have : ∃ a, d = eM a ∧ SpotOk found p a := by
    rcases List.mem_cons.mp hd with rfl | hd
    · exact ⟨_, rfl, .inl rfl⟩
    · obtain ⟨e, he, rfl⟩ := List.mem_map.mp hd
      obtain ⟨h1, h2, h3⟩ := hp e he
      exact ⟨_, rfl, .inr ⟨e, h1, h2, rfl, h3⟩⟩
  obtain ⟨a, rfl, ha⟩ := this
  refine Ok.sim (by simp; rfl) ?_
  exact Ok.mp ⟨_, rfl, a, ha, hk1, by simp [tE]⟩
theorem t7 {own : List Deed} {p : List Int} {w : Int} {a : Mark} (ho : ∀ d ∈ own, SpotOk found p d.m ∧ SpotOk found p (wm d.w)) (ha : SpotOk found p a) (hk : CupOk k) : Ok (evS (run fns CC (n + 3)) CC (.if_ (.and (.cmp .ne (.v 15) (.lst [])) (.cmp .gt (.v 12) (.k (.int 1))))
  [.asg (.nm 9) (.ite (.cmp .lt (.v 12) (.k (.int 4))) (.ix (.ix (.v 15) (.neg (.k (.int 1)))) (.k (.int 0))) (.ix (.ix (.ix (.v 15) (.neg (.k (.int 1)))) (.k (.int 3))) (.k (.int 1))))]
  []) (tE s many t known found a6 a7 a8 (.val (eM a)) a10 a11 (.val (.int w)) a13 a14 (.val (.lst (own.map eD))))) k fun fl k' => ∃ ρ', fl = .nx ρ' ∧ ∃ a, SpotOk found p a ∧ CupOk k' ∧ ρ' = tE s many t known found a6 a7 a8 (.val (eM a)) a10 a11 (.val (.int w)) a13 a14 (.val (.lst (own.map eD))) := by
  cases ho' : own.isEmpty with
  | true =>
    refine Ok.sim (by simp [tE, ho']; rfl) ?_
    exact Ok.mp ⟨_, rfl, a, ha, hk, by simp [tE]⟩
  | false =>
    have hne : own ≠ [] := by rintro rfl; simp at ho'
    have il := ix_last (enc := eD) hne
    obtain ⟨o1, o2⟩ := ho _ (List.getLast_mem hne)
    by_cases hw : 1 < w
    · by_cases hw2 : w < 4
      · refine Ok.sim (by simp [tE, ho', hw, hw2, il]; rfl) ?_
        exact Ok.mp ⟨_, rfl, _, o1, hk, by simp [tE]⟩
      · refine Ok.sim (by simp [tE, ho', hw, hw2, il]; rfl) ?_
        exact Ok.mp ⟨_, rfl, _, o2, hk, by simp [tE]⟩
    · refine Ok.sim (by simp [tE, ho', hw]; rfl) ?_
      exact Ok.mp ⟨_, rfl, a, ha, hk, by simp [tE]⟩
theorem t8 {a : Mark} (hk : CupOk k) : Ok (evS (run fns CC (n + 3)) CC (.asg (.nm 10) (.tup [.k (.str [112, 117, 116]), .v 9, .ix (.k (.str [97, 98, 99, 120, 121, 122])) (.call i_law_roll [.v 0, .k (.int 6)])])) (tE s many t known found a6 a7 a8 (.val (eM a)) a10 a11 a12 a13 a14 a15)) k fun fl k' => ∃ ρ', fl = .nx ρ' ∧ ∃ c, (97 ≤ c ∧ c ≤ 122) ∧ CupOk k' ∧ ρ' = tE s many t known found a6 a7 a8 (.val (eM a)) (.val (eW (.put a c))) a11 a12 a13 a14 a15 := by
  refine Ok.sim (by simp [tE]; rfl) ?_
  refine (r_roll (n + 2) 6 (by omega) (by omega) k hk).bind fun r k1 ⟨⟨q, e, q0, q1⟩, hk1⟩ => ?_
  subst e
  obtain ⟨c, hc, hm⟩ := ix_str (xs := [97, 98, 99, 120, 121, 122]) q0 (by simpa using q1)
  refine Ok.sim (by simp [hc]; rfl) ?_
  refine Ok.mp ⟨_, rfl, c, ?_, hk1, by simp [tE, eW]⟩
  simp at hm
  omega
theorem t9 {p : List Int} {puts : List Deed} {a : Mark} {c : Nat} (hl : puts.length ≤ 60) (hp : ∀ d ∈ puts, d ∈ found ∧ kn p d = true ∧ isPut d.w = true) (ha : SpotOk found p a) (hc : 97 ≤ c ∧ c ≤ 122) (hk : CupOk k) : Ok (evS (run fns CC (n + 3)) CC (.if_ (.and (.cmp .ne (.v 14) (.lst [])) (.cmp .eq (.call i_law_roll [.v 0, .k (.int 7)]) (.k (.int 0))))
  [.asg (.nm 10) (.tup [.k (.str [116, 97, 107, 101]), .ix (.call i_law_some [.v 0, .v 14]) (.k (.int 0))])]
  []) (tE s many t known found a6 a7 a8 a9 (.val (eW (.put a c))) a11 a12 a13 (.val (.lst (puts.map eD))) a15)) k fun fl k' => ∃ ρ', fl = .nx ρ' ∧ ∃ w, ((∀ a c, w = .put a c → 97 ≤ c ∧ c ≤ 122) ∧ ((isPut w = true ∧ wm w = (0, 0)) ∨ ∃ e ∈ found, kn p e = true ∧ e.m = wm w ∧ isPut e.w = true)) ∧ CupOk k' ∧ ρ' = tE s many t known found a6 a7 a8 a9 (.val (eW w)) a11 a12 a13 (.val (.lst (puts.map eD))) a15 := by
  have good : ((∀ a' c', What.put a c = .put a' c' → 97 ≤ c' ∧ c' ≤ 122) ∧ ((isPut (.put a c) = true ∧ wm (.put a c) = (0, 0)) ∨ ∃ e ∈ found, kn p e = true ∧ e.m = wm (.put a c) ∧ isPut e.w = true)) := by
    refine ⟨fun a' c' e => ?_, ?_⟩
    · cases e; exact hc
    · rcases ha with rfl | h
      · exact .inl ⟨rfl, rfl⟩
      · exact .inr h
  cases hpe : puts.isEmpty with
  | true =>
    refine Ok.sim (by simp [tE, hpe]; rfl) ?_
    exact Ok.mp ⟨_, rfl, _, good, hk, by simp [tE]⟩
  | false =>
    have hne : puts ≠ [] := by rintro rfl; simp at hpe
    refine Ok.sim (by simp [tE, hpe]; rfl) ?_
    refine (r_roll (n + 2) 7 (by omega) (by omega) k hk).bind fun r k1 ⟨⟨q, e, q0, q1⟩, hk1⟩ => ?_
    subst e
    by_cases hq : q = 0
    · refine Ok.sim (by simp [hq]; rfl) ?_
      have := List.length_pos_iff.mpr hne
      refine (r_some_lst (n + 1) (xs := puts.map eD) (by simp; omega) (by simp; omega) k1 hk1).bind fun r k2 ⟨⟨d, e, hd⟩, hk2⟩ => ?_
      subst e
      obtain ⟨e, he, rfl⟩ := List.mem_map.mp hd
      obtain ⟨h1, h2, h3⟩ := hp e he
      refine Ok.sim (by simp; rfl) ?_
      exact Ok.mp ⟨_, rfl, .take e.m, ⟨nofun, .inr ⟨e, h1, h2, rfl, h3⟩⟩, hk2, by simp [tE, eW]⟩
    · refine Ok.sim (by simp [hq]; rfl) ?_
      exact Ok.mp ⟨_, rfl, _, good, hk1, by simp [tE]⟩
theorem t10 {i : Nat} {p : List Int} {c : Int} {w : What} (hl : found.length ≤ 60) (hi : i < p.length) (hk : CupOk k) : Ok (evS (run fns CC (n + 3)) CC (.app 5 (.tup [.tup [.v 8, .v 11], .bin .add (.ix (.v 6) (.v 11)) (.k (.int 1)), .v 6, .v 10])) (tE s many t known found (.val (eV p)) a7 (.val (.int c)) a9 (.val (eW w)) (.val (.int i)) a12 a13 a14 a15)) k fun fl k' => ∃ ρ', fl = .nx ρ' ∧ CupOk k' ∧ ρ' = tE s many t known (found ++ [⟨(c, i), vat p i + 1, p, w⟩]) (.val (eV p)) a7 (.val (.int c)) a9 (.val (eW w)) (.val (.int i)) a12 a13 a14 a15 := by
  have x := ix_v (p := p) (i := i) (by omega) (by omega)
  have ml := mlen_ok (n := found.length + 1) (by omega)
  refine Ok.sim (by simp [tE, x, ml]; rfl) ?_
  exact Ok.mp ⟨_, rfl, hk, by simp [tE, eD, eM]⟩
theorem t11 {i : Nat} {p : List Int} (hi : i < p.length) (hp : p.length ≤ 4) (hk' : i < known.length) (hk : CupOk k) : Ok (evS (run fns CC (n + 3)) CC (.sets 4 (.v 11) (.bin .add (.bin .add (.sl (.v 6) (.k .non) (.v 11)) (.tup [.bin .add (.ix (.v 6) (.v 11)) (.k (.int 1))])) (.sl (.v 6) (.bin .add (.v 11) (.k (.int 1))) (.k .non)))) (tE s many t known found (.val (eV p)) a7 a8 a9 a10 (.val (.int i)) a12 a13 a14 a15)) k fun fl k' => ∃ ρ', fl = .nx ρ' ∧ CupOk k' ∧ ρ' = tE s many t (known.set i (p.set i (vat p i + 1))) found (.val (eV p)) a7 a8 a9 a10 (.val (.int i)) a12 a13 a14 a15 := by
  have x := ix_v (p := p) (i := i) (by omega) (by omega)
  have s1 : slD (eV p) none (some (i : Int)) = some (.tup ((p.take i).map D.int)) := by
    show some (D.tup (cutD (p.map D.int) none (some (i : Int)))) = _
    rw [cut_hi _ (by omega)]
    simp
  have s2 : slD (eV p) (some ((i : Int) + 1)) none = some (.tup ((p.drop (i + 1)).map D.int)) := by
    show some (D.tup (cutD (p.map D.int) (some ((i : Int) + 1)) none)) = _
    rw [cut_lo _ (by omega), show ((i : Int) + 1).toNat = i + 1 by omega]
    simp
  have b1 : binD .add (.tup ((p.take i).map D.int)) (.tup [.int (vat p i + 1)]) = some (.tup ((p.take i ++ [vat p i + 1]).map D.int)) := by
    rw [add_tup (by simp; omega)]; simp
  have b2 : binD .add (.tup ((p.take i ++ [vat p i + 1]).map D.int)) (.tup ((p.drop (i + 1)).map D.int)) = some (eV (p.set i (vat p i + 1))) := by
    rw [add_tup (by simp; omega), List.set_eq_take_append_cons_drop, if_pos hi]
    simp [eV]
  have sl := setL_map (enc := eV) (l := known) (i := i) (p.set i (vat p i + 1)) (by omega) (by omega)
  refine Ok.sim (by simp [tE, x, s1, s2, b1, b2, sl, -List.map_append, -List.map_set, -List.append_assoc, -List.map_take, -List.map_drop]; rfl) ?_
  exact Ok.mp ⟨_, rfl, hk, by simp [tE, List.map_set]⟩
end
end KL
end

section
set_option Elab.async false
set_option linter.all false
set_option maxRecDepth 100000
/-! P5: sorting; deeds drawn. -/
namespace KL
open EV
section
variable {α : Type} {le : α → α → Bool}
theorem insD_perm (x : α) : ∀ l : List α, (insD le x l).Perm (x :: l)
  | [] => List.Perm.refl _
  | y :: ys => by
    unfold insD
    split
    · exact List.Perm.refl _
    · exact (List.Perm.cons y (insD_perm x ys)).trans (List.Perm.swap x y ys)
theorem sortD_perm : ∀ l : List α, (sortD le l).Perm l
  | [] => List.Perm.refl _
  | x :: xs => (insD_perm x _).trans (List.Perm.cons x (sortD_perm xs))
theorem insD_pw (tot : ∀ a b, le a b = true ∨ le b a = true) (tr : ∀ a b c, le a b = true → le b c = true → le a c = true) (x : α) : ∀ l : List α, l.Pairwise (fun a b => le a b = true) → (insD le x l).Pairwise fun a b => le a b = true
  | [], _ => List.pairwise_singleton _ _
  | y :: ys, h => by
    obtain ⟨h1, h2⟩ := List.pairwise_cons.mp h
    unfold insD
    split
    · rename_i hxy
      refine List.pairwise_cons.mpr ⟨fun z hz => ?_, h⟩
      rcases List.mem_cons.mp hz with rfl | hz
      · exact hxy
      · exact tr _ _ _ hxy (h1 z hz)
    · rename_i hxy
      refine List.pairwise_cons.mpr ⟨fun z hz => ?_, insD_pw tot tr x ys h2⟩
      rcases List.mem_cons.mp ((insD_perm x ys).mem_iff.mp hz) with rfl | hz
      · exact (tot z y).resolve_left hxy
      · exact h1 z hz
theorem sortD_pw (tot : ∀ a b, le a b = true ∨ le b a = true) (tr : ∀ a b c, le a b = true → le b c = true → le a c = true) : ∀ l : List α, (sortD le l).Pairwise fun a b => le a b = true
  | [] => List.Pairwise.nil
  | x :: xs => insD_pw tot tr x _ (sortD_pw tot tr xs)
theorem insD_first (x : α) (l : List α) (h : ∀ y ∈ l, le x y = true) : insD le x l = x :: l := by
  cases l with
  | nil => rfl
  | cons y ys => simp [insD, h y (by simp)]
/-- what is sorted stays -/
theorem sortD_id : ∀ {l : List α}, l.Pairwise (fun a b => le a b = true) → sortD le l = l
  | [], _ => rfl
  | x :: xs, h => by
    obtain ⟨h1, h2⟩ := List.pairwise_cons.mp h
    unfold sortD
    rw [sortD_id h2, insD_first x xs h1]
/-- one order, one row -/
theorem sort_uniq {l k : List α} (anti : ∀ a b, le a b = true → le b a = true → a = b) (p : l.Perm k) (h1 : l.Pairwise fun a b => le a b = true) (h2 : k.Pairwise fun a b => le a b = true) : l = k :=
  List.Perm.eq_of_pairwise (le := fun a b => le a b = true) (fun a b _ _ => anti a b) h1 h2 p
end
theorem insD_map {α β : Type} {le : α → α → Bool} {le' : β → β → Bool} {f : β → α} (x : β) : ∀ l : List β, (∀ y ∈ l, le (f x) (f y) = le' x y) → insD le (f x) (l.map f) = (insD le' x l).map f
  | [], _ => rfl
  | y :: ys, h => by
    simp only [List.map_cons, insD, h y (by simp)]
    split
    · rfl
    · rw [List.map_cons, insD_map x ys fun z hz => h z (by simp [hz])]
theorem sortD_map {α β : Type} {le : α → α → Bool} {le' : β → β → Bool} {f : β → α} : ∀ l : List β, (∀ x ∈ l, ∀ y ∈ l, le (f x) (f y) = le' x y) → sortD le (l.map f) = (sortD le' l).map f
  | [], _ => rfl
  | x :: xs, h => by
    simp only [List.map_cons, sortD]
    rw [sortD_map xs fun a ha b hb => h a (by simp [ha]) b (by simp [hb])]
    exact insD_map x _ fun y hy => h x (by simp) y (by simp [(sortD_perm xs).mem_iff.mp hy])
/-! ### one and the same -/
mutual
theorem eqD_refl : ∀ d : D, plainD d = true → eqD d d = true
  | .non, _ => rfl
  | .bl a, _ => by simp [eqD]
  | .int a, _ => by simp [eqD]
  | .str a, _ => by simp [eqD]
  | .tup xs, h => by simp only [eqD]; exact eqL_refl xs (by simpa [plainD] using h)
  | .lst xs, h => by simp only [eqD]; exact eqL_refl xs (by simpa [plainD] using h)
  | .dic _, h => by simp [plainD] at h
  | .fn _, h => by simp [plainD] at h
theorem eqL_refl : ∀ xs : List D, plainL xs = true → eqL xs xs = true
  | [], _ => rfl
  | x :: xs, h => by
    simp only [plainL, Bool.and_eq_true] at h
    simp only [eqL, eqD_refl x h.1, eqL_refl xs h.2, Bool.and_self]
end
theorem ltN_irr : ∀ x : List Nat, ltN x x = false
  | [] => rfl
  | x :: xs => by simp [ltN, ltN_irr xs]
mutual
theorem ltD_irr : ∀ d : D, ltD d d = false
  | .non => rfl
  | .bl a => by simp [ltD]
  | .int a => by simp [ltD]
  | .str a => by simp only [ltD]; exact ltN_irr a
  | .tup xs => by simp only [ltD]; exact ltL_irr xs
  | .lst xs => by simp only [ltD]; exact ltL_irr xs
  | .dic _ => rfl
  | .fn _ => rfl
theorem ltL_irr : ∀ xs : List D, ltL xs xs = false
  | [] => rfl
  | x :: xs => by
    simp only [ltL, ltD_irr x, ltL_irr xs]
    split <;> rfl
end
/-! ### marks -/
def mle (a b : Mark) : Bool := !mlt b a
theorem mlt_irr (a : Mark) : mlt a a = false := by simp [mlt]
theorem mlt_iff {a b : Mark} : mlt a b = true ↔ a.1 < b.1 ∨ (a.1 = b.1 ∧ a.2 < b.2) := by
  unfold mlt
  by_cases h : a.1 = b.1 <;> simp [h]
theorem mle_iff {a b : Mark} : mle a b = true ↔ a.1 < b.1 ∨ (a.1 = b.1 ∧ a.2 ≤ b.2) := by
  have := @mlt_iff b a
  unfold mle
  cases h : mlt b a
  · simp only [h, Bool.false_eq_true, false_iff] at this
    simp
    omega
  · simp only [h, true_iff] at this
    simp
    omega
theorem mle_tot (a b : Mark) : mle a b = true ∨ mle b a = true := by
  simp only [mle_iff]; omega
theorem mle_tr (a b c : Mark) (h1 : mle a b = true) (h2 : mle b c = true) : mle a c = true := by
  simp only [mle_iff] at *; omega
theorem mle_anti (a b : Mark) (h1 : mle a b = true) (h2 : mle b a = true) : a = b := by
  simp only [mle_iff] at *
  have h3 : a.1 = b.1 := by omega
  have h4 : a.2 = b.2 := by omega
  exact Prod.ext h3 h4
theorem mle_ne {a b : Mark} (h : mle a b = true) (hn : a ≠ b) : mlt a b = true := by
  cases h2 : mlt a b
  · exact absurd (mle_anti a b h (by simp [mle, h2])) hn
  · rfl
theorem mlt_le {a b : Mark} (h : mlt a b = true) : mle a b = true := by
  simp only [mle_iff, mlt_iff] at *; omega
theorem leD_m (a b : Mark) : leD (eM a) (eM b) = mle a b := by simp only [leD, mle, ltD_m]
theorem alikeL_map {α β : Type} {f : α → D} {g : β → D} (h : ∀ a b, alikeD (f a) (g b) = true) : ∀ (l : List α) (k : List β), alikeL (l.map f) (k.map g) = true
  | [], _ => by simp [alikeL]
  | _ :: _, [] => by simp [alikeL]
  | x :: l, y :: k => by simp only [List.map_cons, alikeL, h x y, alikeL_map h l k, Bool.and_self]
theorem alike_m (a b : Mark) : alikeD (eM a) (eM b) = true := (rfl)
theorem alike_v (a b : List Int) : alikeD (eV a) (eV b) = true := by
  simp only [eV, alikeD]
  exact alikeL_map (fun _ _ => rfl) a b
theorem alike_w (a b : What) : alikeD (eW a) (eW b) = true := by cases a <;> cases b <;> rfl
theorem alike_d (a b : Deed) : alikeD (eD a) (eD b) = true := by
  simp only [eD, alikeD, alikeL, alike_m, alike_v, alike_w, Bool.and_self]
/-- sorted rows of tuples -/
theorem sorted_map {α : Type} {kt : D → Bool} {enc : α → D} {le : α → α → Bool} {l : List α} {k : Nat} (hk : k ≤ 60) (h1 : ∀ a ∈ l, ∀ b ∈ l, alikeD (enc a) (enc b) = true) (h2 : ∀ a ∈ l, ∃ x xs, enc a = .tup (x :: xs)) (h3 : ∀ a ∈ l, Fl0 k (enc a)) (hl : ∀ a ∈ l, ∀ b ∈ l, leD (enc a) (enc b) = le a b) :
    biD kt .sorted [.lst (l.map enc)] = some (.lst ((sortD le l).map enc)) := by
  have ok : sortOk (l.map enc) = true := by
    unfold sortOk
    have e1 : (l.map enc).all (fun x => (l.map enc).all fun y => alikeD x y) = true := by
      simp only [List.all_eq_true, List.mem_map]
      rintro _ ⟨a, ha, rfl⟩ _ ⟨b, hb, rfl⟩
      exact h1 a ha b hb
    have e3 : (l.map enc).all okD = true := by
      simp only [List.all_eq_true, List.mem_map]
      rintro _ ⟨a, ha, rfl⟩
      exact (h3 a ha).ok hk
    simp only [Bool.and_eq_true, Bool.or_eq_true]
    refine ⟨⟨e1, .inl ?_⟩, e3⟩
    simp only [List.all_eq_true, List.mem_map]
    rintro _ ⟨a, ha, rfl⟩
    obtain ⟨x, xs, e⟩ := h2 a ha
    rw [e]
  show ((itemsD (.lst (l.map enc))).bind fun xs => if sortOk xs then some (D.lst (sortD leD xs)) else none) = _
  simp only [itemsD, Option.bind_some, ok, if_true, sortD_map l hl]
theorem sorted_ms {kt : D → Bool} (l : List Mark) : biD kt .sorted [.lst (l.map eM)] = some (.lst ((sortD mle l).map eM)) :=
  sorted_map (k := 1) (by omega) (fun a _ b _ => alike_m a b) (fun a _ => ⟨_, _, rfl⟩) (fun a _ => fl_m a) fun a _ b _ => leD_m a b
/-- deeds by their marks -/
def dle (a b : Deed) : Bool := mle a.m b.m
theorem leD_d {a b : Deed} (h : a.m = b.m → a = b) : leD (eD a) (eD b) = dle a b := by
  by_cases e : a.m = b.m
  · have := h e
    subst this
    unfold leD dle mle
    rw [ltD_irr, mlt_irr]
  · have e2 : ¬ b.m = a.m := fun h => e h.symm
    unfold leD dle mle eD
    simp only [ltD, ltL, eqD_m, ltD_m]
    simp [e2]
theorem sorted_ds {kt : D → Bool} (l : List Deed) (h : ∀ a ∈ l, ∀ b ∈ l, a.m = b.m → a = b) : biD kt .sorted [.lst (l.map eD)] = some (.lst ((sortD dle l).map eD)) :=
  sorted_map (k := 3) (by omega) (fun a _ b _ => alike_d a b) (fun a _ => ⟨_, _, rfl⟩) (fun a _ => fl_d a) fun a ha b hb => leD_d (h a ha b hb)
theorem dle_tot (a b : Deed) : dle a b = true ∨ dle b a = true := mle_tot _ _
theorem dle_tr (a b c : Deed) : dle a b = true → dle b c = true → dle a c = true := mle_tr _ _ _
/-! ### what is drawn is well -/
theorem pw_zip {α : Type} {R : α → α → Prop} : ∀ {l : List α}, l.Pairwise R → ∀ z ∈ l.zip l.tail, R z.1 z.2
  | [], _, z, hz => by simp at hz
  | [x], _, z, hz => by simp at hz
  | x :: y :: l, h, z, hz => by
    obtain ⟨h1, h2⟩ := List.pairwise_cons.mp h
    simp only [List.tail_cons, List.zip_cons_cons] at hz
    rcases List.mem_cons.mp hz with rfl | hz
    · exact h1 y (by simp)
    · exact pw_zip h2 z hz
theorem Gen.inj {s : Nat} {known : List (List Int)} {found : List Deed} (G : Gen s known found) : found.Pairwise fun a b => a.m ≠ b.m := by
  refine G.inc.imp fun {a b} h e => ?_
  have := h (by rw [e])
  rw [e] at this
  omega
theorem pw_inj {l : List Deed} (h : l.Pairwise fun a b => a.m ≠ b.m) : ∀ a ∈ l, ∀ b ∈ l, a.m = b.m → a = b := by
  induction h with
  | nil => simp
  | cons h1 h2 ih =>
    intro a ha b hb e
    rcases List.mem_cons.mp ha with rfl | ha <;> rcases List.mem_cons.mp hb with rfl | hb
    · rfl
    · exact absurd e (h1 b (by assumption))
    · exact absurd e.symm (h1 a (by assumption))
    · exact ih a ha b hb e
theorem sum_perm {l k : List Int} (h : l.Perm k) : l.sum = k.sum := by
  induction h with
  | nil => rfl
  | cons x _ ih => simp only [List.sum_cons, ih]
  | swap x y l => simp only [List.sum_cons]; omega
  | trans _ _ h1 h2 => rw [h1, h2]
theorem InOk.perm {l k : List Deed} (p : l.Perm k) {d : Deed} (h : InOk l d) : InOk k d := by
  refine ⟨?_, fun e he => h.less e (p.mem_iff.mpr he), fun e he => h.below e (p.mem_iff.mpr he), ?_⟩
  · rw [← h.sum]
    exact congrArg Int.ofNat (p.filter _).length_eq.symm
  · rcases h.named with h | ⟨e, he, h⟩
    · exact .inl h
    · exact .inr ⟨e, p.mem_iff.mp he, h⟩
theorem Gen.valid {s : Nat} {known : List (List Int)} {found : List Deed} (G : Gen s known found) (h1 : 1 ≤ s) (h4 : s ≤ 4) (hl : found.length ≤ 60) : Valid s (sortD dle found) := by
  have p : (sortD dle found).Perm found := sortD_perm found
  have pw := sortD_pw dle_tot dle_tr found
  have nm : (sortD dle found).Pairwise fun a b => a.m ≠ b.m := (List.Perm.pairwise_iff (fun h e => h e.symm) p).mpr G.inj
  have strict : (sortD dle found).Pairwise fun a b => mlt a.m b.m = true := (pw.and nm).imp fun {a b} h => mle_ne h.1 h.2
  refine ⟨h1, h4, by rw [p.length_eq]; exact hl, fun d hd => G.ok d (p.mem_iff.mp hd), fun z hz => pw_zip strict z hz, fun j hj => ?_, fun d hd => (G.inn d (p.mem_iff.mp hd)).perm p.symm⟩
  have e : (sortD dle found).filter (st j) = found.filter (st j) := by
    have pf := p.filter (st j)
    refine List.Perm.eq_of_pairwise (le := fun a b => a.m.1 < b.m.1) (fun a b _ _ h1 h2 => absurd h1 (by omega)) ?_ ?_ pf
    · refine List.Pairwise.imp_of_mem (fun {a b} ha hb h => ?_) (strict.sublist List.filter_sublist)
      have h1 := (List.mem_filter.mp ha).2
      have h2 := (List.mem_filter.mp hb).2
      simp only [st, decide_eq_true_eq] at h1 h2
      rcases mlt_iff.mp h with h | h
      · exact h
      · omega
    · refine List.Pairwise.imp_of_mem (fun {a b} ha hb h => ?_) (G.inc.sublist List.filter_sublist)
      have h1 := (List.mem_filter.mp ha).2
      have h2 := (List.mem_filter.mp hb).2
      simp only [st, decide_eq_true_eq] at h1 h2
      exact h (by omega)
  rw [e]
  exact G.nums.nums j hj
end KL
end

section
set_option Elab.async false
set_option linter.all false
set_option maxRecDepth 100000
/-! P6: deeds drawn, whole. -/
namespace KL
open EV
theorem zeros (s : Nat) (h4 : s ≤ 4) : binD .mul (.tup [.int 0]) (.int s) = some (eV (List.replicate s 0)) := by
  have : s = 0 ∨ s = 1 ∨ s = 2 ∨ s = 3 ∨ s = 4 := by omega
  rcases this with rfl | rfl | rfl | rfl | rfl <;> rfl
theorem typed_turn {n s many : Nat} {known : List (List Int)} {found : List Deed} {a6 a7 a8 a9 a10 a11 a12 a13 a14 a15 : Slot} {k : Cup} {t : Slot} (h1 : 1 ≤ s) (h4 : s ≤ 4) (hj : found.length < 50) (hk : CupOk k) (G : Gen s known found) {b : List IS} (hb : f_law_typed.body[1]? = some (.for_ (.nm 3) (.rng [.v 2]) b)) :
    Ok (evSs (run fns CC (n + 3)) CC b (tE s many t known found a6 a7 a8 a9 a10 a11 a12 a13 a14 a15)) k fun fl k' => ∃ ρ', fl = .nx ρ' ∧ ∃ known' d b6 b7 b8 b9 b10 b11 b12 b13 b14 b15, Gen s known' (found ++ [d]) ∧ CupOk k' ∧ ρ' = tE s many t known' (found ++ [d]) b6 b7 b8 b9 b10 b11 b12 b13 b14 b15 := by
  unfold f_law_typed at hb
  simp only [List.getElem?_cons_succ, List.getElem?_cons_zero, Option.some.injEq, IS.for_.injEq] at hb
  obtain ⟨-, -, rfl⟩ := hb
  refine okSs (t0 h1 h4 hk) ?_
  rintro _ k ⟨i, w, hi, hk, rfl⟩
  refine okSs (t1 h1 h4 hi hk G) ?_
  rintro _ k ⟨known, b13, G, hk, rfl⟩
  refine okSs (t2 hi hk G) ?_
  rintro _ k ⟨hk, rfl⟩
  have mi := G.mem hi
  have li := G.vl _ mi
  have hpp : ∀ d ∈ found, 0 ≤ d.m.2 ∧ d.m.2 < (known.getD i []).length := by rw [li]; exact G.nums.site
  refine okSs (t3 hpp hk) ?_
  rintro _ k ⟨hk, rfl⟩
  refine okSs (t4 hk) ?_
  rintro _ k ⟨hk, rfl⟩
  have ml : (found.filter (kn (known.getD i []))).length ≤ found.length := List.length_filter_le _ _
  refine okSs (t5 (b := 3 * found.length) (by omega) (fun d hd => G.cb d (List.mem_filter.mp hd).1) (by omega) hk) ?_
  rintro _ k ⟨c, hc, c1, c2, hk, rfl⟩
  have hputs : ∀ d ∈ (found.filter (kn (known.getD i []))).filter (fun d => isPut d.w), d ∈ found ∧ kn (known.getD i []) d = true ∧ isPut d.w = true := fun d hd => by
    obtain ⟨h1, h2⟩ := List.mem_filter.mp hd
    obtain ⟨h3, h4⟩ := List.mem_filter.mp h1
    exact ⟨h3, h4, h2⟩
  have pl : ((found.filter (kn (known.getD i []))).filter (fun d => isPut d.w)).length ≤ 60 := by
    have : ((found.filter (kn (known.getD i []))).filter (fun d => isPut d.w)).length ≤ (found.filter (kn (known.getD i []))).length := List.length_filter_le _ _
    omega
  refine okSs (t6 pl hputs hk) ?_
  rintro _ k ⟨a, ha, hk, rfl⟩
  refine okSs (t7 (fun d hd => ?_) ha hk) ?_
  · obtain ⟨h1, h2⟩ := List.mem_filter.mp hd
    obtain ⟨h3, h4⟩ := List.mem_filter.mp h1
    simp only [Bool.and_eq_true] at h2
    refine ⟨.inr ⟨d, h3, h4, rfl, h2.2⟩, ?_⟩
    rcases (G.inn d h3).named with hn | ⟨e, he, hk, hm, hp⟩
    · exact .inl hn
    · refine .inr ⟨e, he, ?_, hm, hp⟩
      have hv := G.clo _ mi d h3 h4
      have hs := G.nums.site e he
      have := (vle_iff (G.ok d h3).pl li).mp hv e.m.2.toNat (by omega)
      rw [show ((e.m.2.toNat : Nat) : Int) = e.m.2 by omega] at this
      simp only [kn, decide_eq_true_eq] at hk ⊢
      omega
  rintro _ k ⟨a, ha, hk, rfl⟩
  refine okSs (t8 hk) ?_
  rintro _ k ⟨c', hc', hk, rfl⟩
  refine okSs (t9 pl hputs ha hc' hk) ?_
  rintro _ k ⟨what, ⟨w1, w2⟩, hk, rfl⟩
  refine okSs (t10 (by omega) (by omega) hk) ?_
  rintro _ k ⟨hk, rfl⟩
  refine okSs (t11 (by omega) (by omega) (by rw [G.kl]; exact hi) hk) ?_
  rintro _ k ⟨hk, rfl⟩
  refine okNil ⟨_, _, _, _, _, _, _, _, _, _, _, _, G.push h4 (by omega) hi ⟨rfl, rfl, rfl, fun e he hke => hc e (List.mem_filter.mpr ⟨he, hke⟩), c1, ?_, w1, w2⟩, hk, rfl⟩
  show c ≤ _
  omega
theorem r_typed (n s many : Nat) (h1 : 1 ≤ s) (h4 : s ≤ 4) (hm : many ≤ 30) (k : Cup) (hk : CupOk k) : Ok (run fns CC (n + 4) i_law_typed [.cup, .val (.int s), .val (.int many)]) k fun r k' => (∃ ds, r.1 = eDs ds ∧ Valid s ds ∧ ds.length = many) ∧ CupOk k' := by
  rw [at_law_typed]
  have hr1 := rng_one (n := s) (by omega)
  have hr2 := rng_one (n := many) (by omega)
  have f : ∀ ρ : Env, ρ.length = 18 → Env.get ρ 1 = .val (.int s) → filtL (cT (run fns CC (n + 3)) CC (.bin .mul (.tup [.k (.int 0)]) (.v 1)) (.nm 11) (.k (.bl true)) ρ) ((List.range s).map fun i : Nat => D.int i) = mp (((List.range s).map fun _ => List.replicate s 0).map eV) := fun ρ hρ hg => by
    rw [List.map_map]
    refine filtL_all (enc := fun i : Nat => D.int i) (fun _ : Nat => eV (List.replicate s 0)) fun i _ => ?_
    have : Env.get (ρ.set 11 (.val (.int i))) 1 = .val (.int s) := by
      rw [← hg]
      simp [Env.get]
    simp [cT, this, zeros s h4]
  obtain ⟨b, hb⟩ : ∃ b, f_law_typed.body[1]? = some (.for_ (.nm 3) (.rng [.v 2]) b) := ⟨_, rfl⟩
  have hbody : f_law_typed.body = [.par [(4, true), (5, true)] [.comp (.bin .mul (.tup [.k (.int 0)]) (.v 1)) (.nm 11) (.rng [.v 1]) (.k (.bl true)), .lst []], .for_ (.nm 3) (.rng [.v 2]) b, .ret (.bi .tuple [.bi .sorted [.v 5]])] := by
    have hb' := hb
    unfold f_law_typed at hb'
    simp only [List.getElem?_cons_succ, List.getElem?_cons_zero, Option.some.injEq, IS.for_.injEq] at hb'
    obtain ⟨-, -, rfl⟩ := hb'
    rfl
  rw [hbody]
  let S : Nat → Env → Cup → Prop := fun j ρ k => ∃ t known found a6 a7 a8 a9 a10 a11 a12 a13 a14 a15, Gen s known found ∧ found.length = j ∧ CupOk k ∧ ρ = tE s many t known found a6 a7 a8 a9 a10 a11 a12 a13 a14 a15
  refine Ok.bind (P := fun fl k' => ∃ ds, fl = .rt (eDs ds) false ∧ (Valid s ds ∧ ds.length = many) ∧ CupOk k') ?_ ?_
  · refine okSs (P := fun ρ k' => S 0 ρ k') ?_ ?_
    · refine Ok.sim (by simp [hr1, f, Env.get, -List.map_map]; rfl) ?_
      exact Ok.mp ⟨_, rfl, .no, _, [], .no, .no, .no, .no, .no, .no, .no, .no, .no, .no, Gen.nil, rfl, hk, by simp [tE]⟩
    rintro ρ k hS
    refine okSs (P := fun ρ k' => S many ρ k') ?_ ?_
    · have e : evS (run fns CC (n + 3)) CC (.for_ (.nm 3) (.rng [.v 2]) b) ρ = forL (.nm 3) (evSs (run fns CC (n + 3)) CC b) ((List.range many).map fun i : Nat => D.int i) ρ := by
        obtain ⟨t, known, found, a6, a7, a8, a9, a10, a11, a12, a13, a14, a15, G, hl, hk, rfl⟩ := hS
        simp [tE, hr2]
      rw [e]
      have := forL_ok (t := .nm 3) (b := evSs (run fns CC (n + 3)) CC b) S (xs := (List.range many).map fun i : Nat => D.int i) (i := 0) (ρ := ρ) (k := k) (fun j x ρ k hx hI => ?_) hS
      · rw [List.length_map, List.length_range, Nat.zero_add] at this
        exact this
      · have hj : j < many := by
          have := (List.getElem?_eq_some_iff.mp hx).1
          simpa using this
        rw [Nat.zero_add] at hI ⊢
        obtain ⟨t, known, found, a6, a7, a8, a9, a10, a11, a12, a13, a14, a15, G, hl, hk, rfl⟩ := hI
        refine ⟨tE s many (.val x) known found a6 a7 a8 a9 a10 a11 a12 a13 a14 a15, by simp [tE], ?_⟩
        refine (typed_turn h1 h4 (by omega) hk G hb).imp ?_
        rintro fl k' ⟨ρ', rfl, known', d, b6, b7, b8, b9, b10, b11, b12, b13, b14, b15, G', hk', rfl⟩
        exact ⟨_, rfl, _, _, _, _, _, _, _, _, _, _, _, _, _, G', by simp [hl], hk', rfl⟩
    rintro ρ k ⟨t, known, found, a6, a7, a8, a9, a10, a11, a12, a13, a14, a15, G, hl, hk, rfl⟩
    have hs := sorted_ds (kt := CC.kt) found (pw_inj G.inj)
    refine Ok.sim (by simp [tE, hs]; rfl) ?_
    refine Ok.mp ⟨sortD dle found, rfl, ⟨G.valid h1 h4 (by omega), ?_⟩, hk⟩
    rw [(sortD_perm found).length_eq, hl]
  · rintro fl k' ⟨ds, rfl, h, hk⟩
    exact Ok.mp ⟨⟨ds, rfl, h⟩, hk⟩
end KL
end

section
set_option Elab.async false
set_option linter.all false
set_option maxRecDepth 100000
/-! P7: runs. -/
namespace KL
open EV
abbrev Run := List Mark
def eR (r : Run) : D := .tup (r.map eM)
def wayS (on : Bool) : List Nat := if on then [111, 110] else [98, 97, 99, 107]
def go (on : Bool) (b d : Deed) : Bool := isPut b.w && isPut d.w && decide (wm d.w = if on then b.m else wm b.w)
def push (acc : List Run) (x : Mark) : List Run := acc.dropLast ++ [acc.getLastD [] ++ [x]]
def prevGo (on : Bool) (l : List Deed) (j : Nat) (d : Deed) : Bool := match j with
  | 0 => false
  | i + 1 => match l[i]? with
    | some b => go on b d
    | none => false
def stepAt (on : Bool) (l : List Deed) (acc : List Run) (j : Nat) (d : Deed) : List Run := if prevGo on l j d = true then push acc d.m else if isPut d.w = true then acc ++ [[d.m]] else acc
def rowN (on : Bool) (l : List Deed) (acc : List Run) : Nat → List Run
  | 0 => acc
  | j + 1 => match l[j]? with
    | some d => stepAt on l (rowN on l acc j) j d
    | none => rowN on l acc j
def sitesN (on : Bool) (ds : List Deed) : Nat → List Run
  | 0 => []
  | j + 1 => rowN on (ds.filter (st j)) (sitesN on ds j) (ds.filter (st j)).length
def leR (a b : Run) : Bool := leD (eR a) (eR b)
def runs (on : Bool) (s : Nat) (ds : List Deed) : List Run := sortD leR (sitesN on ds s)
def puts (ds : List Deed) : List Deed := ds.filter fun d => isPut d.w
theorem zt_app (l : List Mark) (x y : Mark) : (l ++ [x] ++ [y]).zip (l ++ [x] ++ [y]).tail = (l ++ [x]).zip (l ++ [x]).tail ++ [(x, y)] := by
  induction l with
  | nil => rfl
  | cons a l ih => cases l with
    | nil => rfl
    | cons b l => simpa using ih
/-- two marks of a run, one behind the other -/
def Link (on : Bool) (ds : List Deed) (x y : Mark) : Prop := ∃ b ∈ ds, ∃ d ∈ ds, b.m = x ∧ d.m = y ∧ go on b d = true
structure RI (on : Bool) (ds l : List Deed) (acc0 : List Run) (j : Nat) (acc : List Run) : Prop where
  ne : ∀ r ∈ acc, r ≠ []
  fl : acc.flatten = acc0.flatten ++ (puts (l.take j)).map (·.m)
  last : ∀ i b, j = i + 1 → l[i]? = some b → isPut b.w = true → ∃ h r, acc = h ++ [r ++ [b.m]]
  lnk : ∀ r ∈ acc, ∀ z ∈ r.zip r.tail, Link on ds z.1 z.2
theorem push_app (h : List Run) (r : Run) (x : Mark) : push (h ++ [r]) x = h ++ [r ++ [x]] := by simp [push]
theorem take_one {l : List Deed} {j : Nat} {d : Deed} (h : l[j]? = some d) : l.take (j + 1) = l.take j ++ [d] := by
  rw [List.take_add_one, h]; rfl
theorem puts_one {l : List Deed} {j : Nat} {d : Deed} (h : l[j]? = some d) : (puts (l.take (j + 1))).map (·.m) = (puts (l.take j)).map (·.m) ++ if isPut d.w = true then [d.m] else [] := by
  rw [take_one h]
  unfold puts
  rw [filter_app]
  by_cases hp : isPut d.w = true <;> simp [hp]
theorem RI.step {on : Bool} {ds l : List Deed} {acc0 acc : List Run} {j : Nat} {d : Deed} (R : RI on ds l acc0 j acc) (hl : ∀ x ∈ l, x ∈ ds) (hd : l[j]? = some d) : RI on ds l acc0 (j + 1) (stepAt on l acc j d) := by
  have e1 := puts_one hd
  unfold stepAt
  by_cases hg : prevGo on l j d = true
  · rw [if_pos hg]
    cases j with
    | zero => cases hg
    | succ i =>
      cases hb : l[i]? with
      | none => simp [prevGo, hb] at hg
      | some b =>
        simp only [prevGo, hb] at hg
        have hg' := hg
        simp only [go, Bool.and_eq_true] at hg
        obtain ⟨h, r, rfl⟩ := R.last i b rfl hb hg.1.1
        rw [push_app]
        rw [if_pos hg.1.2] at e1
        refine ⟨fun r' hr' => ?_, ?_, fun i' b' e he hp => ?_, fun r' hr' z hz => ?_⟩
        · rcases List.mem_append.mp hr' with hr' | hr'
          · exact R.ne r' (List.mem_append_left _ hr')
          · rw [List.mem_singleton.mp hr']; simp
        · have := R.fl
          rw [List.flatten_append] at this ⊢
          rw [e1, ← List.append_assoc, ← this]
          simp
        · cases e
          rw [hd] at he
          cases he
          exact ⟨h, r ++ [b.m], rfl⟩
        · rcases List.mem_append.mp hr' with hr' | hr'
          · exact R.lnk r' (List.mem_append_left _ hr') z hz
          · rw [List.mem_singleton.mp hr', zt_app] at hz
            rcases List.mem_append.mp hz with hz | hz
            · exact R.lnk (r ++ [b.m]) (by simp) z hz
            · rw [List.mem_singleton.mp hz]
              exact ⟨b, hl b (List.mem_of_getElem? hb), d, hl d (List.mem_of_getElem? hd), rfl, rfl, hg'⟩
  · rw [if_neg hg]
    by_cases hp : isPut d.w = true
    · rw [if_pos hp] at e1 ⊢
      refine ⟨fun r' hr' => ?_, ?_, fun i' b' e he hp => ?_, fun r' hr' z hz => ?_⟩
      · rcases List.mem_append.mp hr' with hr' | hr'
        · exact R.ne r' hr'
        · rw [List.mem_singleton.mp hr']; simp
      · rw [List.flatten_append, R.fl, e1]
        simp
      · cases e
        rw [hd] at he
        cases he
        exact ⟨acc, [], rfl⟩
      · rcases List.mem_append.mp hr' with hr' | hr'
        · exact R.lnk r' hr' z hz
        · rw [List.mem_singleton.mp hr'] at hz
          simp at hz
    · rw [if_neg hp] at e1 ⊢
      refine ⟨R.ne, by rw [e1, R.fl]; simp, fun i' b' e he hp' => ?_, R.lnk⟩
      cases e
      rw [hd] at he
      cases he
      exact absurd hp' hp
theorem RI.row {on : Bool} {ds l : List Deed} {acc0 : List Run} (hl : ∀ x ∈ l, x ∈ ds) (h1 : ∀ r ∈ acc0, r ≠ []) (h2 : ∀ r ∈ acc0, ∀ z ∈ r.zip r.tail, Link on ds z.1 z.2) : ∀ j, j ≤ l.length → RI on ds l acc0 j (rowN on l acc0 j)
  | 0, _ => ⟨h1, by simp [rowN, puts], fun _ _ e => (by cases e), h2⟩
  | j + 1, hj => by
    have ih := RI.row hl h1 h2 j (by omega)
    have hd : l[j]? = some l[j] := List.getElem?_eq_getElem (by omega)
    simp only [rowN, hd]
    exact ih.step hl hd
/-- all sites up to one -/
structure SI (on : Bool) (ds : List Deed) (j : Nat) (acc : List Run) : Prop where
  ne : ∀ r ∈ acc, r ≠ []
  fl : acc.flatten = ((List.range j).map fun i => (puts (ds.filter (st i))).map (·.m)).flatten
  lnk : ∀ r ∈ acc, ∀ z ∈ r.zip r.tail, Link on ds z.1 z.2
theorem SI.all (on : Bool) (ds : List Deed) : ∀ j, SI on ds j (sitesN on ds j)
  | 0 => ⟨by simp [sitesN], by simp [sitesN], by simp [sitesN]⟩
  | j + 1 => by
    have ih := SI.all on ds j
    have R := RI.row (on := on) (ds := ds) (l := ds.filter (st j)) (fun x hx => (List.mem_filter.mp hx).1) ih.ne ih.lnk _ (Nat.le_refl _)
    refine ⟨R.ne, ?_, R.lnk⟩
    have := R.fl
    rw [List.take_length, ih.fl] at this
    rw [List.range_succ, List.map_append, List.flatten_append]
    simpa [sitesN] using this
theorem site_perm (s : Nat) : ∀ l : List Deed, (∀ d ∈ l, 0 ≤ d.m.2 ∧ d.m.2 < s) → (((List.range s).map fun i => l.filter (st i)).flatten).Perm l
  | [], _ => by
    have : ((List.range s).map fun i => ([] : List Deed).filter (st i)).flatten = [] := by
      simp
    rw [this]
  | d :: l, h => by
    have ih := site_perm s l fun e he => h e (by simp [he])
    obtain ⟨h0, h1⟩ := h d (by simp)
    have key : ∀ n, ((((List.range n).map fun i => (d :: l).filter (st i)).flatten).Perm ((if d.m.2 < n then [d] else []) ++ ((List.range n).map fun i => l.filter (st i)).flatten)) := by
      intro n
      induction n with
      | zero =>
        have : ¬ d.m.2 < ((0 : Nat) : Int) := by omega
        rw [if_neg this]
        exact List.Perm.refl _
      | succ n ihn =>
        rw [List.range_succ, List.map_append, List.map_append, List.flatten_append, List.flatten_append]
        simp only [List.map_cons, List.map_nil, List.flatten_cons, List.flatten_nil, List.append_nil]
        refine (ihn.append_right _).trans ?_
        by_cases e : d.m.2 = (n : Int)
        · have e1 : ¬ d.m.2 < (n : Int) := by omega
          have e2 : d.m.2 < ((n + 1 : Nat) : Int) := by omega
          have ef : (d :: l).filter (st n) = d :: l.filter (st n) := by rw [List.filter_cons, if_pos (by simp [st, e])]
          rw [if_neg e1, if_pos e2, ef]
          simpa using List.perm_middle
        · have ef : (d :: l).filter (st n) = l.filter (st n) := by rw [List.filter_cons, if_neg (by simp [st, e])]
          rw [ef]
          by_cases e1 : d.m.2 < (n : Int)
          · have e2 : d.m.2 < ((n + 1 : Nat) : Int) := by omega
            rw [if_pos e1, if_pos e2, List.append_assoc]
          · have e2 : ¬ d.m.2 < ((n + 1 : Nat) : Int) := by omega
            rw [if_neg e1, if_neg e2, List.append_assoc]
    refine (key s).trans ?_
    rw [if_pos h1]
    exact List.Perm.cons d ih
theorem flat_map {α β : Type} (f : α → β) (ls : List (List α)) : (ls.map fun l => l.map f).flatten = ls.flatten.map f := by
  rw [List.map_flatten]
theorem SI.perm {on : Bool} {s : Nat} {ds : List Deed} (h : ∀ d ∈ ds, 0 ≤ d.m.2 ∧ d.m.2 < s) : ((sitesN on ds s).flatten).Perm ((puts ds).map (·.m)) := by
  rw [(SI.all on ds s).fl]
  have e : ((List.range s).map fun i => (puts (ds.filter (st i))).map (·.m)).flatten = (((List.range s).map fun i => (puts ds).filter (st i)).flatten).map (·.m) := by
    rw [← flat_map, List.map_map]
    congr 1
    refine List.map_congr_left fun i _ => ?_
    simp only [Function.comp, puts]
    congr 1
    simp only [List.filter_filter]
    exact List.filter_congr fun d _ => Bool.and_comm _ _
  rw [e]
  refine List.Perm.map _ (site_perm s (puts ds) fun d hd => h d (List.mem_filter.mp hd).1)
/-- what runs are -/
structure RunsOk (on : Bool) (s : Nat) (ds : List Deed) (rs : List Run) : Prop where
  ne : ∀ r ∈ rs, r ≠ []
  perm : rs.flatten.Perm ((puts ds).map (·.m))
  lnk : ∀ r ∈ rs, ∀ z ∈ r.zip r.tail, Link on ds z.1 z.2
theorem runs_ok (on : Bool) {s : Nat} {ds : List Deed} (h : ∀ d ∈ ds, 0 ≤ d.m.2 ∧ d.m.2 < s) : RunsOk on s ds (runs on s ds) := by
  have p : (runs on s ds).Perm (sitesN on ds s) := sortD_perm _
  have S := SI.all on ds s
  exact ⟨fun r hr => S.ne r (p.mem_iff.mp hr), p.flatten.trans (SI.perm h), fun r hr => S.lnk r (p.mem_iff.mp hr)⟩
/-! ### lengths -/
theorem len_flat {α : Type} : ∀ {ls : List (List α)}, (∀ l ∈ ls, l ≠ []) → ls.length ≤ ls.flatten.length
  | [], _ => Nat.le_refl _
  | l :: ls, h => by
    have := len_flat fun k hk => h k (List.mem_cons_of_mem l hk)
    have h1 := List.length_pos_iff.mpr (h l (by simp))
    simp only [List.length_cons, List.flatten_cons, List.length_append]
    omega
theorem len_mem {α : Type} : ∀ {ls : List (List α)} {l : List α}, l ∈ ls → l.length ≤ ls.flatten.length
  | l :: ls, k, h => by
    simp only [List.flatten_cons, List.length_append]
    rcases List.mem_cons.mp h with rfl | h
    · omega
    · have := len_mem h
      omega
theorem puts_len (ds : List Deed) : (puts ds).length ≤ ds.length := List.length_filter_le _ _
theorem RI.len {on : Bool} {ds l : List Deed} {acc0 acc : List Run} {j : Nat} (R : RI on ds l acc0 j acc) : acc.flatten.length ≤ acc0.flatten.length + l.length := by
  rw [R.fl, List.length_append, List.length_map]
  have := puts_len (l.take j)
  rw [List.length_take] at this
  omega
theorem SI.len {on : Bool} {ds : List Deed} {j : Nat} (hj : j ≤ 4) : (sitesN on ds j).flatten.length ≤ j * ds.length := by
  induction j with
  | zero => simp [sitesN]
  | succ j ih =>
    have ih' := SI.all on ds j
    have R := RI.row (on := on) (ds := ds) (l := ds.filter (st j)) (fun x hx => (List.mem_filter.mp hx).1) ih'.ne ih'.lnk _ (Nat.le_refl _)
    have h1 := R.len
    have h2 : (ds.filter (st j)).length ≤ ds.length := List.length_filter_le _ _
    have h3 := ih (by omega)
    simp only [sitesN]
    rw [Nat.add_mul, Nat.one_mul]
    omega
/-! ### encodings -/
theorem fl_r (r : Run) : Fl0 2 (eR r) := Fl0.tup fun a _ => fl_m a
theorem alike_r (a b : Run) : alikeD (eR a) (eR b) = true := by
  simp only [eR, alikeD]
  exact alikeL_map alike_m a b
theorem sorted_rs {kt : D → Bool} (l : List Run) (h : ∀ r ∈ l, r ≠ []) : biD kt .sorted [.lst (l.map eR)] = some (.lst ((sortD leR l).map eR)) :=
  sorted_map (k := 2) (by omega) (fun a _ b _ => alike_r a b) (fun a ha => by
    cases a with
    | nil => exact absurd rfl (h [] ha)
    | cons x xs => exact ⟨_, _, rfl⟩) (fun a _ => fl_r a) fun a _ b _ => rfl
theorem enumI_get : ∀ (xs : List D) (n : Int) (j : Nat), (enumI n xs)[j]? = (xs[j]?).map fun x => D.tup [.int (n + j), x]
  | [], _, _ => by simp [enumI]
  | x :: xs, n, 0 => by simp [enumI]
  | x :: xs, n, j + 1 => by
    simp only [enumI, List.getElem?_cons_succ, enumI_get xs (n + 1) j]
    congr 1
    funext x
    congr 3
    omega
theorem enumI_len : ∀ (xs : List D) (n : Int), (enumI n xs).length = xs.length
  | [], _ => rfl
  | x :: xs, n => by simp [enumI, enumI_len xs]
theorem setL_last {α : Type} {enc : α → D} {h : List α} {r x : α} : setL ((h ++ [r]).map enc) (-1) (enc x) = some ((h ++ [x]).map enc) := by
  have h1 : ¬ (0 : Int) ≤ -1 := by omega
  have h3 : (-1 + ((h.length : Int) + 1)).toNat = h.length := by omega
  have h2 : -((h.length : Int) + 1) ≤ -1 := by omega
  simp [setL, placeOf, h2, h3]
theorem ix_last' {α : Type} {enc : α → D} {h : List α} {r : α} : ixD (.lst ((h ++ [r]).map enc)) (.int (-1)) = some (enc r) := by
  have := ix_last (enc := enc) (l := h ++ [r]) (by simp)
  simpa using this
theorem add_r {r : Run} {x : Mark} (h : r.length ≤ 500) : binD .add (eR r) (.tup [eM x]) = some (eR (r ++ [x])) := by
  have := add_tup (xs := r.map eM) (ys := [eM x]) (by simp; omega)
  rw [eR, this]
  simp [eR]
theorem ix_ds {l : List Deed} {i : Nat} {b : Deed} (h : l[i]? = some b) : ixD (.lst (l.map eD)) (.int i) = some (eD b) := by
  have hl := (List.getElem?_eq_some_iff.mp h).1
  have h1 : (i : Int) < l.length := by omega
  simp [ixD, placeOf, h1, h]
end KL
end

section
set_option Elab.async false
set_option linter.all false
set_option maxRecDepth 100000
/-! P8: how runs are found, by the law and by the program. -/
namespace KL
open EV
/-- a walk whose turns give data for data -/
theorem forL_st {t : Tg} {b : Env → M Fl} (E : Nat → Env → Prop) {xs : List D} {ρ : Env} (h0 : E 0 ρ) (H : ∀ j x ρ, xs[j]? = some x → E j ρ → ∃ ρ1 ρ2, t.bind x ρ = some ρ1 ∧ b ρ1 = mp (.nx ρ2) ∧ E (j + 1) ρ2) : ∃ ρ', forL t b xs ρ = mp (.nx ρ') ∧ E xs.length ρ' := by
  have := forL_nat (t := t) (b := b) E (xs := xs) (i := 0) (ρ := ρ) (fun j x ρ hx hE => by
    rw [Nat.zero_add] at hE ⊢
    exact H j x ρ hx hE) h0
  rwa [Nat.zero_add] at this
theorem Valid.strict {s : Nat} {ds : List Deed} (V : Valid s ds) : ds.Pairwise fun a b => mlt a.m b.m = true := by
  have key : ∀ l : List Deed, (∀ z ∈ l.zip l.tail, mlt z.1.m z.2.m = true) → l.Pairwise fun a b => mlt a.m b.m = true := by
    intro l
    induction l with
    | nil => intro _; exact List.Pairwise.nil
    | cons a l ih =>
      intro h
      cases l with
      | nil => exact List.pairwise_singleton _ _
      | cons b l =>
        simp only [List.tail_cons, List.zip_cons_cons] at h
        have h2 := ih fun z hz => h z (List.mem_cons_of_mem _ hz)
        have h1 := h (a, b) (by simp)
        refine List.pairwise_cons.mpr ⟨fun c hc => ?_, h2⟩
        rcases List.mem_cons.mp hc with rfl | hc
        · exact h1
        · have := (List.pairwise_cons.mp h2).1 c hc
          simp only [mlt_iff] at *
          omega
  exact key ds V.asc
theorem Valid.ne {s : Nat} {ds : List Deed} (V : Valid s ds) : ds.Pairwise fun a b => a.m ≠ b.m := V.strict.imp fun {a b} h e => by
  rw [e, mlt_irr] at h
  cases h
theorem Valid.inj {s : Nat} {ds : List Deed} (V : Valid s ds) : ∀ a ∈ ds, ∀ b ∈ ds, a.m = b.m → a = b := pw_inj V.ne
theorem Valid.sorted {s : Nat} {ds : List Deed} (V : Valid s ds) (p : Deed → Bool) {kt : D → Bool} : biD kt .sorted [.lst ((ds.filter p).map eD)] = some (.lst ((ds.filter p).map eD)) := by
  rw [sorted_ds _ fun a ha b hb => V.inj a (List.mem_filter.mp ha).1 b (List.mem_filter.mp hb).1]
  rw [sortD_id (le := dle) ((V.strict.imp (S := fun a b => dle a b = true) fun {a b} h => mlt_le h).sublist List.filter_sublist)]
@[simp] theorem pair_d (i : Int) (d : Deed) (a b : Nat) {ρ : Env} : Tg.bind (.tp [.nm a, .nm b]) (.tup [.int i, eD d]) ρ = some ((ρ.set a (.val (.int i))).set b (.val (eD d))) := by simp
theorem r_goes_on (n : Nat) (on : Bool) (b d : Deed) : run fns CC (n + 1) i_goes_on [.val (eD b), .val (eD d), .val (.str (wayS on))] = mp (.bl (go on b d), false) := by
  cases on <;> by_cases h1 : isPut b.w = true <;> by_cases h2 : isPut d.w = true <;> simp [at_goes_on, f_goes_on, go, wayS, h1, h2]
section
variable {n s : Nat} {ds l : List Deed} {on : Bool} {acc acc0 : List Run} {j : Nat} {d : Deed}
theorem mod_turn {s0 : D} (R : RI on ds l acc0 j acc) (hb : acc0.flatten.length + l.length ≤ 300) (hd : l[j]? = some d) :
    evSs (run fns CC (n + 2)) CC [.if_ (.and (.cmp .gt (.v 5) (.k (.int 0))) (.call i_goes_on [.ix (.v 4) (.bin .sub (.v 5) (.k (.int 1))), .v 6, .v 2]))
  [.sets 3 (.neg (.k (.int 1))) (.bin .add (.ix (.v 3) (.neg (.k (.int 1)))) (.tup [.ix (.v 6) (.k (.int 0))]))]
  [.if_ (.cmp .eq (.ix (.ix (.v 6) (.k (.int 3))) (.k (.int 0))) (.k (.str [112, 117, 116])))
  [.app 3 (.tup [.ix (.v 6) (.k (.int 0))])]
  []]] [.val s0, .val (eDs ds), .val (.str (wayS on)), .own (.lst (acc.map eR)), .val (.lst (l.map eD)), .val (.int j), .val (eD d)] = mp (.nx [.val s0, .val (eDs ds), .val (.str (wayS on)), .own (.lst ((stepAt on l acc j d).map eR)), .val (.lst (l.map eD)), .val (.int j), .val (eD d)]) := by
  have hfl := R.len
  have hal := len_flat R.ne
  have ml := mlen_ok (n := acc.length + 1) (by omega)
  have e1 : D.tup [eM d.m] = eR [d.m] := rfl
  unfold stepAt
  cases j with
  | zero =>
    by_cases hp : isPut d.w = true
    · simp [prevGo, hp, ml, e1]
    · simp [prevGo, hp]
  | succ i =>
    have hi : i < l.length := by have := (List.getElem?_eq_some_iff.mp hd).1; omega
    have hb' : l[i]? = some l[i] := List.getElem?_eq_getElem hi
    have hx := ix_ds hb'
    generalize l[i] = b at *
    have e2 : ((i + 1 : Nat) : Int) - 1 = i := by omega
    have e3 : (0 : Int) < ((i + 1 : Nat) : Int) := by omega
    have hg := r_goes_on (n + 1) on b d
    simp only [prevGo, hb']
    cases hgo : go on b d with
    | true =>
      have hp : isPut b.w = true := by
        simp only [go, Bool.and_eq_true] at hgo
        exact hgo.1.1
      obtain ⟨h, r, rfl⟩ := R.last i b rfl hb' hp
      rw [push_app]
      have rl : (r ++ [b.m]).length ≤ 500 := by
        have := len_mem (ls := h ++ [r ++ [b.m]]) (l := r ++ [b.m]) (by simp)
        omega
      have a1 := add_r (x := d.m) rl
      have i1 := ix_last' (enc := eR) (h := h) (r := r ++ [b.m])
      have s1 := setL_last (enc := eR) (h := h) (r := r ++ [b.m]) (x := r ++ [b.m] ++ [d.m])
      rw [hgo] at hg
      simp [hx, e2, e3, hg, a1, i1, s1, -List.map_append, -List.append_assoc]
    | false =>
      rw [hgo] at hg
      by_cases hp : isPut d.w = true
      · simp [hx, e2, e3, hg, hp, ml, e1]
      · simp [hx, e2, e3, hg, hp]
theorem law_turn {s0 s4 : D} {a8 a9 : Slot} (R : RI on ds l acc0 j acc) (hb : acc0.flatten.length + l.length ≤ 300) (hd : l[j]? = some d) :
    ∃ b8 b9, evSs (run fns CC (n + 2)) CC [.asg (.nm 8) (.ite (.cmp .gt (.v 6) (.k (.int 0))) (.ix (.v 5) (.bin .sub (.v 6) (.k (.int 1)))) (.k .non)),
  .asg (.nm 9) (.and (.cmp .isnot (.v 8) (.k .non)) (.and (.cmp .eq (.ix (.ix (.v 8) (.k (.int 3))) (.k (.int 0))) (.k (.str [112, 117, 116]))) (.cmp .eq (.ix (.ix (.v 7) (.k (.int 3))) (.k (.int 0))) (.k (.str [112, 117, 116]))))),
  .asg (.nm 9) (.and (.v 9) (.cmp .eq (.ix (.ix (.v 7) (.k (.int 3))) (.k (.int 1))) (.ite (.cmp .eq (.v 2) (.k (.str [111, 110]))) (.ix (.v 8) (.k (.int 0))) (.ix (.ix (.v 8) (.k (.int 3))) (.k (.int 1)))))),
  .if_ (.v 9)
  [.sets 3 (.neg (.k (.int 1))) (.bin .add (.ix (.v 3) (.neg (.k (.int 1)))) (.tup [.ix (.v 7) (.k (.int 0))]))]
  [.if_ (.cmp .eq (.ix (.ix (.v 7) (.k (.int 3))) (.k (.int 0))) (.k (.str [112, 117, 116])))
  [.app 3 (.tup [.ix (.v 7) (.k (.int 0))])]
  []]] [.val s0, .val (eDs ds), .val (.str (wayS on)), .own (.lst (acc.map eR)), .val s4, .val (.lst (l.map eD)), .val (.int j), .val (eD d), a8, a9] = mp (.nx [.val s0, .val (eDs ds), .val (.str (wayS on)), .own (.lst ((stepAt on l acc j d).map eR)), .val s4, .val (.lst (l.map eD)), .val (.int j), .val (eD d), b8, b9]) := by
  have hfl := R.len
  have hal := len_flat R.ne
  have ml := mlen_ok (n := acc.length + 1) (by omega)
  have e1 : D.tup [eM d.m] = eR [d.m] := rfl
  unfold stepAt
  cases j with
  | zero =>
    refine ⟨.val .non, .val (.bl false), ?_⟩
    by_cases hp : isPut d.w = true
    · simp [prevGo, hp, ml, e1]
    · simp [prevGo, hp]
  | succ i =>
    have hi : i < l.length := by have := (List.getElem?_eq_some_iff.mp hd).1; omega
    have hb' : l[i]? = some l[i] := List.getElem?_eq_getElem hi
    have hx := ix_ds hb'
    generalize l[i] = b at *
    have e2 : ((i + 1 : Nat) : Int) - 1 = i := by omega
    have e3 : (0 : Int) < ((i + 1 : Nat) : Int) := by omega
    refine ⟨.val (eD b), .val (.bl (go on b d)), ?_⟩
    have isn : cmpB .isnot (eD b) .non = some true := rfl
    simp only [prevGo, hb']
    cases hgo : go on b d with
    | true =>
      have hgo' := hgo
      simp only [go, Bool.and_eq_true, decide_eq_true_eq] at hgo
      obtain ⟨⟨hp, hp2⟩, hw⟩ := hgo
      obtain ⟨h, r, rfl⟩ := R.last i b rfl hb' hp
      rw [push_app]
      have rl : (r ++ [b.m]).length ≤ 500 := by
        have := len_mem (ls := h ++ [r ++ [b.m]]) (l := r ++ [b.m]) (by simp)
        omega
      have a1 := add_r (x := d.m) rl
      have i1 := ix_last' (enc := eR) (h := h) (r := r ++ [b.m])
      have s1 := setL_last (enc := eR) (h := h) (r := r ++ [b.m]) (x := r ++ [b.m] ++ [d.m])
      cases on <;> simp [wayS] at hw <;> simp [wayS, hx, e2, e3, hp, hp2, hw, isn, a1, i1, s1, -List.map_append, -List.append_assoc]
    | false =>
      simp only [go] at hgo
      by_cases hp : isPut d.w = true
      · by_cases hq : isPut b.w = true
        · cases on <;> simp [hp, hq] at hgo <;> simp [wayS, hx, e2, e3, hp, hq, isn, hgo, ml, e1]
        · simp [wayS, hx, e2, e3, hp, hq, isn, ml, e1]
      · by_cases hq : isPut b.w = true <;> simp [hx, e2, e3, hp, hq, isn]
/-- the rows of a site -/
theorem mod_row {s0 : D} {a5 a6 : Slot} (hl : ∀ x ∈ l, x ∈ ds) (h1 : ∀ r ∈ acc0, r ≠ []) (h2 : ∀ r ∈ acc0, ∀ z ∈ r.zip r.tail, Link on ds z.1 z.2) (hb : acc0.flatten.length + l.length ≤ 300) {b : List IS} (hbd : b = [.if_ (.and (.cmp .gt (.v 5) (.k (.int 0))) (.call i_goes_on [.ix (.v 4) (.bin .sub (.v 5) (.k (.int 1))), .v 6, .v 2]))
  [.sets 3 (.neg (.k (.int 1))) (.bin .add (.ix (.v 3) (.neg (.k (.int 1)))) (.tup [.ix (.v 6) (.k (.int 0))]))]
  [.if_ (.cmp .eq (.ix (.ix (.v 6) (.k (.int 3))) (.k (.int 0))) (.k (.str [112, 117, 116])))
  [.app 3 (.tup [.ix (.v 6) (.k (.int 0))])]
  []]]) : ∃ b5 b6, forL (.tp [.nm 5, .nm 6]) (evSs (run fns CC (n + 2)) CC b) (enumI 0 (l.map eD)) [.val s0, .val (eDs ds), .val (.str (wayS on)), .own (.lst (acc0.map eR)), .val (.lst (l.map eD)), a5, a6] = mp (.nx [.val s0, .val (eDs ds), .val (.str (wayS on)), .own (.lst ((rowN on l acc0 l.length).map eR)), .val (.lst (l.map eD)), b5, b6]) := by
  subst hbd
  have := forL_st (t := .tp [.nm 5, .nm 6]) (b := evSs (run fns CC (n + 2)) CC [.if_ (.and (.cmp .gt (.v 5) (.k (.int 0))) (.call i_goes_on [.ix (.v 4) (.bin .sub (.v 5) (.k (.int 1))), .v 6, .v 2]))
  [.sets 3 (.neg (.k (.int 1))) (.bin .add (.ix (.v 3) (.neg (.k (.int 1)))) (.tup [.ix (.v 6) (.k (.int 0))]))]
  [.if_ (.cmp .eq (.ix (.ix (.v 6) (.k (.int 3))) (.k (.int 0))) (.k (.str [112, 117, 116])))
  [.app 3 (.tup [.ix (.v 6) (.k (.int 0))])]
  []]]) (fun j ρ => ∃ b5 b6, ρ = [.val s0, .val (eDs ds), .val (.str (wayS on)), .own (.lst ((rowN on l acc0 j).map eR)), .val (.lst (l.map eD)), b5, b6]) (xs := enumI 0 (l.map eD)) ⟨a5, a6, rfl⟩ fun j x ρ hx hE => ?_
  · obtain ⟨ρ', e, b5, b6, rfl⟩ := this
    rw [enumI_len, List.length_map] at e
    exact ⟨b5, b6, e⟩
  · obtain ⟨b5, b6, rfl⟩ := hE
    rw [enumI_get, List.getElem?_map] at hx
    cases hd : l[j]? with
    | none => simp [hd] at hx
    | some d =>
      simp [hd] at hx
      have hj := (List.getElem?_eq_some_iff.mp hd).1
      have R := RI.row (on := on) hl h1 h2 j (by omega)
      refine ⟨_, [.val s0, .val (eDs ds), .val (.str (wayS on)), .own (.lst ((stepAt on l (rowN on l acc0 j) j d).map eR)), .val (.lst (l.map eD)), .val (.int j), .val (eD d)], by rw [← hx]; exact pair_d _ _ _ _, ?_, .val (.int j), .val (eD d), by simp [rowN, hd]⟩
      have := mod_turn (n := n) (s0 := s0) R hb hd
      simpa using this
theorem law_row {s0 s4 : D} {a6 a7 a8 a9 : Slot} (h7 : plainSlot a7 = true) (hl : ∀ x ∈ l, x ∈ ds) (h1 : ∀ r ∈ acc0, r ≠ []) (h2 : ∀ r ∈ acc0, ∀ z ∈ r.zip r.tail, Link on ds z.1 z.2) (hb : acc0.flatten.length + l.length ≤ 300) {b : List IS} (hbd : b = [.asg (.nm 8) (.ite (.cmp .gt (.v 6) (.k (.int 0))) (.ix (.v 5) (.bin .sub (.v 6) (.k (.int 1)))) (.k .non)),
  .asg (.nm 9) (.and (.cmp .isnot (.v 8) (.k .non)) (.and (.cmp .eq (.ix (.ix (.v 8) (.k (.int 3))) (.k (.int 0))) (.k (.str [112, 117, 116]))) (.cmp .eq (.ix (.ix (.v 7) (.k (.int 3))) (.k (.int 0))) (.k (.str [112, 117, 116]))))),
  .asg (.nm 9) (.and (.v 9) (.cmp .eq (.ix (.ix (.v 7) (.k (.int 3))) (.k (.int 1))) (.ite (.cmp .eq (.v 2) (.k (.str [111, 110]))) (.ix (.v 8) (.k (.int 0))) (.ix (.ix (.v 8) (.k (.int 3))) (.k (.int 1)))))),
  .if_ (.v 9)
  [.sets 3 (.neg (.k (.int 1))) (.bin .add (.ix (.v 3) (.neg (.k (.int 1)))) (.tup [.ix (.v 7) (.k (.int 0))]))]
  [.if_ (.cmp .eq (.ix (.ix (.v 7) (.k (.int 3))) (.k (.int 0))) (.k (.str [112, 117, 116])))
  [.app 3 (.tup [.ix (.v 7) (.k (.int 0))])]
  []]]) : ∃ b6 b7 b8 b9, forL (.tp [.nm 6, .nm 7]) (evSs (run fns CC (n + 2)) CC b) (enumI 0 (l.map eD)) [.val s0, .val (eDs ds), .val (.str (wayS on)), .own (.lst (acc0.map eR)), .val s4, .val (.lst (l.map eD)), a6, a7, a8, a9] = mp (.nx [.val s0, .val (eDs ds), .val (.str (wayS on)), .own (.lst ((rowN on l acc0 l.length).map eR)), .val s4, .val (.lst (l.map eD)), b6, b7, b8, b9]) ∧ plainSlot b7 = true := by
  have := forL_st (t := .tp [.nm 6, .nm 7]) (b := evSs (run fns CC (n + 2)) CC b) (fun j ρ => ∃ b6 b7 b8 b9, ρ = [.val s0, .val (eDs ds), .val (.str (wayS on)), .own (.lst ((rowN on l acc0 j).map eR)), .val s4, .val (.lst (l.map eD)), b6, b7, b8, b9] ∧ plainSlot b7 = true) (xs := enumI 0 (l.map eD)) ⟨a6, a7, a8, a9, rfl, h7⟩ fun j x ρ hx hE => ?_
  · obtain ⟨ρ', e, b6, b7, b8, b9, rfl, hp⟩ := this
    rw [enumI_len, List.length_map] at e
    exact ⟨b6, b7, b8, b9, e, hp⟩
  · obtain ⟨b6, b7, b8, b9, rfl, hp⟩ := hE
    rw [enumI_get, List.getElem?_map] at hx
    cases hd : l[j]? with
    | none => simp [hd] at hx
    | some d =>
      simp [hd] at hx
      have hj := (List.getElem?_eq_some_iff.mp hd).1
      have R := RI.row (on := on) hl h1 h2 j (by omega)
      obtain ⟨c8, c9, e⟩ := law_turn (n := n) (s0 := s0) (s4 := s4) (a8 := b8) (a9 := b9) R hb hd
      subst hbd
      refine ⟨_, [.val s0, .val (eDs ds), .val (.str (wayS on)), .own (.lst ((stepAt on l (rowN on l acc0 j) j d).map eR)), .val s4, .val (.lst (l.map eD)), .val (.int j), .val (eD d), c8, c9], by rw [← hx]; exact pair_d _ _ _ _, ?_, .val (.int j), .val (eD d), c8, c9, by simp [rowN, hd], rfl⟩
      simpa using e
end
theorem r_by_site (n s : Nat) (ds : List Deed) (h4 : s ≤ 4) : run fns CC (n + 1) i_by_site [.val (.int s), .val (eDs ds)] = mp (.lst ((List.range s).map fun j => D.lst ((ds.filter (st j)).map eD)), false) := by
  have hr := rng_one (n := s) (by omega)
  have f : filtL (cT (run fns CC n) CC (.comp (.v 3) (.nm 3) (.pl (.v 1)) (.cmp .eq (.ix (.ix (.v 3) (.k (.int 0))) (.k (.int 1))) (.v 2))) (.nm 2) (.k (.bl true)) [.val (.int s), .val (eDs ds), .no, .no]) ((List.range s).map fun i : Nat => D.int i) = mp ((List.range s).map fun j => D.lst ((ds.filter (st j)).map eD)) := by
    refine filtL_all (enc := fun i : Nat => D.int i) (fun j : Nat => D.lst ((ds.filter (st j)).map eD)) fun j _ => ?_
    have f2 : filtL (cT (run fns CC n) CC (.v 3) (.nm 3) (.cmp .eq (.ix (.ix (.v 3) (.k (.int 0))) (.k (.int 1))) (.v 2)) [.val (.int s), .val (eDs ds), .val (.int j), .no]) (ds.map eD) = mp ((ds.filter (st j)).map eD) := by
      refine filtL_enc (st j) eD fun d _ => ?_
      simp [cT, st]
    simp [cT, f2]
  simp [at_by_site, f_by_site, hr, f]
theorem fl_ok (on : Bool) (ds : List Deed) (j : Nat) (hj : j < 4) (hd : ds.length ≤ 60) : (sitesN on ds j).flatten.length + (ds.filter (st j)).length ≤ 300 := by
  have h1 := SI.len (on := on) (ds := ds) (j := j) (by omega)
  have h2 : (ds.filter (st j)).length ≤ ds.length := List.length_filter_le _ _
  have h3 : j * ds.length ≤ 4 * 60 := Nat.mul_le_mul (by omega) hd
  omega
theorem r_runs_in (n s : Nat) (ds : List Deed) (on : Bool) (h4 : s ≤ 4) (hd : ds.length ≤ 60) : run fns CC (n + 3) i_runs_in [.val (.int s), .val (eDs ds), .val (.str (wayS on))] = mp (.lst ((runs on s ds).map eR), false) := by
  have hb := r_by_site (n + 1) s ds h4
  rw [at_runs_in]
  obtain ⟨b, hbd, hbody⟩ : ∃ b, b = [IS.if_ (.and (.cmp .gt (.v 5) (.k (.int 0))) (.call i_goes_on [.ix (.v 4) (.bin .sub (.v 5) (.k (.int 1))), .v 6, .v 2]))
  [.sets 3 (.neg (.k (.int 1))) (.bin .add (.ix (.v 3) (.neg (.k (.int 1)))) (.tup [.ix (.v 6) (.k (.int 0))]))]
  [.if_ (.cmp .eq (.ix (.ix (.v 6) (.k (.int 3))) (.k (.int 0))) (.k (.str [112, 117, 116])))
  [.app 3 (.tup [.ix (.v 6) (.k (.int 0))])]
  []]] ∧ f_runs_in.body = [.own 3 (.lst []), .for_ (.nm 4) (.pl (.call i_by_site [.v 0, .v 1])) [.for_ (.tp [.nm 5, .nm 6]) (.enum (.v 4)) b], .ret (.bi .sorted [.v 3])] := ⟨_, rfl, rfl⟩
  rw [hbody]
  have loop : ∃ ρ', forL (.nm 4) (evSs (run fns CC (n + 2)) CC [.for_ (.tp [.nm 5, .nm 6]) (.enum (.v 4)) b]) ((List.range s).map fun j => D.lst ((ds.filter (st j)).map eD)) [.val (.int s), .val (eDs ds), .val (.str (wayS on)), .own (.lst []), .no, .no, .no] = mp (.nx ρ') ∧ ∃ b4 b5 b6, ρ' = [.val (.int s), .val (eDs ds), .val (.str (wayS on)), .own (.lst ((sitesN on ds s).map eR)), b4, b5, b6] := by
    have := forL_st (t := .nm 4) (b := evSs (run fns CC (n + 2)) CC [.for_ (.tp [.nm 5, .nm 6]) (.enum (.v 4)) b]) (fun j ρ => ∃ b4 b5 b6, ρ = [.val (.int s), .val (eDs ds), .val (.str (wayS on)), .own (.lst ((sitesN on ds j).map eR)), b4, b5, b6]) (xs := (List.range s).map fun j => D.lst ((ds.filter (st j)).map eD)) (ρ := [.val (.int s), .val (eDs ds), .val (.str (wayS on)), .own (.lst []), .no, .no, .no]) ⟨.no, .no, .no, rfl⟩ fun j x ρ hx hE => ?_
    · rw [List.length_map, List.length_range] at this
      exact this
    · obtain ⟨b4, b5, b6, rfl⟩ := hE
      have hj : j < s := by
        have := (List.getElem?_eq_some_iff.mp hx).1
        simpa using this
      simp [hj] at hx
      subst hx
      have S := SI.all on ds j
      obtain ⟨c5, c6, e⟩ := mod_row (n := n) (s0 := .int s) (a5 := b5) (a6 := b6) (on := on) (ds := ds) (l := ds.filter (st j)) (fun x hx => (List.mem_filter.mp hx).1) S.ne S.lnk (fl_ok on ds j (by omega) hd) hbd
      refine ⟨_, _, tg_nm, ?_, .val (.lst ((ds.filter (st j)).map eD)), c5, c6, rfl⟩
      simp [e, enumD, sitesN]
  obtain ⟨ρ', hl, b4, b5, b6, rfl⟩ := loop
  have hs := sorted_rs (kt := CC.kt) (sitesN on ds s) (SI.all on ds s).ne
  simp [hb]
  rw [hl]
  simp [hs, runs]
theorem r_law_runs (n s : Nat) (ds : List Deed) (on : Bool) (V : Valid s ds) : run fns CC (n + 3) i_law_runs [.val (.int s), .val (eDs ds), .val (.str (wayS on))] = mp (.lst ((runs on s ds).map eR), false) := by
  have h4 := V.s4
  have hd := V.len
  have hr := rng_one (n := s) (by omega)
  rw [at_law_runs]
  obtain ⟨b, hbd, hbody⟩ : ∃ b, b = [IS.asg (.nm 8) (.ite (.cmp .gt (.v 6) (.k (.int 0))) (.ix (.v 5) (.bin .sub (.v 6) (.k (.int 1)))) (.k .non)),
  .asg (.nm 9) (.and (.cmp .isnot (.v 8) (.k .non)) (.and (.cmp .eq (.ix (.ix (.v 8) (.k (.int 3))) (.k (.int 0))) (.k (.str [112, 117, 116]))) (.cmp .eq (.ix (.ix (.v 7) (.k (.int 3))) (.k (.int 0))) (.k (.str [112, 117, 116]))))),
  .asg (.nm 9) (.and (.v 9) (.cmp .eq (.ix (.ix (.v 7) (.k (.int 3))) (.k (.int 1))) (.ite (.cmp .eq (.v 2) (.k (.str [111, 110]))) (.ix (.v 8) (.k (.int 0))) (.ix (.ix (.v 8) (.k (.int 3))) (.k (.int 1)))))),
  .if_ (.v 9)
  [.sets 3 (.neg (.k (.int 1))) (.bin .add (.ix (.v 3) (.neg (.k (.int 1)))) (.tup [.ix (.v 7) (.k (.int 0))]))]
  [.if_ (.cmp .eq (.ix (.ix (.v 7) (.k (.int 3))) (.k (.int 0))) (.k (.str [112, 117, 116])))
  [.app 3 (.tup [.ix (.v 7) (.k (.int 0))])]
  []]] ∧ f_law_runs.body = [.own 3 (.lst []), .for_ (.nm 4) (.rng [.v 0]) [.asg (.nm 5) (.bi .sorted [.comp (.v 7) (.nm 7) (.pl (.v 1)) (.cmp .eq (.ix (.ix (.v 7) (.k (.int 0))) (.k (.int 1))) (.v 4))]), .for_ (.tp [.nm 6, .nm 7]) (.enum (.v 5)) b], .ret (.bi .sorted [.v 3])] := ⟨_, rfl, rfl⟩
  rw [hbody]
  have loop : ∃ ρ', forL (.nm 4) (evSs (run fns CC (n + 2)) CC [.asg (.nm 5) (.bi .sorted [.comp (.v 7) (.nm 7) (.pl (.v 1)) (.cmp .eq (.ix (.ix (.v 7) (.k (.int 0))) (.k (.int 1))) (.v 4))]), .for_ (.tp [.nm 6, .nm 7]) (.enum (.v 5)) b]) ((List.range s).map fun j : Nat => D.int j) [.val (.int s), .val (eDs ds), .val (.str (wayS on)), .own (.lst []), .no, .no, .no, .no, .no, .no] = mp (.nx ρ') ∧ ∃ b4 b5 b6 b7 b8 b9, ρ' = [.val (.int s), .val (eDs ds), .val (.str (wayS on)), .own (.lst ((sitesN on ds s).map eR)), b4, b5, b6, b7, b8, b9] := by
    have := forL_st (t := .nm 4) (b := evSs (run fns CC (n + 2)) CC [.asg (.nm 5) (.bi .sorted [.comp (.v 7) (.nm 7) (.pl (.v 1)) (.cmp .eq (.ix (.ix (.v 7) (.k (.int 0))) (.k (.int 1))) (.v 4))]), .for_ (.tp [.nm 6, .nm 7]) (.enum (.v 5)) b]) (fun j ρ => ∃ b4 b5 b6 b7 b8 b9, ρ = [.val (.int s), .val (eDs ds), .val (.str (wayS on)), .own (.lst ((sitesN on ds j).map eR)), b4, b5, b6, b7, b8, b9] ∧ plainSlot b7 = true) (xs := (List.range s).map fun j : Nat => D.int j) (ρ := [.val (.int s), .val (eDs ds), .val (.str (wayS on)), .own (.lst []), .no, .no, .no, .no, .no, .no]) ⟨.no, .no, .no, .no, .no, .no, rfl, rfl⟩ fun j x ρ hx hE => ?_
    · rw [List.length_map, List.length_range] at this
      obtain ⟨ρ', e, b4, b5, b6, b7, b8, b9, h, _⟩ := this
      exact ⟨ρ', e, b4, b5, b6, b7, b8, b9, h⟩
    · obtain ⟨b4, b5, b6, b7, b8, b9, rfl, hp⟩ := hE
      have hj : j < s := by
        have := (List.getElem?_eq_some_iff.mp hx).1
        simpa using this
      simp [hj] at hx
      subst hx
      have S := SI.all on ds j
      obtain ⟨c6, c7, c8, c9, e, hc⟩ := law_row (n := n) (s0 := .int s) (s4 := .int j) (a6 := b6) (a7 := b7) (a8 := b8) (a9 := b9) (on := on) (ds := ds) (l := ds.filter (st j)) hp (fun x hx => (List.mem_filter.mp hx).1) S.ne S.lnk (fl_ok on ds j (by omega) hd) hbd
      have f2 : filtL (cT (run fns CC (n + 2)) CC (.v 7) (.nm 7) (.cmp .eq (.ix (.ix (.v 7) (.k (.int 0))) (.k (.int 1))) (.v 4)) [.val (.int s), .val (eDs ds), .val (.str (wayS on)), .own (.lst ((sitesN on ds j).map eR)), .val (.int j), b5, b6, .no, b8, b9]) (ds.map eD) = mp ((ds.filter (st j)).map eD) := by
        refine filtL_enc (st j) eD fun d _ => ?_
        simp [cT, st]
      have sr := V.sorted (st j) (kt := CC.kt)
      refine ⟨_, _, tg_nm, ?_, .val (.int j), .val (.lst ((ds.filter (st j)).map eD)), c6, c7, c8, c9, rfl, hc⟩
      simp [hp, f2, sr, e, enumD, sitesN]
  obtain ⟨ρ', hl, b4, b5, b6, b7, b8, b9, rfl⟩ := loop
  have hs := sorted_rs (kt := CC.kt) (sitesN on ds s) (SI.all on ds s).ne
  simp [hr]
  rw [hl]
  simp [hs, runs]
end KL
end

section
set_option Elab.async false
set_option linter.all false
set_option maxRecDepth 100000
/-! P9: puts: the dict, the walk of the tree. -/
namespace KL
open EV
def sgn : What → List Nat
  | .put _ c => [c]
  | .take _ => []
def vP (d : Deed) : D := .tup [eM (wm d.w), .str (sgn d.w)]
def pD (ds : List Deed) : D := .dic ((puts ds).map fun d => (eM d.m, vP d))
/-! ### dicts of marks -/
section
variable {v : Deed → D}
theorem putD_new {k x : D} : ∀ {l : List (D × D)}, (∀ p ∈ l, eqD p.1 k = false) → putD k x l = l ++ [(k, x)] := by
  intro l h
  unfold putD
  have : l.any (fun p => eqD p.1 k) = false := by
    rw [List.any_eq_false]
    intro p hp
    rw [h p hp]; simp
  rw [this]
  rfl
theorem putAll_ms : ∀ (l acc : List Deed), (acc ++ l).Pairwise (fun a b => a.m ≠ b.m) → putAll (acc.map fun d => (eM d.m, v d)) (l.map fun d => (eM d.m, v d)) = (acc ++ l).map fun d => (eM d.m, v d)
  | [], acc, _ => by simp [putAll]
  | d :: l, acc, h => by
    simp only [List.map_cons, putAll]
    have h2 : acc ++ d :: l = (acc ++ [d]) ++ l := by simp
    rw [putD_new (fun p hp => by
      obtain ⟨a, ha, rfl⟩ := List.mem_map.mp hp
      have := (List.pairwise_append.mp h).2.2 a ha d (by simp)
      simp only [eqD_m, decide_eq_false_iff_not]
      exact this)]
    have := putAll_ms l (acc ++ [d]) (by rwa [← h2])
    rw [List.map_append] at this
    rw [h2]
    exact this
theorem lookD_ms : ∀ {l : List Deed} {d : Deed}, (∀ a ∈ l, a.m = d.m → a = d) → d ∈ l → lookD (eM d.m) (l.map fun d => (eM d.m, v d)) = some (v d)
  | a :: l, d, h, hd => by
    simp only [List.map_cons, lookD, eqD_m]
    by_cases e : a.m = d.m
    · rw [h a (by simp) e]; simp
    · simp only [e, decide_false, Bool.false_eq_true, if_false]
      rcases List.mem_cons.mp hd with rfl | hd
      · exact absurd rfl e
      · exact lookD_ms (fun b hb => h b (by simp [hb])) hd
theorem lookOk_ms {l : List Deed} {m : Mark} : lookOk (eM m) (l.map fun d => (eM d.m, v d)) = true := by
  cases l <;> rfl
theorem ix_pd {l : List Deed} {d : Deed} (h : ∀ a ∈ l, a.m = d.m → a = d) (hd : d ∈ l) : ixD (.dic (l.map fun d => (eM d.m, v d))) (eM d.m) = some (v d) := by
  have e : ixD (.dic (l.map fun d => (eM d.m, v d))) (eM d.m) = if lookOk (eM d.m) (l.map fun d => (eM d.m, v d)) then lookD (eM d.m) (l.map fun d => (eM d.m, v d)) else none := rfl
  rw [e, lookOk_ms, if_pos rfl, lookD_ms h hd]
theorem in_pd {l : List Deed} {d : Deed} (h : ∀ a ∈ l, a.m = d.m → a = d) (hd : d ∈ l) : cmpB .«in» (eM d.m) (.dic (l.map fun d => (eM d.m, v d))) = some true := by
  have e : cmpB .«in» (eM d.m) (.dic (l.map fun d => (eM d.m, v d))) = if lookOk (eM d.m) (l.map fun d => (eM d.m, v d)) then some (lookD (eM d.m) (l.map fun d => (eM d.m, v d))).isSome else none := rfl
  rw [e, lookOk_ms, if_pos rfl, lookD_ms h hd]
  rfl
theorem keys_pd {l : List Deed} : keysM (.dic (l.map fun d => (eM d.m, v d))) = mp (l.map fun d => eM d.m) := by
  have e : keysM (.dic (l.map fun d => (eM d.m, v d))) = if (l.map fun d => (eM d.m, v d)).all (fun p => okKey p.1) then mp ((l.map fun d => (eM d.m, v d)).map fun p => p.1) else mf := rfl
  rw [e, if_pos (by rw [List.all_map]; exact List.all_eq_true.mpr fun _ _ => rfl), List.map_map]
  rfl
end
@[simp] theorem v0 (d : Deed) : ixD (vP d) (.int 0) = some (eM (wm d.w)) := (rfl)
theorem keyF_m {m : Mark} (h : m ≠ (0, 0)) : keyF CC.kt true (eM m) = true := by
  obtain ⟨a, b⟩ := m
  show ((keyT (.tup [.int a, .int b])) && !kt0 (.tup [.int a, .int b])) = true
  have : kt0 (.tup [.int a, .int b]) = false := by
    unfold kt0
    split
    · rename_i e
      simp only [D.tup.injEq, List.cons.injEq, D.int.injEq, and_true] at e
      exact absurd (by rw [e.1, e.2]) h
    · rfl
  rw [this]
  rfl
theorem sl_put {w : What} (h : isPut w = true) : slD (eW w) (some 1) none = some (.tup [eM (wm w), .str (sgn w)]) := by
  cases w with
  | put a c => rfl
  | take m => cases h
theorem Valid.nz {s : Nat} {ds : List Deed} (V : Valid s ds) : ∀ d ∈ ds, d.m ≠ (0, 0) := fun d hd => okM_nz (V.ok d hd).m
theorem r_puts_in (n : Nat) {ds : List Deed} (h1 : ∀ d ∈ ds, d.m ≠ (0, 0)) (h2 : ds.Pairwise fun a b => a.m ≠ b.m) : run fns CC (n + 1) i_puts_in [.val (eDs ds)] = mp (pD ds, false) := by
  have f : filtL (dT (run fns CC n) CC true (.ix (.v 1) (.k (.int 0))) (.sl (.ix (.v 1) (.k (.int 3))) (.k (.int 1)) (.k .non)) (.nm 1) (.cmp .eq (.ix (.ix (.v 1) (.k (.int 3))) (.k (.int 0))) (.k (.str [112, 117, 116]))) [.val (eDs ds), .no]) (ds.map eD) = mp ((ds.filter fun d => isPut d.w).map fun d => (eM d.m, vP d)) := by
    refine filtL_enc (fun d => isPut d.w) (fun d => (eM d.m, vP d)) fun d hd => ?_
    by_cases hp : isPut d.w = true
    · simp [dT, hp, sl_put hp, keyF_m (h1 d hd), vP]
    · simp [dT, hp]
  have hpa := putAll_ms (v := vP) (puts ds) [] (by rw [List.nil_append]; exact h2.sublist List.filter_sublist)
  simp only [List.map_nil, List.nil_append] at hpa
  simp [at_puts_in, f_puts_in, f]
  rw [show (List.filter (fun d => isPut d.w) ds) = puts ds from rfl, hpa]
  rfl
theorem V_puts_in (n s : Nat) (ds : List Deed) (V : Valid s ds) : run fns CC (n + 1) i_puts_in [.val (eDs ds)] = mp (pD ds, false) := r_puts_in n V.nz V.ne
/-! ### those behind a mark -/
def kids (ds : List Deed) (x : Mark) : List Mark := sortD mle (((puts ds).filter fun d => decide (wm d.w = x)).map (·.m))
theorem f_kids {cal : Cal} {ds : List Deed} {ρ : Env} {x : Mark} {a b c : Nat} (V : ∀ a ∈ ds, ∀ b ∈ ds, a.m = b.m → a = b) (hg : ∀ d, Env.get (ρ.set b (.val d)) a = .val (pD ds)) (hb : ∀ d, Env.get (ρ.set b (.val d)) b = .val d) (hc : ∀ d, Env.get (ρ.set b (.val d)) c = .val (eM x)) :
    filtL (cT cal CC (.v b) (.nm b) (.cmp .eq (.ix (.ix (.v a) (.v b)) (.k (.int 0))) (.v c)) ρ) ((puts ds).map fun d => eM d.m) = mp ((((puts ds).filter fun d => decide (wm d.w = x)).map (·.m)).map eM) := by
  rw [List.map_map]
  refine filtL_enc (enc := fun d : Deed => eM d.m) (fun d => decide (wm d.w = x)) (fun d => eM d.m) fun d hd => ?_
  have hm := (List.mem_filter.mp hd).1
  have hx := ix_pd (v := vP) (l := puts ds) (d := d) (fun a ha e => V a (List.mem_filter.mp ha).1 d hm e) hd
  have hx' : ixD (pD ds) (eM d.m) = some (vP d) := hx
  simp [cT, hg, hb, hc, hx']
/-! ### the walk -/
def walkO (ds : List Deed) : Nat → List Mark → List Mark → List Mark
  | 0, f, _ => f
  | n + 1, f, l => match l.reverse with
    | [] => f
    | x :: r => walkO ds n (f ++ [x]) (r.reverse ++ kids ds x)
def order (ds : List Deed) : List Mark := (walkO ds 100 [] [(0, 0)]).tail
/-- where the walk stands -/
structure WI (ds : List Deed) (f l : List Mark) : Prop where
  nd : (f ++ l).Nodup
  sub : ∀ m ∈ f ++ l, m = (0, 0) ∨ ∃ d ∈ puts ds, d.m = m
  cl : ∀ d ∈ puts ds, d.m ∈ f ++ l ↔ wm d.w ∈ f
theorem mem_kids {ds : List Deed} {x m : Mark} : m ∈ kids ds x ↔ ∃ d ∈ puts ds, wm d.w = x ∧ d.m = m := by
  unfold kids
  rw [(sortD_perm _).mem_iff]
  simp only [List.mem_map, List.mem_filter, decide_eq_true_eq]
  constructor
  · rintro ⟨d, ⟨h1, h2⟩, h3⟩; exact ⟨d, h1, h2, h3⟩
  · rintro ⟨d, h1, h2, h3⟩; exact ⟨d, ⟨h1, h2⟩, h3⟩
theorem nd_marks {l : List Deed} (h : l.Pairwise fun a b => a.m ≠ b.m) : (l.map (·.m)).Nodup := by
  rw [List.nodup_iff_pairwise_ne, List.pairwise_map]
  exact h
theorem WI.step {ds : List Deed} {f l : List Mark} {x : Mark} (hnz : ∀ d ∈ ds, d.m ≠ (0, 0)) (hne : ds.Pairwise fun a b => a.m ≠ b.m) (W : WI ds f (l ++ [x])) : WI ds (f ++ [x]) (l ++ kids ds x) := by
  have hx : x ∉ f := fun h => by
    have := W.nd
    rw [List.nodup_append] at this
    exact this.2.2 x h x (by simp) rfl
  have inj := pw_inj hne
  have pinj : ∀ a ∈ puts ds, ∀ b ∈ puts ds, a.m = b.m → a = b := fun a ha b hb => inj a (List.mem_filter.mp ha).1 b (List.mem_filter.mp hb).1
  have kd : (kids ds x).Nodup := by
    unfold kids
    refine ((sortD_perm _).nodup_iff).mpr ?_
    exact nd_marks ((hne.sublist List.filter_sublist).sublist List.filter_sublist)
  have kn : ∀ m ∈ kids ds x, m ∉ f ++ (l ++ [x]) := fun m hm h => by
    obtain ⟨d, hd, hw, rfl⟩ := mem_kids.mp hm
    have := (W.cl d hd).mp h
    rw [hw] at this
    exact hx this
  have p : ((f ++ [x]) ++ (l ++ kids ds x)).Perm ((f ++ (l ++ [x])) ++ kids ds x) := by
    rw [← List.append_assoc, ← List.append_assoc (f) l [x]]
    refine List.Perm.append_right _ ?_
    rw [List.append_assoc, List.append_assoc]
    exact List.Perm.append_left _ List.perm_append_comm
  refine ⟨?_, fun m hm => ?_, fun d hd => ?_⟩
  · refine p.nodup_iff.mpr (List.nodup_append.mpr ⟨W.nd, kd, fun a ha b hb e => ?_⟩)
    subst e
    exact kn a hb ha
  · rcases List.mem_append.mp (p.mem_iff.mp hm) with hm | hm
    · exact W.sub m hm
    · obtain ⟨d, hd, _, e⟩ := mem_kids.mp hm
      exact .inr ⟨d, hd, e⟩
  · rw [p.mem_iff, List.mem_append, W.cl d hd, List.mem_append, List.mem_singleton, mem_kids]
    constructor
    · rintro (h | ⟨e, he, hw, hm⟩)
      · exact .inl h
      · rw [← pinj e he d hd hm]; exact .inr hw
    · rintro (h | h)
      · exact .inl h
      · exact .inr ⟨d, hd, h, rfl⟩
theorem nodup_le {l k : List Mark} (h : l.Nodup) (hs : ∀ x ∈ l, x ∈ k) : l.length ≤ k.length := by
  have := List.Nodup.length_le_of_subset h (fun x hx => hs x hx)
  exact this
theorem WI.bound {ds : List Deed} {f l : List Mark} (W : WI ds f l) : f.length + l.length ≤ (puts ds).length + 1 := by
  have := nodup_le (k := (0, 0) :: (puts ds).map (·.m)) W.nd fun m hm => by
    rcases W.sub m hm with rfl | ⟨d, hd, rfl⟩
    · simp
    · exact List.mem_cons_of_mem _ (List.mem_map.mpr ⟨d, hd, rfl⟩)
  simpa using this
/-- what is put is behind the begin, or behind what is put ahead of it -/
def Rooted (ds : List Deed) : Prop := ∀ d ∈ puts ds, wm d.w = (0, 0) ∨ ∃ e ∈ puts ds, e.m = wm d.w ∧ e.m.1 < d.m.1
theorem WI.done {ds : List Deed} {f : List Mark} (hr : Rooted ds) (hnz : ∀ d ∈ ds, d.m ≠ (0, 0)) (hne : ds.Pairwise fun a b => a.m ≠ b.m) (h0 : ∃ g, f = (0, 0) :: g) (hp : ∀ d ∈ ds, 0 ≤ d.m.1) (W : WI ds f []) : f.tail.Perm ((puts ds).map (·.m)) := by
  have all : ∀ n : Nat, ∀ d ∈ puts ds, d.m.1 ≤ n → d.m ∈ f := by
    intro n
    induction n with
    | zero =>
      intro d hd hn
      have := (W.cl d hd).mpr
      rw [List.append_nil] at this
      rcases hr d hd with h | ⟨e, he, h1, h2⟩
      · rw [h] at this
        obtain ⟨g, rfl⟩ := h0
        exact this (by simp)
      · have := hp e (List.mem_filter.mp he).1
        omega
    | succ n ih =>
      intro d hd hn
      have := (W.cl d hd).mpr
      rw [List.append_nil] at this
      rcases hr d hd with h | ⟨e, he, h1, h2⟩
      · rw [h] at this
        obtain ⟨g, rfl⟩ := h0
        exact this (by simp)
      · rw [← h1] at this
        exact this (ih e he (by omega))
  obtain ⟨g, rfl⟩ := h0
  have nd := W.nd
  rw [List.append_nil] at nd
  have nd2 := (List.nodup_cons.mp nd).2
  have n0 := (List.nodup_cons.mp nd).1
  refine (List.perm_ext_iff_of_nodup nd2 (nd_marks (hne.sublist List.filter_sublist))).mpr fun m => ⟨fun hm => ?_, fun hm => ?_⟩
  · rcases W.sub m (by simp; exact .inr hm) with rfl | ⟨d, hd, rfl⟩
    · exact absurd hm n0
    · exact List.mem_map.mpr ⟨d, hd, rfl⟩
  · obtain ⟨d, hd, rfl⟩ := List.mem_map.mp hm
    have := all d.m.1.toNat d hd (by have := hp d (List.mem_filter.mp hd).1; omega)
    rcases List.mem_cons.mp this with h | h
    · exact absurd h (hnz d (List.mem_filter.mp hd).1)
    · exact h
theorem walkO_one {ds : List Deed} (k : Nat) (f i : List Mark) (x : Mark) : walkO ds (k + 1) f (i ++ [x]) = walkO ds k (f ++ [x]) (i ++ kids ds x) := by simp [walkO]
theorem whl_walk {cal : Cal} {ds : List Deed} (hl : ds.length ≤ 90) (hnz : ∀ d ∈ ds, d.m ≠ (0, 0)) (hne : ds.Pairwise fun a b => a.m ≠ b.m) : ∀ (k : Nat) (f l : List Mark) (a4 : Slot), WI ds f l → (puts ds).length + 2 ≤ k + f.length → ∃ b4, whlL (fun ρ => mb (evE cal CC (.cmp .ne (.v 2) (.lst [])) ρ) mB) (evSs cal CC [.popi 4 2,
  .app 3 (.v 4),
  .aug 2 (.bi .sorted [.comp (.v 5) (.nm 5) (.keys (.v 1)) (.cmp .eq (.ix (.ix (.v 1) (.v 5)) (.k (.int 0))) (.v 4))])]) k [.val (eDs ds), .val (pD ds), .own (.lst (l.map eM)), .own (.lst (f.map eM)), a4, .no] = mp (.nx [.val (eDs ds), .val (pD ds), .own (.lst []), .own (.lst ((walkO ds k f l).map eM)), b4, .no]) ∧ WI ds (walkO ds k f l) []
  | 0, f, l, a4, W, hk => by
    have := W.bound
    omega
  | k + 1, f, l, a4, W, hk => by
    have wb := W.bound
    have okl : okD (.lst (l.map eM)) = true := (Fl0.lst (k := 1) fun a _ => fl_m a).ok (by omega)
    have hcase : l = [] ∨ ∃ i x, l = i ++ [x] := by
      rcases List.eq_nil_or_concat l with h | ⟨i, x, h⟩
      · exact .inl h
      · exact .inr ⟨i, x, by rw [h, List.concat_eq_append]⟩
    rcases hcase with rfl | ⟨i, x, rfl⟩
    · refine ⟨a4, ?_, by simpa [walkO] using W⟩
      have hc : cmpB .ne (.lst []) (.lst []) = some false := rfl
      unfold whlL
      simp [hc, walkO]
    · have hc : cmpB .ne (.lst ((i ++ [x]).map eM)) (.lst []) = some true := by
        show _ = some (!false)
        refine cmp_ne (y := .lst []) okl rfl ?_
        cases i <;> rfl
      have W' := W.step hnz hne
      obtain ⟨b4, ih, ih2⟩ := whl_walk (cal := cal) hl hnz hne k (f ++ [x]) (i ++ kids ds x) (.val (eM x)) W' (by simp; omega)
      have wb' := W'.bound
      have pl := puts_len ds
      simp only [List.length_append, List.length_cons, List.length_nil] at wb wb'
      refine ⟨b4, ?_, by simpa [walkO] using ih2⟩
      have ml := mlen_ok (n := f.length + 1) (by omega)
      have ml2 := mlen_ok (n := i.length + (kids ds x).length) (by omega)
      have fk := f_kids (cal := cal) (ds := ds) (ρ := [.val (eDs ds), .val (pD ds), .own (.lst (i.map eM)), .own (.lst ((f ++ [x]).map eM)), .val (eM x), .no]) (x := x) (a := 1) (b := 5) (c := 4) (pw_inj hne) (fun _ => rfl) (fun _ => rfl) (fun _ => rfl)
      have sm := sorted_ms (kt := CC.kt) (((puts ds).filter fun d => decide (wm d.w = x)).map (·.m))
      rw [show sortD mle (((puts ds).filter fun d => decide (wm d.w = x)).map (·.m)) = kids ds x from rfl] at sm
      have it : ∀ ys : List D, itemsD (.lst ys) = some ys := fun _ => rfl
      have rv : ((i ++ [x]).map eM).reverse = eM x :: (i.map eM).reverse := by simp
      have kp : evE cal CC (.v 1) [.val (eDs ds), .val (pD ds), .own (.lst (i.map eM)), .own (.lst ((f ++ [x]).map eM)), .val (eM x), .no] = mp (pD ds) := by simp
      have kk : keysM (pD ds) = mp ((puts ds).map fun d => eM d.m) := keys_pd
      have body : evSs cal CC [.popi 4 2, .app 3 (.v 4), .aug 2 (.bi .sorted [.comp (.v 5) (.nm 5) (.keys (.v 1)) (.cmp .eq (.ix (.ix (.v 1) (.v 5)) (.k (.int 0))) (.v 4))])] [.val (eDs ds), .val (pD ds), .own (.lst ((i ++ [x]).map eM)), .own (.lst (f.map eM)), a4, .no] = mp (.nx [.val (eDs ds), .val (pD ds), .own (.lst ((i ++ kids ds x).map eM)), .own (.lst ((f ++ [x]).map eM)), .val (eM x), .no]) := by
        simp only [ss_cons, st_popi, getS, getZ, rv]
        simp only [List.map_append, List.map_cons, List.map_nil] at fk ⊢
        simp [ml, ml2, kk, fk, sm, it, -List.map_map]
      unfold whlL
      have cnd : mb (evE cal CC (.cmp .ne (.v 2) (.lst [])) [.val (eDs ds), .val (pD ds), .own (.lst ((i ++ [x]).map eM)), .own (.lst (f.map eM)), a4, .no]) mB = mp true := by
        simp [hc, -List.map_append]
      rw [cnd, mb_mp', if_pos rfl, body, mb_mp']
      rw [walkO_one]
      exact ih
theorem Valid.rooted {s : Nat} {ds : List Deed} (V : Valid s ds) : Rooted ds := fun d hd => by
  have hm := (List.mem_filter.mp hd).1
  have I := V.inn d hm
  rcases I.named with h | ⟨e, he, hk, h1, h2⟩
  · exact .inl h
  · exact .inr ⟨e, List.mem_filter.mpr ⟨he, h2⟩, h1, I.less e he hk⟩
theorem r_order_in (n : Nat) {ds : List Deed} (hl : ds.length ≤ 60) (hnz : ∀ d ∈ ds, d.m ≠ (0, 0)) (hne : ds.Pairwise fun a b => a.m ≠ b.m) (hr : Rooted ds) (hp : ∀ d ∈ ds, 0 ≤ d.m.1) : run fns CC (n + 2) i_order_in [.val (eDs ds)] = mp (.lst ((order ds).map eM), false) ∧ (order ds).Perm ((puts ds).map (·.m)) := by
  have W0 : WI ds [] [(0, 0)] := by
    refine ⟨by simp, fun m hm => .inl (by simpa using hm), fun d hd => ?_⟩
    have := hnz d (List.mem_filter.mp hd).1
    simp [this]
  have pl := puts_len ds
  obtain ⟨b4, h1, h2⟩ := whl_walk (cal := run fns CC (n + 1)) (by omega) hnz hne 100 [] [(0, 0)] .no W0 (by simp; omega)
  have h0 : ∃ g, walkO ds 100 [] [(0, 0)] = (0, 0) :: g := by
    have ext : ∀ (k : Nat) (f l : List Mark), ∃ g, walkO ds k f l = f ++ g := by
      intro k
      induction k with
      | zero => intro f l; exact ⟨[], by simp [walkO]⟩
      | succ k ih =>
        intro f l
        unfold walkO
        split
        · exact ⟨[], by simp⟩
        · rename_i x r _
          obtain ⟨g, hg⟩ := ih (f ++ [x]) (r.reverse ++ kids ds x)
          exact ⟨x :: g, by rw [hg]; simp⟩
    have : walkO ds 100 [] [(0, 0)] = walkO ds 99 [(0, 0)] (kids ds (0, 0)) := walkO_one 99 [] [] (0, 0)
    rw [this]
    exact ext 99 [(0, 0)] _
  refine ⟨?_, h2.done hr hnz hne h0 hp⟩
  have h1' : whlL (fun ρ => mb (evE (run fns CC (n + 1)) CC (.cmp .ne (.v 2) (.lst [])) ρ) mB) (evSs (run fns CC (n + 1)) CC [.popi 4 2,
  .app 3 (.v 4),
  .aug 2 (.bi .sorted [.comp (.v 5) (.nm 5) (.keys (.v 1)) (.cmp .eq (.ix (.ix (.v 1) (.v 5)) (.k (.int 0))) (.v 4))])]) 100 [.val (eDs ds), .val (pD ds), .own (.lst [eM (0, 0)]), .own (.lst []), .no, .no] = mp (.nx [.val (eDs ds), .val (pD ds), .own (.lst []), .own (.lst ((walkO ds 100 [] [(0, 0)]).map eM)), b4, .no]) := h1
  have sl : ∀ xs : List D, slD (.lst xs) (some 1) none = some (.lst xs.tail) := fun xs => by
    show some (D.lst (cutD xs (some 1) none)) = _
    rw [cut_lo xs (by omega)]; simp
  simp [at_order_in, f_order_in, r_puts_in n hnz hne, h1', sl, order, -e_cmp]
theorem V_order_in (n s : Nat) (ds : List Deed) (V : Valid s ds) : run fns CC (n + 2) i_order_in [.val (eDs ds)] = mp (.lst ((order ds).map eM), false) ∧ (order ds).Perm ((puts ds).map (·.m)) :=
  r_order_in n V.len V.nz V.ne V.rooted fun d hd => by
    have := (V.ok d hd).m
    simp [okM] at this
    omega
end KL
end

section
set_option Elab.async false
set_option linter.all false
set_option maxRecDepth 100000
/-! P10: what is asked of runs. -/
namespace KL
open EV
theorem gS : CC.gl[g_SITES]? = some (.int 4) := (rfl)
theorem gK : CC.gl[g_KNOWN]? = some (.int 60) := (rfl)
theorem okM_mono {s : Nat} {m : Mark} (h4 : s ≤ 4) (h : okM s m = true) : okM 4 m = true := by
  simp [okM] at h ⊢
  omega
theorem r_need_put (n s : Nat) (ds : List Deed) (V : Valid s ds) {m : Mark} (hm : ∃ d ∈ puts ds, d.m = m) : run fns CC (n + 4) i_need_put [.val (eDs ds), .val (eM m)] = mp (.non, false) := by
  obtain ⟨d, hd, rfl⟩ := hm
  obtain ⟨h1, h2⟩ := List.mem_filter.mp hd
  have fm := r_fits_mark n 4 d.m
  rw [okM_mono V.s4 (V.ok d h1).m] at fm
  have f : filtL (cT (run fns CC (n + 3)) CC (.and (.cmp .eq (.ix (.v 2) (.k (.int 0))) (.v 1)) (.cmp .eq (.ix (.ix (.v 2) (.k (.int 3))) (.k (.int 0))) (.k (.str [112, 117, 116])))) (.nm 2) (.k (.bl true)) [.val (eDs ds), .val (eM d.m), .no]) (ds.map eD) = mp (ds.map fun e => D.bl (decide (e.m = d.m) && isPut e.w)) := by
    refine filtL_all (fun e : Deed => D.bl (decide (e.m = d.m) && isPut e.w)) fun e _ => ?_
    by_cases h : e.m = d.m <;> simp [cT, h]
  have a := any_bl (kt := CC.kt) (fun e : Deed => decide (e.m = d.m) && isPut e.w) ds
  rw [show (ds.any fun e : Deed => decide (e.m = d.m) && isPut e.w) = true from List.any_eq_true.mpr ⟨d, h1, by simp [h2]⟩] at a
  simp [at_need_put, f_need_put, gS, fm, f, a]
theorem r_need_spot (n s : Nat) (ds : List Deed) (V : Valid s ds) {m : Mark} (hm : m = (0, 0) ∨ ∃ d ∈ puts ds, d.m = m) : run fns CC (n + 5) i_need_spot [.val (eDs ds), .val (eM m)] = mp (.non, false) := by
  by_cases h : m = (0, 0)
  · subst h
    have fw : ∀ ρ : Env, (∀ d, Env.get (ρ.set 2 (.val d)) 2 = .val d) → filtL (cT (run fns CC (n + 4)) CC (.call i_fits_whole [.v 2, .k (.int 0), .k (.int 0)]) (.nm 2) (.k (.bl true)) ρ) [.int 0, .int 0] = mp [.bl true, .bl true] := fun ρ hρ => by
      simp [filtL, cT, hρ]
    have a : biD CC.kt .all [.lst [.bl true, .bl true]] = some (.bl true) := rfl
    simp [at_need_spot, f_need_spot, fw, a]
  · have np := r_need_put n s ds V (hm.resolve_left h)
    simp [at_need_spot, f_need_spot, h, np]
theorem r_need_way (n : Nat) (on : Bool) : run fns CC (n + 1) i_need_way [.val (.str (wayS on))] = mp (.non, false) := by
  cases on <;> rfl
theorem r_order_of (n s : Nat) (ds : List Deed) (V : Valid s ds) : run fns CC (n + 8) i_order_of [.val (.int s), .val (eDs ds)] = mp (.tup ((order ds).map eM), false) := by
  simp [at_order_of, f_order_of, r_need_deeds n s ds V, (V_order_in (n + 5) s ds V).1]
theorem r_behind_of (n s : Nat) (ds : List Deed) (V : Valid s ds) {m : Mark} (hm : m = (0, 0) ∨ ∃ d ∈ puts ds, d.m = m) : run fns CC (n + 8) i_behind_of [.val (.int s), .val (eDs ds), .val (eM m)] = mp (.tup ((kids ds m).reverse.map eM), false) := by
  have fk := f_kids (cal := run fns CC (n + 7)) (ds := ds) (ρ := [.val (.int s), .val (eDs ds), .val (eM m), .val (pD ds), .no]) (x := m) (a := 3) (b := 4) (c := 2) V.inj (fun _ => rfl) (fun _ => rfl) (fun _ => rfl)
  have sm := sorted_ms (kt := CC.kt) (((puts ds).filter fun d => decide (wm d.w = m)).map (·.m))
  rw [show sortD mle (((puts ds).filter fun d => decide (wm d.w = m)).map (·.m)) = kids ds m from rfl] at sm
  have kk : keysM (pD ds) = mp ((puts ds).map fun d => eM d.m) := keys_pd
  have rv : revD (.lst ((kids ds m).map eM)) = some (.lst ((kids ds m).reverse.map eM)) := by
    rw [List.map_reverse]; rfl
  simp [at_behind_of, f_behind_of, r_need_deeds n s ds V, r_need_spot (n + 2) s ds V hm, V_puts_in (n + 6) s ds V, kk, fk, sm, rv, -List.map_map, -List.map_reverse]
theorem r_runs_of (n s : Nat) (ds : List Deed) (on : Bool) (V : Valid s ds) : run fns CC (n + 8) i_runs_of [.val (.int s), .val (eDs ds), .val (.str (wayS on))] = mp (.tup ((runs on s ds).map eR), false) := by
  simp [at_runs_of, f_runs_of, r_need_deeds n s ds V, r_need_way (n + 6) on, r_runs_in (n + 4) s ds on V.s4 V.len]
/-! ### rows of marks -/
theorem eqD_r (a b : Run) : eqD (eR a) (eR b) = decide (a = b) := by
  simp only [eR, eqD]
  exact eqL_map eqD_m a b
theorem any_eq {α : Type} [DecidableEq α] {enc : α → D} (h : ∀ a b, eqD (enc a) (enc b) = decide (a = b)) (l : List α) (x : α) {b : Bool} (hb : b = true ↔ x ∈ l) : ((l.map enc).any fun y => eqD y (enc x)) = b := by
  rw [List.any_map, Bool.eq_iff_iff, hb, List.any_eq_true]
  constructor
  · rintro ⟨y, hy, e⟩
    simp only [Function.comp, h, decide_eq_true_eq] at e
    rw [← e]; exact hy
  · exact fun hx => ⟨x, hx, by simp [h]⟩
theorem in_seq {α : Type} [DecidableEq α] {enc : α → D} {k : Nat} (hk : k ≤ 60) (h : ∀ a b, eqD (enc a) (enc b) = decide (a = b)) (hf : ∀ a, Fl0 k (enc a)) (l : List α) (x : α) {b : Bool} (hb : b = true ↔ x ∈ l) : cmpB .«in» (enc x) (.lst (l.map enc)) = some b ∧ cmpB .«in» (enc x) (.tup (l.map enc)) = some b := by
  have ok : (okD (enc x) && (l.map enc).all okD) = true := by
    rw [(hf x).ok hk, Bool.true_and, List.all_map]
    exact List.all_eq_true.mpr fun a _ => (hf a).ok hk
  have e := any_eq h l x hb
  constructor
  · have : cmpB .«in» (enc x) (.lst (l.map enc)) = inD (enc x) (.lst (l.map enc)) := rfl
    rw [this]
    have : inD (enc x) (.lst (l.map enc)) = if okD (enc x) && (l.map enc).all okD then some ((l.map enc).any fun y => eqD y (enc x)) else none := by
      cases enc x <;> rfl
    rw [this, ok, if_pos rfl, e]
  · have : cmpB .«in» (enc x) (.tup (l.map enc)) = inD (enc x) (.tup (l.map enc)) := rfl
    rw [this]
    have : inD (enc x) (.tup (l.map enc)) = if okD (enc x) && (l.map enc).all okD then some ((l.map enc).any fun y => eqD y (enc x)) else none := by
      cases enc x <;> rfl
    rw [this, ok, if_pos rfl, e]
theorem in_rs (rs : List Run) (r : Run) : cmpB .«in» (eR r) (.lst (rs.map eR)) = some (decide (r ∈ rs)) := (in_seq (k := 2) (by omega) eqD_r fl_r rs r (by simp)).1
theorem in_r (r : Run) (m : Mark) : cmpB .«in» (eM m) (eR r) = some (decide (m ∈ r)) := (in_seq (k := 1) (by omega) eqD_m fl_m r m (by simp)).2
theorem notin_ms (r : List Mark) (m : Mark) : cmpB .notin (eM m) (.tup (r.map eM)) = some (!decide (m ∈ r)) := by
  have := (in_seq (k := 1) (by omega) eqD_m fl_m r m (b := decide (m ∈ r)) (by simp)).2
  have e : cmpB .notin (eM m) (.tup (r.map eM)) = (cmpB .«in» (eM m) (.tup (r.map eM))).map (!·) := rfl
  rw [e, this, Option.map_some]
theorem firsts_nd {α : Type} [DecidableEq α] {enc : α → D} (h : ∀ a b, eqD (enc a) (enc b) = decide (a = b)) : ∀ (l seen : List α), l.Nodup → (∀ x ∈ l, x ∉ seen) → firsts (l.map enc) (seen.map enc) = l.map enc
  | [], _, _, _ => rfl
  | x :: l, seen, hn, hs => by
    obtain ⟨h1, h2⟩ := List.nodup_cons.mp hn
    have := any_eq h seen x (b := false) (by simp [hs x (by simp)])
    simp only [List.map_cons, firsts, this, Bool.false_eq_true, if_false]
    rw [← List.map_cons (f := enc) (a := x) (l := seen), firsts_nd h l (x :: seen) h2 fun y hy hm => by
      rcases List.mem_cons.mp hm with rfl | hm
      · exact h1 hy
      · exact hs y (by simp [hy]) hm]
theorem lset_r {r : Run} (hn : r.Nodup) (hl : r.length ≤ 60) : biD CC.kt .lset [eR r] = some (.int r.length) := by
  have ok : setOk (r.map eM) = true := by
    unfold setOk
    rw [decide_eq_true (by rw [List.length_map]; omega), Bool.true_and, Bool.or_eq_true]
    right
    rw [List.all_map]
    exact List.all_eq_true.mpr fun _ _ => rfl
  have f := firsts_nd (enc := eM) eqD_m r [] hn (by simp)
  simp only [List.map_nil] at f
  show ((itemsD (eR r)).bind fun xs => if setOk xs then some (D.int (firsts xs []).length) else none) = _
  simp only [eR, itemsD, Option.bind_some, ok, if_true, f, List.length_map]
/-- rows of marks of puts -/
structure RowOk (ds : List Deed) (r : Run) : Prop where
  ne : r ≠ []
  nd : r.Nodup
  len : r.length ≤ 60
  mem : ∀ m ∈ r, ∃ d ∈ puts ds, d.m = m
theorem r_need_marks (n s : Nat) (ds : List Deed) (V : Valid s ds) {r : Run} (h : RowOk ds r) : run fns CC (n + 5) i_need_marks [.val (eDs ds), .val (eR r)] = mp (.non, false) := by
  have hl := h.len
  have hp := List.length_pos_iff.mpr h.ne
  have t : run fns CC (n + 3) i_is_tuple_of [.val (eR r), .val (.int 1), .val (.int 60)] = mp (.bl true, false) := by
    have e1 : (1 : Int) ≤ r.length := by omega
    have e2 : (r.length : Int) ≤ 60 := by omega
    rw [show eR r = .tup (r.map eM) from rfl, r_is_tuple_of, List.length_map, decide_eq_true e1, decide_eq_true e2]
    rfl
  have f1 : filtL (cT (run fns CC (n + 3)) CC (.call i_fits_mark [.g g_SITES, .v 3]) (.nm 3) (.k (.bl true)) [.val (eDs ds), .val (eR r), .no, .no]) (r.map eM) = mp (r.map fun _ => D.bl true) := by
    refine filtL_all (fun _ => D.bl true) fun m hm => ?_
    obtain ⟨d, hd, rfl⟩ := h.mem m hm
    have fm := r_fits_mark n 4 d.m
    rw [okM_mono V.s4 (V.ok d (List.mem_filter.mp hd).1).m] at fm
    simp [cT, gS, fm]
  have f2 : filtL (cT (run fns CC (n + 3)) CC (.cmp .«in» (.v 3) (.v 2)) (.nm 3) (.k (.bl true)) [.val (eDs ds), .val (eR r), .val (pD ds), .no]) (r.map eM) = mp (r.map fun _ => D.bl true) := by
    refine filtL_all (fun _ => D.bl true) fun m hm => ?_
    obtain ⟨d, hd, rfl⟩ := h.mem m hm
    have hi : cmpB .«in» (eM d.m) (pD ds) = some true := in_pd (fun a ha e => V.inj a (List.mem_filter.mp ha).1 d (List.mem_filter.mp hd).1 e) hd
    simp [cT, hi]
  have a1 : biD CC.kt .all [.lst (r.map fun _ => D.bl true)] = some (.bl true) := by
    rw [all_bl (fun _ : Mark => true)]; simp
  have wk : walkD (eR r) = some (r.map eM) := rfl
  have ln : biD CC.kt .len [eR r] = some (.int r.length) := by
    rw [show eR r = .tup (r.map eM) from rfl, len_tup, List.length_map]
  have fits : run fns CC (n + 4) i_fits_marks [.val (eDs ds), .val (eR r)] = mp (.bl true, false) := by
    simp [at_fits_marks, f_fits_marks, gK, t, wk, f1, a1, V_puts_in (n + 2) s ds V, f2, lset_r h.nd h.len, ln]
  simp [at_need_marks, f_need_marks, fits]
theorem r_is_run (n s : Nat) (ds : List Deed) (on : Bool) (V : Valid s ds) {r : Run} (h : RowOk ds r) : run fns CC (n + 8) i_is_run [.val (.int s), .val (eDs ds), .val (.str (wayS on)), .val (eR r)] = mp (.bl (decide (r ∈ runs on s ds)), false) := by
  simp [at_is_run, f_is_run, r_need_deeds n s ds V, r_need_way (n + 6) on, r_need_marks (n + 2) s ds V h, r_runs_in (n + 4) s ds on V.s4 V.len, in_rs]
/-! ### what runs say -/
theorem Valid.runs {s : Nat} {ds : List Deed} (V : Valid s ds) (on : Bool) : RunsOk on s ds (runs on s ds) := runs_ok on V.site
theorem flat_nd {α : Type} {l : List α} : ∀ {ls : List (List α)}, ls.flatten.Nodup → l ∈ ls → l.Nodup
  | k :: ls, h, hl => by
    rw [List.flatten_cons, List.nodup_append] at h
    rcases List.mem_cons.mp hl with rfl | hl
    · exact h.1
    · exact flat_nd h.2.1 hl
/-- what is in one row is in no other -/
theorem flat_one {α : Type} {l k : List α} {x : α} : ∀ {ls : List (List α)}, ls.flatten.Nodup → l ∈ ls → k ∈ ls → x ∈ l → x ∈ k → l = k
  | m :: ls, h, hl, hk, xl, xk => by
    rw [List.flatten_cons, List.nodup_append] at h
    rcases List.mem_cons.mp hl with e | hl' <;> rcases List.mem_cons.mp hk with e' | hk'
    · rw [e, e']
    · subst e
      exact absurd rfl (h.2.2 x xl x (List.mem_flatten.mpr ⟨k, hk', xk⟩))
    · subst e'
      exact absurd rfl (h.2.2 x xk x (List.mem_flatten.mpr ⟨l, hl', xl⟩))
    · exact flat_one h.2.1 hl' hk' xl xk
/-- only one row has it -/
theorem filter_one {α : Type} {l : List α} {x : α} {p : List α → Bool} (hp : ∀ k, p k = true ↔ x ∈ k) : ∀ {ls : List (List α)}, ls.flatten.Nodup → l ∈ ls → x ∈ l → (ls.filter p).head? = some l
  | m :: ls, h, hl, xl => by
    by_cases hm : p m = true
    · have := flat_one h hl (by simp) xl ((hp m).mp hm)
      subst this
      simp [List.filter_cons, hm]
    · rw [List.filter_cons, if_neg hm]
      rcases List.mem_cons.mp hl with rfl | hl
      · exact absurd ((hp _).mpr xl) hm
      · rw [List.flatten_cons, List.nodup_append] at h
        exact filter_one hp h.2.1 hl xl
theorem RunsOk.nd {on : Bool} {s : Nat} {ds : List Deed} (V : Valid s ds) {rs : List Run} (R : RunsOk on s ds rs) : rs.flatten.Nodup :=
  R.perm.nodup_iff.mpr (nd_marks (V.ne.sublist List.filter_sublist))
theorem RunsOk.row {on : Bool} {s : Nat} {ds : List Deed} (V : Valid s ds) {rs : List Run} (R : RunsOk on s ds rs) {r : Run} (hr : r ∈ rs) : RowOk ds r := by
  refine ⟨R.ne r hr, flat_nd (R.nd V) hr, ?_, fun m hm => ?_⟩
  · have h1 := len_mem hr
    have h2 := R.perm.length_eq
    rw [List.length_map] at h2
    have := puts_len ds
    have := V.len
    omega
  · have := R.perm.mem_iff.mp (List.mem_flatten.mpr ⟨r, hr, hm⟩)
    obtain ⟨d, hd, e⟩ := List.mem_map.mp this
    exact ⟨d, hd, e⟩
theorem ix_head {α : Type} {enc : α → D} {l : List α} {x : α} (h : l.head? = some x) : ixD (.lst (l.map enc)) (.int 0) = some (enc x) := by
  cases l with
  | nil => cases h
  | cons y l =>
    cases h
    exact ix_cons0 _ _
theorem ix_rhead {r : Run} {x : Mark} (h : r.head? = some x) : ixD (eR r) (.int 0) = some (eM x) := by
  cases r with
  | nil => cases h
  | cons y l =>
    cases h
    exact ixt_cons0 _ _
theorem r_run_of (n s : Nat) (ds : List Deed) (on : Bool) (V : Valid s ds) {r : Run} (hr : r ∈ runs on s ds) {m : Mark} (hm : m ∈ r) : run fns CC (n + 8) i_run_of [.val (.int s), .val (eDs ds), .val (.str (wayS on)), .val (eM m)] = mp (eR r, false) := by
  have R := V.runs on
  have f : filtL (cT (run fns CC (n + 7)) CC (.v 4) (.nm 4) (.cmp .«in» (.v 3) (.v 4)) [.val (.int s), .val (eDs ds), .val (.str (wayS on)), .val (eM m), .no]) ((runs on s ds).map eR) = mp (((runs on s ds).filter fun k => decide (m ∈ k)).map eR) := by
    refine filtL_enc (fun k => decide (m ∈ k)) eR fun k _ => ?_
    simp [cT, in_r]
  have i0 := ix_head (enc := eR) (filter_one (p := fun k => decide (m ∈ k)) (fun k => by simp) (R.nd V) hr hm)
  simp [at_run_of, f_run_of, r_need_deeds n s ds V, r_need_way (n + 6) on, r_need_put (n + 3) s ds V ((R.row V hr).mem m hm), r_runs_in (n + 4) s ds on V.s4 V.len, f, i0]
@[simp] theorem len_r (r : Run) : biD CC.kt .len [eR r] = some (.int r.length) := by
  rw [show eR r = .tup (r.map eM) from rfl, len_tup, List.length_map]
@[simp] theorem walk_r (r : Run) : walkD (eR r) = some (r.map eM) := (rfl)
/-- what heads are -/
def hdD (ds : List Deed) (r : Run) : D := match r.head? with
  | none => .non
  | some m => match (puts ds).find? fun d => decide (d.m = m) with
    | some d => .tup [eM m, eM (wm d.w)]
    | none => .non
theorem find_put {s : Nat} {ds : List Deed} (V : Valid s ds) {d : Deed} (hd : d ∈ puts ds) : (puts ds).find? (fun e => decide (e.m = d.m)) = some d := by
  have inj : ∀ a ∈ puts ds, a.m = d.m → a = d := fun a ha e => V.inj a (List.mem_filter.mp ha).1 d (List.mem_filter.mp hd).1 e
  generalize puts ds = l at *
  induction l with
  | nil => cases hd
  | cons a l ih =>
    by_cases e : a.m = d.m
    · rw [List.find?_cons_of_pos (by simpa using e), inj a (by simp) e]
    · rw [List.find?_cons_of_neg (by simpa using e)]
      rcases List.mem_cons.mp hd with rfl | hd
      · exact absurd rfl e
      · exact ih hd fun b hb => inj b (by simp [hb])
theorem r_heads_of (n s : Nat) (ds : List Deed) (on : Bool) (V : Valid s ds) : run fns CC (n + 8) i_heads_of [.val (.int s), .val (eDs ds), .val (.str (wayS on))] = mp (.tup ((runs on s ds).map (hdD ds)), false) := by
  have R := V.runs on
  have f : filtL (cT (run fns CC (n + 7)) CC (.tup [.ix (.v 4) (.k (.int 0)), .ix (.ix (.v 3) (.ix (.v 4) (.k (.int 0)))) (.k (.int 0))]) (.nm 4) (.k (.bl true)) [.val (.int s), .val (eDs ds), .val (.str (wayS on)), .val (pD ds), .no]) ((runs on s ds).map eR) = mp ((runs on s ds).map (hdD ds)) := by
    refine filtL_all (hdD ds) fun r hr => ?_
    have W := R.row V hr
    obtain ⟨m, hm⟩ : ∃ m, r.head? = some m := by
      cases r with
      | nil => exact absurd rfl W.ne
      | cons m r => exact ⟨m, rfl⟩
    obtain ⟨d, hd, rfl⟩ := W.mem m (by
      cases r with
      | nil => cases hm
      | cons y r => cases hm; simp)
    have hx : ixD (pD ds) (eM d.m) = some (vP d) := ix_pd (fun a ha e => V.inj a (List.mem_filter.mp ha).1 d (List.mem_filter.mp hd).1 e) hd
    have e : hdD ds r = .tup [eM d.m, eM (wm d.w)] := by
      unfold hdD
      rw [hm]
      simp only [find_put V hd]
    simp [cT, ix_rhead hm, hx, e]
  simp [at_heads_of, f_heads_of, r_need_deeds n s ds V, r_need_way (n + 6) on, V_puts_in (n + 6) s ds V, r_runs_in (n + 4) s ds on V.s4 V.len, f]
/-! ### sizes -/
def sizes (rs : List Run) : List Int := rs.map fun r => (r.length : Int)
theorem f_sizes {cal : Cal} {ρ : Env} {i : Nat} (h : ∀ d, Env.get (ρ.set i (.val d)) i = .val d) (rs : List Run) : filtL (cT cal CC (.bi .len [.v i]) (.nm i) (.k (.bl true)) ρ) (rs.map eR) = mp ((sizes rs).map D.int) := by
  unfold sizes
  rw [List.map_map]
  refine filtL_all (fun r : Run => D.int r.length) fun r _ => ?_
  simp [cT, h]
/-- sizes and how often, by what the evaluator says -/
def cntsD (rs : List Run) : M D := mb (mo (biD CC.kt .sset [.lst ((sizes rs).map D.int)])) fun x => mb (mo (walkD x)) fun xs => mb (filtL (fun x => mb (mo (biD CC.kt .count [.lst ((sizes rs).map D.int), x])) fun c => mp (some (D.tup [x, c]))) xs) fun ys => mo (biD CC.kt .tuple [.lst ys])
end KL
end

section
set_option Elab.async false
set_option linter.all false
set_option maxRecDepth 100000
/-! P11: sizes, the longest. -/
namespace KL
open EV
theorem firsts_sub : ∀ (xs seen : List D), ∀ x ∈ firsts xs seen, x ∈ xs
  | [], _, x, hx => by simp [firsts] at hx
  | y :: ys, seen, x, hx => by
    unfold firsts at hx
    split at hx
    · exact List.mem_cons_of_mem _ (firsts_sub ys seen x hx)
    · rcases List.mem_cons.mp hx with rfl | hx
      · simp
      · exact List.mem_cons_of_mem _ (firsts_sub ys _ x hx)
def setD (rs : List Run) : List D := sortD leD (firsts ((sizes rs).map D.int) [])
def setZ (rs : List Run) : List Int := (setD rs).filterMap fun | .int i => some i | _ => none
theorem ints_of : ∀ {l : List D}, (∀ x ∈ l, ∃ i, x = .int i) → (l.filterMap fun | .int i => some i | _ => none).map D.int = l
  | [], _ => rfl
  | x :: l, h => by
    obtain ⟨i, rfl⟩ := h x (by simp)
    have := ints_of fun y hy => h y (List.mem_cons_of_mem _ hy)
    simp only [List.filterMap_cons, List.map_cons, this]
theorem setZ_map (rs : List Run) : (setZ rs).map D.int = setD rs := by
  refine ints_of fun x hx => ?_
  have h1 := (sortD_perm _).mem_iff.mp hx
  have h2 := firsts_sub _ _ x h1
  obtain ⟨i, _, rfl⟩ := List.mem_map.mp h2
  exact ⟨i, rfl⟩
def cnts (rs : List Run) : List D := (setZ rs).map fun z => .tup [.int z, .int (cntD (.int z) ((sizes rs).map D.int))]
theorem sset_sizes {rs : List Run} (h : rs.length ≤ 60) : biD CC.kt .sset [.lst ((sizes rs).map D.int)] = some (.lst ((setZ rs).map D.int)) := by
  rw [setZ_map]
  show (if decide (((sizes rs).map D.int).length < 64) && ((sizes rs).map D.int).all isIntD then some (D.lst (setD rs)) else none) = _
  rw [if_pos]
  rw [decide_eq_true (by simp [sizes]; omega), Bool.true_and, List.all_map]
  exact List.all_eq_true.mpr fun _ _ => rfl
theorem count_sizes (rs : List Run) (z : Int) : biD CC.kt .count [.lst ((sizes rs).map D.int), .int z] = some (.int (cntD (.int z) ((sizes rs).map D.int))) := by
  show (if okD (.int z) && ((sizes rs).map D.int).all okD then some (D.int (cntD (.int z) ((sizes rs).map D.int))) else none) = _
  rw [if_pos]
  rw [Bool.and_eq_true]
  refine ⟨rfl, ?_⟩
  rw [List.all_map]
  exact List.all_eq_true.mpr fun _ _ => rfl
theorem f_cnts {cal : Cal} {ρ : Env} {i j : Nat} (rs : List Run) (hi : ∀ d, Env.get (ρ.set i (.val d)) i = .val d) (hj : ∀ d, Env.get (ρ.set i (.val d)) j = .val (.lst ((sizes rs).map D.int))) : filtL (cT cal CC (.tup [.v i, .m1 .count (.v j) (.v i)]) (.nm i) (.k (.bl true)) ρ) ((setZ rs).map D.int) = mp (cnts rs) := by
  unfold cnts
  refine filtL_all (fun z : Int => D.tup [.int z, .int (cntD (.int z) ((sizes rs).map D.int))]) fun z _ => ?_
  simp [cT, hi, hj, count_sizes]
theorem runs_len {on : Bool} {s : Nat} {ds : List Deed} (V : Valid s ds) : (runs on s ds).length ≤ 60 := by
  have R := V.runs on
  have h1 := len_flat R.ne
  have h2 := R.perm.length_eq
  rw [List.length_map] at h2
  have := puts_len ds
  have := V.len
  omega
theorem r_runs_counted (n s : Nat) (ds : List Deed) (on : Bool) (V : Valid s ds) : run fns CC (n + 8) i_runs_counted [.val (.int s), .val (eDs ds), .val (.str (wayS on))] = mp (.tup (cnts (runs on s ds)), false) := by
  have fs := f_sizes (cal := run fns CC (n + 7)) (ρ := [.val (.int s), .val (eDs ds), .val (.str (wayS on)), .no, .no, .no]) (i := 4) (fun _ => rfl) (runs on s ds)
  have fc := f_cnts (cal := run fns CC (n + 7)) (ρ := [.val (.int s), .val (eDs ds), .val (.str (wayS on)), .val (.lst ((sizes (runs on s ds)).map D.int)), .no, .no]) (i := 5) (j := 3) (runs on s ds) (fun _ => rfl) (fun _ => rfl)
  have ss := sset_sizes (runs_len (on := on) V)
  simp [at_runs_counted, f_runs_counted, r_need_deeds n s ds V, r_need_way (n + 6) on, r_runs_in (n + 4) s ds on V.s4 V.len, fs, fc, ss]
/-! ### the longest -/
def mxI (rs : List Run) : Int := match sizes rs with
  | [] => 0
  | x :: xs => maxI x xs
theorem max_sizes {rs : List Run} (h : rs ≠ []) : biD CC.kt .max [.lst ((sizes rs).map D.int)] = some (.int (mxI rs)) ∧ mxI rs ∈ sizes rs := by
  cases rs with
  | nil => exact absurd rfl h
  | cons r rs =>
    obtain ⟨m, h1, h2, _⟩ := maxL_map (r.length : Int) (rs.map fun r => (r.length : Int))
    have e : biD CC.kt .max [.lst ((sizes (r :: rs)).map D.int)] = some (.int (mxI (r :: rs))) := by
      show ((itemsD (.lst ((sizes (r :: rs)).map D.int))).bind fun xs => (allInts xs).bind maxL) = _
      simp only [itemsD, Option.bind_some, allInts_map]
      rfl
    refine ⟨e, ?_⟩
    have h1' : biD CC.kt .max [.lst ((sizes (r :: rs)).map D.int)] = some (.int m) := h1
    rw [e] at h1'
    cases h1'
    exact h2
def isMx (rs : List Run) (r : Run) : Bool := decide ((r.length : Int) = mxI rs)
def longest (rs : List Run) : Run := ((rs.filter (isMx rs)).head?).getD []
theorem longest_head {rs : List Run} (h : rs ≠ []) : (rs.filter (isMx rs)).head? = some (longest rs) := by
  obtain ⟨_, hm⟩ := max_sizes h
  obtain ⟨r, hr, e⟩ := List.mem_map.mp hm
  unfold longest
  cases hf : rs.filter (isMx rs) with
  | nil =>
    have : r ∈ rs.filter (isMx rs) := List.mem_filter.mpr ⟨hr, by simp [isMx, e]⟩
    rw [hf] at this
    cases this
  | cons a l => rfl
theorem ne_nil_rs {rs : List Run} : cmpB .ne (.lst (rs.map eR)) (.lst []) = some (!rs.isEmpty) := by
  refine cmp_ne ((Fl0.lst (k := 2) fun a _ => fl_r a).ok (by omega)) rfl ?_
  cases rs <;> rfl
theorem r_longest_run (n s : Nat) (ds : List Deed) (on : Bool) (V : Valid s ds) : run fns CC (n + 8) i_longest_run [.val (.int s), .val (eDs ds), .val (.str (wayS on))] = mp (eR (longest (runs on s ds)), false) := by
  have fs : ∀ d, filtL (cT (run fns CC (n + 7)) CC (.bi .len [.v 5]) (.nm 5) (.k (.bl true)) [.val (.int s), .val (eDs ds), .val (.str (wayS on)), .val (.lst ((runs on s ds).map eR)), .val d, .no]) ((runs on s ds).map eR) = mp ((sizes (runs on s ds)).map D.int) := fun d =>
    f_sizes (cal := run fns CC (n + 7)) (i := 5) (fun _ => rfl) (runs on s ds)
  have hw := r_runs_in (n + 4) s ds on V.s4 V.len
  generalize runs on s ds = rs at *
  by_cases h : rs = []
  · subst h
    have hc : cmpB .ne (.lst []) (.lst []) = some false := rfl
    simp [at_longest_run, f_longest_run, r_need_deeds n s ds V, r_need_way (n + 6) on, hw, hc, longest, eR]
  · have hx := (max_sizes h).1
    have f : filtL (cT (run fns CC (n + 7)) CC (.v 4) (.nm 4) (.cmp .eq (.bi .len [.v 4]) (.bi .max [.comp (.bi .len [.v 5]) (.nm 5) (.pl (.v 3)) (.k (.bl true))])) [.val (.int s), .val (eDs ds), .val (.str (wayS on)), .val (.lst (rs.map eR)), .no, .no]) (rs.map eR) = mp ((rs.filter (isMx rs)).map eR) := by
      refine filtL_enc (isMx rs) eR fun r _ => ?_
      simp [cT, fs, hx, isMx, -List.map_map]
    have he : rs.isEmpty = false := by
      cases rs with
      | nil => exact absurd rfl h
      | cons a l => rfl
    have i0 := ix_head (enc := eR) (longest_head h)
    simp [at_longest_run, f_longest_run, r_need_deeds n s ds V, r_need_way (n + 6) on, hw, ne_nil_rs, he, f, i0]
/-! ### what can be held to be the same -/
theorem sameL {α : Type} {f : α → D} : ∀ {l : List α}, (∀ a ∈ l, sameOk (f a) = true) → sameOkL (l.map f) = true
  | [], _ => rfl
  | a :: l, h => by
    simp only [List.map_cons, sameOkL, Bool.and_eq_true]
    exact ⟨h a (by simp), sameL fun b hb => h b (by simp [hb])⟩
/-- data that can be held to be the same, no deeper than k -/
structure Sm (k : Nat) (d : D) : Prop where
  s : sameOk d = true
  d : depD d ≤ k
theorem Sm.tup {α : Type} {f : α → D} {l : List α} {k : Nat} (hl : l.length ≤ 1000) (h : ∀ a ∈ l, Sm k (f a)) : Sm (k + 1) (.tup (l.map f)) :=
  ⟨by simp only [sameOk, Bool.and_eq_true, decide_eq_true_eq, List.length_map]; exact ⟨sameL fun a ha => (h a ha).s, hl⟩, by simp only [depD]; exact Nat.succ_le_succ (depL_map fun a ha => (h a ha).d)⟩
theorem Sm.tupI {l : List D} {k : Nat} (hl : l.length ≤ 1000) (h : ∀ a ∈ l, Sm k a) : Sm (k + 1) (.tup l) := by
  have := Sm.tup (f := fun d : D => d) hl h
  rwa [List.map_id'] at this
theorem Sm.int {k : Nat} (i : Int) : Sm k (.int i) := ⟨rfl, Nat.zero_le _⟩
theorem Sm.bl {k : Nat} (i : Bool) : Sm k (.bl i) := ⟨rfl, Nat.zero_le _⟩
theorem Sm.str {k : Nat} (i : List Nat) : Sm k (.str i) := ⟨rfl, Nat.zero_le _⟩
theorem Sm.non {k : Nat} : Sm k .non := ⟨rfl, Nat.zero_le _⟩
theorem Sm.mono {k j : Nat} {d : D} (h : Sm k d) (hk : k ≤ j) : Sm j d := ⟨h.s, Nat.le_trans h.d hk⟩
theorem sm_m (m : Mark) : Sm 1 (eM m) := Sm.tupI (by simp) fun a ha => by
  simp at ha
  rcases ha with rfl | rfl <;> exact Sm.int _
theorem sm_r {r : Run} (h : r.length ≤ 1000) : Sm 2 (eR r) := Sm.tup h fun a _ => sm_m a
theorem r_sm (n : Nat) {j : Nat} {d : D} (h : Sm j d) : run fns CC (n + j + 1) i_law_same [.val d, .val d] = mp (.bl true, false) := r_same j d h.s h.d n
end KL
end

section
set_option Elab.async false
set_option linter.all false
set_option maxRecDepth 100000
/-! P12: one round of the law. -/
namespace KL
open EV
theorem ss_st {cal : Cal} {s : IS} {r : List IS} {ρ ρ' : Env} {X : M Fl} (h : evS cal CC s ρ = mp (.nx ρ')) (h2 : evSs cal CC r ρ' = X) : evSs cal CC (s :: r) ρ = X := by
  rw [ss_cons, h, mb_mp', aft_nx, h2]
def aD (ds : List Deed) : D := .dic ((puts ds).map fun d => (eM d.m, eM (wm d.w)))
theorem pairsD_ms : ∀ l : List Deed, (∀ d ∈ l, d.m ≠ (0, 0)) → pairsD CC.kt true (l.map fun d => D.tup [eM d.m, eM (wm d.w)]) = some (l.map fun d => (eM d.m, eM (wm d.w)))
  | [], _ => rfl
  | d :: l, h => by
    have := pairsD_ms l fun e he => h e (by simp [he])
    simp only [List.map_cons, pairsD, keyF_m (h d (by simp)), if_true, this, Option.map_some]
theorem dict_after {s : Nat} {ds : List Deed} (V : Valid s ds) : biD CC.kt (.dict true) [.lst ((puts ds).map fun d => D.tup [eM d.m, eM (wm d.w)])] = some (aD ds) := by
  show ((pairsD CC.kt true ((puts ds).map fun d => D.tup [eM d.m, eM (wm d.w)])).map fun ps => D.dic (putAll [] ps)) = _
  rw [pairsD_ms (puts ds) fun d hd => V.nz d (List.mem_filter.mp hd).1, Option.map_some]
  have := putAll_ms (v := fun d => eM (wm d.w)) (puts ds) [] (by rw [List.nil_append]; exact V.ne.sublist List.filter_sublist)
  rw [List.map_nil, List.nil_append] at this
  rw [this]
  rfl
theorem ix_after {s : Nat} {ds : List Deed} (V : Valid s ds) {d : Deed} (hd : d ∈ puts ds) : ixD (aD ds) (eM d.m) = some (eM (wm d.w)) :=
  ix_pd (v := fun d => eM (wm d.w)) (fun a ha e => V.inj a (List.mem_filter.mp ha).1 d (List.mem_filter.mp hd).1 e) hd
section
variable {n s : Nat} {ds : List Deed} {on : Bool}
theorem tail_row (V : Valid s ds) {r : Run} (hr : r ∈ runs on s ds) (hl : 1 < r.length) : RowOk ds r.tail ∧ r.tail ∉ runs on s ds := by
  have R := V.runs on
  have W := R.row V hr
  cases r with
  | nil => simp at hl
  | cons x r =>
    cases r with
    | nil => simp at hl
    | cons y r =>
      simp only [List.tail_cons]
      refine ⟨⟨by simp, (List.nodup_cons.mp W.nd).2, by have := W.len; simp at this ⊢; omega, fun m hm => W.mem m (by simp at hm ⊢; exact .inr hm)⟩, fun h => ?_⟩
      have := flat_one (R.nd V) hr h (x := y) (by simp) (by simp)
      have := congrArg List.length this
      simp at this
theorem link_kid (V : Valid s ds) {r : Run} (hr : r ∈ runs on s ds) {z : Mark × Mark} (hz : z ∈ r.zip r.tail) : ∃ b ∈ puts ds, b.m = z.1 ∧ z.2 ∈ kids ds (if on then z.1 else wm b.w) ∧ ((if on then z.1 else wm b.w) = (0, 0) ∨ ∃ d ∈ puts ds, d.m = (if on then z.1 else wm b.w)) := by
  obtain ⟨b, hb, d, hd, e1, e2, hg⟩ := (V.runs on).lnk r hr z hz
  simp only [go, Bool.and_eq_true, decide_eq_true_eq] at hg
  obtain ⟨⟨hpb, hpd⟩, hw⟩ := hg
  have hb' : b ∈ puts ds := List.mem_filter.mpr ⟨hb, hpb⟩
  have hd' : d ∈ puts ds := List.mem_filter.mpr ⟨hd, hpd⟩
  refine ⟨b, hb', e1, mem_kids.mpr ⟨d, hd', ?_, e2⟩, ?_⟩
  · rw [hw, ← e1]
  · cases on with
    | true => exact .inr ⟨b, hb', e1⟩
    | false =>
      rcases V.rooted b hb' with h | ⟨e, he, h, _⟩
      · exact .inl h
      · exact .inr ⟨e, he, h⟩
/-- the state within the round -/
def rE (s : Nat) (ds : List Deed) (on : Bool) (a4 a5 a6 a7 a8 a9 a12 a13 a14 : Slot) : Env :=
  [.cup, .val (eDs ds), .val (.lst ((runs on s ds).map eR)), .val (aD ds), a4, a5, a6, a7, a8, a9, .val (.int s), .val (.str (wayS on)), a12, a13, a14, .no, .no]
theorem in_marks (V : Valid s ds) {a4 a5 a6 a7 a8 a12 a13 a14 : Slot} {r : Run} (hr : r ∈ runs on s ds) : ∃ b12, forL (.nm 12) (evSs (run fns CC (n + 8)) CC [.if_ (.not (.call i_law_same [.call i_run_of [.v 10, .v 1, .v 11, .v 12], .v 9]))
  [.ret (.k (.bl false))]
  []]) (r.map eM) (rE s ds on a4 a5 a6 a7 a8 (.val (eR r)) a12 a13 a14) = mp (.nx (rE s ds on a4 a5 a6 a7 a8 (.val (eR r)) b12 a13 a14)) := by
  have W := (V.runs on).row V hr
  have sm := r_sm (n + 5) (sm_r (r := r) (by have := W.len; omega))
  have := forL_st (t := .nm 12) (b := evSs (run fns CC (n + 8)) CC [.if_ (.not (.call i_law_same [.call i_run_of [.v 10, .v 1, .v 11, .v 12], .v 9]))
  [.ret (.k (.bl false))]
  []]) (fun _ ρ => ∃ b12, ρ = rE s ds on a4 a5 a6 a7 a8 (.val (eR r)) b12 a13 a14) (xs := r.map eM) ⟨a12, rfl⟩ fun j x ρ hx hE => ?_
  · obtain ⟨ρ', e, b, rfl⟩ := this
    exact ⟨b, e⟩
  · obtain ⟨b, rfl⟩ := hE
    obtain ⟨m, hm, rfl⟩ := List.mem_map.mp (List.mem_of_getElem? hx)
    have ro := r_run_of n s ds on V hr hm
    refine ⟨_, _, tg_nm, ?_, .val (eM m), rfl⟩
    simp [rE, ro, sm]
theorem in_pairs (V : Valid s ds) {a4 a5 a6 a7 a8 a12 a13 a14 : Slot} {r : Run} (hr : r ∈ runs on s ds) : ∃ b13 b14, forL (.tp [.nm 13, .nm 14]) (evSs (run fns CC (n + 8)) CC [.if_ (.cmp .notin (.v 14) (.call i_behind_of [.v 10, .v 1, .ite (.cmp .eq (.v 11) (.k (.str [111, 110]))) (.v 13) (.ix (.v 3) (.v 13))]))
  [.ret (.k (.bl false))]
  []]) ((r.zip r.tail).map fun z => D.tup [eM z.1, eM z.2]) (rE s ds on a4 a5 a6 a7 a8 (.val (eR r)) a12 a13 a14) = mp (.nx (rE s ds on a4 a5 a6 a7 a8 (.val (eR r)) a12 b13 b14)) := by
  have := forL_st (t := .tp [.nm 13, .nm 14]) (b := evSs (run fns CC (n + 8)) CC [.if_ (.cmp .notin (.v 14) (.call i_behind_of [.v 10, .v 1, .ite (.cmp .eq (.v 11) (.k (.str [111, 110]))) (.v 13) (.ix (.v 3) (.v 13))]))
  [.ret (.k (.bl false))]
  []]) (fun _ ρ => ∃ b13 b14, ρ = rE s ds on a4 a5 a6 a7 a8 (.val (eR r)) a12 b13 b14) (xs := (r.zip r.tail).map fun z => D.tup [eM z.1, eM z.2]) ⟨a13, a14, rfl⟩ fun j x ρ hx hE => ?_
  · obtain ⟨ρ', e, b, c, rfl⟩ := this
    exact ⟨b, c, e⟩
  · obtain ⟨b, c, rfl⟩ := hE
    obtain ⟨z, hz, rfl⟩ := List.mem_map.mp (List.mem_of_getElem? hx)
    obtain ⟨b, hb, e1, hk, hx⟩ := link_kid V hr hz
    have bo := r_behind_of n s ds V hx
    have ni := notin_ms (kids ds (if on then z.1 else wm b.w)).reverse z.2
    rw [decide_eq_true (List.mem_reverse.mpr hk)] at ni
    have ia := ix_after V hb
    rw [e1] at ia
    refine ⟨rE s ds on a4 a5 a6 a7 a8 (.val (eR r)) a12 (.val (eM z.1)) (.val (eM z.2)), _, by simp [rE], ?_, .val (eM z.1), .val (eM z.2), rfl⟩
    cases on <;> simp at bo ni <;> simp [rE, wayS, bo, ni, ia] <;> simp [wayS] at * <;> simp [bo, ni]
/-- a run's turn -/
theorem run_turn (V : Valid s ds) {a4 a5 a6 a7 a9 a12 a13 a14 : Slot} {acc : List Mark} {r : Run} (hr : r ∈ runs on s ds) (hl : acc.length + r.length ≤ 200) {b : List IS} (hb : b = [.asg (.nm 8) (.bin .add (.v 8) (.bi .list [.v 9])),
  .if_ (.or (.cmp .isnot (.call i_is_run [.v 10, .v 1, .v 11, .v 9]) (.k (.bl true))) (.and (.cmp .gt (.bi .len [.v 9]) (.k (.int 1))) (.cmp .isnot (.call i_is_run [.v 10, .v 1, .v 11, .sl (.v 9) (.k (.int 1)) (.k .non)]) (.k (.bl false)))))
  [.ret (.k (.bl false))]
  [],
  .for_ (.nm 12) (.pl (.v 9))
  [.if_ (.not (.call i_law_same [.call i_run_of [.v 10, .v 1, .v 11, .v 12], .v 9]))
  [.ret (.k (.bl false))]
  []],
  .for_ (.tp [.nm 13, .nm 14]) (.zip (.v 9) (.sl (.v 9) (.k (.int 1)) (.k .non)))
  [.if_ (.cmp .notin (.v 14) (.call i_behind_of [.v 10, .v 1, .ite (.cmp .eq (.v 11) (.k (.str [111, 110]))) (.v 13) (.ix (.v 3) (.v 13))]))
  [.ret (.k (.bl false))]
  []]]) : ∃ b12 b13 b14, evSs (run fns CC (n + 8)) CC b (rE s ds on a4 a5 a6 a7 (.val (.lst (acc.map eM))) (.val (eR r)) a12 a13 a14) = mp (.nx (rE s ds on a4 a5 a6 a7 (.val (.lst ((acc ++ r).map eM))) (.val (eR r)) b12 b13 b14)) := by
  subst hb
  have W := (V.runs on).row V hr
  have ad := add_lst (xs := acc.map eM) (ys := r.map eM) (by simp; omega)
  have li : biD CC.kt .list [eR r] = some (.lst (r.map eM)) := rfl
  have ir := r_is_run n s ds on V W
  rw [decide_eq_true hr] at ir
  have sl : slD (eR r) (some 1) none = some (eR r.tail) := by
    show some (D.tup (cutD (r.map eM) (some 1) none)) = _
    rw [cut_lo _ (by omega)]
    simp [eR]
  have zp : zipD (eR r) (eR r.tail) = some ((r.zip r.tail).map fun z => D.tup [eM z.1, eM z.2]) := congrArg some (zipI_map eM eM r r.tail)
  obtain ⟨b12, e12⟩ := in_marks (n := n) (a4 := a4) (a5 := a5) (a6 := a6) (a7 := a7) (a8 := .val (.lst ((acc ++ r).map eM))) (a12 := a12) (a13 := a13) (a14 := a14) V hr
  obtain ⟨b13, b14, e13⟩ := in_pairs (n := n) (a4 := a4) (a5 := a5) (a6 := a6) (a7 := a7) (a8 := .val (.lst ((acc ++ r).map eM))) (a12 := b12) (a13 := a13) (a14 := a14) V hr
  refine ⟨b12, b13, b14, ?_⟩
  refine ss_st (ρ' := rE s ds on a4 a5 a6 a7 (.val (.lst ((acc ++ r).map eM))) (.val (eR r)) a12 a13 a14) (by simp [rE, ad, li]) ?_
  refine ss_st (ρ' := rE s ds on a4 a5 a6 a7 (.val (.lst ((acc ++ r).map eM))) (.val (eR r)) a12 a13 a14) ?_ ?_
  · by_cases h1 : 1 < r.length
    · obtain ⟨W', hn⟩ := tail_row V hr h1
      have ir2 := r_is_run n s ds on V W'
      rw [decide_eq_false hn] at ir2
      have h1' : (1 : Int) < r.length := by omega
      simp [rE, ir, h1', sl, ir2]
    · have h1' : ¬ (1 : Int) < r.length := by omega
      simp [rE, ir, h1']
  refine ss_st (ρ' := rE s ds on a4 a5 a6 a7 (.val (.lst ((acc ++ r).map eM))) (.val (eR r)) b12 a13 a14) ?_ ?_
  · rw [st_for]
    have : evRn (run fns CC (n + 8)) CC (.pl (.v 9)) (rE s ds on a4 a5 a6 a7 (.val (.lst ((acc ++ r).map eM))) (.val (eR r)) a12 a13 a14) = mp (r.map eM) := by simp [rE]
    rw [this, mb_mp', e12]
  refine ss_st (ρ' := rE s ds on a4 a5 a6 a7 (.val (.lst ((acc ++ r).map eM))) (.val (eR r)) b12 b13 b14) ?_ ss_nil
  rw [st_for]
  have : evRn (run fns CC (n + 8)) CC (.zip (.v 9) (.sl (.v 9) (.k (.int 1)) (.k .non))) (rE s ds on a4 a5 a6 a7 (.val (.lst ((acc ++ r).map eM))) (.val (eR r)) b12 a13 a14) = mp ((r.zip r.tail).map fun z => D.tup [eM z.1, eM z.2]) := by simp [rE, sl, zp]
  rw [this, mb_mp', e13]
theorem all_runs (V : Valid s ds) {a4 a5 a6 a7 a9 a12 a13 a14 : Slot} {b : List IS} (hb : b = [.asg (.nm 8) (.bin .add (.v 8) (.bi .list [.v 9])),
  .if_ (.or (.cmp .isnot (.call i_is_run [.v 10, .v 1, .v 11, .v 9]) (.k (.bl true))) (.and (.cmp .gt (.bi .len [.v 9]) (.k (.int 1))) (.cmp .isnot (.call i_is_run [.v 10, .v 1, .v 11, .sl (.v 9) (.k (.int 1)) (.k .non)]) (.k (.bl false)))))
  [.ret (.k (.bl false))]
  [],
  .for_ (.nm 12) (.pl (.v 9))
  [.if_ (.not (.call i_law_same [.call i_run_of [.v 10, .v 1, .v 11, .v 12], .v 9]))
  [.ret (.k (.bl false))]
  []],
  .for_ (.tp [.nm 13, .nm 14]) (.zip (.v 9) (.sl (.v 9) (.k (.int 1)) (.k .non)))
  [.if_ (.cmp .notin (.v 14) (.call i_behind_of [.v 10, .v 1, .ite (.cmp .eq (.v 11) (.k (.str [111, 110]))) (.v 13) (.ix (.v 3) (.v 13))]))
  [.ret (.k (.bl false))]
  []]]) : ∃ b9 b12 b13 b14, forL (.nm 9) (evSs (run fns CC (n + 8)) CC b) ((runs on s ds).map eR) (rE s ds on a4 a5 a6 a7 (.val (.lst [])) a9 a12 a13 a14) = mp (.nx (rE s ds on a4 a5 a6 a7 (.val (.lst ((runs on s ds).flatten.map eM))) b9 b12 b13 b14)) := by
  have R := V.runs on
  have tot : (runs on s ds).flatten.length ≤ 60 := by
    have h2 := R.perm.length_eq
    rw [List.length_map] at h2
    have := puts_len ds
    have := V.len
    omega
  have := forL_st (t := .nm 9) (b := evSs (run fns CC (n + 8)) CC b) (fun j ρ => ∃ b9 b12 b13 b14, ρ = rE s ds on a4 a5 a6 a7 (.val (.lst ((((runs on s ds).take j).flatten).map eM))) b9 b12 b13 b14) (xs := (runs on s ds).map eR) ⟨a9, a12, a13, a14, rfl⟩ fun j x ρ hx hE => ?_
  · obtain ⟨ρ', e, b9, b12, b13, b14, rfl⟩ := this
    rw [List.length_map, List.take_length] at e
    exact ⟨_, _, _, _, e⟩
  · obtain ⟨b9, b12, b13, b14, rfl⟩ := hE
    rw [List.getElem?_map] at hx
    cases hr : (runs on s ds)[j]? with
    | none => simp [hr] at hx
    | some r =>
      simp [hr] at hx
      subst hx
      have hm := List.mem_of_getElem? hr
      have hl : ((runs on s ds).take j).flatten.length ≤ 60 := by
        have : ((runs on s ds).take j).flatten.length ≤ (runs on s ds).flatten.length := by
          conv => rhs; rw [← List.take_append_drop j (runs on s ds), List.flatten_append, List.length_append]
          omega
        omega
      have hl2 := len_mem hm
      obtain ⟨c12, c13, c14, e⟩ := run_turn (n := n) (a4 := a4) (a5 := a5) (a6 := a6) (a7 := a7) (a9 := b9) (a12 := b12) (a13 := b13) (a14 := b14) (acc := ((runs on s ds).take j).flatten) V hm (by omega) hb
      refine ⟨_, _, tg_nm, ?_, .val (eR r), c12, c13, c14, rfl⟩
      rw [List.take_add_one, hr, Option.toList_some, List.flatten_append, List.flatten_cons, List.flatten_nil, List.append_nil]
      exact e
end
theorem sorted_tup {kt : D → Bool} {l : List D} : biD kt .sorted [.tup l] = biD kt .sorted [.lst l] := (rfl)
theorem sm_hd {s : Nat} {ds : List Deed} (V : Valid s ds) (r : Run) : Sm 2 (hdD ds r) := by
  unfold hdD
  split
  · exact Sm.non
  · split
    · exact Sm.tupI (by simp) fun a ha => by
        simp at ha
        rcases ha with rfl | rfl <;> exact sm_m _
    · exact Sm.non
theorem right_rest (n s : Nat) (ds : List Deed) (on : Bool) (V : Valid s ds) {r : List IS} (hr : f_law_right.body = f_law_right.body.take 2 ++ r) {a2 a3 a4 a5 a6 a7 a8 a12 a13 a14 : Slot} :
    evSs (run fns CC (n + 8)) CC r [.cup, .val (eDs ds), a2, a3, a4, a5, a6, a7, a8, .no, .val (.int s), .val (.str (wayS on)), a12, a13, a14, .no, .no] = mp (.rt (.bl true) false) := by
  have R := V.runs on
  have rl := runs_len (on := on) V
  have hds := V.len
  obtain ⟨b, hb, hbd⟩ : ∃ b, b = [IS.asg (.nm 8) (.bin .add (.v 8) (.bi .list [.v 9])),
  .if_ (.or (.cmp .isnot (.call i_is_run [.v 10, .v 1, .v 11, .v 9]) (.k (.bl true))) (.and (.cmp .gt (.bi .len [.v 9]) (.k (.int 1))) (.cmp .isnot (.call i_is_run [.v 10, .v 1, .v 11, .sl (.v 9) (.k (.int 1)) (.k .non)]) (.k (.bl false)))))
  [.ret (.k (.bl false))]
  [],
  .for_ (.nm 12) (.pl (.v 9))
  [.if_ (.not (.call i_law_same [.call i_run_of [.v 10, .v 1, .v 11, .v 12], .v 9]))
  [.ret (.k (.bl false))]
  []],
  .for_ (.tp [.nm 13, .nm 14]) (.zip (.v 9) (.sl (.v 9) (.k (.int 1)) (.k .non)))
  [.if_ (.cmp .notin (.v 14) (.call i_behind_of [.v 10, .v 1, .ite (.cmp .eq (.v 11) (.k (.str [111, 110]))) (.v 13) (.ix (.v 3) (.v 13))]))
  [.ret (.k (.bl false))]
  []]] ∧ r = [.asg (.nm 2) (.call i_law_runs [.v 10, .v 1, .v 11]),
  .if_ (.not (.call i_law_same [.tup [.call i_is_deeds [.v 10, .v 1], .call i_runs_of [.v 10, .v 1, .v 11]], .tup [.k (.bl true), .bi .tuple [.v 2]]]))
  [.ret (.k (.bl false))]
  [],
  .asg (.nm 3) (.bs (.dict true) (.comp (.tup [.ix (.v 15) (.k (.int 0)), .ix (.ix (.v 15) (.k (.int 3))) (.k (.int 1))]) (.nm 15) (.pl (.v 1)) (.cmp .eq (.ix (.ix (.v 15) (.k (.int 3))) (.k (.int 0))) (.k (.str [112, 117, 116]))))),
  .asg (.nm 4) (.comp (.bi .len [.v 9]) (.nm 9) (.pl (.v 2)) (.k (.bl true))),
  .asg (.nm 5) (.ite (.cmp .ne (.v 2) (.lst [])) (.ix (.comp (.v 9) (.nm 9) (.pl (.v 2)) (.cmp .eq (.bi .len [.v 9]) (.bi .max [.v 4]))) (.k (.int 0))) (.tup [])),
  .asg (.nm 6) (.tup [.call i_heads_of [.v 10, .v 1, .v 11], .call i_runs_counted [.v 10, .v 1, .v 11], .call i_longest_run [.v 10, .v 1, .v 11]]),
  .asg (.nm 7) (.bi .tuple [.comp (.tup [.v 16, .m1 .count (.v 4) (.v 16)]) (.nm 16) (.pl (.bs .sset (.v 4))) (.k (.bl true))]),
  .if_ (.not (.call i_law_same [.v 6, .tup [.bi .tuple [.comp (.tup [.ix (.v 9) (.k (.int 0)), .ix (.v 3) (.ix (.v 9) (.k (.int 0)))]) (.nm 9) (.pl (.v 2)) (.k (.bl true))], .v 7, .v 5]]))
  [.ret (.k (.bl false))]
  [],
  .asg (.nm 8) (.lst []),
  .for_ (.nm 9) (.pl (.v 2)) b,
  .ret (.cmp .eq (.bi .sorted [.v 8]) (.bi .sorted [.call i_order_of [.v 10, .v 1]]))] := by
    refine ⟨_, rfl, ?_⟩
    unfold f_law_right at hr
    simp only [List.take_succ_cons, List.take_zero, List.cons_append, List.nil_append, List.cons.injEq, true_and] at hr
    exact hr.symm
  rw [hbd]
  generalize hrs : runs on s ds = rs at *
  have smrs : Sm 3 (.tup (rs.map eR)) := Sm.tup (by omega) fun r hr => sm_r (by have := (R.row V hr).len; omega)
  have sm1 : Sm 4 (.tup [.bl true, .tup (rs.map eR)]) := Sm.tupI (by simp) fun a ha => by
    simp only [List.mem_cons, List.not_mem_nil, or_false] at ha
    rcases ha with rfl | rfl
    · exact Sm.bl _
    · exact smrs
  have q1 := r_sm (n + 3) sm1
  refine ss_st (ρ' := [.cup, .val (eDs ds), .val (.lst (rs.map eR)), a3, a4, a5, a6, a7, a8, .no, .val (.int s), .val (.str (wayS on)), a12, a13, a14, .no, .no]) (by simp [r_law_runs (n + 5) s ds on V, hrs]) ?_
  refine ss_st (ρ' := [.cup, .val (eDs ds), .val (.lst (rs.map eR)), a3, a4, a5, a6, a7, a8, .no, .val (.int s), .val (.str (wayS on)), a12, a13, a14, .no, .no]) (by simp [r_is_deeds (n + 1) s ds V, r_runs_of n s ds on V, hrs, q1]) ?_
  have fa : filtL (cT (run fns CC (n + 8)) CC (.tup [.ix (.v 15) (.k (.int 0)), .ix (.ix (.v 15) (.k (.int 3))) (.k (.int 1))]) (.nm 15) (.cmp .eq (.ix (.ix (.v 15) (.k (.int 3))) (.k (.int 0))) (.k (.str [112, 117, 116]))) [.cup, .val (eDs ds), .val (.lst (rs.map eR)), a3, a4, a5, a6, a7, a8, .no, .val (.int s), .val (.str (wayS on)), a12, a13, a14, .no, .no]) (ds.map eD) = mp ((puts ds).map fun d => D.tup [eM d.m, eM (wm d.w)]) := by
    refine filtL_enc (enc := eD) (fun d : Deed => isPut d.w) (fun d : Deed => D.tup [eM d.m, eM (wm d.w)]) fun d _ => ?_
    simp [cT]
  refine ss_st (ρ' := [.cup, .val (eDs ds), .val (.lst (rs.map eR)), .val (aD ds), a4, a5, a6, a7, a8, .no, .val (.int s), .val (.str (wayS on)), a12, a13, a14, .no, .no]) (by simp [fa, dict_after V]) ?_
  have fs := f_sizes (cal := run fns CC (n + 8)) (ρ := [.cup, .val (eDs ds), .val (.lst (rs.map eR)), .val (aD ds), a4, a5, a6, a7, a8, .no, .val (.int s), .val (.str (wayS on)), a12, a13, a14, .no, .no]) (i := 9) (fun _ => rfl) rs
  refine ss_st (ρ' := [.cup, .val (eDs ds), .val (.lst (rs.map eR)), .val (aD ds), .val (.lst ((sizes rs).map D.int)), a5, a6, a7, a8, .no, .val (.int s), .val (.str (wayS on)), a12, a13, a14, .no, .no]) (by simp [fs, -List.map_map]) ?_
  refine ss_st (ρ' := [.cup, .val (eDs ds), .val (.lst (rs.map eR)), .val (aD ds), .val (.lst ((sizes rs).map D.int)), .val (eR (longest rs)), a6, a7, a8, .no, .val (.int s), .val (.str (wayS on)), a12, a13, a14, .no, .no]) ?_ ?_
  · by_cases h : rs = []
    · have hc : cmpB .ne (.lst []) (.lst []) = some false := rfl
      simp [h, hc, longest, eR]
    · have hx := (max_sizes h).1
      have f : filtL (cT (run fns CC (n + 8)) CC (.v 9) (.nm 9) (.cmp .eq (.bi .len [.v 9]) (.bi .max [.v 4])) [.cup, .val (eDs ds), .val (.lst (rs.map eR)), .val (aD ds), .val (.lst ((sizes rs).map D.int)), a5, a6, a7, a8, .no, .val (.int s), .val (.str (wayS on)), a12, a13, a14, .no, .no]) (rs.map eR) = mp ((rs.filter (isMx rs)).map eR) := by
        refine filtL_enc (isMx rs) eR fun r _ => ?_
        simp [cT, hx, isMx, -List.map_map]
      have he : rs.isEmpty = false := by
        cases rs with
        | nil => exact absurd rfl h
        | cons a l => rfl
      have i0 := ix_head (enc := eR) (longest_head h)
      simp [ne_nil_rs, he, f, i0]
  refine ss_st (ρ' := [.cup, .val (eDs ds), .val (.lst (rs.map eR)), .val (aD ds), .val (.lst ((sizes rs).map D.int)), .val (eR (longest rs)), .val (.tup [.tup (rs.map (hdD ds)), .tup (cnts rs), eR (longest rs)]), a7, a8, .no, .val (.int s), .val (.str (wayS on)), a12, a13, a14, .no, .no]) (by simp [r_heads_of n s ds on V, r_runs_counted n s ds on V, r_longest_run n s ds on V, hrs]) ?_
  have fc := f_cnts (cal := run fns CC (n + 8)) (ρ := [.cup, .val (eDs ds), .val (.lst (rs.map eR)), .val (aD ds), .val (.lst ((sizes rs).map D.int)), .val (eR (longest rs)), .val (.tup [.tup (rs.map (hdD ds)), .tup (cnts rs), eR (longest rs)]), a7, a8, .no, .val (.int s), .val (.str (wayS on)), a12, a13, a14, .no, .no]) (i := 16) (j := 4) rs (fun _ => rfl) (fun _ => rfl)
  have ss := sset_sizes rl
  refine ss_st (ρ' := [.cup, .val (eDs ds), .val (.lst (rs.map eR)), .val (aD ds), .val (.lst ((sizes rs).map D.int)), .val (eR (longest rs)), .val (.tup [.tup (rs.map (hdD ds)), .tup (cnts rs), eR (longest rs)]), .val (.tup (cnts rs)), a8, .no, .val (.int s), .val (.str (wayS on)), a12, a13, a14, .no, .no]) (by simp [fc, ss]) ?_
  have fh : filtL (cT (run fns CC (n + 8)) CC (.tup [.ix (.v 9) (.k (.int 0)), .ix (.v 3) (.ix (.v 9) (.k (.int 0)))]) (.nm 9) (.k (.bl true)) [.cup, .val (eDs ds), .val (.lst (rs.map eR)), .val (aD ds), .val (.lst ((sizes rs).map D.int)), .val (eR (longest rs)), .val (.tup [.tup (rs.map (hdD ds)), .tup (cnts rs), eR (longest rs)]), .val (.tup (cnts rs)), a8, .no, .val (.int s), .val (.str (wayS on)), a12, a13, a14, .no, .no]) (rs.map eR) = mp (rs.map (hdD ds)) := by
    refine filtL_all (hdD ds) fun r hr => ?_
    have W := R.row V hr
    obtain ⟨m, hm⟩ : ∃ m, r.head? = some m := by
      cases r with
      | nil => exact absurd rfl W.ne
      | cons m r => exact ⟨m, rfl⟩
    obtain ⟨d, hd, rfl⟩ := W.mem m (by
      cases r with
      | nil => cases hm
      | cons y r => cases hm; simp)
    have e : hdD ds r = .tup [eM d.m, eM (wm d.w)] := by
      unfold hdD
      rw [hm]
      simp only [find_put V hd]
    simp [cT, ix_rhead hm, ix_after V hd, e]
  have sm2 : Sm 4 (.tup [.tup (rs.map (hdD ds)), .tup (cnts rs), eR (longest rs)]) := Sm.tupI (by simp) fun a ha => by
    simp only [List.mem_cons, List.not_mem_nil, or_false] at ha
    rcases ha with rfl | rfl | rfl
    · exact Sm.tup (by omega) fun r _ => sm_hd V r
    · refine Sm.mono (k := 2) ?_ (by omega)
      unfold cnts
      refine Sm.tup ?_ fun z _ => Sm.tupI (by simp) fun a ha => by
        simp only [List.mem_cons, List.not_mem_nil, or_false] at ha
        rcases ha with rfl | rfl <;> exact Sm.int _
      have h1 : (setZ rs).length = (setD rs).length := by rw [← setZ_map, List.length_map]
      have h2 : (setD rs).length = (firsts ((sizes rs).map D.int) []).length := (sortD_perm _).length_eq
      have h3 : ∀ xs seen : List D, (firsts xs seen).length ≤ xs.length := by
        intro xs
        induction xs with
        | nil => intro seen; simp [firsts]
        | cons x xs ih =>
          intro seen
          unfold firsts
          split
          · have := ih seen
            simp
            omega
          · have := ih (x :: seen)
            simp
            omega
      have h4 := h3 ((sizes rs).map D.int) []
      have h5 : ((sizes rs).map D.int).length = rs.length := by simp [sizes]
      omega
    · refine Sm.mono (k := 2) (sm_r ?_) (by omega)
      unfold longest
      cases hf : (rs.filter (isMx rs)).head? with
      | none => simp
      | some r =>
        have := (R.row V (List.mem_filter.mp (List.mem_of_mem_head? (by rw [hf]; rfl))).1).len
        simp
        omega
  have q2 := r_sm (n + 3) sm2
  refine ss_st (ρ' := [.cup, .val (eDs ds), .val (.lst (rs.map eR)), .val (aD ds), .val (.lst ((sizes rs).map D.int)), .val (eR (longest rs)), .val (.tup [.tup (rs.map (hdD ds)), .tup (cnts rs), eR (longest rs)]), .val (.tup (cnts rs)), a8, .no, .val (.int s), .val (.str (wayS on)), a12, a13, a14, .no, .no]) (by simp [fh, q2]) ?_
  refine ss_st (ρ' := rE s ds on (.val (.lst ((sizes rs).map D.int))) (.val (eR (longest rs))) (.val (.tup [.tup (rs.map (hdD ds)), .tup (cnts rs), eR (longest rs)])) (.val (.tup (cnts rs))) (.val (.lst [])) .no a12 a13 a14) (by simp [rE, hrs]) ?_
  obtain ⟨b9, b12, b13, b14, e⟩ := all_runs (n := n) (on := on) V (a4 := .val (.lst ((sizes rs).map D.int))) (a5 := .val (eR (longest rs))) (a6 := .val (.tup [.tup (rs.map (hdD ds)), .tup (cnts rs), eR (longest rs)])) (a7 := .val (.tup (cnts rs))) (a9 := .no) (a12 := a12) (a13 := a13) (a14 := a14) hb
  refine ss_st (ρ' := _) (by
    rw [st_for]
    have : evRn (run fns CC (n + 8)) CC (.pl (.v 2)) (rE s ds on (.val (.lst ((sizes rs).map D.int))) (.val (eR (longest rs))) (.val (.tup [.tup (rs.map (hdD ds)), .tup (cnts rs), eR (longest rs)])) (.val (.tup (cnts rs))) (.val (.lst [])) .no a12 a13 a14) = mp ((runs on s ds).map eR) := by simp [rE]
    rw [this, mb_mp']
    exact e) ?_
  have sm1 := sorted_ms (kt := CC.kt) ((runs on s ds).flatten)
  have sm2 := sorted_ms (kt := CC.kt) (order ds)
  have pp : (sortD mle (runs on s ds).flatten) = sortD mle (order ds) := by
    refine sort_uniq (le := mle) mle_anti ?_ (sortD_pw mle_tot mle_tr _) (sortD_pw mle_tot mle_tr _)
    refine (sortD_perm _).trans (List.Perm.trans ?_ (sortD_perm _).symm)
    have h1 := (V.runs on).perm
    have h2 := (V_order_in 0 s ds V).2
    exact h1.trans h2.symm
  have eq : cmpB .eq (.lst ((sortD mle (order ds)).map eM)) (.lst ((sortD mle (order ds)).map eM)) = some true := by
    have ok : okD (.lst ((sortD mle (order ds)).map eM)) = true := (Fl0.lst (k := 1) fun a _ => fl_m a).ok (by omega)
    refine cmp_eq ok ok (eqD_refl _ ?_)
    exact (Fl0.lst (k := 1) fun a _ => fl_m a).pl
  rw [pp] at sm1
  simp [rE, sm1, r_order_of n s ds V, sorted_tup, sm2, eq, -List.map_flatten]
end KL
end

section
set_option Elab.async false
set_option linter.all false
set_option maxRecDepth 100000
/-! P13: the law. -/
namespace KL
open EV
theorem ss_app {cal : Cal} {a b : List IS} : ∀ {ρ : Env}, evSs cal CC (a ++ b) ρ = mb (evSs cal CC a ρ) (aft cal CC b) := by
  induction a with
  | nil => intro ρ; rw [List.nil_append, ss_nil, mb_mp', aft_nx]
  | cons s r ih =>
    intro ρ
    rw [List.cons_append, ss_cons, ss_cons, mb_assoc]
    congr 1
    funext fl
    cases fl with
    | nx ρ' => rw [aft_nx, ih, aft_nx]
    | ct ρ' => rfl
    | rt d b => rfl
def lmid : List IS := (f_law.body.drop 2).take 2
def lfin : List IS := f_law.body.drop 5
def rows3 : D := .tup [.tup [.tup [.int 1, .int 0], .int 1, .tup [.int 0], .tup [.str [112, 117, 116], .tup [.int 0, .int 0], .str [97]]], .tup [.tup [.int 2, .int 0], .int 2, .tup [.int 1], .tup [.str [112, 117, 116], .tup [.int 1, .int 0], .str [98]]], .tup [.tup [.int 3, .int 0], .int 3, .tup [.int 2], .tup [.str [112, 117, 116], .tup [.int 0, .int 0], .str [99]]]]
def lE (x : D) (a3 a7 a8 a9 : Slot) : Env := [.val x, .cup, .val (.int 3), a3, .no, .no, .no, a7, a8, a9, .no, .no, .no, .no]
theorem mid_ok (x : D) (k : Cup) : evSs (run fns CC 59) CC lmid (lE x .no .no .no .no) k = .ok (.nx (lE x (.val rows3) .no .no .no)) k := by
  kernel_rfl
theorem fin_ok (x : D) (k : Cup) {o t c : Int} (o0 : 1 ≤ o) (o1 : o < 5) (t0 : 1 ≤ t) (t1 : t < 5) (c0 : 0 ≤ c) (c1 : c < 2) : evSs (run fns CC 59) CC lfin (lE x (.val rows3) (.val (.int o)) (.val (.int t)) (.val (.int c))) k = .ok (.rt (.bl true) false) k := by
  have ho : o = 1 ∨ o = 2 ∨ o = 3 ∨ o = 4 := by omega
  have ht : t = 1 ∨ t = 2 ∨ t = 3 ∨ t = 4 := by omega
  have hc : c = 0 ∨ c = 1 := by omega
  rcases ho with rfl | rfl | rfl | rfl <;> rcases ht with rfl | rfl | rfl | rfl <;> rcases hc with rfl | rfl <;> kernel_rfl
theorem okSsR {cal : Cal} {s : IS} {r : List IS} {ρ : Env} {k : Cup} {P : Env → Cup → Prop} {Q : Fl → Cup → Prop} (h : Ok (evS cal CC s ρ) k fun fl k' => ∃ ρ', fl = .nx ρ' ∧ P ρ' k') (h2 : ∀ ρ' k', P ρ' k' → Ok (evSs cal CC r ρ') k' Q) : Ok (evSs cal CC (s :: r) ρ) k Q := okSs h h2
theorem r_right (n : Nat) (k : Cup) (hk : CupOk k) : Ok (run fns CC (n + 9) i_law_right [.cup]) k fun r k' => r.1 = .bl true ∧ CupOk k' := by
  rw [at_law_right]
  obtain ⟨r, hr, hb⟩ : ∃ r, f_law_right.body = f_law_right.body.take 2 ++ r ∧ f_law_right.body = [.par [(10, false), (11, false)] [.bin .add (.k (.int 1)) (.call i_law_roll [.v 0, .k (.int 4)]), .call i_law_some [.v 0, .lst [.k (.str [111, 110]), .k (.str [98, 97, 99, 107])]]], .asg (.nm 1) (.call i_law_typed [.v 0, .v 10, .call i_law_roll [.v 0, .k (.int 15)]])] ++ r := ⟨_, (List.take_append_drop 2 _).symm, rfl⟩
  rw [hb]
  refine Ok.bind (P := fun fl k' => fl = .rt (.bl true) false ∧ CupOk k') ?_ (by
    rintro _ k' ⟨rfl, hk'⟩
    exact Ok.mp ⟨rfl, hk'⟩)
  refine okSs (P := fun ρ k' => (∃ (s : Nat) (on : Bool), 1 ≤ s ∧ s ≤ 4 ∧ ρ = [.cup, .no, .no, .no, .no, .no, .no, .no, .no, .no, .val (.int s), .val (.str (wayS on)), .no, .no, .no, .no, .no]) ∧ CupOk k') ?_ ?_
  · refine Ok.sim (by simp; rfl) ?_
    refine (r_roll (n + 7) 4 (by omega) (by omega) k hk).bind fun x k1 ⟨⟨i, e, i0, i1⟩, hk1⟩ => ?_
    subst e
    refine Ok.sim (by simp; rfl) ?_
    refine (r_some_lst (n + 6) (by simp) (by simp) k1 hk1).bind fun x k2 ⟨⟨d, e, hd⟩, hk2⟩ => ?_
    subst e
    have : ∃ on : Bool, d = .str (wayS on) := by
      simp only [List.mem_cons, List.not_mem_nil, or_false] at hd
      rcases hd with rfl | rfl
      · exact ⟨true, rfl⟩
      · exact ⟨false, rfl⟩
    obtain ⟨on, rfl⟩ := this
    refine Ok.sim (by simp; rfl) ?_
    refine Ok.mp ⟨_, rfl, ⟨(1 + i).toNat, on, by omega, by omega, ?_⟩, hk2⟩
    rw [show (((1 + i).toNat : Nat) : Int) = 1 + i by omega]
  rintro _ k1 ⟨⟨s, on, h1, h4, rfl⟩, hk1⟩
  refine okSs (P := fun ρ k' => (∃ ds, Valid s ds ∧ ρ = [.cup, .val (eDs ds), .no, .no, .no, .no, .no, .no, .no, .no, .val (.int s), .val (.str (wayS on)), .no, .no, .no, .no, .no]) ∧ CupOk k') ?_ ?_
  · refine Ok.sim (by simp; rfl) ?_
    refine (r_roll (n + 7) 15 (by omega) (by omega) k1 hk1).bind fun x k2 ⟨⟨i, e, i0, i1⟩, hk2⟩ => ?_
    subst e
    have ei : (i : Int) = ((i.toNat : Nat) : Int) := by omega
    refine Ok.sim (by simp; rfl) ?_
    rw [ei]
    refine (r_typed (n + 4) s i.toNat h1 h4 (by omega) k2 hk2).bind fun x k3 ⟨⟨ds, e, V, _⟩, hk3⟩ => ?_
    obtain ⟨x1, x2⟩ := x
    cases e
    refine Ok.sim (by simp; rfl) ?_
    exact Ok.mp ⟨_, rfl, ⟨ds, V, rfl⟩, hk3⟩
  rintro _ k2 ⟨⟨ds, V, rfl⟩, hk2⟩
  refine Ok.sim (right_rest n s ds on V hr) ?_
  exact Ok.mp ⟨rfl, hk2⟩
theorem r_law (ns : List Int) (hl : ns.length ≤ 63) (k : Cup) : Ok (run fns CC 60 i_law [.val (.lst (ns.map D.int))]) k fun r _ => r.1 = .bl true := by
  rw [at_law]
  obtain ⟨a, b, hc, hcup⟩ := r_cup 58 ns hl k
  have hb : f_law.body = [.cupn 1 i_law_cup [.v 0], .for_ (.nm 2) (.rng [.k (.int 4)]) [.if_ (.not (.call i_law_right [.v 1])) [.ret (.k (.bl false))] []]] ++ (lmid ++ ([.par [(7, false), (8, false), (9, false)] [.bin .add (.k (.int 1)) (.call i_law_roll [.v 1, .k (.int 4)]), .bin .add (.k (.int 1)) (.call i_law_roll [.v 1, .k (.int 4)]), .call i_law_roll [.v 1, .k (.int 2)]]] ++ lfin)) := rfl
  rw [hb]
  refine Ok.bind (P := fun fl k' => fl = .rt (.bl true) false) ?_ (by
    rintro _ k' rfl
    exact Ok.mp rfl)
  generalize hx : D.lst (ns.map D.int) = x at *
  refine Ok.sim ss_app ?_
  refine Ok.bind (P := fun fl k' => fl = .nx (lE x .no .no .no .no) ∧ CupOk k') ?_ ?_
  · refine okSs (P := fun ρ k' => ρ = [.val x, .cup, .no, .no, .no, .no, .no, .no, .no, .no, .no, .no, .no, .no] ∧ CupOk k') ?_ ?_
    · refine ⟨.nx [.val x, .cup, .no, .no, .no, .no, .no, .no, .no, .no, .no, .no, .no, .no], (a, b), ?_, _, rfl, rfl, hcup⟩
      have e : evA (run fns CC 59) CC [.v 0] ([Arg.val x].map argSlot ++ List.replicate 13 .no) = mp [.val x] := by simp
      simp only [evS]
      rw [e, mb_mp']
      show mb (run fns CC 59 i_law_cup [Arg.val x]) _ k = _
      unfold mb
      rw [hc]
      rfl
    rintro _ k1 ⟨rfl, hk1⟩
    refine okSs (P := fun ρ k' => ρ = lE x .no .no .no .no ∧ CupOk k') ?_ ?_
    · have e4 : rngD [.int 4] = some [.int 0, .int 1, .int 2, .int 3] := rfl
      refine Ok.sim (m' := forL (.nm 2) (evSs (run fns CC 59) CC [.if_ (.not (.call i_law_right [.v 1])) [.ret (.k (.bl false))] []]) [.int 0, .int 1, .int 2, .int 3] [.val x, .cup, .no, .no, .no, .no, .no, .no, .no, .no, .no, .no, .no, .no]) (by simp [e4]) ?_
      have := forL_ok (t := .nm 2) (b := evSs (run fns CC 59) CC [.if_ (.not (.call i_law_right [.v 1])) [.ret (.k (.bl false))] []]) (fun j ρ k => CupOk k ∧ ∃ t, ρ = [.val x, .cup, t, .no, .no, .no, .no, .no, .no, .no, .no, .no, .no, .no] ∧ (j = 4 → t = .val (.int 3))) (xs := [.int 0, .int 1, .int 2, .int 3]) (i := 0) (k := k1) (ρ := [.val x, .cup, .no, .no, .no, .no, .no, .no, .no, .no, .no, .no, .no, .no]) ?_ ⟨hk1, .no, rfl, by omega⟩
      · refine this.imp ?_
        rintro fl k' ⟨ρ', rfl, hk', t, rfl, ht⟩
        rw [ht rfl]
        exact ⟨_, rfl, rfl, hk'⟩
      · rintro j y ρ k hy ⟨hk, t, rfl, _⟩
        refine ⟨_, tg_nm, ?_⟩
        refine okSs (P := fun ρ k' => ρ = [.val x, .cup, .val y, .no, .no, .no, .no, .no, .no, .no, .no, .no, .no, .no] ∧ CupOk k') ?_ ?_
        · refine Ok.sim (by simp; rfl) ?_
          refine (r_right 50 k hk).bind ?_
          rintro ⟨r1, r2⟩ k' ⟨rfl, hk'⟩
          refine Ok.sim (by simp; rfl) ?_
          exact Ok.mp ⟨_, rfl, rfl, hk'⟩
        rintro _ k' ⟨rfl, hk'⟩
        refine okNil ⟨hk', _, rfl, fun h4 => ?_⟩
        have hj : j = 3 := by omega
        subst hj
        simp at hy
        rw [hy]
    rintro _ k' ⟨rfl, hk'⟩
    exact Ok.sim ss_nil (Ok.mp ⟨rfl, hk'⟩)
  rintro _ k2 ⟨rfl, hk2⟩
  refine Ok.sim (aft_nx.trans ss_app) ?_
  refine Ok.bind (P := fun fl k' => fl = .nx (lE x (.val rows3) .no .no .no) ∧ CupOk k') ⟨_, _, mid_ok x k2, rfl, hk2⟩ ?_
  rintro _ k3 ⟨rfl, hk3⟩
  refine Ok.sim aft_nx ?_
  refine Ok.sim ss_app ?_
  refine Ok.bind (P := fun fl k' => ∃ o t c : Int, 1 ≤ o ∧ o < 5 ∧ 1 ≤ t ∧ t < 5 ∧ 0 ≤ c ∧ c < 2 ∧ fl = .nx (lE x (.val rows3) (.val (.int o)) (.val (.int t)) (.val (.int c)))) ?_ ?_
  · refine okSs (P := fun ρ k' => ∃ o t c : Int, 1 ≤ o ∧ o < 5 ∧ 1 ≤ t ∧ t < 5 ∧ 0 ≤ c ∧ c < 2 ∧ ρ = (lE x (.val rows3) (.val (.int o)) (.val (.int t)) (.val (.int c)))) ?_ ?_
    · refine Ok.sim (by simp [lE]; rfl) ?_
      refine (r_roll 58 4 (by omega) (by omega) k3 hk3).bind fun y k4 ⟨⟨o, e, o0, o1⟩, hk4⟩ => ?_
      subst e
      refine Ok.sim (by simp; rfl) ?_
      refine (r_roll 58 4 (by omega) (by omega) k4 hk4).bind fun y k5 ⟨⟨t, e, t0, t1⟩, hk5⟩ => ?_
      subst e
      refine Ok.sim (by simp; rfl) ?_
      refine (r_roll 58 2 (by omega) (by omega) k5 hk5).bind fun y k6 ⟨⟨c, e, c0, c1⟩, hk6⟩ => ?_
      subst e
      refine Ok.sim (by simp; rfl) ?_
      exact Ok.mp ⟨_, rfl, 1 + o, 1 + t, c, by omega, by omega, by omega, by omega, c0, c1, rfl⟩
    rintro _ k' ⟨o, t, c, h1, h2, h3, h4, h5, h6, rfl⟩
    exact Ok.sim ss_nil (Ok.mp ⟨o, t, c, h1, h2, h3, h4, h5, h6, rfl⟩)
  rintro _ k4 ⟨o, t, c, h1, h2, h3, h4, h5, h6, rfl⟩
  exact Ok.sim aft_nx ⟨_, _, fin_ok x k4 h1 h2 h3 h4 h5 h6, rfl⟩
end KL
end

section
set_option Elab.async false
set_option linter.all false
set_option maxRecDepth 100000
set_option maxHeartbeats 0
namespace KL
open PySem PySem.Spec PyProof.Rows L2 EV
def st_is_whole : Stmt := PySem.Challenge.pw_copiesjoined_k76_whole_runs_of_puts.main.body.getD 12 (.Pass ⟨0, 0, 0, 0⟩)
def d_is_whole : Df := ⟨⟨("is_whole", none), "is_whole", "is_whole", C8.fnArgs st_is_whole, C8.fnBody st_is_whole, C8.fnScope st_is_whole, [], []⟩, ["value"], ["value"]⟩
theorem b_is_whole : BindOk d_is_whole := fun _ _ _ _ _ _ us hl => match us, hl with | [_], _ => rfl
def st_fits_whole : Stmt := PySem.Challenge.pw_copiesjoined_k76_whole_runs_of_puts.main.body.getD 13 (.Pass ⟨0, 0, 0, 0⟩)
def d_fits_whole : Df := ⟨⟨("fits_whole", none), "fits_whole", "fits_whole", C8.fnArgs st_fits_whole, C8.fnBody st_fits_whole, C8.fnScope st_fits_whole, [], []⟩, ["value", "low", "high"], ["value", "low", "high"]⟩
theorem b_fits_whole : BindOk d_fits_whole := fun _ _ _ _ _ _ us hl => match us, hl with | [_, _, _], _ => rfl
def st_is_tuple_of : Stmt := PySem.Challenge.pw_copiesjoined_k76_whole_runs_of_puts.main.body.getD 14 (.Pass ⟨0, 0, 0, 0⟩)
def d_is_tuple_of : Df := ⟨⟨("is_tuple_of", none), "is_tuple_of", "is_tuple_of", C8.fnArgs st_is_tuple_of, C8.fnBody st_is_tuple_of, C8.fnScope st_is_tuple_of, [], []⟩, ["value", "least", "most"], ["value", "least", "most"]⟩
theorem b_is_tuple_of : BindOk d_is_tuple_of := fun _ _ _ _ _ _ us hl => match us, hl with | [_, _, _], _ => rfl
def st_is_sign : Stmt := PySem.Challenge.pw_copiesjoined_k76_whole_runs_of_puts.main.body.getD 15 (.Pass ⟨0, 0, 0, 0⟩)
def d_is_sign : Df := ⟨⟨("is_sign", none), "is_sign", "is_sign", C8.fnArgs st_is_sign, C8.fnBody st_is_sign, C8.fnScope st_is_sign, [], []⟩, ["value"], ["value"]⟩
theorem b_is_sign : BindOk d_is_sign := fun _ _ _ _ _ _ us hl => match us, hl with | [_], _ => rfl
def st_fits_mark : Stmt := PySem.Challenge.pw_copiesjoined_k76_whole_runs_of_puts.main.body.getD 16 (.Pass ⟨0, 0, 0, 0⟩)
def d_fits_mark : Df := ⟨⟨("fits_mark", none), "fits_mark", "fits_mark", C8.fnArgs st_fits_mark, C8.fnBody st_fits_mark, C8.fnScope st_fits_mark, [], []⟩, ["sites", "value"], ["sites", "value"]⟩
theorem b_fits_mark : BindOk d_fits_mark := fun _ _ _ _ _ _ us hl => match us, hl with | [_, _], _ => rfl
def st_fits_vector : Stmt := PySem.Challenge.pw_copiesjoined_k76_whole_runs_of_puts.main.body.getD 17 (.Pass ⟨0, 0, 0, 0⟩)
def d_fits_vector : Df := ⟨⟨("fits_vector", none), "fits_vector", "fits_vector", C8.fnArgs st_fits_vector, C8.fnBody st_fits_vector, C8.fnScope st_fits_vector, [], []⟩, ["sites", "value", "own"], ["sites", "value"]⟩
theorem b_fits_vector : BindOk d_fits_vector := fun _ _ _ _ _ _ us hl => match us, hl with | [_, _], _ => rfl
def st_fits_what : Stmt := PySem.Challenge.pw_copiesjoined_k76_whole_runs_of_puts.main.body.getD 18 (.Pass ⟨0, 0, 0, 0⟩)
def d_fits_what : Df := ⟨⟨("fits_what", none), "fits_what", "fits_what", C8.fnArgs st_fits_what, C8.fnBody st_fits_what, C8.fnScope st_fits_what, [], []⟩, ["sites", "count", "value", "good", "own"], ["sites", "count", "value"]⟩
theorem b_fits_what : BindOk d_fits_what := fun _ _ _ _ _ _ us hl => match us, hl with | [_, _, _], _ => rfl
def st_fits_deed : Stmt := PySem.Challenge.pw_copiesjoined_k76_whole_runs_of_puts.main.body.getD 19 (.Pass ⟨0, 0, 0, 0⟩)
def d_fits_deed : Df := ⟨⟨("fits_deed", none), "fits_deed", "fits_deed", C8.fnArgs st_fits_deed, C8.fnBody st_fits_deed, C8.fnScope st_fits_deed, [], []⟩, ["sites", "value", "number", "past", "what", "count", "site"], ["sites", "value"]⟩
theorem b_fits_deed : BindOk d_fits_deed := fun _ _ _ _ _ _ us hl => match us, hl with | [_, _], _ => rfl
def st_fits_below : Stmt := PySem.Challenge.pw_copiesjoined_k76_whole_runs_of_puts.main.body.getD 20 (.Pass ⟨0, 0, 0, 0⟩)
def d_fits_below : Df := ⟨⟨("fits_below", none), "fits_below", "fits_below", C8.fnArgs st_fits_below, C8.fnBody st_fits_below, C8.fnScope st_fits_below, [], []⟩, ["one", "other", "here", "there"], ["one", "other"]⟩
theorem b_fits_below : BindOk d_fits_below := fun _ _ _ _ _ _ us hl => match us, hl with | [_, _], _ => rfl
def st_known_in : Stmt := PySem.Challenge.pw_copiesjoined_k76_whole_runs_of_puts.main.body.getD 21 (.Pass ⟨0, 0, 0, 0⟩)
def d_known_in : Df := ⟨⟨("known_in", none), "known_in", "known_in", C8.fnArgs st_known_in, C8.fnBody st_known_in, C8.fnScope st_known_in, [], []⟩, ["deeds", "vector", "deed"], ["deeds", "vector"]⟩
theorem b_known_in : BindOk d_known_in := fun _ _ _ _ _ _ us hl => match us, hl with | [_, _], _ => rfl
def st_fits_in : Stmt := PySem.Challenge.pw_copiesjoined_k76_whole_runs_of_puts.main.body.getD 22 (.Pass ⟨0, 0, 0, 0⟩)
def d_fits_in : Df := ⟨⟨("fits_in", none), "fits_in", "fits_in", C8.fnArgs st_fits_in, C8.fnBody st_fits_in, C8.fnScope st_fits_in, [], []⟩, ["deeds", "deed", "own", "one"], ["deeds", "deed"]⟩
theorem b_fits_in : BindOk d_fits_in := fun _ _ _ _ _ _ us hl => match us, hl with | [_, _], _ => rfl
def st_fits_deeds : Stmt := PySem.Challenge.pw_copiesjoined_k76_whole_runs_of_puts.main.body.getD 23 (.Pass ⟨0, 0, 0, 0⟩)
def d_fits_deeds : Df := ⟨⟨("fits_deeds", none), "fits_deeds", "fits_deeds", C8.fnArgs st_fits_deeds, C8.fnBody st_fits_deeds, C8.fnScope st_fits_deeds, [], []⟩, ["sites", "value", "marks", "site", "numbers", "deed", "one", "other"], ["sites", "value"]⟩
theorem b_fits_deeds : BindOk d_fits_deeds := fun _ _ _ _ _ _ us hl => match us, hl with | [_, _], _ => rfl
def st_need_sites : Stmt := PySem.Challenge.pw_copiesjoined_k76_whole_runs_of_puts.main.body.getD 24 (.Pass ⟨0, 0, 0, 0⟩)
def d_need_sites : Df := ⟨⟨("need_sites", none), "need_sites", "need_sites", C8.fnArgs st_need_sites, C8.fnBody st_need_sites, C8.fnScope st_need_sites, [], []⟩, ["value"], ["value"]⟩
theorem b_need_sites : BindOk d_need_sites := fun _ _ _ _ _ _ us hl => match us, hl with | [_], _ => rfl
def st_need_deeds : Stmt := PySem.Challenge.pw_copiesjoined_k76_whole_runs_of_puts.main.body.getD 25 (.Pass ⟨0, 0, 0, 0⟩)
def d_need_deeds : Df := ⟨⟨("need_deeds", none), "need_deeds", "need_deeds", C8.fnArgs st_need_deeds, C8.fnBody st_need_deeds, C8.fnScope st_need_deeds, [], []⟩, ["sites", "value"], ["sites", "value"]⟩
theorem b_need_deeds : BindOk d_need_deeds := fun _ _ _ _ _ _ us hl => match us, hl with | [_, _], _ => rfl
def st_is_deeds : Stmt := PySem.Challenge.pw_copiesjoined_k76_whole_runs_of_puts.main.body.getD 26 (.Pass ⟨0, 0, 0, 0⟩)
def d_is_deeds : Df := ⟨⟨("is_deeds", none), "is_deeds", "is_deeds", C8.fnArgs st_is_deeds, C8.fnBody st_is_deeds, C8.fnScope st_is_deeds, [], []⟩, ["sites", "value"], ["sites", "value"]⟩
theorem b_is_deeds : BindOk d_is_deeds := fun _ _ _ _ _ _ us hl => match us, hl with | [_, _], _ => rfl
def st_puts_in : Stmt := PySem.Challenge.pw_copiesjoined_k76_whole_runs_of_puts.main.body.getD 28 (.Pass ⟨0, 0, 0, 0⟩)
def d_puts_in : Df := ⟨⟨("puts_in", none), "puts_in", "puts_in", C8.fnArgs st_puts_in, C8.fnBody st_puts_in, C8.fnScope st_puts_in, [], []⟩, ["deeds", "deed"], ["deeds"]⟩
theorem b_puts_in : BindOk d_puts_in := fun _ _ _ _ _ _ us hl => match us, hl with | [_], _ => rfl
def st_order_in : Stmt := PySem.Challenge.pw_copiesjoined_k76_whole_runs_of_puts.main.body.getD 29 (.Pass ⟨0, 0, 0, 0⟩)
def d_order_in : Df := ⟨⟨("order_in", none), "order_in", "order_in", C8.fnArgs st_order_in, C8.fnBody st_order_in, C8.fnScope st_order_in, [], []⟩, ["deeds", "puts", "line", "found", "here", "mark"], ["deeds"]⟩
theorem b_order_in : BindOk d_order_in := fun _ _ _ _ _ _ us hl => match us, hl with | [_], _ => rfl
def st_need_put : Stmt := PySem.Challenge.pw_copiesjoined_k76_whole_runs_of_puts.main.body.getD 30 (.Pass ⟨0, 0, 0, 0⟩)
def d_need_put : Df := ⟨⟨("need_put", none), "need_put", "need_put", C8.fnArgs st_need_put, C8.fnBody st_need_put, C8.fnScope st_need_put, [], []⟩, ["deeds", "value", "deed"], ["deeds", "value"]⟩
theorem b_need_put : BindOk d_need_put := fun _ _ _ _ _ _ us hl => match us, hl with | [_, _], _ => rfl
def st_need_spot : Stmt := PySem.Challenge.pw_copiesjoined_k76_whole_runs_of_puts.main.body.getD 31 (.Pass ⟨0, 0, 0, 0⟩)
def d_need_spot : Df := ⟨⟨("need_spot", none), "need_spot", "need_spot", C8.fnArgs st_need_spot, C8.fnBody st_need_spot, C8.fnScope st_need_spot, [], []⟩, ["deeds", "value", "own"], ["deeds", "value"]⟩
theorem b_need_spot : BindOk d_need_spot := fun _ _ _ _ _ _ us hl => match us, hl with | [_, _], _ => rfl
def st_order_of : Stmt := PySem.Challenge.pw_copiesjoined_k76_whole_runs_of_puts.main.body.getD 32 (.Pass ⟨0, 0, 0, 0⟩)
def d_order_of : Df := ⟨⟨("order_of", none), "order_of", "order_of", C8.fnArgs st_order_of, C8.fnBody st_order_of, C8.fnScope st_order_of, [], []⟩, ["sites", "deeds"], ["sites", "deeds"]⟩
theorem b_order_of : BindOk d_order_of := fun _ _ _ _ _ _ us hl => match us, hl with | [_, _], _ => rfl
def st_behind_of : Stmt := PySem.Challenge.pw_copiesjoined_k76_whole_runs_of_puts.main.body.getD 33 (.Pass ⟨0, 0, 0, 0⟩)
def d_behind_of : Df := ⟨⟨("behind_of", none), "behind_of", "behind_of", C8.fnArgs st_behind_of, C8.fnBody st_behind_of, C8.fnScope st_behind_of, [], []⟩, ["sites", "deeds", "mark", "puts", "own"], ["sites", "deeds", "mark"]⟩
theorem b_behind_of : BindOk d_behind_of := fun _ _ _ _ _ _ us hl => match us, hl with | [_, _, _], _ => rfl
def st_by_site : Stmt := PySem.Challenge.pw_copiesjoined_k76_whole_runs_of_puts.main.body.getD 35 (.Pass ⟨0, 0, 0, 0⟩)
def d_by_site : Df := ⟨⟨("by_site", none), "by_site", "by_site", C8.fnArgs st_by_site, C8.fnBody st_by_site, C8.fnScope st_by_site, [], []⟩, ["sites", "deeds", "site", "deed"], ["sites", "deeds"]⟩
theorem b_by_site : BindOk d_by_site := fun _ _ _ _ _ _ us hl => match us, hl with | [_, _], _ => rfl
def st_goes_on : Stmt := PySem.Challenge.pw_copiesjoined_k76_whole_runs_of_puts.main.body.getD 36 (.Pass ⟨0, 0, 0, 0⟩)
def d_goes_on : Df := ⟨⟨("goes_on", none), "goes_on", "goes_on", C8.fnArgs st_goes_on, C8.fnBody st_goes_on, C8.fnScope st_goes_on, [], []⟩, ["before", "deed", "way"], ["before", "deed", "way"]⟩
theorem b_goes_on : BindOk d_goes_on := fun _ _ _ _ _ _ us hl => match us, hl with | [_, _, _], _ => rfl
def st_runs_in : Stmt := PySem.Challenge.pw_copiesjoined_k76_whole_runs_of_puts.main.body.getD 37 (.Pass ⟨0, 0, 0, 0⟩)
def d_runs_in : Df := ⟨⟨("runs_in", none), "runs_in", "runs_in", C8.fnArgs st_runs_in, C8.fnBody st_runs_in, C8.fnScope st_runs_in, [], []⟩, ["sites", "deeds", "way", "found", "rows", "at", "deed"], ["sites", "deeds", "way"]⟩
theorem b_runs_in : BindOk d_runs_in := fun _ _ _ _ _ _ us hl => match us, hl with | [_, _, _], _ => rfl
def st_fits_marks : Stmt := PySem.Challenge.pw_copiesjoined_k76_whole_runs_of_puts.main.body.getD 38 (.Pass ⟨0, 0, 0, 0⟩)
def d_fits_marks : Df := ⟨⟨("fits_marks", none), "fits_marks", "fits_marks", C8.fnArgs st_fits_marks, C8.fnBody st_fits_marks, C8.fnScope st_fits_marks, [], []⟩, ["deeds", "value", "puts", "mark"], ["deeds", "value"]⟩
theorem b_fits_marks : BindOk d_fits_marks := fun _ _ _ _ _ _ us hl => match us, hl with | [_, _], _ => rfl
def st_need_marks : Stmt := PySem.Challenge.pw_copiesjoined_k76_whole_runs_of_puts.main.body.getD 39 (.Pass ⟨0, 0, 0, 0⟩)
def d_need_marks : Df := ⟨⟨("need_marks", none), "need_marks", "need_marks", C8.fnArgs st_need_marks, C8.fnBody st_need_marks, C8.fnScope st_need_marks, [], []⟩, ["deeds", "value"], ["deeds", "value"]⟩
theorem b_need_marks : BindOk d_need_marks := fun _ _ _ _ _ _ us hl => match us, hl with | [_, _], _ => rfl
def st_need_way : Stmt := PySem.Challenge.pw_copiesjoined_k76_whole_runs_of_puts.main.body.getD 40 (.Pass ⟨0, 0, 0, 0⟩)
def d_need_way : Df := ⟨⟨("need_way", none), "need_way", "need_way", C8.fnArgs st_need_way, C8.fnBody st_need_way, C8.fnScope st_need_way, [], []⟩, ["value"], ["value"]⟩
theorem b_need_way : BindOk d_need_way := fun _ _ _ _ _ _ us hl => match us, hl with | [_], _ => rfl
def st_runs_of : Stmt := PySem.Challenge.pw_copiesjoined_k76_whole_runs_of_puts.main.body.getD 41 (.Pass ⟨0, 0, 0, 0⟩)
def d_runs_of : Df := ⟨⟨("runs_of", none), "runs_of", "runs_of", C8.fnArgs st_runs_of, C8.fnBody st_runs_of, C8.fnScope st_runs_of, [], []⟩, ["sites", "deeds", "way"], ["sites", "deeds", "way"]⟩
theorem b_runs_of : BindOk d_runs_of := fun _ _ _ _ _ _ us hl => match us, hl with | [_, _, _], _ => rfl
def st_run_of : Stmt := PySem.Challenge.pw_copiesjoined_k76_whole_runs_of_puts.main.body.getD 42 (.Pass ⟨0, 0, 0, 0⟩)
def d_run_of : Df := ⟨⟨("run_of", none), "run_of", "run_of", C8.fnArgs st_run_of, C8.fnBody st_run_of, C8.fnScope st_run_of, [], []⟩, ["sites", "deeds", "way", "mark", "run"], ["sites", "deeds", "way", "mark"]⟩
theorem b_run_of : BindOk d_run_of := fun _ _ _ _ _ _ us hl => match us, hl with | [_, _, _, _], _ => rfl
def st_longest_run : Stmt := PySem.Challenge.pw_copiesjoined_k76_whole_runs_of_puts.main.body.getD 43 (.Pass ⟨0, 0, 0, 0⟩)
def d_longest_run : Df := ⟨⟨("longest_run", none), "longest_run", "longest_run", C8.fnArgs st_longest_run, C8.fnBody st_longest_run, C8.fnScope st_longest_run, [], []⟩, ["sites", "deeds", "way", "runs", "run", "own"], ["sites", "deeds", "way"]⟩
theorem b_longest_run : BindOk d_longest_run := fun _ _ _ _ _ _ us hl => match us, hl with | [_, _, _], _ => rfl
def st_runs_counted : Stmt := PySem.Challenge.pw_copiesjoined_k76_whole_runs_of_puts.main.body.getD 44 (.Pass ⟨0, 0, 0, 0⟩)
def d_runs_counted : Df := ⟨⟨("runs_counted", none), "runs_counted", "runs_counted", C8.fnArgs st_runs_counted, C8.fnBody st_runs_counted, C8.fnScope st_runs_counted, [], []⟩, ["sites", "deeds", "way", "sizes", "run", "size"], ["sites", "deeds", "way"]⟩
theorem b_runs_counted : BindOk d_runs_counted := fun _ _ _ _ _ _ us hl => match us, hl with | [_, _, _], _ => rfl
def st_heads_of : Stmt := PySem.Challenge.pw_copiesjoined_k76_whole_runs_of_puts.main.body.getD 45 (.Pass ⟨0, 0, 0, 0⟩)
def d_heads_of : Df := ⟨⟨("heads_of", none), "heads_of", "heads_of", C8.fnArgs st_heads_of, C8.fnBody st_heads_of, C8.fnScope st_heads_of, [], []⟩, ["sites", "deeds", "way", "puts", "run"], ["sites", "deeds", "way"]⟩
theorem b_heads_of : BindOk d_heads_of := fun _ _ _ _ _ _ us hl => match us, hl with | [_, _, _], _ => rfl
def st_is_run : Stmt := PySem.Challenge.pw_copiesjoined_k76_whole_runs_of_puts.main.body.getD 46 (.Pass ⟨0, 0, 0, 0⟩)
def d_is_run : Df := ⟨⟨("is_run", none), "is_run", "is_run", C8.fnArgs st_is_run, C8.fnBody st_is_run, C8.fnScope st_is_run, [], []⟩, ["sites", "deeds", "way", "marks"], ["sites", "deeds", "way", "marks"]⟩
theorem b_is_run : BindOk d_is_run := fun _ _ _ _ _ _ us hl => match us, hl with | [_, _, _, _], _ => rfl
def st_law_cup : Stmt := PySem.Challenge.pw_copiesjoined_k76_whole_runs_of_puts.main.body.getD 48 (.Pass ⟨0, 0, 0, 0⟩)
def d_law_cup : Df := ⟨⟨("_law_cup", none), "_law_cup", "_law_cup", C8.fnArgs st_law_cup, C8.fnBody st_law_cup, C8.fnScope st_law_cup, [], []⟩, ["script", "cell"], ["script"]⟩
theorem b_law_cup : BindOk d_law_cup := fun _ _ _ _ _ _ us hl => match us, hl with | [_], _ => rfl
def st_law_roll : Stmt := PySem.Challenge.pw_copiesjoined_k76_whole_runs_of_puts.main.body.getD 49 (.Pass ⟨0, 0, 0, 0⟩)
def d_law_roll : Df := ⟨⟨("_law_roll", none), "_law_roll", "_law_roll", C8.fnArgs st_law_roll, C8.fnBody st_law_roll, C8.fnScope st_law_roll, [], []⟩, ["cup", "many", "deep", "found"], ["cup", "many"]⟩
theorem b_law_roll : BindOk d_law_roll := fun _ _ _ _ _ _ us hl => match us, hl with | [_, _], _ => rfl
def st_law_some : Stmt := PySem.Challenge.pw_copiesjoined_k76_whole_runs_of_puts.main.body.getD 50 (.Pass ⟨0, 0, 0, 0⟩)
def d_law_some : Df := ⟨⟨("_law_some", none), "_law_some", "_law_some", C8.fnArgs st_law_some, C8.fnBody st_law_some, C8.fnScope st_law_some, [], []⟩, ["cup", "things"], ["cup", "things"]⟩
theorem b_law_some : BindOk d_law_some := fun _ _ _ _ _ _ us hl => match us, hl with | [_, _], _ => rfl
def st_law_same : Stmt := PySem.Challenge.pw_copiesjoined_k76_whole_runs_of_puts.main.body.getD 51 (.Pass ⟨0, 0, 0, 0⟩)
def d_law_same : Df := ⟨⟨("_law_same", none), "_law_same", "_law_same", C8.fnArgs st_law_same, C8.fnBody st_law_same, C8.fnScope st_law_same, [], []⟩, ["told", "due", "at"], ["told", "due"]⟩
theorem b_law_same : BindOk d_law_same := fun _ _ _ _ _ _ us hl => match us, hl with | [_, _], _ => rfl
def st_law_typed : Stmt := PySem.Challenge.pw_copiesjoined_k76_whole_runs_of_puts.main.body.getD 52 (.Pass ⟨0, 0, 0, 0⟩)
def d_law_typed : Df := ⟨⟨("_law_typed", none), "_law_typed", "_law_typed", C8.fnArgs st_law_typed, C8.fnBody st_law_typed, C8.fnScope st_law_typed, [], []⟩, ["cup", "sites", "many", "turn", "known", "found", "past", "mine", "count", "after", "what", "site", "way", "other", "puts", "own", "deed", "pair"], ["cup", "sites", "many"]⟩
theorem b_law_typed : BindOk d_law_typed := fun _ _ _ _ _ _ us hl => match us, hl with | [_, _, _], _ => rfl
def st_law_runs : Stmt := PySem.Challenge.pw_copiesjoined_k76_whole_runs_of_puts.main.body.getD 53 (.Pass ⟨0, 0, 0, 0⟩)
def d_law_runs : Df := ⟨⟨("_law_runs", none), "_law_runs", "_law_runs", C8.fnArgs st_law_runs, C8.fnBody st_law_runs, C8.fnScope st_law_runs, [], []⟩, ["sites", "deeds", "way", "found", "site", "mine", "at", "deed", "before", "on"], ["sites", "deeds", "way"]⟩
theorem b_law_runs : BindOk d_law_runs := fun _ _ _ _ _ _ us hl => match us, hl with | [_, _, _], _ => rfl
def st_law_right : Stmt := PySem.Challenge.pw_copiesjoined_k76_whole_runs_of_puts.main.body.getD 54 (.Pass ⟨0, 0, 0, 0⟩)
def d_law_right : Df := ⟨⟨("_law_right", none), "_law_right", "_law_right", C8.fnArgs st_law_right, C8.fnBody st_law_right, C8.fnScope st_law_right, [], []⟩, ["cup", "deeds", "runs", "after", "sizes", "longest", "told", "counts", "marks", "run", "sites", "way", "mark", "one", "other", "deed", "size"], ["cup"]⟩
theorem b_law_right : BindOk d_law_right := fun _ _ _ _ _ _ us hl => match us, hl with | [_], _ => rfl
def st_law : Stmt := PySem.Challenge.pw_copiesjoined_k76_whole_runs_of_puts.main.body.getD 55 (.Pass ⟨0, 0, 0, 0⟩)
def d_law : Df := ⟨⟨("law", none), "law", "law", C8.fnArgs st_law, C8.fnBody st_law, C8.fnScope st_law, [], []⟩, ["script", "cup", "turn", "rows", "at", "due", "singles", "one", "two", "take", "deeds", "after", "first", "second"], ["script"]⟩
theorem b_law : BindOk d_law := fun _ _ _ _ _ _ us hl => match us, hl with | [_], _ => rfl
abbrev tx : Txt := ⟨[d_is_whole, d_fits_whole, d_is_tuple_of, d_is_sign, d_fits_mark, d_fits_vector, d_fits_what, d_fits_deed, d_fits_below, d_known_in, d_fits_in, d_fits_deeds, d_need_sites, d_need_deeds, d_is_deeds, d_puts_in, d_order_in, d_need_put, d_need_spot, d_order_of, d_behind_of, d_by_site, d_goes_on, d_runs_in, d_fits_marks, d_need_marks, d_need_way, d_runs_of, d_run_of, d_longest_run, d_runs_counted, d_heads_of, d_is_run, d_law_cup, d_law_roll, d_law_some, d_law_same, d_law_typed, d_law_runs, d_law_right, d_law], fns, glo, ["LETTERS", "MOST", "BEGIN", "KNOWN", "SITES"], kt0⟩
theorem binds : ∀ e ∈ tx.ds, BindOk e := by
  simp only [tx, List.forall_mem_cons]
  exact ⟨b_is_whole, b_fits_whole, b_is_tuple_of, b_is_sign, b_fits_mark, b_fits_vector, b_fits_what, b_fits_deed, b_fits_below, b_known_in, b_fits_in, b_fits_deeds, b_need_sites, b_need_deeds, b_is_deeds, b_puts_in, b_order_in, b_need_put, b_need_spot, b_order_of, b_behind_of, b_by_site, b_goes_on, b_runs_in, b_fits_marks, b_need_marks, b_need_way, b_runs_of, b_run_of, b_longest_run, b_runs_counted, b_heads_of, b_is_run, b_law_cup, b_law_roll, b_law_some, b_law_same, b_law_typed, b_law_runs, b_law_right, b_law, by simp⟩
theorem ok : tx.ok = true := by decide +kernel
abbrev R0 : PySem.W.OpenRow := PySem.W.OpenLaw.row PySem.Challenge.rw_copiesjoined_k76_whole_runs_of_puts
def loose : List PySem.Str := List.map PySem.Str.ofString ["CopyError", "InvalidMark", "InvalidDeeds", "InvalidPlan", "InvalidNumber", "SITES", "MOST", "KNOWN", "BEGIN", "LETTERS", "is_whole", "fits_whole", "is_tuple_of", "is_sign", "fits_mark", "fits_vector", "fits_what", "fits_deed", "fits_below", "known_in", "fits_in", "fits_deeds", "need_sites", "need_deeds", "is_deeds", "puts_in", "order_in", "need_put", "need_spot", "order_of", "behind_of", "by_site", "goes_on", "runs_in", "fits_marks", "need_marks", "need_way", "runs_of", "run_of", "longest_run", "runs_counted", "heads_of", "is_run", "_law_cup", "_law_roll", "_law_some", "_law_same", "_law_typed", "_law_runs", "_law_right"]
abbrev hk : PySem.W.Hook := hookL 5 tx.fa (tx.ds.map (·.d)) tx.ex
def ob (s : PySem.W.SharedT) : AlL := obsL 5 tx.fa (tx.ds.map (·.d)) tx.ex (HandSHeadRun.getT s)
theorem ob_eq (s : PySem.W.SharedT) : ob s = hk.obs s.abs := obsL_eq (HandSHeadRun.getT_eq s)
theorem run0 (w : World) : HandSHeadRun.RunEq R0 (PySem.W.view R0.prog [55]) hk ob 4000 loose w := by
  intro os
  kernel_rfl

theorem law_true : tx.law 60 := fun ns h => by
  obtain ⟨a, k', e, p⟩ := r_law ns h (0, 0)
  have e' : run tx.fns tx.C 60 (tx.ds.length - 1) [.val (.lst (ns.map D.int))] (0, 0) = .ok a k' := e
  rw [e']
  exact p

end KL
open PySem PySem.W PySem.Calls PyProof.Rows
theorem PySem.Challenge.cw_copiesjoined_k76_whole_runs_of_puts_holds : PySem.Challenge.rw_copiesjoined_k76_whole_runs_of_puts.Holds := by
  w_on; o_law
  refine HandSHeadRun.head_any (r := OpenLaw.row PySem.Challenge.rw_copiesjoined_k76_whole_runs_of_puts) (q := view (OpenLaw.row PySem.Challenge.rw_copiesjoined_k76_whole_runs_of_puts).prog [55]) (H := KL.hk) (ob := KL.ob) (M := 4000) (loose := KL.loose) (d := HandSHeadRun.topDef (OpenLaw.row PySem.Challenge.rw_copiesjoined_k76_whole_runs_of_puts).prog 55) (kwd := []) KL.ob_eq
    (by kernel_rfl) (fun s => by kernel_rfl) KL.run0 (by kernel_rfl) (by kernel_rfl) (by kernel_rfl) (by rfl) (by first | assumption | decide +kernel) (by decide +kernel) ⟨rfl, rfl, rfl, rfl, rfl, by decide +kernel⟩ ?hw ?hc
  case hw => w_witness2
  case hc =>
    refine L2.walk_ofE (l := PySem.Challenge.rw_copiesjoined_k76_whole_runs_of_puts) (n := 63) (k := 60) (x := "script") (CX := L2.CX0) rfl (by decide) (by kernel_rfl) ⟨rfl, by decide, by decide⟩ ?F (fun _ _ _ _ z => z)
    intro w mg fa h Y G hmg0
    have hmg : mg ("law" : PySem.Str) = some (.ref fa) := by
      have e : (HandSHeadRun.topDef (OpenLaw.row PySem.Challenge.rw_copiesjoined_k76_whole_runs_of_puts).prog 55).name = ("law" : PySem.Str) := by kernel_rfl
      rw [← e]
      exact hmg0
    exact EV.law_facts KL.tx 59 "law" "script" KL.ok KL.binds (by decide +kernel) KL.law_true G hmg Y
end
