import PyProof.Rows.All
import Wide.All
import OpenK.AllK
import Wide.FinOn
import HandS.ForMost
import HandS.ForExc
import HandS.Wide
import HandS.IsInst
import HandS.ExcIs
import HandS.HeadHook1
import HandS.Walk
import HandS.Zip
import HandS.Codes
import HandS.StrMore
import HandS.Defaults
import HandS.Head0
import HandS.Head1
import HandS.Head2
import HandS.HeadEnd
import HandS.HeadHook2
import PySem.Challenge.RW_partsmith_k01_lengths_read_and_written
set_option Elab.async false
set_option linter.all false
set_option maxRecDepth 100000
set_option autoImplicit false
set_option maxHeartbeats 4000000
section
/-! Mp core: plain data, a small language, its value-level evaluator. -/
namespace Mp

inductive Ky where
  | i (n : Int) | s (x : List Nat)
  deriving DecidableEq
inductive Dk where
  | one (k : Ky) | tup (l : List Ky)
  deriving DecidableEq
/-- plain data; the flag f of a list, dict, object: nobody else holds it, it may be changed -/
inductive D where
  | non
  | bl (b : Bool)
  | int (i : Int)
  | str (s : List Nat)
  | tup (l : List D)
  | lst (f : Bool) (l : List D)
  | dic (f : Bool) (l : List (Dk × D))
  | obj (f : Bool) (l : List D)
  | exc (k : Nat) (l : List D)

mutual
/-- nothing in it may be changed -/
def cold : D → Bool
  | .tup l => coldL l
  | .lst f _ => !f
  | .dic f _ => !f
  | .obj f _ => !f
  | _ => true
def coldL : List D → Bool
  | [] => true
  | d :: l => cold d && coldL l
end
mutual
def frz : D → D
  | .tup l => .tup (frzL l)
  | .lst _ l => .lst false (frzL l)
  | .dic _ l => .dic false (frzP l)
  | .obj _ l => .obj false (frzL l)
  | d => d
def frzL : List D → List D
  | [] => []
  | d :: l => frz d :: frzL l
def frzP : List (Dk × D) → List (Dk × D)
  | [] => []
  | (k, d) :: l => (k, frz d) :: frzP l
end
mutual
/-- no list, dict, object in it -/
def flat : D → Bool
  | .tup l => flatL l
  | .lst _ _ => false
  | .dic _ _ => false
  | .obj _ _ => false
  | .exc _ _ => false
  | _ => true
def flatL : List D → Bool
  | [] => true
  | d :: l => flat d && flatL l
end
mutual
/-- equal but for the flags; a truth value counts as 0 or 1 -/
def same : D → D → Bool
  | .non, .non => true
  | .bl a, .bl b => a == b
  | .bl a, .int b => (if a then 1 else 0) == b
  | .int a, .bl b => a == (if b then 1 else 0)
  | .int a, .int b => a == b
  | .str a, .str b => a == b
  | .tup a, .tup b => sameL a b
  | .lst _ a, .lst _ b => sameL a b
  | _, _ => false
def sameL : List D → List D → Bool
  | [], [] => true
  | a :: l, b :: m => same a b && sameL l m
  | _, _ => false
end
mutual
/-- == is told of it: no dict, object, exception in it, not too deep -/
def plain : Nat → D → Bool
  | _, .non => true
  | _, .bl _ => true
  | _, .int _ => true
  | _, .str _ => true
  | n + 1, .tup l => plainL n l
  | n + 1, .lst _ l => plainL n l
  | _, _ => false
def plainL : Nat → List D → Bool
  | _, [] => true
  | n, d :: l => plain n d && plainL n l
end
/-- None, a truth value, a number, a text -/
def scal : D → Bool
  | .non => true
  | .bl _ => true
  | .int _ => true
  | .str _ => true
  | _ => false

abbrev Env := List (Option D)
inductive Out (α : Type) where
  | ok (a : α)
  | exc (k : Nat) (l : List D) (g : Env)
  | bad
def Out.bind {α β : Type} : Out α → (α → Out β) → Out β
  | .ok a, f => f a
  | .exc k l g, _ => .exc k l g
  | .bad, _ => .bad
def Out.of {α : Type} : Option α → Out α
  | some a => .ok a
  | none => .bad
/-- what a call gives: the value, and what the changed argument is then -/
inductive ROut where
  | ok (d : D) (io : List D)
  | exc (k : Nat) (l : List D)
  | bad

inductive Cmp where
  | lt | le | gt | ge | eq | ne | isN | notN | mem | nmem
  deriving DecidableEq
/-- operators that read: their value shares nothing that may be changed -/
inductive Op where
  | add | sub | mul | div | mod | pow | shr | band | neg
  | cmp (c : Cmp)
  | len | toStr | toInt | abs | max2 | min2 | all_ | any_ | sumL | strip | join | find | count
  | isI (ks : List Nat)
  | isE (all yes : List Nat)
  deriving DecidableEq
inductive Tgt where
  | nm (i : Nat)
  | tp (l : List Tgt)
mutual
inductive E where
  | lit (d : D)
  | glb (d : D)
  | var (i : Nat)
  | mv (i : Nat)
  | op (o : Op) (es : List E)
  | notE (a : E)
  | andE (es : List E)
  | orE (es : List E)
  | ite (c a b : E)
  | chain (o o' : Cmp) (a b c : E)
  | idx (p i : E)
  | tup (es : List E)
  | lst (es : List E)
  | cat (a b : E)
  | slHi (p hi : E)
  | slLo (p lo : E)
  | slc (p lo hi : E)
  | call (f : Nat) (es : List E)
  | callP (f : Nat) (es : List E)
  | comp (elt : E) (t : Tgt) (own : List Nat) (it : It) (cs : List E)
  | met (o : Op) (a b : E)
  | splitE (a b : E)
  | seqOf (k : Bool) (a : E)
inductive It where
  | of (e : E)
  | rng1 (a : E)
  | rng2 (a b : E)
  | rng3 (a b c : E)
  | enum (e : E)
  | zip (a b : E)
  | rev (e : E)
end
inductive S where
  | set (i : Nat) (e : E)
  | unp (t : Tgt) (e : E)
  | par (i j : Nat) (a b : E)
  | app (i : Nat) (e : E)
  | ite (c : E) (a b : List S)
  | whl (c : E) (b : List S)
  | for_ (t : Tgt) (it : It) (b : List S)
  | ret (e : E)
  | retN
  | brk
  | cont
  | pass
  | nev
  | raiseC (k : Nat)
  | tryK (i j : Nat) (all yes : List Nat) (b : List S)

/-! ### operators -/
def cmpD : Cmp → D → D → Option Bool
  | .lt, .int a, .int b => some (decide (a < b))
  | .le, .int a, .int b => some (decide (a ≤ b))
  | .gt, .int a, .int b => some (decide (b < a))
  | .ge, .int a, .int b => some (decide (b ≤ a))
  | .eq, a, b => if plain 60 a && plain 60 b then some (same a b) else none
  | .ne, a, b => if plain 60 a && plain 60 b then some (!same a b) else none
  | .isN, a, .non => some (match a with
    | .non => true
    | _ => false)
  | .notN, a, .non => some (match a with
    | .non => false
    | _ => true)
  | .mem, .str [c], .str z => some (decide (c ∈ z))
  | .nmem, .str [c], .str z => some (!decide (c ∈ z))
  | .mem, d, .lst _ l => if scal d && l.all scal then some (l.any fun e => same e d) else none
  | .nmem, d, .lst _ l => if scal d && l.all scal then some (!l.any fun e => same e d) else none
  | .mem, d, .tup l => if scal d && l.all scal then some (l.any fun e => same e d) else none
  | .nmem, d, .tup l => if scal d && l.all scal then some (!l.any fun e => same e d) else none
  | _, _, _ => none
/-- a product is told where a factor is small or both are not too great -/
def mulOk (a b : Int) : Bool := decide (a.natAbs < 2 ^ 64) || decide (b.natAbs < 2 ^ 64) || (decide (a.natAbs < 2 ^ 400000) && decide (b.natAbs < 2 ^ 400000))
/-- a number that str tells -/
def digOk (n : Nat) : Bool := decide (n < 10 ^ 4300)
/-- the figures of a number -/
def strI (i : Int) : List Nat := (toString i).toList.map Char.toNat
def allB : List D → Option (List Bool)
  | [] => some []
  | .bl b :: l => (allB l).map (b :: ·)
  | _ => none
def allI : List D → Option (List Int)
  | [] => some []
  | .int i :: l => (allI l).map (i :: ·)
  | _ => none
def allS : List D → Option (List (List Nat))
  | [] => some []
  | .str s :: l => (allS l).map (s :: ·)
  | _ => none
/-- without the signs of b at both ends -/
def stripL (b a : List Nat) : List Nat := ((a.dropWhile fun c => b.contains c).reverse.dropWhile fun c => b.contains c).reverse
def preL (t l : List Nat) : Bool := l.take t.length == t
/-- l cut at each t; k signs are still to be passed over -/
def splL (t : List Nat) : Nat → List Nat → List Nat → List (List Nat)
  | _, acc, [] => [acc]
  | 0, acc, c :: r => if preL t (c :: r) = true then acc :: splL t (t.length - 1) [] r else splL t 0 (acc ++ [c]) r
  | k + 1, acc, _ :: r => splL t k acc r
def joinS (t : List Nat) : List (List Nat) → List Nat
  | [] => []
  | [p] => p
  | p :: q :: r => p ++ (t ++ joinS t (q :: r))
def digV (s : List Nat) : Nat := s.foldl (fun a c => a * 10 + (c - 48)) 0
def isDig (c : Nat) : Bool := decide (48 ≤ c) && decide (c ≤ 57)
/-- isinstance against built-in classes by number: 0 bool, 1 int, 2 str, 3 tuple, 4 list -/
def isD (ks : List Nat) : D → Option Bool
  | .non => some false
  | .bl _ => some (ks.any fun k => k == 0 || k == 1)
  | .int _ => some (ks.any fun k => k == 1)
  | .str _ => some (ks.any fun k => k == 2)
  | .tup _ => some (ks.any fun k => k == 3)
  | .lst _ _ => some (ks.any fun k => k == 4)
  | _ => none
/-- the place of the first sign c, or -1 -/
def findC (c : Nat) (s : List Nat) : Int := match s.findIdx? (fun x => x == c) with
  | some i => i
  | none => -1
/-- an exception's class among some: all that are known, those asked for -/
def isEx (all yes : List Nat) : D → Option Bool
  | .exc k l => if all.contains k && l.isEmpty then some (yes.contains k) else none
  | d => (isD [] d).map fun _ => false
def opD : Op → List D → Option D
  | .add, [.int a, .int b] => some (.int (a + b))
  | .sub, [.int a, .int b] => some (.int (a - b))
  | .neg, [.int a] => some (.int (-a))
  | .add, [.str a, .str b] => if a.length + b.length ≤ 16777216 then some (.str (a ++ b)) else none
  | .pow, [.int a, .int b] => if decide (0 ≤ b) && (decide (b ≤ 1000) && decide (a.natAbs < 2 ^ 64)) then some (.int (a ^ b.toNat)) else none
  | .toStr, [.int a] => if digOk a.natAbs then some (.str (strI a)) else none
  | .toInt, [.int a] => some (.int a)
  | .toInt, [.bl b] => some (.int (if b then 1 else 0))
  | .toInt, [.str s] => if s.all isDig && (decide (s ≠ []) && decide (s.length ≤ 640)) then some (.int (digV s)) else none
  | .strip, [.str a, .str b] => some (.str (stripL b a))
  | .join, [.str t, .lst _ l] => (allS l).bind fun ys => if (ys.map (·.length)).sum + ys.length * t.length ≤ 16777216 then some (.str (joinS t ys)) else none
  | .all_, [.lst _ l] => (allB l).map fun bs => .bl (bs.all id)
  | .any_, [.lst _ l] => (allB l).map fun bs => .bl (bs.any id)
  | .sumL, [.lst _ l] => (allI l).map fun ns => .int ns.sum
  | .mul, [.int a, .int b] => if mulOk a b then some (.int (a * b)) else none
  | .mod, [.int a, .int b] => if 0 < b then some (.int (a % b)) else none
  | .div, [.int a, .int b] => if decide (0 < b) && decide (b.natAbs < 2 ^ 9000) then some (.int (a / b)) else none
  | .cmp c, [a, b] => (cmpD c a b).map .bl
  | .len, [.lst _ l] => some (.int l.length)
  | .len, [.tup l] => some (.int l.length)
  | .len, [.str l] => some (.int l.length)
  | .abs, [.int a] => some (.int (if a < 0 then -a else a))
  | .max2, [.int a, .int b] => some (.int (if b > a then b else a))
  | .min2, [.int a, .int b] => some (.int (if b < a then b else a))
  | .isI ks, [d] => (isD ks d).map .bl
  | .isE all yes, [d] => (isEx all yes d).map .bl
  | .find, [.str s, .str [c]] => some (.int (findC c s))
  | .count, [.str s, .str [c]] => some (.int (s.count c))
  | _, _ => none

/-! ### slots -/
def getS (g : Env) (i : Nat) : Option D := match g[i]? with
  | some (some d) => some d
  | _ => none
def frzS (g : Env) (i : Nat) : Env := match g[i]? with
  | some (some d) => g.set i (some (frz d))
  | _ => g
def frzR (g : Env) : Option Nat → Env
  | some i => frzS g i
  | none => g
def wipeS (g : Env) : List Nat → Env
  | [] => g
  | i :: r => (wipeS g r).set i none
/-- the slots at these places as they were -/
def backS (g0 : Env) : List Nat → Env → Env
  | [], g => g
  | i :: r, g => (backS g0 r g).set i (match g0[i]? with
    | some x => x
    | none => none)
/-- the slot holds what may be changed -/
def hotS (g : Env) (r : Nat) : Bool := match g[r]? with
  | some (some z) => !cold z
  | _ => false
/-- the items of d (at the slot r, if any) for a loop: the slots hidden while it runs -/
def holdIt (r : Option Nat) (d : D) (l : List D) (g : Env) : Option (List D × Env × List Nat) := match r with
  | none => some (frzL l, g, [])
  | some r => if cold d then some (l, g, []) else if hotS g r then (if coldL l then some (l, g, [r]) else some (frzL l, frzS g r, [])) else none
mutual
def asg : Tgt → D → Env → Option Env
  | .nm i, d, g => some (g.set i (some d))
  | .tp ts, .tup ds, g => asgL ts ds g
  | .tp _, _, _ => none
def asgL : List Tgt → List D → Env → Option Env
  | [], [], g => some g
  | t :: ts, d :: ds, g => match asg t d g with
    | some g' => asgL ts ds g'
    | none => none
  | _, _, _ => none
end
/-- the place that an index means -/
def ixD (n : Nat) (i : Int) : Option Nat :=
  if 0 ≤ i then (if i < (n : Int) then some i.toNat else none)
  else if -(n : Int) ≤ i then some (i + (n : Int)).toNat else none
def atD {α : Type} (l : List α) (i : Int) : Option α := (ixD l.length i).bind fun j => l[j]?
def idxD : D → D → Option D
  | .lst _ l, .int i => atD l i
  | .tup l, .int i => atD l i
  | .str s, .int i => (atD s i).map fun c => .str [c]
  | _, _ => none
/-- a list that may stand -/
def fitsL {α : Type} (l : List α) : Bool := decide (l.length ≤ 16777216)
def seqD : D → Option (List D)
  | .lst _ l => some l
  | .tup l => some l
  | _ => none
def isTup : D → Bool
  | .tup _ => true
  | _ => false
def lstD : D → Option (List D)
  | .lst _ l => some l
  | _ => none
/-- the end of a slice -/
def cutI (n d : Nat) : Option Int → Nat
  | none => d
  | some i => if i < 0 then (i + (n : Int)).toNat else min i.toNat n
def cutL {α : Type} (l : List α) (lo hi : Option Int) : List α := (l.drop (cutI l.length 0 lo)).take (cutI l.length l.length hi - cutI l.length 0 lo)
def sliceR (x : D) (lo hi : Option Int) (g : Env) : Out (D × Env) := match x with
  | .lst _ l => if coldL l then .ok (.lst true (cutL l lo hi), g) else .bad
  | .str s => .ok (.str (cutL s lo hi), g)
  | _ => .bad
def rootE : E → Option Nat
  | .var i => some i
  | .mv _ => none
  | .idx p _ => rootE p
  | _ => none

inductive SOut where
  | next (g : Env)
  | ret (d : D) (g : Env)
  | brk (g : Env)
  | cont (g : Env)
  | exc (k : Nat) (l : List D) (g : Env)
  | bad
def SOut.ofE {α : Type} : Out α → (α → SOut) → SOut
  | .ok a, f => f a
  | .exc k l g, _ => .exc k l g
  | .bad, _ => .bad
/-- a comprehension's turns -/
def compL (t : Tgt) (own : List Nat) (c : Env → Out (Bool × Env)) (f : Env → Out (D × Env)) : List D → Env → Out (List D × Env)
  | [], g => .ok ([], g)
  | d :: r, g => match asg t d g with
    | none => .bad
    | some g1 => match c g1 with
      | .ok (true, g2) => (match f g2 with
        | .ok (x, g3) => (match compL t own c f r (wipeS g3 own) with
          | .ok (xs, g4) => .ok (x :: xs, g4)
          | _ => .bad)
        | _ => .bad)
      | .ok (false, g2) => compL t own c f r (wipeS g2 own)
      | _ => .bad
def enumL : Nat → List D → List D
  | _, [] => []
  | k, d :: l => .tup [.int k, d] :: enumL (k + 1) l
def zipL : List D → List D → List D
  | a :: l, b :: m => .tup [a, b] :: zipL l m
  | _, _ => []
def rngL (lo : Int) : Nat → List D
  | 0 => []
  | n + 1 => .int lo :: rngL (lo + 1) n
/-- the count of turns of range(a, b, c) -/
def rngN (a b c : Int) : Nat := (if 0 < c then (if a < b then (b - a - 1) / c + 1 else 0) else (if b < a then (a - b - 1) / (-c) + 1 else 0)).toNat
def rngC (lo c : Int) : Nat → List D
  | 0 => []
  | n + 1 => .int lo :: rngC (lo + c) c n
/-- a range's end -/
def small62 (i : Int) : Bool := decide (-8000000 ≤ i) && decide (i ≤ 8000000)

section
variable (cl : Nat → List D → ROut)
mutual
/-- b: the value is only looked at -/
def ev : E → Bool → Env → Out (D × Env)
  | .lit d, _, g => .ok (d, g)
  | .glb d, _, g => .ok (d, g)
  | .var i, b, g => match g[i]? with
    | some (some d) => if b || cold d then .ok (d, g) else .ok (frz d, g.set i (some (frz d)))
    | _ => .bad
  | .mv i, _, g => match g[i]? with
    | some (some d) => .ok (d, g.set i none)
    | _ => .bad
  | .op o es, _, g => (evs es true g).bind fun (ds, g1) => (Out.of (opD o ds)).bind fun d => .ok (d, g1)
  | .notE a, _, g => (ev a false g).bind fun (d, g1) => match d with
    | .bl b => .ok (.bl (!b), g1)
    | _ => .bad
  | .andE es, _, g => evAnd es g
  | .orE es, _, g => evOr es g
  | .ite c a b, _, g => (ev c false g).bind fun (d, g1) => match d with
    | .bl true => ev a false g1
    | .bl false => ev b false g1
    | _ => .bad
  | .chain o o' a b c, _, g => (ev a true g).bind fun (x, g1) => (ev b true g1).bind fun (y, g2) => match cmpD o x y with
    | some true => (ev c true g2).bind fun (z, g3) => match cmpD o' y z with
      | some r => .ok (.bl r, g3)
      | none => .bad
    | some false => .ok (.bl false, g2)
    | none => .bad
  | .idx p i, b, g => (ev p (rootE p).isSome g).bind fun (x, g1) => (ev i true g1).bind fun (y, g2) => match idxD x y with
    | some d => if cold d then .ok (d, g2) else (match rootE p with
      | some r => if hotS g2 r then (if b then .ok (d, g2) else .ok (frz d, frzS g2 r)) else .bad
      | none => .ok (d, g2))
    | none => .bad
  | .tup es, _, g => (evs es false g).bind fun (ds, g1) => .ok (.tup ds, g1)
  | .lst es, _, g => (evs es false g).bind fun (ds, g1) => .ok (.lst true ds, g1)
  | .cat a b, _, g => (ev a (rootE a).isSome g).bind fun (x, g1) => (ev b (rootE b).isSome g1).bind fun (y, g2) => match x, y with
    | .lst _ l, .lst _ m => if fitsL (l ++ m) && (((rootE a).isNone || coldL l) && ((rootE b).isNone || coldL m)) then .ok (.lst true (l ++ m), g2) else .bad
    | _, _ => .bad
  | .slHi p hi, _, g => (ev p true g).bind fun (x, g1) => (ev hi false g1).bind fun (z, g2) => match z with
    | .int j => sliceR x none (some j) g2
    | _ => .bad
  | .slLo p lo, _, g => (ev p true g).bind fun (x, g1) => (ev lo false g1).bind fun (y, g2) => match y with
    | .int i => sliceR x (some i) none g2
    | _ => .bad
  | .slc p lo hi, _, g => (ev p true g).bind fun (x, g1) => (ev lo false g1).bind fun (y, g2) => match y with
    | .int i => (ev hi false g2).bind fun (z, g3) => match z with
      | .int j => sliceR x (some i) (some j) g3
      | _ => .bad
    | _ => .bad
  | .call f es, _, g => (evs es false g).bind fun (ds, g1) => match cl f (frzL ds) with
    | .ok d [] => .ok (d, g1)
    | .exc k l => .exc k l g1
    | _ => .bad
  | .callP f es, _, g => (evs es true g).bind fun (ds, g1) => match cl f (frzL ds) with
    | .ok d [] => if flat d then .ok (d, g1) else .bad
    | .exc k l => .exc k l g1
    | _ => .bad
  | .comp elt t own it cs, _, g => (evIt it g).bind fun (l, g1, h) => match compL t own (fun g => evT cs g) (fun g => ev elt false g) l (wipeS (wipeS g1 h) own) with
    | .ok (xs, g2) => if fitsL l then .ok (.lst true xs, wipeS (backS g1 h (wipeS g2 own)) own) else .bad
    | _ => .bad
  | .met o a b, _, g => (ev a true g).bind fun (x, g1) => match x with
    | .str s => (ev b true g1).bind fun (y, g2) => (Out.of (opD o [.str s, y])).bind fun d => .ok (d, g2)
    | _ => .bad
  | .splitE a b, _, g => (ev a true g).bind fun (x, g1) => match x with
    | .str s => (ev b true g1).bind fun (y, g2) => match y with
      | .str t => if decide (t ≠ []) && (t.all (fun c => decide (c < 256)) && decide (s.length + 2 ≤ 16777216)) then .ok (.lst true ((splL t 0 [] s).map .str), g2) else .bad
      | _ => .bad
    | _ => .bad
  | .seqOf k a, _, g => (ev a (rootE a).isSome g).bind fun (x, g1) => match seqD x with
    | some l => if (rootE a).isNone || coldL l then .ok (if k then .tup l else .lst true l, g1) else .bad
    | none => .bad
/-- a comprehension's test -/
def evT : List E → Env → Out (Bool × Env)
  | [], g => .ok (true, g)
  | [c], g => (ev c false g).bind fun (d, g1) => match d with
    | .bl b => .ok (b, g1)
    | _ => .bad
  | _, _ => .bad
def evs : List E → Bool → Env → Out (List D × Env)
  | [], _, g => .ok ([], g)
  | e :: es, b, g => (ev e b g).bind fun (d, g1) => (evs es b g1).bind fun (ds, g2) => .ok (d :: ds, g2)
def evAnd : List E → Env → Out (D × Env)
  | [], _ => .bad
  | e :: es, g => (ev e false g).bind fun (d, g1) => match es, d with
    | [], d => .ok (d, g1)
    | _ :: _, .bl true => evAnd es g1
    | _ :: _, .bl false => .ok (.bl false, g1)
    | _, _ => .bad
def evOr : List E → Env → Out (D × Env)
  | [], _ => .bad
  | e :: es, g => (ev e false g).bind fun (d, g1) => match es, d with
    | [], d => .ok (d, g1)
    | _ :: _, .bl false => evOr es g1
    | _ :: _, .bl true => .ok (.bl true, g1)
    | _, _ => .bad
def evIt : It → Env → Out (List D × Env × List Nat)
  | .of e, g => (ev e (rootE e).isSome g).bind fun (d, g1) => match d with
    | .str s => .ok (s.map fun c => .str [c], g1, [])
    | .lst f l => Out.of (holdIt (rootE e) (.lst f l) l g1)
    | .tup l => Out.of (holdIt (rootE e) (.tup l) l g1)
    | _ => .bad
  | .rng1 a, g => (ev a false g).bind fun (d, g1) => match d with
    | .int n => if small62 n then .ok (rngL 0 n.toNat, g1, []) else .bad
    | _ => .bad
  | .rng2 a b, g => (ev a false g).bind fun (x, g1) => (ev b false g1).bind fun (y, g2) => match x, y with
    | .int i, .int j => if small62 i && small62 j then .ok (rngL i (j - i).toNat, g2, []) else .bad
    | _, _ => .bad
  | .rng3 a b c, g => (ev a false g).bind fun (x, g1) => (ev b false g1).bind fun (y, g2) => (ev c false g2).bind fun (z, g3) => match x, y, z with
    | .int i, .int j, .int k => if small62 i && small62 j && (decide (k ≠ 0) && decide (k.natAbs < 2 ^ 30)) then .ok (rngC i k (rngN i j k), g3, []) else .bad
    | _, _, _ => .bad
  | .enum e, g => (ev e (rootE e).isSome g).bind fun (d, g1) => match d with
    | .lst f l => (Out.of (holdIt (rootE e) (.lst f l) l g1)).bind fun (l', g2, h) => .ok (enumL 0 l', g2, h)
    | _ => .bad
  | .zip a b, g => (ev a false g).bind fun (x, g1) => (ev b false g1).bind fun (y, g2) => match x, y with
    | .lst _ l, .lst _ m => .ok (zipL (frzL l) (frzL m), g2, [])
    | .tup l, .tup m => .ok (zipL (frzL l) (frzL m), g2, [])
    | _, _ => .bad
  | .rev e, g => (ev e (rootE e).isSome g).bind fun (d, g1) => match d with
    | .lst f l => (Out.of (holdIt (rootE e) (.lst f l) l g1)).bind fun (l', g2, h) => .ok (l'.reverse, g2, h)
    | _ => .bad
end

/-- a for's turns -/
def forL (t : Tgt) (f : Env → SOut) : List D → Env → SOut
  | [], g => .next g
  | d :: r, g => match asg t d g with
    | none => .bad
    | some g1 => match f g1 with
      | .next g2 => forL t f r g2
      | .cont g2 => forL t f r g2
      | .brk g2 => .next g2
      | o => o
def whlL (c : Env → Out (D × Env)) (f : Env → SOut) : Nat → Env → SOut
  | 0, _ => .bad
  | n + 1, g => match c g with
    | .ok (.bl true, g1) => (match f g1 with
      | .next g2 => whlL c f n g2
      | .cont g2 => whlL c f n g2
      | .brk g2 => .next g2
      | o => o)
    | .ok (.bl false, g1) => .next g1
    | .exc k l g1 => .exc k l g1
    | _ => .bad
def SOut.unh (g0 : Env) (h : List Nat) : SOut → SOut
  | .next g => .next (backS g0 h g)
  | o => o
/-- the slots that a target stores -/
def tgtS : Tgt → List Nat
  | .nm i => [i]
  | .tp l => tgtsS l
where tgtsS : List Tgt → List Nat
  | [] => []
  | t :: l => tgtS t ++ tgtsS l
mutual
/-- the slots that a statement stores -/
def asgS : S → List Nat
  | .set i _ => [i]
  | .unp t _ => tgtS t
  | .par i j _ _ => [i, j]
  | .app _ _ => []
  | .ite _ a b => asgSs a ++ asgSs b
  | .whl _ b => asgSs b
  | .for_ t _ b => tgtS t ++ asgSs b
  | .tryK i j _ _ b => i :: j :: asgSs b
  | _ => []
def asgSs : List S → List Nat
  | [] => []
  | s :: r => asgS s ++ asgSs r
end
variable (w : Nat)
mutual
def evS : S → Env → SOut
  | .set i e, g => SOut.ofE (ev cl e false g) fun (d, g1) => .next (g1.set i (some d))
  | .unp t e, g => SOut.ofE (ev cl e false g) fun (d, g1) => match asg t d g1 with
    | some g2 => .next g2
    | none => .bad
  | .par i j a b, g => SOut.ofE (ev cl a false g) fun (x, g1) => SOut.ofE (ev cl b false g1) fun (y, g2) => .next ((g2.set i (some x)).set j (some y))
  | .app i e, g => match g[i]? with
    | some (some (.lst true _)) => SOut.ofE (ev cl e false g) fun (d, g1) => match g1[i]? with
      | some (some (.lst true l)) => if fitsL (l ++ [d]) then .next (g1.set i (some (.lst true (l ++ [d])))) else .bad
      | _ => .bad
    | _ => .bad
  | .ite c a b, g => SOut.ofE (ev cl c false g) fun (d, g1) => match d with
    | .bl true => evSs a g1
    | .bl false => evSs b g1
    | _ => .bad
  | .whl c b, g => whlL (fun g => ev cl c false g) (fun g => evSs b g) w g
  | .for_ t it b, g => SOut.ofE (evIt cl it g) fun (l, g1, h) => if h.all fun r => !(tgtS t ++ asgSs b).contains r then (forL t (fun g => evSs b g) l (wipeS g1 h)).unh g1 h else .bad
  | .ret e, g => SOut.ofE (ev cl e false g) fun (d, g1) => .ret d g1
  | .retN, g => .ret .non g
  | .brk, g => .brk g
  | .cont, g => .cont g
  | .pass, g => .next g
  | .nev, _ => .bad
  | .raiseC k, g => .exc k [] g
  | .tryK i j all yes b, g => match evSs b g with
    | .exc k l g1 => if all.contains k then (if yes.contains k then .next ((g1.set j (some (.exc k l))).set i none) else .exc k l g1) else .bad
    | o => o
def evSs : List S → Env → SOut
  | [], g => .next g
  | s :: r, g => match evS s g with
    | .next g1 => evSs r g1
    | o => o
end
end

structure Fn where
  /-- the count of parameters, of all slots, of parameters that are changed -/
  par : Nat
  slots : Nat
  io : Nat
  body : List S
def ioOut (n : Nat) (g : Env) : Option (List D) := match n with
  | 0 => some []
  | n + 1 => match ioOut n g, g[n]? with
    | some l, some (some d) => some (l ++ [d])
    | _, _ => none
def finish (io : Nat) (d : D) (g : Env) : ROut := match ioOut io g with
  | some l => .ok d l
  | none => .bad
/-- calls of at most that depth -/
def run (w : Nat) (fs : List Fn) : Nat → Nat → List D → ROut
  | 0, _, _ => .bad
  | n + 1, f, ds => match fs[f]? with
    | none => .bad
    | some F => if ds.length = F.par then (match evSs (run w fs n) w F.body (ds.map some ++ List.replicate (F.slots - F.par) none) with
      | .next g => finish F.io .non g
      | .ret d g => finish F.io d g
      | .exc k l _ => .exc k l
      | _ => .bad) else .bad
end Mp
end
section
/-! Mp exc: a caught exception that is kept. -/
namespace Mp
open PySem PySem.Spec PyProof.Rows L2

/-- an exception object of the class c with the dict d at a, raised before -/
def ExcH (c : Value) (d : Option Addr) (a : Addr) : HO := .ext fun h => ∃ (oe : Obj) (vs : Array Value), h.get? a = some oe ∧ Zc c d oe ∧ oe.data = .fields vs
theorem excH_ok {P : Program} {w : World} {H : Hp} {h : Heap} {a : Addr} {c : Value} {d : Option Addr} {oe : Obj} {vs : Array Value} (e : h.get? a = some oe) (z : Zc c d oe) (f : oe.data = .fields vs) : ObjOk P w H h a (ExcH c d a) :=
  ⟨⟨oe, vs, e, z, f⟩, ⟨oe, e⟩, fun _ _ ⟨o, v, q, r⟩ keep => ⟨o, v, keep o q, r⟩⟩
section
variable {X : Cx} {pins : List (Addr × Obj)} {σ : L2.St} {H : Hp} {s : Shared}
/-- an object that stands, new since the entry, is tracked from now on -/
theorem track {a : Addr} {o : HO} {ob : Obj} {vs : Array Value} (I : Inv X pins σ H s) (n0 : X.s_0.heap.get? a = none) (na : H a = none) (ha : s.heap.get? a = some ob) (hf : ob.data = .fields vs) (nL : a ≠ X.env.locals) (np : ∀ p ∈ X.pn ++ pins, p.1 ≠ a)
    (new : ObjOk X.prog X.w (upd H a o) s.heap a o) : Inv X pins σ (upd H a o) s := by
  have ne0 : ∀ {b : Addr} {u : Obj}, X.s_0.heap.get? b = some u → b ≠ a := fun {b u} q z => by
    rw [z, n0] at q
    cases q
  have neH : ∀ {b : Addr} {u : HO}, H b = some u → b ≠ a := fun {b u} q z => by
    rw [z, na] at q
    cases q
  refine ⟨I.ok, I.os, I.bare, ⟨I.base.keep, I.base.slot, fun b u q z hx => ?_, I.base.there, fun b xs q => ?_, fun b ou u q => ?_, fun b ps q => ?_⟩, I.loc, I.cell, ?_, fun x c q => ?_, fun p hp => ?_, fun b u q => ?_, I.len⟩
  · rw [upd_ne (ne0 q)]
    exact I.base.free b u q z hx
  · have r := I.base.tups b xs q
    rw [upd_ne (neH r)]
    exact r
  · have r := I.base.frzs b ou u q
    rw [upd_ne (neH r)]
    exact r
  · obtain ⟨more, r⟩ := I.base.tbls b ps q
    exact ⟨more, by rw [upd_ne (neH r)]; exact r⟩
  · rw [upd_ne (Ne.symm nL)]
    exact I.free
  · have hc : c ≠ a := fun z => by
      obtain ⟨v, oc, e1, e2⟩ := I.cell x c q
      rw [z, ha] at e1
      cases e1
      rw [hf] at e2
      cases e2
    rw [upd_ne hc]
    exact I.freeC x c q
  · obtain ⟨e1, e2, e3⟩ := I.pin p hp
    exact ⟨e1, by rw [upd_ne (np p hp)]; exact e2, e3⟩
  · by_cases hb : b = a
    · subst hb
      rw [upd_same] at q
      cases q
      exact new
    · rw [upd_ne hb] at q
      refine (I.hok b u q).stay (fun _ _ _ r => r) (fun c r => ?_) fun c xs r => ?_
      · rw [upd_ne (neH r)]
        exact r
      · rw [upd_ne (neH r)]
        exact r
end
/-- try: .. except x as n: m = n; the exception is kept -/
def wKp (K : PySem.W.Frag) (c : Value) (i j : Nat) (Wout : WX) (D : Ends) : WX := fun cls d σ H =>
  ∃ b, PySem.W.exmOne K cls c = some b ∧ (b = true → ∀ a, H a = none → D.nx (((σ.set i (some (.ref a))).set j (some (.ref a))).set i none) (upd H a (ExcH cls d a))) ∧ (b = false → Wout cls d σ H)
section
variable {X : Cx} {x n m : Str} {c : Value} {i j : Nat} {body : List Stmt} {np mp qp pos pos' : Pos} {l : Pos} {tb : WX → TS} {Wout : WX}
theorem ps_try_kp (hs : X.stack = X.env :: X.outer) (hf : X.env.frame = some X.env.locals) (hx : X.ex = []) (hN : X.N.Nodup) (hi : X.N[i]? = some n) (hln : X.env.kindOf n = some .local) (hj : X.N[j]? = some m) (hlm : Loc X.env.scope m) (hfm : X.fn m = true)
    (vis : Vis X.env.scope n) (nd1 : (n == ("__debug__" : Str)) = false) (nd2 : (n == ("__classdict__" : Str)) = false) (hc : Names X x c) (tk : Takes X Wout)
    (hb : ∀ (W : WX) (pn : List (Addr × Obj)) (xe : Value → Shared → Prop), Takes (X.tr pn xe) W → PassesOwn (model X.prog X.w) X.A X.env xe → PSs (X.tr pn xe) body (tb W)) :
    PS X (.Try body [.ExceptHandler (some (.Name x np)) (some n) [.Assign [.Name m mp] (.Name n qp) l] pos'] [] [] pos) (fun D σ H => tb (wKp X.K c i j Wout D) D σ H) := by
  refine ⟨fun pins s σ H D I hh => ?_⟩
  have ok := I.ok
  have hfr : X.A.frames = some (X.env :: X.outer) := by
    rw [ok.frames, hs]
  refine wpAny_Try_except ?_
  let XE' : Value → Shared → Prop := fun e s₁ => wpAny (model X.prog X.w) X.A (noteFrame e X.env) (fun _ s₂ => wpAny (model X.prog X.w) X.A (setFlight e none)
    (fun _ s₃ => wpAny (model X.prog X.w) X.A (handleBy e X.env [.ExceptHandler (some (.Name x np)) (some n) [.Assign [.Name m mp] (.Name n qp) l] pos']) (SP X pins D) X.xe s₃) X.xe s₂) X.xe s₁
  have tkb : Takes (X.tr (X.pn ++ pins) XE') (wKp X.K c i j Wout D) := by
    intro u s' xx
    obtain ⟨a, B, sI, pins', σ', H', cls, d, rfl, J', nb, up, sky, na, os, ag, b, hb1, hyes, hno⟩ := xx
    have J : Inv X pins σ' H' sI := J'.ofTry ok
    have sky1 : Sky B (X.env :: X.outer) a (Zc cls d) X.env.locals s'.heap := hs ▸ sky
    show wpAny (model X.prog X.w) X.A (noteFrame (.ref a) X.env) _ _ _
    refine Sky.land Zc.steady hfr hf sky1 fun h3 fl3 up3 => ?_
    have noFr : ∀ {h : Heap} {o : Obj} {vs : Array Value}, h.FunFrames B (X.env :: X.outer) → h.get? a = some o → o.data = .fields vs → a ∉ frs (X.env :: X.outer) := fun {h o vs} ff e dd hm => by
      obtain ⟨_, o', e', hnf⟩ := ff.mem hm
      rw [e] at e'
      cases e'
      exact hnf _ dd
    have J3 : Inv X pins σ' H' { s' with heap := h3 } := J.landed nb fl3.1 (up.trans up3) os ag
    obtain ⟨oe3, vs3, he3, hz3, hd3⟩ := fl3.there
    have nfr := noFr fl3.2.2.1 he3 hd3
    have nL : a ≠ X.env.locals := fun z => nfr (List.mem_filterMap.mpr ⟨X.env, List.mem_cons_self, hf.trans (by rw [z])⟩)
    have nF : a ∉ X.fs := fun hm => by
      obtain ⟨e, he, q⟩ := List.mem_filterMap.mp hm
      exact nfr (List.mem_filterMap.mpr ⟨e, List.mem_cons_of_mem _ he, q⟩)
    -- the exception is new since the entry, and none of the pins
    have gone : sI.heap.get? a = none := by
      cases e : sI.heap.get? a with
      | none => rfl
      | some o =>
        have q := nb a o e (by rw [hs]; exact nfr)
        have z : B.get? a = none := fl3.2.1
        rw [z] at q
        cases q
    have n0 : X.s_0.heap.get? a = none := by
      cases e : X.s_0.heap.get? a with
      | none => rfl
      | some o =>
        obtain ⟨o', q⟩ := J.base.there a o e (by rw [hx]; exact List.not_mem_nil)
        rw [gone] at q
        cases q
    have npn : ∀ p ∈ X.pn ++ pins, p.1 ≠ a := fun p hp z => by
      have q := (J.pin p hp).1
      rw [z, gone] at q
      cases q
    have S3 := J3.suite he3 hd3 na nL nF
    have LT : PySem.W.Looks (model X.prog X.w) h3 (typeOf (.ref a)) cls := fun A Q E t k q => wpAny_typeOf_ref (k _ _ he3) (by rw [hz3.1]; exact q)
    have LM := PySem.W.exm_one (M := model X.prog X.w) J3.kIn LT hb1
    have asked : ∀ {Q : Value → Shared → Prop} {E : Value → Shared → Prop}, Q c { s' with heap := h3 } → wpAny (model X.prog X.w) (X.A.mark (some (.ref a))) (eval (.Name x np) X.env) Q E { s' with heap := h3 } := fun {Q E} q => by
      obtain ⟨hg, hdbg, hm | ⟨hm, hv, hnn⟩⟩ := hc
      · exact ld_glob (X := X.suite a ((a, oe3) :: (X.pn ++ pins))) S3 hg hm q hdbg
      · exact ld_blt (X := X.suite a ((a, oe3) :: (X.pn ++ pins))) S3 hg hm hv q hnn hdbg
    refine wpAny_handleBy_cons (codeAny_handlers_test (asked (LM.here ?_))) (by intro q; cases q)
    cases b with
    | true =>
      refine codeAny_handlers_suite_as (HandSPX.lands_againZ fl3 fun h4 fl4 up4 => ?_)
      have J4 : Inv X pins σ' H' { s' with heap := h4 } := J.landed nb fl4.1 ((up.trans up3).trans up4) os ag
      obtain ⟨oe4, vs4, he4, hz4, hd4⟩ := fl4.there
      have T4 : Inv X pins σ' (upd H' a (ExcH cls d a)) { s' with heap := h4 } := track J4 n0 na he4 hd4 nL npn (excH_ok he4 hz4 hd4)
      have S4 : Inv (X.suite a (X.pn ++ pins)) [] σ' (upd H' a (ExcH cls d a)) { s' with heap := h4 } :=
        ⟨T4.ok.suite _ _, T4.os, T4.bare, T4.base, T4.loc, T4.cell, T4.free, T4.freeC, fun p hp => T4.pin p (by rw [List.append_nil] at hp; exact hp), T4.hok, T4.len⟩
      refine store_ok (X := X.suite a (X.pn ++ pins)) (v := .ref a) S4 hN hi (.inl hln) rfl (fun s5 S5 => ?_) (.inr hln)
      have hii : i < σ'.length := by
        rw [S4.len]
        exact (List.getElem?_eq_some_iff.mp hi).1
      have ps1 : PS (X.suite a (X.pn ++ pins)) (.Assign [.Name m mp] (.Name n qp) l) (tAsg (tVar i) (gName j)) :=
        ps_set (X := X.suite a (X.pn ++ pins)) hN hj hlm (pe_var (X := X.suite a (X.pn ++ pins)) hi vis nd1 nd2) rfl (.inl hfm)
      have q5 : tAsg (tVar i) (gName j) ⟨fun σ6 H6 => σ6 = (σ'.set i (some (.ref a))).set j (some (.ref a)) ∧ H6 = upd H' a (ExcH cls d a), fun _ _ => False, fun _ _ => False, fun _ _ => False⟩ (σ'.set i (some (.ref a))) (upd H' a (ExcH cls d a)) :=
        ⟨.ref a, List.getElem?_set_self hii, rfl, rfl⟩
      refine wpAny_mono ((pss_one ps1).run [] s5 _ _ _ S5 q5) (fun f s6 hsp => ?_) (fun _ _ z => False.elim z)
      cases f with
      | next =>
        obtain ⟨σ6, H6, S6, e6, e7⟩ := hsp
        subst e6 e7
        have J6 : Inv X pins _ _ s6 := ⟨ok, S6.os, S6.bare, S6.base, S6.loc, S6.cell, S6.free, S6.freeC, fun p hp => S6.pin p (List.mem_append_left _ hp), S6.hok, S6.len⟩
        exact gone_ok J6 hN hi hln fun s7 J7 => ⟨_, _, J7, hyes rfl a na⟩
      | brk =>
        obtain ⟨_, _, _, z⟩ := hsp
        exact z.elim
      | cont =>
        obtain ⟨_, _, _, z⟩ := hsp
        exact z.elim
      | ret u =>
        obtain ⟨_, _, _, _, _, z⟩ := hsp
        exact z.elim
    | false =>
      show wpAny _ X.A (handleBy (.ref a) X.env []) _ _ _
      refine wpAny_handleBy_nil ?_
      obtain ⟨k1, k2, k3, oe, vs, T, oT, ts', he, hz, hd, h1, hr⟩ := id fl3
      unfold PySem.passOn
      refine wpAny_bind (wpAny_field he hd h1 ?_)
      rw [if_neg (show ¬ ((Value.ref T == Value.none) = true) from by simp)]
      have fin : wpAny (model X.prog X.w) X.A (setFlight (.ref a) X.env.frame) (fun _ s4 => wpAny (model X.prog X.w) X.A (throw (.ref a) : Sem Flow) (SP X pins D) X.xe s4) X.xe { s' with heap := h3 } := by
        rw [hf]
        refine HandSPX.setFlight_upZ fl3 fun h4 hh4 up4 => wpAny_throw (tk _ _ ?_)
        refine ⟨a, B, sI, pins, σ', H', cls, d, rfl, J, nb, (up.trans up3).trans up4, .inr (.inr ?_), na, os, ag, hno rfl⟩
        rw [hs]
        exact hh4
      first
        | exact wpAny_bind (wpAny_pure (wpAny_bind fin))
        | exact wpAny_bind fin
  refine wpAny_mono ((hb (wKp X.K c i j Wout D) (X.pn ++ pins) XE' tkb PassesOwn.looking).run [] s σ H D (I.toTry _) hh) (fun f s1 hsp => ?_) (fun e s1 he => he)
  cases f with
  | next =>
    obtain ⟨σ', H', J', q⟩ := hsp
    exact wpAny_execs_nil ⟨σ', H', J'.ofTry ok, q⟩
  | brk =>
    obtain ⟨σ', H', J', q⟩ := hsp
    exact ⟨σ', H', J'.ofTry ok, q⟩
  | cont =>
    obtain ⟨σ', H', J', q⟩ := hsp
    exact ⟨σ', H', J'.ofTry ok, q⟩
  | ret u =>
    obtain ⟨v, σ', H', J', r, q⟩ := hsp
    exact ⟨v, σ', H', J'.ofTry ok, r, q⟩
end
end Mp
end
section
/-! Mp rel: how plain data lie in the abstract heap. -/
namespace Mp
open PySem PySem.Spec PyProof.Rows L2

def sV (s : List Nat) : Str := ⟨s.toArray⟩
def okS (s : List Nat) : Prop := (∀ c ∈ s, c < 1114112) ∧ s.length ≤ sizeLine
/-- what may be changed in place -/
def isMut : HO → Bool
  | .lst _ => true
  | .dK _ => true
  | .dT _ => true
  | .ins _ _ _ => true
  | _ => false
/-- what may be locked for a while -/
def isDk : HO → Bool
  | .dK _ => true
  | .dT _ => true
  | _ => false
/-- the standing part Hs of the heap H -/
def Sub (Hs H : Hp) : Prop := ∀ p o, Hs p = some o → H p = some o ∨ (isDk o = true ∧ ∃ ob, H p = some (.frz ob o))

/-- the own exception classes by number, what they bear -/
def exNm : Nat → Str
  | 0 => "NoLength"
  | 1 => "BadScore"
  | 2 => "NoPlayer"
  | 3 => "NoStaff"
  | 4 => "NoBar"
  | 5 => "BadDeed"
  | _ => "ScoreError"
def exFl : Nat → List Str
  | 1 => ["place", "word"]
  | 5 => ["place", "word"]
  | _ => []
def exC (K : PySem.W.Frag) (k : Nat) : Value := .ref (He.ga K (exNm k))
/-- an exception's dict -/
def ExD (Hs : Hp) (k : Nat) (vs : List V) : Option Addr → Prop
  | none => vs = []
  | some d => vs ≠ [] ∧ vs.length = (exFl k).length ∧ Hs d = some (.xd ((exFl k).zip vs))
section
variable (K : PySem.W.Frag) (Hs H : Hp)
mutual
/-- v is the data d; what may be changed of it stands at F -/
def Lv : D → V → List Addr → Prop
  | .non, v, F => v = .non ∧ F = []
  | .bl b, v, F => v = .bl b ∧ F = []
  | .int i, v, F => v = .int i ∧ F = []
  | .str s, v, F => v = .str (sV s) ∧ F = [] ∧ okS s
  | .tup l, v, F => ∃ p vs, v = .ref p ∧ SqT K Hs p vs ∧ l.length ≤ sizeLine ∧ LvL l vs F
  | .lst false l, v, F => ∃ p vs, v = .ref p ∧ SqL K Hs p vs ∧ l.length ≤ sizeLine ∧ F = [] ∧ LvL l vs []
  | .lst true l, v, F => ∃ p vs F', v = .ref p ∧ H p = some (.lst vs) ∧ l.length ≤ sizeLine ∧ F = p :: F' ∧ LvL l vs F'
  | .dic _ _, _, _ => False
  | .obj _ _, _, _ => False
  | .exc k l, v, F => F = [] ∧ ∃ a dd vs, v = .ref a ∧ Hs a = some (ExcH (exC K k) dd a) ∧ LvL l vs [] ∧ ExD Hs k vs dd
def LvL : List D → List V → List Addr → Prop
  | [], vs, F => vs = [] ∧ F = []
  | d :: l, vs, F => ∃ v vs' F1 F2, vs = v :: vs' ∧ F = F1 ++ F2 ∧ Lv d v F1 ∧ LvL l vs' F2
end
end

section
variable {K : PySem.W.Frag} {Hs Hs' H H' : Hp}
theorem sqT_mono {p : Addr} {vs : List V} (e : Same Hs Hs') (h : SqT K Hs p vs) : SqT K Hs' p vs := by
  rcases h with (h | ⟨o, h⟩) | h
  · exact .inl (.inl (e _ _ h))
  · exact .inl (.inr ⟨o, e _ _ h⟩)
  · exact .inr h
theorem sqT_sub {p : Addr} {vs : List V} (e : Sub Hs H) (h : SqT K Hs p vs) : SqT K H p vs := by
  rcases h with (h | ⟨o, h⟩) | h
  · rcases e _ _ h with q | ⟨q, _⟩
    · exact .inl (.inl q)
    · cases q
  · rcases e _ _ h with q | ⟨q, _⟩
    · exact .inl (.inr ⟨o, q⟩)
    · cases q
  · exact .inr h
theorem rd_mono {p : Addr} {o : HO} (e : Same Hs Hs') (h : Rd Hs p o) : Rd Hs' p o := by
  rcases h with h | ⟨u, h⟩
  · exact .inl (e _ _ h)
  · exact .inr ⟨u, e _ _ h⟩
theorem rd_sub {p : Addr} {vs : List V} (e : Sub Hs H) (h : Rd Hs p (.lst vs)) : Rd H p (.lst vs) := by
  rcases h with h | ⟨o, h⟩
  · rcases e _ _ h with q | ⟨q, _⟩
    · exact .inl q
    · cases q
  · rcases e _ _ h with q | ⟨q, _⟩
    · exact .inr ⟨o, q⟩
    · cases q
theorem sqL_sub {p : Addr} {vs : List V} (e : Sub Hs H) (h : SqL K Hs p vs) : SqL K H p vs := h.elim (fun h => .inl (rd_sub e h)) .inr
theorem ExD.mono {k : Nat} {vs : List V} {dd : Option Addr} (e : Same Hs Hs') (h : ExD Hs k vs dd) : ExD Hs' k vs dd := by
  cases dd with
  | none => exact h
  | some d => exact ⟨h.1, h.2.1, e _ _ h.2.2⟩
mutual
theorem Lv.mono (e1 : Same Hs Hs') (e2 : Same H H') : ∀ {d : D} {v : V} {F : List Addr}, Lv K Hs H d v F → Lv K Hs' H' d v F
  | .non, _, _, h => h
  | .bl _, _, _, h => h
  | .int _, _, _, h => h
  | .str _, _, _, h => h
  | .tup _, _, _, ⟨p, vs, a, b, z, c⟩ => ⟨p, vs, a, sqT_mono e1 b, z, LvL.mono e1 e2 c⟩
  | .lst false _, _, _, ⟨p, vs, a, b, z, c, d⟩ => ⟨p, vs, a, e1.seq b, z, c, LvL.mono e1 e2 d⟩
  | .lst true _, _, _, ⟨p, vs, F, a, b, z, c, d⟩ => ⟨p, vs, F, a, e2 _ _ b, z, c, LvL.mono e1 e2 d⟩
  | .dic _ _, _, _, h => h
  | .obj _ _, _, _, h => h
  | .exc _ _, _, _, ⟨e, a, dd, vs, h1, h2, h3, h4⟩ => ⟨e, a, dd, vs, h1, e1 _ _ h2, LvL.mono e1 e2 h3, h4.mono e1⟩
theorem LvL.mono (e1 : Same Hs Hs') (e2 : Same H H') : ∀ {l : List D} {vs : List V} {F : List Addr}, LvL K Hs H l vs F → LvL K Hs' H' l vs F
  | [], _, _, h => h
  | _ :: _, _, _, ⟨v, vs, F1, F2, a, b, c, d⟩ => ⟨v, vs, F1, F2, a, b, Lv.mono e1 e2 c, LvL.mono e1 e2 d⟩
end
mutual
/-- only what stands at F counts of H -/
theorem Lv.at' (e1 : Same Hs Hs') : ∀ {d : D} {v : V} {F : List Addr}, (∀ p ∈ F, H' p = H p) → Lv K Hs H d v F → Lv K Hs' H' d v F
  | .non, _, _, _, h => h
  | .bl _, _, _, _, h => h
  | .int _, _, _, _, h => h
  | .str _, _, _, _, h => h
  | .tup _, _, _, k, ⟨p, vs, a, b, z, c⟩ => ⟨p, vs, a, sqT_mono e1 b, z, LvL.at' e1 k c⟩
  | .lst false _, _, _, k, ⟨p, vs, a, b, z, c, d⟩ => ⟨p, vs, a, e1.seq b, z, c, LvL.at' e1 (fun _ q => absurd q List.not_mem_nil) d⟩
  | .lst true _, _, _, k, ⟨p, vs, F, a, b, z, c, d⟩ => ⟨p, vs, F, a, (k p (by rw [c]; exact List.mem_cons_self)).trans b, z, c, LvL.at' e1 (fun q hq => k q (by rw [c]; exact List.mem_cons_of_mem _ hq)) d⟩
  | .dic _ _, _, _, _, h => h
  | .obj _ _, _, _, _, h => h
  | .exc _ _, _, _, _, ⟨e, a, dd, vs, h1, h2, h3, h4⟩ => ⟨e, a, dd, vs, h1, e1 _ _ h2, LvL.at' e1 (fun _ q => absurd q List.not_mem_nil) h3, h4.mono e1⟩
theorem LvL.at' (e1 : Same Hs Hs') : ∀ {l : List D} {vs : List V} {F : List Addr}, (∀ p ∈ F, H' p = H p) → LvL K Hs H l vs F → LvL K Hs' H' l vs F
  | [], _, _, _, h => h
  | _ :: _, _, _, k, ⟨v, vs, F1, F2, a, b, c, d⟩ => ⟨v, vs, F1, F2, a, b, Lv.at' e1 (fun p hp => k p (by rw [b]; exact List.mem_append_left _ hp)) c, LvL.at' e1 (fun p hp => k p (by rw [b]; exact List.mem_append_right _ hp)) d⟩
end
mutual
theorem Lv.live : ∀ {d : D} {v : V} {F : List Addr}, Lv K Hs H d v F → ∀ p ∈ F, ∃ o, H p = some o ∧ isMut o = true
  | .non, _, _, ⟨_, e⟩, p, hp => by rw [e] at hp; cases hp
  | .bl _, _, _, ⟨_, e⟩, p, hp => by rw [e] at hp; cases hp
  | .int _, _, _, ⟨_, e⟩, p, hp => by rw [e] at hp; cases hp
  | .str _, _, _, ⟨_, e, _⟩, p, hp => by rw [e] at hp; cases hp
  | .tup _, _, _, ⟨_, vs, _, _, _, c⟩, p, hp => LvL.live c p hp
  | .lst false _, _, _, ⟨_, vs, _, _, _, e, _⟩, p, hp => by rw [e] at hp; cases hp
  | .lst true _, _, _, ⟨q, vs, F, _, b, _, e, d⟩, p, hp => by
    rw [e] at hp
    rcases List.mem_cons.mp hp with z | z
    · exact ⟨_, by rw [z]; exact b, rfl⟩
    · exact LvL.live d p z
  | .dic _ _, _, _, h, _, _ => h.elim
  | .obj _ _, _, _, h, _, _ => h.elim
  | .exc _ _, _, _, ⟨e, _⟩, p, hp => by rw [e] at hp; cases hp
theorem LvL.live : ∀ {l : List D} {vs : List V} {F : List Addr}, LvL K Hs H l vs F → ∀ p ∈ F, ∃ o, H p = some o ∧ isMut o = true
  | [], _, _, ⟨_, e⟩, p, hp => by rw [e] at hp; cases hp
  | _ :: _, _, _, ⟨_, _, F1, F2, _, b, c, d⟩, p, hp => by
    rw [b] at hp
    rcases List.mem_append.mp hp with z | z
    · exact Lv.live c p z
    · exact LvL.live d p z
end
mutual
theorem Lv.cold : ∀ {d : D} {v : V} {F : List Addr}, Lv K Hs H d v F → Mp.cold d = true → F = []
  | .non, _, _, ⟨_, e⟩, _ => e
  | .bl _, _, _, ⟨_, e⟩, _ => e
  | .int _, _, _, ⟨_, e⟩, _ => e
  | .str _, _, _, ⟨_, e, _⟩, _ => e
  | .tup _, _, _, ⟨_, vs, _, _, _, c⟩, k => LvL.cold c k
  | .lst false _, _, _, ⟨_, vs, _, _, _, e, _⟩, _ => e
  | .lst true _, _, _, _, k => by cases k
  | .dic _ _, _, _, h, _ => h.elim
  | .obj _ _, _, _, h, _ => h.elim
  | .exc _ _, _, _, ⟨e, _⟩, _ => e
theorem LvL.cold : ∀ {l : List D} {vs : List V} {F : List Addr}, LvL K Hs H l vs F → Mp.coldL l = true → F = []
  | [], _, _, ⟨_, e⟩, _ => e
  | _ :: _, _, _, ⟨_, _, F1, F2, _, b, c, d⟩, k => by
    obtain ⟨k1, k2⟩ := Bool.and_eq_true_iff.mp (show (Mp.cold _ && Mp.coldL _) = true from k)
    rw [b, Lv.cold c k1, LvL.cold d k2]
    rfl
end
theorem frzL_length : ∀ l : List D, (frzL l).length = l.length
  | [] => rfl
  | _ :: l => congrArg (· + 1) (frzL_length l)
mutual
/-- all of it stands from now on -/
theorem Lv.frz (e1 : Same Hs Hs') : ∀ {d : D} {v : V} {F : List Addr}, (∀ p ∈ F, Hs' p = H p) → Lv K Hs H d v F → Lv K Hs' H' (Mp.frz d) v []
  | .non, _, _, _, h => ⟨h.1, rfl⟩
  | .bl _, _, _, _, h => ⟨h.1, rfl⟩
  | .int _, _, _, _, h => ⟨h.1, rfl⟩
  | .str _, _, _, _, h => ⟨h.1, rfl, h.2.2⟩
  | .tup l, _, _, k, ⟨p, vs, a, b, z, c⟩ => ⟨p, vs, a, sqT_mono e1 b, by rw [frzL_length]; exact z, LvL.frz e1 k c⟩
  | .lst false _, _, _, k, ⟨p, vs, a, b, z, c, d⟩ => ⟨p, vs, a, e1.seq b, by rw [frzL_length]; exact z, rfl, LvL.frz e1 (fun _ q => absurd q List.not_mem_nil) d⟩
  | .lst true _, _, _, k, ⟨p, vs, F, a, b, z, c, d⟩ => ⟨p, vs, a, SqL.of ((k p (by rw [c]; exact List.mem_cons_self)).trans b), by rw [frzL_length]; exact z, rfl, LvL.frz e1 (fun q hq => k q (by rw [c]; exact List.mem_cons_of_mem _ hq)) d⟩
  | .dic _ _, _, _, _, h => h.elim
  | .obj _ _, _, _, _, h => h.elim
  | .exc _ _, _, _, _, ⟨_, a, dd, vs, h1, h2, h3, h4⟩ => ⟨rfl, a, dd, vs, h1, e1 _ _ h2, LvL.at' e1 (fun _ q => absurd q List.not_mem_nil) h3, h4.mono e1⟩
theorem LvL.frz (e1 : Same Hs Hs') : ∀ {l : List D} {vs : List V} {F : List Addr}, (∀ p ∈ F, Hs' p = H p) → LvL K Hs H l vs F → LvL K Hs' H' (frzL l) vs []
  | [], _, _, _, h => ⟨h.1, rfl⟩
  | _ :: _, _, _, k, ⟨v, vs, F1, F2, a, b, c, d⟩ => ⟨v, vs, [], [], a, rfl, Lv.frz e1 (fun p hp => k p (by rw [b]; exact List.mem_append_left _ hp)) c, LvL.frz e1 (fun p hp => k p (by rw [b]; exact List.mem_append_right _ hp)) d⟩
end
theorem LvL.length : ∀ {l : List D} {vs : List V} {F : List Addr}, LvL K Hs H l vs F → vs.length = l.length
  | [], _, _, ⟨e, _⟩ => by rw [e]; rfl
  | _ :: _, _, _, ⟨_, _, _, _, a, _, _, d⟩ => by rw [a]; exact congrArg (· + 1) (LvL.length d)
theorem LvL.get : ∀ {l : List D} {vs : List V} {F : List Addr} {i : Nat} {d : D}, LvL K Hs H l vs F → l[i]? = some d → ∃ v F', vs[i]? = some v ∧ Lv K Hs H d v F' ∧ F'.Sublist F
  | [], _, _, _, _, _, e => by simp at e
  | _ :: _, _, _, 0, d, ⟨v, vs, F1, F2, a, b, c, _⟩, e => by
    simp at e
    subst e
    exact ⟨v, F1, by rw [a]; rfl, c, by rw [b]; exact List.sublist_append_left ..⟩
  | _ :: _, _, _, i + 1, d, ⟨v, vs, F1, F2, a, b, _, c⟩, e => by
    obtain ⟨u, F', h1, h2, h3⟩ := LvL.get (i := i) c (by simpa using e)
    exact ⟨u, F', by rw [a]; simpa using h1, h2, by rw [b]; exact h3.trans (List.sublist_append_right ..)⟩
theorem LvL.append : ∀ {l m : List D} {vs ws : List V} {F G : List Addr}, LvL K Hs H l vs F → LvL K Hs H m ws G → LvL K Hs H (l ++ m) (vs ++ ws) (F ++ G)
  | [], _, _, _, _, _, ⟨e1, e2⟩, h => by rw [e1, e2]; exact h
  | _ :: _, _, _, _, _, _, ⟨v, vs, F1, F2, a, b, c, d⟩, h => ⟨v, vs ++ _, F1, F2 ++ _, by rw [a]; rfl, by rw [b, List.append_assoc], c, LvL.append d h⟩
/-- the value of plain data without objects -/
def vS : D → V
  | .bl b => .bl b
  | .int i => .int i
  | .str s => .str (sV s)
  | _ => .non
end

/-- the slots' data; A i: what of slot i may be changed -/
structure Sta (K : PySem.W.Frag) (Hs H : Hp) (g : Env) (σ : L2.St) (A : Nat → List Addr) : Prop where
  sub : Sub Hs H
  len : g.length = σ.length
  sl : ∀ i d, g[i]? = some (some d) → ∃ v, σ[i]? = some (some v) ∧ Lv K Hs H d v (A i)
  emp : ∀ i, (∀ d, g[i]? ≠ some (some d)) → A i = []
  dj : ∀ i j p, p ∈ A i → p ∈ A j → i = j
  nd : ∀ i, (A i).Nodup
  off : ∀ i p, p ∈ A i → Hs p = none
/-- behind an expression: what stood stands; F is the value's own -/
structure Xst (Hs H : Hp) (A : Nat → List Addr) (Hs' H' : Hp) (A' : Nat → List Addr) (F : List Addr) : Prop where
  hp : Same H H'
  hs : Same Hs Hs'
  ka : ∀ i, A' i = A i ∨ A' i = []
  inF : ∀ p, p ∈ F → (∃ i, p ∈ A i) ∨ H p = none
  dj : ∀ p, p ∈ F → ∀ i, p ∉ A' i
  nd : F.Nodup
  off : ∀ p, p ∈ F → Hs' p = none
  new : ∀ p o, Hs' p = some o → Hs p = some o ∨ (∃ i, p ∈ A i) ∨ H p = none
section
variable {K : PySem.W.Frag} {Hs Hs1 Hs2 H H1 H2 : Hp} {g g1 g2 : Env} {σ : L2.St} {A A1 A2 : Nat → List Addr} {F F1 F2 : List Addr} {d d1 d2 : D} {v v1 v2 : V}
theorem Sta.live (s : Sta K Hs H g σ A) {i : Nat} {p : Addr} (h : p ∈ A i) : ∃ o, H p = some o ∧ isMut o = true := by
  cases e : g[i]? with
  | none =>
    rw [s.emp i (fun d q => by rw [e] at q; cases q)] at h
    cases h
  | some x =>
    cases x with
    | none =>
      rw [s.emp i (fun d q => by rw [e] at q; cases q)] at h
      cases h
    | some d =>
      obtain ⟨v, _, l⟩ := s.sl i d e
      exact l.live p h
theorem Xst.inA (x : Xst Hs H A Hs1 H1 A1 F) (i : Nat) (p : Addr) (h : p ∈ A1 i) : p ∈ A i := by
  rcases x.ka i with e | e
  · rw [← e]; exact h
  · rw [e] at h; cases h
theorem Xst.refl : Xst Hs H A Hs H A [] := ⟨Same.refl _, Same.refl _, fun _ => .inl rfl, (fun _ h => absurd h List.not_mem_nil), (fun _ h => absurd h List.not_mem_nil), List.nodup_nil, (fun _ h => absurd h List.not_mem_nil), fun _ _ h => .inl h⟩
theorem Xst.drop (x : Xst Hs H A Hs1 H1 A1 F) : Xst Hs H A Hs1 H1 A1 [] := ⟨x.hp, x.hs, x.ka, (fun _ h => absurd h List.not_mem_nil), (fun _ h => absurd h List.not_mem_nil), List.nodup_nil, (fun _ h => absurd h List.not_mem_nil), x.new⟩
theorem Xst.sub (x : Xst Hs H A Hs1 H1 A1 F) (h : F1.Sublist F) : Xst Hs H A Hs1 H1 A1 F1 := ⟨x.hp, x.hs, x.ka, fun p q => x.inF p (h.subset q), fun p q => x.dj p (h.subset q), x.nd.sublist h, fun p q => x.off p (h.subset q), x.new⟩
/-- one behind the other, both values kept -/
theorem Xst.seq (x : Xst Hs H A Hs1 H1 A1 F1) (y : Xst Hs1 H1 A1 Hs2 H2 A2 F2) (lv : ∀ p ∈ F1, H1 p ≠ none) : Xst Hs H A Hs2 H2 A2 (F1 ++ F2) := by
  have back : ∀ p, (∃ i, p ∈ A1 i) ∨ H1 p = none → (∃ i, p ∈ A i) ∨ H p = none := fun p h => by
    rcases h with ⟨i, h⟩ | h
    · exact .inl ⟨i, x.inA i p h⟩
    · exact .inr (x.hp.free h)
  refine ⟨x.hp.trans y.hp, x.hs.trans y.hs, fun i => (y.ka i).elim (fun e => (x.ka i).imp e.trans e.trans) .inr, fun p h => ?_, fun p h i q => ?_, ?_, fun p h => ?_, fun p o h => ?_⟩
  · rcases List.mem_append.mp h with h | h
    · exact x.inF p h
    · exact back p (y.inF p h)
  · rcases List.mem_append.mp h with h | h
    · exact x.dj p h i (y.inA i p q)
    · exact y.dj p h i q
  · refine List.nodup_append.mpr ⟨x.nd, y.nd, fun p h1 q h2 e => ?_⟩
    subst e
    rcases y.inF p h2 with ⟨i, z⟩ | z
    · exact x.dj p h1 i z
    · exact lv p h1 z
  · rcases List.mem_append.mp h with h | h
    · cases e : Hs2 p with
      | none => rfl
      | some o =>
        rcases y.new p o e with z | ⟨i, z⟩ | z
        · rw [x.off p h] at z; cases z
        · exact (x.dj p h i z).elim
        · exact (lv p h z).elim
    · exact y.off p h
  · rcases y.new p o h with z | z
    · exact x.new p o z
    · exact .inr (back p z)
theorem Xst.trans (x : Xst Hs H A Hs1 H1 A1 []) (y : Xst Hs1 H1 A1 Hs2 H2 A2 F2) : Xst Hs H A Hs2 H2 A2 F2 := x.seq y (fun _ h => absurd h List.not_mem_nil)
theorem Lv.keep (l : Lv K Hs1 H1 d v F) (y : Xst Hs1 H1 A1 Hs2 H2 A2 F2) : Lv K Hs2 H2 d v F := l.mono y.hs y.hp
theorem LvL.keep {ds : List D} {vs : List V} (l : LvL K Hs1 H1 ds vs F) (y : Xst Hs1 H1 A1 Hs2 H2 A2 F2) : LvL K Hs2 H2 ds vs F := l.mono y.hs y.hp
theorem Lv.ne (l : Lv K Hs H d v F) : ∀ p ∈ F, H p ≠ none := fun p h e => by
  obtain ⟨o, q, _⟩ := l.live p h
  rw [q] at e; cases e
theorem LvL.ne {ds : List D} {vs : List V} (l : LvL K Hs H ds vs F) : ∀ p ∈ F, H p ≠ none := fun p h e => by
  obtain ⟨o, q, _⟩ := l.live p h
  rw [q] at e; cases e
end
end Mp
end
section
/-! Mp chk: which text a term of the small language stands for. -/
namespace Mp
open PySem PySem.Spec PyProof.Rows L2

/-- exception classes by number: all; those made without an own __init__; class names with the numbers of those under them -/
structure Tbl where
  exs : List Nat := []
  mks : List Nat := []
  xt : List (Str × Bool × List Nat) := []
/-- names: of the slots, of the defs by number, of what the text does not bind -/
structure Ctx where
  N : List Str
  fnm : List Str
  free : List Str
  cl : Nat → List D → ROut
  lev : Nat
  glbs : List (Str × List Nat)
  tb : Tbl

def cmpO : Cmp → CmpOp
  | .lt => .Lt
  | .le => .LtE
  | .gt => .Gt
  | .ge => .GtE
  | .eq => .Eq
  | .ne => .NotEq
  | .isN => .Is
  | .notN => .IsNot
  | .mem => .In
  | .nmem => .NotIn
def binO : Op → Option Operator
  | .add => some .Add
  | .sub => some .Sub
  | .mul => some .Mult
  | .div => some .FloorDiv
  | .mod => some .Mod
  | _ => none
def tyNm : List String := ["bool", "int", "str", "tuple", "list"]
def glB (sc : Scope) (x : Str) : Bool := decide (sc.names.lookup x = some .globalImplicit) && !(x == ("__debug__" : Str))
def visB (sc : Scope) (x : Str) : Bool := (match sc.names.lookup x with
  | some .local => true
  | some .cell => true
  | some .free => true
  | _ => false) && (!(x == ("__debug__" : Str)) && !(x == ("__classdict__" : Str)))
def locB (sc : Scope) (x : Str) : Bool := match sc.names.lookup x with
  | some .local => true
  | some .cell => true
  | _ => false
def freeB (C : Ctx) (sc : Scope) (x : Str) : Bool := glB sc x && C.free.contains x
/-- a call by a name -/
def exCall : Expr → Option (Str × List Expr)
  | .Call (.Name f _) (a :: as) [] _ => some (f, a :: as)
  | _ => none
def clsIx (C : Ctx) (sc : Scope) : Expr → Option Nat
  | .Name x _ => if freeB C sc x then tyNm.findIdx? (fun n => decide (x = Str.ofString n)) else none
  | _ => none
/-- the exceptions under a class, under one of some classes -/
def clsYes (C : Ctx) (sc : Scope) : Expr → Option (List Nat)
  | .Name x _ => if glB sc x then (C.tb.xt.lookup x).map (·.2) else none
  | _ => none
def clsAll (C : Ctx) (sc : Scope) : List Expr → Option (List Nat)
  | [] => some []
  | c :: cs => (clsYes C sc c).bind fun y => (clsAll C sc cs).map (y ++ ·)
def clsOf (C : Ctx) (sc : Scope) : Expr → Option (List Nat)
  | .Tuple cs _ _ => if cs.length ≤ 1000 then clsAll C sc cs else none
  | c => clsYes C sc c
/-- built-in calls by name: the operator, the count of arguments -/
def bltTab : List (String × Op × Nat) := [("len", .len, 1), ("abs", .abs, 1), ("max", .max2, 2), ("min", .min2, 2), ("int", .toInt, 1), ("str", .toStr, 1), ("all", .all_, 1), ("any", .any_, 1), ("sum", .sumL, 1)]
def bltOp (C : Ctx) (sc : Scope) (f : Str) (as : List Expr) : Option (Op × List Expr) :=
  if freeB C sc f then (
    if f = Str.ofString "isinstance" then (match as with
      | [a, c] => (match clsIx C sc c with | some k => some (.isI [k], [a]) | none => (clsOf C sc c).map fun y => (.isE C.tb.exs y, [a]))
      | _ => none)
    else (bltTab.find? fun t => decide (f = Str.ofString t.1) && as.length == t.2.2).map fun t => (t.2.1, as)) else none
/-- an operator and its operands, by the form of the text -/
def exOp (C : Ctx) (sc : Scope) : Expr → Option (Op × List Expr)
  | .BinOp l o r _ => (match o with
    | .Add => some (.add, [l, r])
    | .Sub => some (.sub, [l, r])
    | .Mult => some (.mul, [l, r])
    | .FloorDiv => some (.div, [l, r])
    | .Mod => some (.mod, [l, r])
    | .Pow => some (.pow, [l, r])
    | _ => none)
  | .UnaryOp .USub l _ => some (.neg, [l])
  | .Compare l [o] [r] _ => (match o with
    | .Lt => some (.cmp .lt, [l, r])
    | .LtE => some (.cmp .le, [l, r])
    | .Gt => some (.cmp .gt, [l, r])
    | .GtE => some (.cmp .ge, [l, r])
    | .Eq => some (.cmp .eq, [l, r])
    | .NotEq => some (.cmp .ne, [l, r])
    | .Is => some (.cmp .isN, [l, r])
    | .IsNot => some (.cmp .notN, [l, r])
    | .In => some (.cmp .mem, [l, r])
    | .NotIn => some (.cmp .nmem, [l, r]))
  | .Call (.Name f _) as [] _ => bltOp C sc f as
  | _ => none
def isIf : Expr → Bool
  | .IfExp _ _ _ _ => true
  | _ => false
/-- in and not in: the right one is no display of constants -/
def markOk : Expr → Bool
  | .Compare _ [o] [r] _ => !behindInMarks o r
  | _ => true
def notSlice : Expr → Bool
  | .Slice _ _ _ _ => false
  | .Tuple _ _ _ => false
  | _ => true
mutual
def tgtB (C : Ctx) (sc : Scope) : Tgt → Expr → Bool
  | .nm i, .Name x _ => decide (C.N[i]? = some x) && locB sc x
  | .tp ts, .Tuple es _ _ => tgtsB C sc ts es
  | _, _ => false
def tgtsB (C : Ctx) (sc : Scope) : List Tgt → List Expr → Bool
  | [], [] => true
  | t :: ts, e :: es => tgtB C sc t e && tgtsB C sc ts es
  | _, _ => false
end
def litB : D → Expr → Bool
  | .int i, .Constant (.int j) _ _ => decide (i = j)
  | .bl a, .Constant (.bool b) _ _ => a == b
  | .non, .Constant .none _ _ => true
  | .str s, .Constant (.str x) _ _ => decide (sV s = x) && (s.all (fun c => decide (c < 1114112)) && decide (s.length ≤ 1000))
  | _, _ => false
def exName : Expr → Option Str
  | .Name x _ => some x
  | _ => none
def exNot : Expr → Option Expr
  | .UnaryOp .Not l _ => some l
  | _ => none
def exBool (o : BoolOp) : Expr → Option (List Expr)
  | .BoolOp p (a :: b :: l) _ => if p = o then some (a :: b :: l) else none
  | _ => none
def exIf : Expr → Option (Expr × Expr × Expr)
  | .IfExp c a b _ => some (c, a, b)
  | _ => none
def cmpI : CmpOp → Option Cmp
  | .Lt => some .lt
  | .LtE => some .le
  | .Gt => some .gt
  | .GtE => some .ge
  | _ => none
def exChain : Expr → Option (Cmp × Cmp × Expr × Expr × Expr)
  | .Compare a [o, o'] [b, c] _ => (match cmpI o, cmpI o' with
    | some p, some p' => some (p, p', a, b, c)
    | _, _ => none)
  | _ => none
def exSub : Expr → Option (Expr × Expr)
  | .Subscript v i _ => if notSlice i then some (v, i) else none
  | _ => none
def exTup : Expr → Option (List Expr)
  | .Tuple es _ _ => some es
  | _ => none
def exLst : Expr → Option (List Expr)
  | .List es _ => some es
  | _ => none
def exSlice : Expr → Option (Expr × Option Expr × Option Expr)
  | .Subscript v (.Slice lo hi none _) _ => some (v, lo, hi)
  | _ => none
def exAdd : Expr → Option (Expr × Expr)
  | .BinOp l .Add r _ => some (l, r)
  | _ => none
/-- a comprehension of one for: element, target, iterable, tests, its scope -/
def exComp : Expr → Option (Expr × Expr × Expr × List Expr × Scope)
  | .ListComp elt [⟨t, it, ifs, 0⟩] sc _ => some (elt, t, it, ifs, sc)
  | _ => none
/-- no call of super -/
def baseOk : Expr → Bool
  | .Call _ [] [] _ => false
  | _ => true
/-- a method of one argument: the receiver, the name, the argument -/
def exMet : Expr → Option (Expr × Str × Expr)
  | .Call (.Attribute r m ap) [x] [] cp => if (ap.endLine == cp.line) && baseOk r then some (r, m, x) else none
  | _ => none
def metNm : Op → Option Str
  | .strip => some (Str.ofString "strip")
  | .find => some (Str.ofString "find")
  | .count => some (Str.ofString "count")
  | .join => some (Str.ofString "join")
  | _ => none
/-- an iterator of pairs is unpacked -/
def tgOk : It → Expr → Bool
  | .enum _, .Tuple _ _ _ => true
  | .zip _ _, .Tuple _ _ _ => true
  | .enum _, _ => false
  | .zip _ _, _ => false
  | _, _ => true
mutual
def chkE (C : Ctx) : E → Scope → Expr → Bool
  | .lit d, _, e => litB d e
  | .glb d, sc, e => (match exName e, d with
    | some x, .str s => glB sc x && (decide (C.glbs.lookup x = some s) && (s.all (fun c => decide (c < 1114112)) && decide (s.length ≤ 1000)))
    | _, _ => false)
  | .var i, sc, e => (match exName e with
    | some x => decide (C.N[i]? = some x) && visB sc x
    | none => false)
  | .mv i, sc, e => (match exName e with
    | some x => decide (C.N[i]? = some x) && visB sc x
    | none => false)
  | .op o cs, sc, e => (match exOp C sc e with
    | some (o', es) => decide (o = o') && (markOk e && chkEs C cs sc es)
    | none => false)
  | .notE a, sc, e => (match exNot e with
    | some l => !isIf l && chkE C a sc l
    | none => false)
  | .andE cs, sc, e => (match exBool .And e with
    | some es => chkEs C cs sc es && !es.any isIf
    | none => false)
  | .orE cs, sc, e => (match exBool .Or e with
    | some es => chkEs C cs sc es && !es.any isIf
    | none => false)
  | .ite c a b, sc, e => (match exIf e with
    | some (c', a', b') => !isIf c' && (chkE C c sc c' && (chkE C a sc a' && chkE C b sc b'))
    | none => false)
  | .chain o o' a b c, sc, e => (match exChain e with
    | some (p, p', a', b', c') => decide (o = p) && (decide (o' = p') && (chkE C a sc a' && (chkE C b sc b' && chkE C c sc c')))
    | none => false)
  | .idx p i, sc, e => (match exSub e with
    | some (p', i') => chkE C p sc p' && chkE C i sc i'
    | none => false)
  | .tup cs, sc, e => (match exTup e with
    | some es => decide (es.length ≤ 1000) && chkEs C cs sc es
    | none => false)
  | .lst cs, sc, e => (match exLst e with
    | some es => decide (es.length ≤ 1000) && chkEs C cs sc es
    | none => false)
  | .cat a b, sc, e => (match exAdd e with
    | some (l, r) => chkE C a sc l && chkE C b sc r
    | none => false)
  | .slHi p hi, sc, e => (match exSlice e with
    | some (p', none, some hi') => chkE C p sc p' && chkE C hi sc hi'
    | _ => false)
  | .slLo p lo, sc, e => (match exSlice e with
    | some (p', some lo', none) => chkE C p sc p' && chkE C lo sc lo'
    | _ => false)
  | .slc p lo hi, sc, e => (match exSlice e with
    | some (p', some lo', some hi') => chkE C p sc p' && (chkE C lo sc lo' && chkE C hi sc hi')
    | _ => false)
  | .call f cs, sc, e => (match exCall e with
    | some (x, es) => decide (C.fnm[f]? = some x) && (glB sc x && chkEs C cs sc es)
    | none => false)
  | .callP f cs, sc, e => (match exCall e with
    | some (x, es) => decide (C.fnm[f]? = some x) && (glB sc x && chkEs C cs sc es)
    | none => false)
  | .comp elt t own it cs, sc, e => (match exComp e with
    | some (elt', t', it', ifs, sc') => blkC C.N sc sc' (own.map fun i => (C.N.getD i (Str.ofString ""), i)) && (tgtB C sc' t t' && (tgOk it t' && (chkIt C it sc it' && (!ifs.any isIf && (decide (ifs.length ≤ 1) && ((tgtS t).all (fun i => own.contains i) && (chkEs C cs (relS sc' sc) ifs && chkE C elt (relS sc' sc) elt')))))))
    | _ => false)
  | .met o a b, sc, e => (match exMet e with
    | some (r, m, x) => decide (metNm o = some m) && (chkE C a sc r && chkE C b sc x)
    | none => false)
  | .splitE a b, sc, e => (match exMet e with
    | some (r, m, x) => decide (m = Str.ofString "split") && (chkE C a sc r && chkE C b sc x)
    | none => false)
  | .seqOf k a, sc, e => (match exCall e with
    | some (x, [a']) => decide (x = Str.ofString (if k then "tuple" else "list")) && (freeB C sc x && chkE C a sc a')
    | _ => false)
def chkEs (C : Ctx) : List E → Scope → List Expr → Bool
  | [], _, [] => true
  | c :: cs, sc, e :: es => chkE C c sc e && chkEs C cs sc es
  | _, _, _ => false
def chkIt (C : Ctx) : It → Scope → Expr → Bool
  | .of c, sc, e => chkE C c sc e
  | .rng1 a, sc, e => (match exCall e with
    | some (x, [a']) => decide (x = Str.ofString "range") && (freeB C sc x && chkE C a sc a')
    | _ => false)
  | .rng2 a b, sc, e => (match exCall e with
    | some (x, [a', b']) => decide (x = Str.ofString "range") && (freeB C sc x && (chkE C a sc a' && chkE C b sc b'))
    | _ => false)
  | .rng3 a b c, sc, e => (match exCall e with
    | some (x, [a', b', c']) => decide (x = Str.ofString "range") && (freeB C sc x && (chkE C a sc a' && (chkE C b sc b' && chkE C c sc c')))
    | _ => false)
  | .enum a, sc, e => (match exCall e with
    | some (x, [a']) => decide (x = Str.ofString "enumerate") && (freeB C sc x && chkE C a sc a')
    | _ => false)
  | .zip a b, sc, e => (match exCall e with
    | some (x, [a', b']) => decide (x = Str.ofString "zip") && (freeB C sc x && (chkE C a sc a' && chkE C b sc b'))
    | _ => false)
  | .rev a, sc, e => (match exCall e with
    | some (x, [a']) => decide (x = Str.ofString "reversed") && (freeB C sc x && chkE C a sc a')
    | _ => false)
end
end Mp
end
section
/-! Mp rd: what the small language's terms ask of the abstract heap, and how the steps join. -/
namespace Mp
open PySem PySem.Spec PyProof.Rows L2

/-- an exception by number and what it bears, its class, its dict, the standing heap -/
abbrev XRel := Nat → List D → Value → Option Addr → Hp → Prop
def XRk (K : PySem.W.Frag) : XRel := fun k l c dd Hs => c = exC K k ∧ l.all Mp.scal = true ∧ ∃ vs, LvL K Hs Hs l vs [] ∧ ExD Hs k vs dd
theorem Lv.scalH {K : PySem.W.Frag} {Hs H Hs' H' : Hp} {d : D} {v : V} {F : List Addr} (h : Mp.scal d = true) (l : Lv K Hs H d v F) : Lv K Hs' H' d v F := by
  cases d <;> first
    | exact l
    | cases h
theorem LvL.scalH {K : PySem.W.Frag} {Hs H Hs' H' : Hp} : ∀ {l : List D} {vs : List V} {F : List Addr}, l.all Mp.scal = true → LvL K Hs H l vs F → LvL K Hs' H' l vs F
  | [], _, _, _, h => h
  | d :: l, _, _, h, ⟨v, vs, F1, F2, a, b, c, m⟩ => by
    obtain ⟨h1, h2⟩ := Bool.and_eq_true_iff.mp (show (Mp.scal d && l.all Mp.scal) = true from h)
    exact ⟨v, vs, F1, F2, a, b, c.scalH h1, m.scalH h2⟩
section
variable (K : PySem.W.Frag) (XR : XRel) (W : WX) (σ : L2.St) (Hs H : Hp) (A : Nat → List Addr)
/-- an outcome, from the state Hs, H, A on -/
def EvG {β : Type} (P : β → Prop) : Out β → Prop
  | .ok b => P b
  | .exc k l g => ∀ c dd H' Hs' A', Sta K Hs' H' g σ A' → Xst Hs H A Hs' H' A' [] → XR k l c dd Hs' → W c dd σ H'
  | .bad => False
end
section
variable {K : PySem.W.Frag} {XR : XRel} {W : WX} {σ : L2.St} {Hs Hs1 H H1 : Hp} {A A1 : Nat → List Addr}
theorem EvG_bind {α β : Type} {P : β → Prop} {o : Out α} {f : α → Out β} : EvG K XR W σ Hs H A P (o.bind f) = EvG K XR W σ Hs H A (fun a => EvG K XR W σ Hs H A P (f a)) o := by
  cases o <;> rfl
theorem EvG.mono {β : Type} {P P' : β → Prop} {o : Out β} (h : EvG K XR W σ Hs H A P o) (k : ∀ b, o = .ok b → P b → P' b) : EvG K XR W σ Hs H A P' o := by
  cases o with
  | ok b => exact k b rfl h
  | exc _ _ _ => exact h
  | bad => exact h
theorem EvG.shift {β : Type} {P P' : β → Prop} {o : Out β} (h : EvG K XR W σ Hs H A P o) (x : Xst Hs H A Hs1 H1 A1 []) (k : ∀ b, o = .ok b → P b → P' b) : EvG K XR W σ Hs1 H1 A1 P' o := by
  cases o with
  | ok b => exact k b rfl h
  | exc _ _ _ => exact fun c dd H' Hs' A' st y r => h c dd H' Hs' A' st (x.trans y) r
  | bad => exact h
end
section
variable (K : PySem.W.Frag) (XR : XRel) (cl : Nat → List D → ROut) (W : WX)
def postV (σ : L2.St) (Hs H : Hp) (A : Nat → List Addr) (Q : VK) (r : D × Env) : Prop :=
  ∀ v H' Hs' A' F, Sta K Hs' H' r.2 σ A' → Xst Hs H A Hs' H' A' F → Lv K Hs' H' r.1 v F → Q v H'
def postB (σ : L2.St) (Hs H : Hp) (A : Nat → List Addr) (Q : VK) (r : D × Env) : Prop :=
  ∀ v H' Hs' A' F, Sta K Hs' H' r.2 σ A' → Xst Hs H A Hs' H' A' [] → Lv K Hs' H' r.1 v F → Q v H'
def postVs (σ : L2.St) (Hs H : Hp) (A : Nat → List Addr) (Q : List V → Hp → Prop) (r : List D × Env) : Prop :=
  ∀ v H' Hs' A' F, Sta K Hs' H' r.2 σ A' → Xst Hs H A Hs' H' A' F → LvL K Hs' H' r.1 v F → Q v H'
def postBs (σ : L2.St) (Hs H : Hp) (A : Nat → List Addr) (Q : List V → Hp → Prop) (r : List D × Env) : Prop :=
  ∀ v H' Hs' A' F, Sta K Hs' H' r.2 σ A' → Xst Hs H A Hs' H' A' [] → LvL K Hs' H' r.1 v F → Q v H'
def rdV (c : E) : TE := fun σ H Q => ∃ Hs g A, Sta K Hs H g σ A ∧ EvG K XR W σ Hs H A (postV K σ Hs H A Q) (ev cl c false g)
def rdB (c : E) : TE := fun σ H Q => ∃ Hs g A, Sta K Hs H g σ A ∧ EvG K XR W σ Hs H A (postB K σ Hs H A Q) (ev cl c true g)
def rdVs (cs : List E) : TA := fun σ H Q => ∃ Hs g A, Sta K Hs H g σ A ∧ EvG K XR W σ Hs H A (postVs K σ Hs H A Q) (evs cl cs false g)
def rdBs (cs : List E) : TA := fun σ H Q => ∃ Hs g A, Sta K Hs H g σ A ∧ EvG K XR W σ Hs H A (postBs K σ Hs H A Q) (evs cl cs true g)
def rdT (c : E) : TT := fun σ H Q => rdV K XR cl W c σ H fun x H1 => ∃ b, x = .bl b ∧ Q b H1
def rdAnd (cs : List E) : TE := fun σ H Q => ∃ Hs g A, Sta K Hs H g σ A ∧ EvG K XR W σ Hs H A (postV K σ Hs H A Q) (evAnd cl cs g)
def rdOr (cs : List E) : TE := fun σ H Q => ∃ Hs g A, Sta K Hs H g σ A ∧ EvG K XR W σ Hs H A (postV K σ Hs H A Q) (evOr cl cs g)
end
theorem _root_.L2.PE.imp {X : Cx} {e : Expr} {t t' : TE} (h : PE X e t) (k : ∀ σ H Q, t' σ H Q → t σ H Q) : PE X e t' := ⟨fun pins s σ H Q I q => h.run pins s σ H Q I (k σ H Q q)⟩
theorem _root_.L2.PT.imp {X : Cx} {e : Expr} {t t' : TT} (h : PT X e t) (k : ∀ σ H Q, t' σ H Q → t σ H Q) : PT X e t' := ⟨fun pins s σ H Q I q => h.run pins s σ H Q I (k σ H Q q)⟩
theorem _root_.L2.PA.imp {X : Cx} {e : List Expr} {t t' : TA} (h : PA X e t) (k : ∀ σ H Q, t' σ H Q → t σ H Q) : PA X e t' := ⟨fun pos pins s σ H Q I q => h.run pos pins s σ H Q I (k σ H Q q)⟩

/-! ### steps of the state -/
section
variable {K : PySem.W.Frag} {Hs Hs1 H H1 : Hp} {g : Env} {σ : L2.St} {A A1 : Nat → List Addr} {F : List Addr} {d : D} {v : V} {p : Addr}
/-- the places at F stand from now on -/
def laid (Hs H : Hp) (F : List Addr) : Hp := fun p => if p ∈ F then H p else Hs p
theorem laid_in (h : p ∈ F) : laid Hs H F p = H p := if_pos h
theorem laid_out (h : p ∉ F) : laid Hs H F p = Hs p := if_neg h
theorem laid_same (h : ∀ p ∈ F, Hs p = none) : Same Hs (laid Hs H F) := fun p o e => by
  by_cases q : p ∈ F
  · rw [h p q] at e; cases e
  · rw [laid_out q]; exact e
theorem laid_sub (s : Sub Hs H) : Sub (laid Hs H F) H := fun p o e => by
  by_cases q : p ∈ F
  · rw [laid_in q] at e; exact .inl e
  · rw [laid_out q] at e; exact s p o e
/-- a temporary value stands from now on -/
theorem Xst.frz (st : Sta K Hs1 H1 g σ A1) (x : Xst Hs H A Hs1 H1 A1 F) : Sta K (laid Hs1 H1 F) H1 g σ A1 ∧ Xst Hs H A (laid Hs1 H1 F) H1 A1 [] := by
  have sm := laid_same (H := H1) x.off
  refine ⟨⟨laid_sub st.sub, st.len, fun i d e => ?_, st.emp, st.dj, st.nd, fun i p h => ?_⟩, x.hp, x.hs.trans sm, x.ka, (fun _ h => absurd h List.not_mem_nil), (fun _ h => absurd h List.not_mem_nil), List.nodup_nil, (fun _ h => absurd h List.not_mem_nil), fun p o e => ?_⟩
  · obtain ⟨v, h1, h2⟩ := st.sl i d e
    exact ⟨v, h1, h2.mono sm (Same.refl _)⟩
  · rw [laid_out fun q => x.dj p q i h]
    exact st.off i p h
  · by_cases q : p ∈ F
    · exact .inr (x.inF p q)
    · rw [laid_out q] at e
      exact x.new p o e
/-- a slot's data stand from now on -/
theorem Sta.frz (st : Sta K Hs H g σ A) {i : Nat} (e : g[i]? = some (some d)) : ∃ A', Sta K (laid Hs H (A i)) H (g.set i (some (Mp.frz d))) σ A' ∧ Xst Hs H A (laid Hs H (A i)) H A' [] := by
  have sm := laid_same (H := H) (st.off i)
  have lt : i < g.length := (List.getElem?_eq_some_iff.mp e).1
  refine ⟨fun j => if j = i then [] else A j, ⟨laid_sub st.sub, by rw [List.length_set]; exact st.len, fun j d' q => ?_, fun j q => ?_, fun j k p h1 h2 => ?_, fun j => ?_, fun j p h => ?_⟩, Same.refl _, sm, fun j => ?_, (fun _ h => absurd h List.not_mem_nil), (fun _ h => absurd h List.not_mem_nil), List.nodup_nil, (fun _ h => absurd h List.not_mem_nil), fun p o q => ?_⟩
  · by_cases hj : j = i
    · subst hj
      rw [List.getElem?_set_self lt] at q
      cases q
      obtain ⟨v, h1, h2⟩ := st.sl j d e
      refine ⟨v, h1, ?_⟩
      rw [if_pos rfl]
      exact h2.frz sm fun p hp => laid_in hp
    · rw [List.getElem?_set_ne (Ne.symm hj)] at q
      obtain ⟨v, h1, h2⟩ := st.sl j d' q
      refine ⟨v, h1, ?_⟩
      rw [if_neg hj]
      exact h2.mono sm (Same.refl _)
  · by_cases hj : j = i
    · rw [if_pos hj]
    · rw [if_neg hj]
      rw [List.getElem?_set_ne (Ne.symm hj)] at q
      exact st.emp j q
  · by_cases hj : j = i
    · rw [if_pos hj] at h1; cases h1
    · by_cases hk : k = i
      · rw [if_pos hk] at h2; cases h2
      · rw [if_neg hj] at h1
        rw [if_neg hk] at h2
        exact st.dj j k p h1 h2
  · by_cases hj : j = i
    · rw [if_pos hj]; exact List.nodup_nil
    · rw [if_neg hj]; exact st.nd j
  · by_cases hj : j = i
    · rw [if_pos hj] at h; cases h
    · rw [if_neg hj] at h
      rw [laid_out fun q => hj (st.dj j i p h q)]
      exact st.off j p h
  · by_cases hj : j = i
    · exact .inr (if_pos hj)
    · exact .inl (if_neg hj)
  · by_cases z : p ∈ A i
    · exact .inr (.inl ⟨i, z⟩)
    · rw [laid_out z] at q; exact .inl q
theorem Sta.frzS (st : Sta K Hs H g σ A) (i : Nat) : ∃ Hs' A', Sta K Hs' H (Mp.frzS g i) σ A' ∧ Xst Hs H A Hs' H A' [] := by
  unfold Mp.frzS
  cases e : g[i]? with
  | none => exact ⟨Hs, A, st, Xst.refl⟩
  | some x =>
    cases x with
    | none => exact ⟨Hs, A, st, Xst.refl⟩
    | some d =>
      obtain ⟨A', h1, h2⟩ := st.frz e
      exact ⟨_, A', h1, h2⟩
/-- a slot's data are taken out -/
theorem Sta.take (st : Sta K Hs H g σ A) {i : Nat} (e : g[i]? = some (some d)) : ∃ A' v, σ[i]? = some (some v) ∧ Lv K Hs H d v (A i) ∧ Sta K Hs H (g.set i none) σ A' ∧ Xst Hs H A Hs H A' (A i) ∧ (∀ j, j ≠ i → A' j = A j) ∧ A' i = [] := by
  have lt : i < g.length := (List.getElem?_eq_some_iff.mp e).1
  obtain ⟨v, h1, h2⟩ := st.sl i d e
  refine ⟨fun j => if j = i then [] else A j, v, h1, h2, ⟨st.sub, by rw [List.length_set]; exact st.len, fun j d' q => ?_, fun j q => ?_, fun j k p h1 h2 => ?_, fun j => ?_, fun j p h => ?_⟩, ⟨Same.refl _, Same.refl _, fun j => ?_, fun p h => .inl ⟨i, h⟩, fun p h j q => ?_, st.nd i, st.off i, fun p o q => .inl q⟩, fun j hj => if_neg hj, if_pos rfl⟩
  · by_cases hj : j = i
    · subst hj
      rw [List.getElem?_set_self lt] at q
      cases q
    · rw [List.getElem?_set_ne (Ne.symm hj)] at q
      obtain ⟨v, h1, h2⟩ := st.sl j d' q
      refine ⟨v, h1, ?_⟩
      rw [if_neg hj]
      exact h2
  · by_cases hj : j = i
    · rw [if_pos hj]
    · rw [if_neg hj]
      rw [List.getElem?_set_ne (Ne.symm hj)] at q
      exact st.emp j q
  · by_cases hj : j = i
    · rw [if_pos hj] at h1; cases h1
    · by_cases hk : k = i
      · rw [if_pos hk] at h2; cases h2
      · rw [if_neg hj] at h1
        rw [if_neg hk] at h2
        exact st.dj j k p h1 h2
  · by_cases hj : j = i
    · rw [if_pos hj]; exact List.nodup_nil
    · rw [if_neg hj]; exact st.nd j
  · by_cases hj : j = i
    · rw [if_pos hj] at h; cases h
    · rw [if_neg hj] at h; exact st.off j p h
  · by_cases hj : j = i
    · exact .inr (if_pos hj)
    · exact .inl (if_neg hj)
  · by_cases hj : j = i
    · rw [if_pos hj] at q; cases q
    · rw [if_neg hj] at q; exact hj (st.dj j i p q h)
/-- a slot is dropped -/
theorem Sta.wipe1 (st : Sta K Hs H g σ A) (i : Nat) {σ' : L2.St} (hl : σ'.length = σ.length) (hσ : ∀ j, j ≠ i → σ'[j]? = σ[j]?) : Sta K Hs H (g.set i none) σ' (fun j => if j = i then [] else A j) := by
  refine ⟨st.sub, by rw [List.length_set, hl]; exact st.len, fun j d' q => ?_, fun j q => ?_, fun j k p h1 h2 => ?_, fun j => ?_, fun j p h => ?_⟩
  · by_cases hj : j = i
    · subst hj
      by_cases lt : j < g.length
      · rw [List.getElem?_set_self lt] at q
        cases q
      · rw [List.getElem?_eq_none (by rw [List.length_set]; omega)] at q
        cases q
    · rw [List.getElem?_set_ne (Ne.symm hj)] at q
      obtain ⟨v, h1, h2⟩ := st.sl j d' q
      refine ⟨v, by rw [hσ j hj]; exact h1, ?_⟩
      rw [if_neg hj]
      exact h2
  · by_cases hj : j = i
    · rw [if_pos hj]
    · rw [if_neg hj]
      rw [List.getElem?_set_ne (Ne.symm hj)] at q
      exact st.emp j q
  · by_cases hj : j = i
    · rw [if_pos hj] at h1; cases h1
    · by_cases hk : k = i
      · rw [if_pos hk] at h2; cases h2
      · rw [if_neg hj] at h1
        rw [if_neg hk] at h2
        exact st.dj j k p h1 h2
  · by_cases hj : j = i
    · rw [if_pos hj]; exact List.nodup_nil
    · rw [if_neg hj]; exact st.nd j
  · by_cases hj : j = i
    · rw [if_pos hj] at h; cases h
    · rw [if_neg hj] at h; exact st.off j p h
/-- a slot is stored -/
theorem Sta.put (st : Sta K Hs H g σ A) (i : Nat) (l : Lv K Hs H d v F) (dj : ∀ p ∈ F, ∀ j, p ∉ A j) (nd : F.Nodup) (off : ∀ p ∈ F, Hs p = none) : Sta K Hs H (g.set i (some d)) (σ.set i (some v)) (fun j => if j = i then (if i < g.length then F else []) else A j) := by
  refine ⟨st.sub, by rw [List.length_set, List.length_set]; exact st.len, fun j d' q => ?_, fun j q => ?_, fun j k p h1 h2 => ?_, fun j => ?_, fun j p h => ?_⟩
  · by_cases hj : j = i
    · subst hj
      by_cases lt : j < g.length
      · rw [List.getElem?_set_self lt] at q
        cases q
        refine ⟨v, by rw [List.getElem?_set_self (by rw [← st.len]; exact lt)], ?_⟩
        rw [if_pos rfl, if_pos lt]
        exact l
      · rw [List.getElem?_eq_none (by rw [List.length_set]; omega)] at q
        cases q
    · rw [List.getElem?_set_ne (Ne.symm hj)] at q
      obtain ⟨v, h1, h2⟩ := st.sl j d' q
      refine ⟨v, by rw [List.getElem?_set_ne (Ne.symm hj)]; exact h1, ?_⟩
      rw [if_neg hj]
      exact h2
  · by_cases hj : j = i
    · subst hj
      rw [if_pos rfl]
      by_cases lt : j < g.length
      · exact absurd (List.getElem?_set_self lt) (q d)
      · rw [if_neg lt]
    · rw [if_neg hj]
      rw [List.getElem?_set_ne (Ne.symm hj)] at q
      exact st.emp j q
  · have self : ∀ {j : Nat} {q : Addr}, q ∈ (if j = i then (if i < g.length then F else []) else A j) → (j = i ∧ q ∈ F) ∨ (j ≠ i ∧ q ∈ A j) := fun {j q} h => by
      by_cases hj : j = i
      · rw [if_pos hj] at h
        by_cases lt : i < g.length
        · rw [if_pos lt] at h; exact .inl ⟨hj, h⟩
        · rw [if_neg lt] at h; cases h
      · rw [if_neg hj] at h; exact .inr ⟨hj, h⟩
    rcases self h1 with ⟨a, b⟩ | ⟨a, b⟩ <;> rcases self h2 with ⟨c, e⟩ | ⟨c, e⟩
    · rw [a, c]
    · exact (dj p b k e).elim
    · exact (dj p e j b).elim
    · exact st.dj j k p b e
  · by_cases hj : j = i
    · rw [if_pos hj]
      by_cases lt : i < g.length
      · rw [if_pos lt]; exact nd
      · rw [if_neg lt]; exact List.nodup_nil
    · rw [if_neg hj]; exact st.nd j
  · by_cases hj : j = i
    · rw [if_pos hj] at h
      by_cases lt : i < g.length
      · rw [if_pos lt] at h; exact off p h
      · rw [if_neg lt] at h; cases h
    · rw [if_neg hj] at h; exact st.off j p h
theorem sub_free (s : Sub Hs H) (h : H p = none) : Hs p = none := by
  cases e : Hs p with
  | none => rfl
  | some o =>
    rcases s p o e with q | ⟨_, ob, q⟩ <;> rw [h] at q <;> cases q
theorem same_upd {o : HO} (h : H p = none) : Same H (upd H p o) := fun b u e => by
  rw [upd_ne (ne_of_none e h)]; exact e
/-- a tuple is laid -/
theorem Xst.tup {o : HO} (st : Sta K Hs1 H1 g σ A1) (x : Xst Hs H A Hs1 H1 A1 F) (h : H1 p = none) (lv : ∀ q ∈ F, H1 q ≠ none) : Sta K (upd Hs1 p o) (upd H1 p o) g σ A1 ∧ Xst Hs H A (upd Hs1 p o) (upd H1 p o) A1 F := by
  have hn := sub_free st.sub h
  have s1 : Same Hs1 (upd Hs1 p o) := same_upd hn
  have s2 : Same H1 (upd H1 p o) := same_upd h
  refine ⟨⟨fun q u e => ?_, st.len, fun i d e => ?_, st.emp, st.dj, st.nd, fun i q hq => ?_⟩, x.hp.trans s2, x.hs.trans s1, x.ka, x.inF, x.dj, x.nd, fun q hq => ?_, fun q u e => ?_⟩
  · by_cases hq : q = p
    · subst hq
      rw [upd_same] at e; cases e
      exact .inl upd_same
    · rw [upd_ne hq] at e
      rcases st.sub q u e with z | ⟨z, ob, y⟩
      · exact .inl (by rw [upd_ne hq]; exact z)
      · exact .inr ⟨z, ob, by rw [upd_ne hq]; exact y⟩
  · obtain ⟨v, h1, h2⟩ := st.sl i d e
    exact ⟨v, h1, h2.mono s1 s2⟩
  · obtain ⟨u, hu, _⟩ := st.live hq
    rw [upd_ne (ne_of_none hu h)]
    exact st.off i q hq
  · rw [upd_ne fun z => lv q hq (by rw [z]; exact h)]
    exact x.off q hq
  · by_cases hq : q = p
    · subst hq
      exact .inr (.inr (x.hp.free h))
    · rw [upd_ne hq] at e
      exact x.new q u e
/-- a thing that may be changed is laid -/
theorem Xst.new1 {o : HO} (st : Sta K Hs1 H1 g σ A1) (x : Xst Hs H A Hs1 H1 A1 F) (h : H1 p = none) (lv : ∀ q ∈ F, H1 q ≠ none) : Sta K Hs1 (upd H1 p o) g σ A1 ∧ Xst Hs H A Hs1 (upd H1 p o) A1 (p :: F) := by
  have hn := sub_free st.sub h
  have s2 : Same H1 (upd H1 p o) := same_upd h
  refine ⟨⟨fun q u e => ?_, st.len, fun i d e => ?_, st.emp, st.dj, st.nd, st.off⟩, x.hp.trans s2, x.hs, x.ka, fun q hq => ?_, fun q hq i z => ?_, List.nodup_cons.mpr ⟨fun z => lv p z h, x.nd⟩, fun q hq => ?_, x.new⟩
  · have hq : q ≠ p := fun z => by rw [z, hn] at e; cases e
    rcases st.sub q u e with z | ⟨z, ob, y⟩
    · exact .inl (by rw [upd_ne hq]; exact z)
    · exact .inr ⟨z, ob, by rw [upd_ne hq]; exact y⟩
  · obtain ⟨v, h1, h2⟩ := st.sl i d e
    exact ⟨v, h1, h2.mono (Same.refl _) s2⟩
  · rcases List.mem_cons.mp hq with z | z
    · rw [z]; exact .inr (x.hp.free h)
    · exact x.inF q z
  · rcases List.mem_cons.mp hq with y | y
    · obtain ⟨u, hu, _⟩ := st.live z
      rw [y, h] at hu; cases hu
    · exact x.dj q y i z
  · rcases List.mem_cons.mp hq with y | y
    · rw [y]; exact hn
    · exact x.off q y
end

/-! ### two, three values in a row -/
section
variable {K : PySem.W.Frag} {XR : XRel} {cl : Nat → List D → ROut} {W : WX} {σ : L2.St} {Hs H : Hp} {A : Nat → List Addr} {g : Env}
theorem rdB_go {a : E} {P : D × Env → Prop} {T : VK} (st : Sta K Hs H g σ A) (h : EvG K XR W σ Hs H A P (ev cl a true g))
    (k : ∀ d g1 v H1 Hs1 A1 F, P (d, g1) → Sta K Hs1 H1 g1 σ A1 → Xst Hs H A Hs1 H1 A1 [] → Lv K Hs1 H1 d v F → T v H1) : rdB K XR cl W a σ H T :=
  ⟨Hs, g, A, st, h.mono fun r _ p v H1 Hs1 A1 F s x l => k r.1 r.2 v H1 Hs1 A1 F p s x l⟩
theorem rdV_go {a : E} {P : D × Env → Prop} {T : VK} (st : Sta K Hs H g σ A) (h : EvG K XR W σ Hs H A P (ev cl a false g))
    (k : ∀ d g1 v H1 Hs1 A1 F, P (d, g1) → Sta K Hs1 H1 g1 σ A1 → Xst Hs H A Hs1 H1 A1 F → Lv K Hs1 H1 d v F → T v H1) : rdV K XR cl W a σ H T :=
  ⟨Hs, g, A, st, h.mono fun r _ p v H1 Hs1 A1 F s x l => k r.1 r.2 v H1 Hs1 A1 F p s x l⟩
/-- the same from a later state -/
theorem rdB_on {a : E} {Hs1 H1 : Hp} {A1 : Nat → List Addr} {g1 : Env} {P : D × Env → Prop} {T : VK} (st : Sta K Hs1 H1 g1 σ A1) (x : Xst Hs H A Hs1 H1 A1 []) (h : EvG K XR W σ Hs H A P (ev cl a true g1))
    (k : ∀ d g2 v H2 Hs2 A2 F, P (d, g2) → Sta K Hs2 H2 g2 σ A2 → Xst Hs1 H1 A1 Hs2 H2 A2 [] → Lv K Hs2 H2 d v F → T v H2) : rdB K XR cl W a σ H1 T :=
  ⟨Hs1, g1, A1, st, h.shift x fun r _ p v H2 Hs2 A2 F s y l => k r.1 r.2 v H2 Hs2 A2 F p s y l⟩
theorem rdV_on {a : E} {Hs1 H1 : Hp} {A1 : Nat → List Addr} {g1 : Env} {P : D × Env → Prop} {T : VK} (st : Sta K Hs1 H1 g1 σ A1) (x : Xst Hs H A Hs1 H1 A1 []) (h : EvG K XR W σ Hs H A P (ev cl a false g1))
    (k : ∀ d g2 v H2 Hs2 A2 F, P (d, g2) → Sta K Hs2 H2 g2 σ A2 → Xst Hs1 H1 A1 Hs2 H2 A2 F → Lv K Hs2 H2 d v F → T v H2) : rdV K XR cl W a σ H1 T :=
  ⟨Hs1, g1, A1, st, h.shift x fun r _ p v H2 Hs2 A2 F s y l => k r.1 r.2 v H2 Hs2 A2 F p s y l⟩
end
end Mp
end
section
/-! Mp op: the operators. -/
namespace Mp
open PySem PySem.Spec PyProof.Rows L2

theorem opR_or {X : Cx} {f : Value → Value → Sem Value} {r r' : R2} (h : OpR X f r) (h' : OpR X f r') : OpR X f (fun x y H Q => r x y H Q ∨ r' x y H Q) := by
  intro pins s σ H x y v u Q I rx ry q
  rcases q with q | q
  · exact h pins s σ H x y v u Q I rx ry q
  · exact h' pins s σ H x y v u Q I rx ry q
theorem opR_imp {X : Cx} {f : Value → Value → Sem Value} {r r' : R2} (h : OpR X f r) (k : ∀ x y H Q, r' x y H Q → r x y H Q) : OpR X f r' :=
  fun pins s σ H x y v u Q I rx ry q => h pins s σ H x y v u Q I rx ry (k x y H Q q)
/-- what an operator on two values asks -/
def rD (K : PySem.W.Frag) (f : D → D → Option D) : R2 := fun x y H Q => ∃ a b d Hs F1 F2, f a b = some d ∧ Sub Hs H ∧ Lv K Hs H a x F1 ∧ Lv K Hs H b y F2 ∧ Q (vS d) H
/-! ### equality -/
mutual
def dat : D → PyData
  | .bl b => .bool b
  | .int i => .int i
  | .str s => .str (sV s)
  | .tup l => .tuple (datL l)
  | .lst _ l => .list (datL l)
  | _ => .none
def datL : List D → List PyData
  | [] => []
  | d :: l => dat d :: datL l
end
section
variable {K : PySem.W.Frag} {Hs H : Hp}
theorem okS_strOk {s : List Nat} (h : okS s) : PyData.strOk (sV s) = true := by
  unfold PyData.strOk sV
  rw [Array.all_eq_true']
  intro c hc
  exact decide_eq_true (h.1 c (by simpa using hc))
mutual
theorem Lv.dp (sb : Sub Hs H) : ∀ {d : D} {n : Nat} {v : V} {F : List Addr}, plain n d = true → Lv K Hs H d v F → Dp K H v (dat d) ∧ (dat d).canLay0 = true ∧ (dat d).depth ≤ n
  | .non, n, _, _, _, ⟨e, _⟩ => by rw [e]; exact ⟨.non, rfl, Nat.zero_le _⟩
  | .bl b, n, _, _, _, ⟨e, _⟩ => by rw [e]; exact ⟨.bl b, rfl, Nat.zero_le _⟩
  | .int i, n, _, _, _, ⟨e, _⟩ => by rw [e]; exact ⟨.int i, rfl, Nat.zero_le _⟩
  | .str s, n, _, _, _, ⟨e, _, k⟩ => by rw [e]; exact ⟨.str _, okS_strOk k, Nat.zero_le _⟩
  | .tup l, 0, _, _, h, _ => by cases h
  | .tup l, n + 1, _, _, h, ⟨p, vs, e, q, _, m⟩ => by
    obtain ⟨h1, h2, h3⟩ := LvL.dp sb (n := n) h m
    rw [e]
    exact ⟨.tup (sqT_sub sb q) h1, h2, Nat.succ_le_succ h3⟩
  | .lst false l, 0, _, _, h, _ => by cases h
  | .lst false l, n + 1, _, _, h, ⟨p, vs, e, q, _, _, m⟩ => by
    obtain ⟨h1, h2, h3⟩ := LvL.dp sb (n := n) h m
    rw [e]
    exact ⟨.lst (sqL_sub sb q) h1, h2, Nat.succ_le_succ h3⟩
  | .lst true l, 0, _, _, h, _ => by cases h
  | .lst true l, n + 1, _, _, h, ⟨p, vs, F, e, q, _, _, m⟩ => by
    obtain ⟨h1, h2, h3⟩ := LvL.dp sb (n := n) h m
    rw [e]
    exact ⟨.lst (SqL.of q) h1, h2, Nat.succ_le_succ h3⟩
  | .dic _ _, _, _, _, _, h => h.elim
  | .obj _ _, _, _, _, _, h => h.elim
  | .exc _ _, n, _, _, h, _ => by cases n <;> cases h
theorem LvL.dp (sb : Sub Hs H) : ∀ {l : List D} {n : Nat} {vs : List V} {F : List Addr}, plainL n l = true → LvL K Hs H l vs F → DpAll K H vs (datL l) ∧ PyData.canLayAll0 (datL l) = true ∧ PyData.depthAll (datL l) ≤ n
  | [], n, _, _, _, ⟨e, _⟩ => by rw [e]; exact ⟨.nil, rfl, Nat.zero_le _⟩
  | _ :: _, n, _, _, h, ⟨v, vs, F1, F2, a, _, c, m⟩ => by
    obtain ⟨k1, k2⟩ := Bool.and_eq_true_iff.mp (show (plain n _ && plainL n _) = true from h)
    obtain ⟨h1, h2, h3⟩ := Lv.dp sb k1 c
    obtain ⟨h4, h5, h6⟩ := LvL.dp sb k2 m
    rw [a]
    exact ⟨.cons h1 h4, Bool.and_eq_true_iff.mpr ⟨h2, h5⟩, Nat.max_le.mpr ⟨h3, h6⟩⟩
end
theorem sV_beq (a b : List Nat) : (sV a == sV b) = (a == b) := by
  unfold sV
  by_cases h : a = b
  · subst h; simp
  · have : ¬ (⟨a.toArray⟩ : Str) = ⟨b.toArray⟩ := fun e => h (by simpa using congrArg Str.cps e)
    rw [beq_eq_false_iff_ne.mpr this, beq_eq_false_iff_ne.mpr h]
mutual
theorem eqv_same : ∀ (a b : D) (n m : Nat), plain n a = true → plain m b = true → PyData.eqv (dat a) (dat b) = same a b
  | .non, b, n, m, _, h => by cases b <;> first | rfl | (cases m <;> cases h)
  | .bl a, b, n, m, _, h => by cases b <;> first | rfl | (cases m <;> cases h)
  | .int a, b, n, m, _, h => by cases b <;> first | rfl | (cases m <;> cases h)
  | .str a, b, n, m, _, h => by cases b <;> first | rfl | exact sV_beq _ _ | (cases m <;> cases h)
  | .tup l, b, 0, m, h, _ => by cases h
  | .tup l, b, n + 1, m, h, k => by
    cases b with
    | tup l' =>
      cases m with
      | zero => cases k
      | succ m => exact eqv_sameL l l' n m h k
    | dic _ _ => cases m <;> cases k
    | obj _ _ => cases m <;> cases k
    | exc _ _ => cases m <;> cases k
    | _ => rfl
  | .lst f l, b, 0, m, h, _ => by cases h
  | .lst f l, b, n + 1, m, h, k => by
    cases b with
    | lst f' l' =>
      cases m with
      | zero => cases k
      | succ m => exact eqv_sameL l l' n m h k
    | dic _ _ => cases m <;> cases k
    | obj _ _ => cases m <;> cases k
    | exc _ _ => cases m <;> cases k
    | _ => rfl
  | .dic _ _, b, n, m, h, _ => by cases n <;> cases h
  | .obj _ _, b, n, m, h, _ => by cases n <;> cases h
  | .exc _ _, b, n, m, h, _ => by cases n <;> cases h
theorem eqv_sameL : ∀ (l l' : List D) (n m : Nat), plainL n l = true → plainL m l' = true → PyData.eqvAll (datL l) (datL l') = sameL l l'
  | [], [], _, _, _, _ => rfl
  | [], _ :: _, _, _, _, _ => rfl
  | _ :: _, [], _, _, _, _ => rfl
  | a :: l, b :: l', n, m, h, k => by
    obtain ⟨h1, h2⟩ := Bool.and_eq_true_iff.mp (show (plain n _ && plainL n _) = true from h)
    obtain ⟨k1, k2⟩ := Bool.and_eq_true_iff.mp (show (plain m _ && plainL m _) = true from k)
    show (PyData.eqv (dat a) (dat b) && PyData.eqvAll (datL l) (datL l')) = (same a b && sameL l l')
    rw [eqv_same a b n m h1 k1, eqv_sameL l l' n m h2 k2]
end
theorem Lv.scal {d : D} {v : V} {F : List Addr} (h : Mp.scal d = true) (l : Lv K Hs H d v F) : v = vS d ∧ flatV v = true := by
  cases d <;> first | (obtain ⟨e, _⟩ := l; rw [e]; exact ⟨rfl, rfl⟩) | cases h
theorem eqV_scal : ∀ {a b : D}, Mp.scal a = true → Mp.scal b = true → eqV (vS a) (vS b) = same a b := by
  intro a b ha hb
  cases a <;> cases b <;> first | rfl | exact sV_beq _ _ | exact (Bool.false_ne_true ha).elim | exact (Bool.false_ne_true hb).elim
theorem LvL.scal : ∀ {l : List D} {vs : List V} {F : List Addr}, l.all Mp.scal = true → LvL K Hs H l vs F → vs = l.map vS ∧ vs.all flatV = true
  | [], _, _, _, ⟨e, _⟩ => by rw [e]; exact ⟨rfl, rfl⟩
  | d :: l, _, _, h, ⟨v, vs, F1, F2, a, _, c, m⟩ => by
    obtain ⟨h1, h2⟩ := Bool.and_eq_true_iff.mp (show (Mp.scal d && l.all Mp.scal) = true from h)
    obtain ⟨k1, k2⟩ := Lv.scal h1 c
    obtain ⟨k3, k4⟩ := LvL.scal h2 m
    rw [a, List.map_cons, ← k1, ← k3]
    exact ⟨rfl, by rw [List.all_cons, k2, k4]; rfl⟩
theorem inV_scal {d : D} (hd : Mp.scal d = true) : ∀ {l : List D}, l.all Mp.scal = true → inV (vS d) (l.map vS) = l.any fun e => same e d
  | [], _ => rfl
  | e :: l, h => by
    obtain ⟨h1, h2⟩ := Bool.and_eq_true_iff.mp (show (Mp.scal e && l.all Mp.scal) = true from h)
    have ih := inV_scal hd h2
    unfold inV at ih ⊢
    rw [List.map_cons, List.any_cons, List.any_cons, ih, eqV_scal h1 hd]
theorem Lv.int {i : Int} {v : V} {F : List Addr} (l : Lv K Hs H (.int i) v F) : v = .int i := l.1
end

/-! ### the operators on two values -/
section
variable {X : Cx}
theorem natAbs64 {i : Int} (h : i.natAbs < 2 ^ 64) : -(2 ^ 64) < i ∧ i < 2 ^ 64 := by
  constructor <;> omega
theorem mulOk_cases {i j : Int} (h : mulOk i j = true) : CMul i j ∨ CMulW i j := by
  unfold mulOk at h
  rcases Bool.or_eq_true_iff.mp h with h | h
  · rcases Bool.or_eq_true_iff.mp h with h | h
    · exact .inl (.inl (natAbs64 (of_decide_eq_true h)))
    · exact .inl (.inr (natAbs64 (of_decide_eq_true h)))
  · obtain ⟨h1, h2⟩ := Bool.and_eq_true_iff.mp h
    exact .inr (wide_mul (of_decide_eq_true h1) (of_decide_eq_true h2) (by decide) (by decide) (by decide))
theorem op2_int {f : Int → Int → Option D} {a b d : D} (h : (match a, b with
    | .int i, .int j => f i j
    | _, _ => none) = some d) : ∃ i j, a = .int i ∧ b = .int j ∧ f i j = some d := by
  split at h
  · exact ⟨_, _, rfl, rfl, h⟩
  · cases h
theorem sV_append (a b : List Nat) : sV (a ++ b) = sV a ++ sV b := by
  have h : ∀ x y : Str, x ++ y = ⟨x.cps ++ y.cps⟩ := fun _ _ => rfl
  rw [h]
  unfold sV
  simp
theorem sV_length (a : List Nat) : (sV a).length = a.length := by unfold sV PySem.Str.length; simp
theorem ok_add : OpR X (binaryOp .Add) (rD X.K fun a b => opD .add [a, b]) := opR_imp (opR_or op_add op_add_str) fun x y H Q ⟨a, b, d, Hs, F1, F2, e, _, la, lb, q⟩ => by
  cases a with
  | int i =>
    cases b with
    | int j => cases e; exact .inl ⟨_, _, la.1, lb.1, q⟩
    | _ => cases e
  | str s =>
    cases b with
    | str t =>
      have e : (if s.length + t.length ≤ 16777216 then some (D.str (s ++ t)) else none) = some d := e
      by_cases c : s.length + t.length ≤ 16777216
      · rw [if_pos c] at e
        cases e
        refine .inr ⟨sV s, sV t, la.1, lb.1, by rw [sV_length, sV_length]; exact c, ?_⟩
        rw [← sV_append]
        exact q
      · rw [if_neg c] at e
        cases e
    | _ => cases e
  | _ => cases b <;> cases e
theorem ok_pow : OpR X (binaryOp .Pow) (rD X.K fun a b => opD .pow [a, b]) := opR_imp op_pow fun x y H Q ⟨a, b, d, Hs, F1, F2, e, _, la, lb, q⟩ => by
  cases a <;> cases b <;> first | cases (show none = some d from e) | skip
  rename_i i j
  have e : (if (decide (0 ≤ j) && (decide (j ≤ 1000) && decide (i.natAbs < 2 ^ 64))) = true then some (D.int (i ^ j.toNat)) else none) = some d := e
  by_cases c : (decide (0 ≤ j) && (decide (j ≤ 1000) && decide (i.natAbs < 2 ^ 64))) = true
  · rw [if_pos c] at e
    cases e
    obtain ⟨c1, c2⟩ := Bool.and_eq_true_iff.mp c
    obtain ⟨c2, c3⟩ := Bool.and_eq_true_iff.mp c2
    have c2 : j ≤ 1000 := of_decide_eq_true c2
    exact ⟨_, _, la.1, lb.1, ⟨of_decide_eq_true c1, by omega, of_decide_eq_true c3⟩, q⟩
  · rw [if_neg c] at e
    cases e
theorem ok_sub : OpR X (binaryOp .Sub) (rD X.K fun a b => opD .sub [a, b]) := opR_imp op_sub fun x y H Q ⟨a, b, d, Hs, F1, F2, e, _, la, lb, q⟩ => by
  cases a <;> cases b <;> first | (cases e; exact ⟨_, _, la.1, lb.1, q⟩) | cases e
theorem ok_mul : OpR X (binaryOp .Mult) (rD X.K fun a b => opD .mul [a, b]) := opR_imp (opR_or op_mul op_mulW) fun x y H Q ⟨a, b, d, Hs, F1, F2, e, _, la, lb, q⟩ => by
  cases a <;> cases b <;> first | cases (show none = some d from e) | skip
  rename_i i j
  have e : (if mulOk i j then some (D.int (i * j)) else none) = some d := e
  by_cases c : mulOk i j = true
  · rw [if_pos c] at e
    cases e
    rcases mulOk_cases c with k | k
    · exact .inl ⟨_, _, la.1, lb.1, k, q⟩
    · exact .inr ⟨_, _, la.1, lb.1, k, q⟩
  · rw [if_neg c] at e
    cases e
theorem ok_div : OpR X (binaryOp .FloorDiv) (rD X.K fun a b => opD .div [a, b]) := opR_imp op_fdivW fun x y H Q ⟨a, b, d, Hs, F1, F2, e, _, la, lb, q⟩ => by
  cases a <;> cases b <;> first | cases (show none = some d from e) | skip
  rename_i i j
  have e : (if decide (0 < j) && decide (j.natAbs < 2 ^ 9000) then some (D.int (i / j)) else none) = some d := e
  by_cases c : (decide (0 < j) && decide (j.natAbs < 2 ^ 9000)) = true
  · rw [if_pos c] at e
    cases e
    obtain ⟨c1, c2⟩ := Bool.and_eq_true_iff.mp c
    exact ⟨_, _, la.1, lb.1, wide_div (of_decide_eq_true c1) (of_decide_eq_true c2) (by decide) (by decide), q⟩
  · rw [if_neg c] at e
    cases e
theorem ok_mod : OpR X (binaryOp .Mod) (rD X.K fun a b => opD .mod [a, b]) := opR_imp op_mod fun x y H Q ⟨a, b, d, Hs, F1, F2, e, _, la, lb, q⟩ => by
  cases a <;> cases b <;> first | cases (show none = some d from e) | skip
  rename_i i j
  have e : (if 0 < j then some (D.int (i % j)) else none) = some d := e
  by_cases c : 0 < j
  · rw [if_pos c] at e
    cases e
    exact ⟨_, _, la.1, lb.1, c, q⟩
  · rw [if_neg c] at e
    cases e
theorem ok_lt : OpR X (compareOp .Lt) (rD X.K fun a b => opD (.cmp .lt) [a, b]) := opR_imp op_lt fun x y H Q ⟨a, b, d, Hs, F1, F2, e, _, la, lb, q⟩ => by
  cases a <;> cases b <;> first | (cases e; exact ⟨_, _, la.1, lb.1, q⟩) | cases e
theorem ok_le : OpR X (compareOp .LtE) (rD X.K fun a b => opD (.cmp .le) [a, b]) := opR_imp op_le fun x y H Q ⟨a, b, d, Hs, F1, F2, e, _, la, lb, q⟩ => by
  cases a <;> cases b <;> first | (cases e; exact ⟨_, _, la.1, lb.1, q⟩) | cases e
theorem ok_gt : OpR X (compareOp .Gt) (rD X.K fun a b => opD (.cmp .gt) [a, b]) := opR_imp op_gt fun x y H Q ⟨a, b, d, Hs, F1, F2, e, _, la, lb, q⟩ => by
  cases a <;> cases b <;> first | (cases e; exact ⟨_, _, la.1, lb.1, q⟩) | cases e
theorem ok_ge : OpR X (compareOp .GtE) (rD X.K fun a b => opD (.cmp .ge) [a, b]) := opR_imp op_ge fun x y H Q ⟨a, b, d, Hs, F1, F2, e, _, la, lb, q⟩ => by
  cases a <;> cases b <;> first | (cases e; exact ⟨_, _, la.1, lb.1, q⟩) | cases e
theorem eq_inv {c : Bool → Bool} {a b d : D} (e : ((if (plain 60 a && plain 60 b) = true then some (c (same a b)) else none : Option Bool).map D.bl) = some d) : plain 60 a = true ∧ plain 60 b = true ∧ d = .bl (c (same a b)) := by
  by_cases k : (plain 60 a && plain 60 b) = true
  · rw [if_pos k] at e
    cases e
    obtain ⟨k1, k2⟩ := Bool.and_eq_true_iff.mp k
    exact ⟨k1, k2, rfl⟩
  · rw [if_neg k] at e
    cases e
theorem shp {d : D} {v : V} {K : PySem.W.Frag} {Hs H : Hp} {F : List Addr} (sb : Sub Hs H) (k : plain 60 d = true) (l : Lv K Hs H d v F) : Dp K H v (dat d) ∧ SeqAt.shaped (dat d) = true := by
  obtain ⟨h1, h2, h3⟩ := l.dp sb k
  exact ⟨h1, Bool.and_eq_true_iff.mpr ⟨h2, decide_eq_true (by omega)⟩⟩
theorem ok_eq (hu : X.A.units + 64 < cLine) : OpR X (compareOp .Eq) (rD X.K fun a b => opD (.cmp .eq) [a, b]) := opR_imp (op_eqD hu) fun x y H Q ⟨a, b, d, Hs, F1, F2, e, sb, la, lb, q⟩ => by
  have e : ((cmpD .eq a b).map D.bl) = some d := e
  obtain ⟨k1, k2, rfl⟩ := eq_inv (c := id) (a := a) (b := b) (d := d) (by cases a <;> cases b <;> exact e)
  obtain ⟨h1, h2⟩ := shp sb k1 la
  obtain ⟨h3, h4⟩ := shp sb k2 lb
  refine ⟨_, _, h1, h3, h2, h4, ?_⟩
  rw [eqv_same a b 60 60 k1 k2]
  exact q
theorem ok_ne (hu : X.A.units + 64 < cLine) : OpR X (compareOp .NotEq) (rD X.K fun a b => opD (.cmp .ne) [a, b]) := opR_imp (op_neD hu) fun x y H Q ⟨a, b, d, Hs, F1, F2, e, sb, la, lb, q⟩ => by
  have e : ((cmpD .ne a b).map D.bl) = some d := e
  obtain ⟨k1, k2, rfl⟩ := eq_inv (c := fun z => !z) (a := a) (b := b) (d := d) (by cases a <;> cases b <;> exact e)
  obtain ⟨h1, h2⟩ := shp sb k1 la
  obtain ⟨h3, h4⟩ := shp sb k2 lb
  refine ⟨_, _, h1, h3, h2, h4, ?_⟩
  rw [eqv_same a b 60 60 k1 k2]
  exact q
theorem Lv.nonB {K : PySem.W.Frag} {Hs H : Hp} {a : D} {x : V} {F : List Addr} (l : Lv K Hs H a x F) : decide (x = .non) = (match a with
    | .non => true
    | _ => false) := by
  have go : ∀ {y : V} {P : V → Prop}, x = y → P y → P x := fun e p => by rw [e]; exact p
  cases a with
  | non => exact go (P := fun z => decide (z = .non) = true) l.1 rfl
  | bl _ => exact go (P := fun z => decide (z = .non) = false) l.1 rfl
  | int _ => exact go (P := fun z => decide (z = .non) = false) l.1 rfl
  | str _ => exact go (P := fun z => decide (z = .non) = false) l.1 rfl
  | tup _ =>
    obtain ⟨p, vs, e, _⟩ := l
    exact go (P := fun z => decide (z = .non) = false) e rfl
  | lst f _ =>
    cases f with
    | false =>
      obtain ⟨p, vs, e, _⟩ := l
      exact go (P := fun z => decide (z = .non) = false) e rfl
    | true =>
      obtain ⟨p, vs, F', e, _⟩ := l
      exact go (P := fun z => decide (z = .non) = false) e rfl
  | dic _ _ => exact l.elim
  | obj _ _ => exact l.elim
  | exc _ _ =>
    obtain ⟨_, a, dd, vs, e, _⟩ := l
    exact go (P := fun z => decide (z = .non) = false) e rfl
theorem ok_isN : OpR X (compareOp .Is) (rD X.K fun a b => opD (.cmp .isN) [a, b]) := opR_imp op_isN fun x y H Q ⟨a, b, d, Hs, F1, F2, e, _, la, lb, q⟩ => by
  have e : ((cmpD .isN a b).map D.bl) = some d := e
  cases b with
  | non =>
    refine ⟨lb.1, ?_⟩
    rw [la.nonB]
    cases a <;> (cases e; exact q)
  | _ => cases a <;> cases e
theorem ok_notN : OpR X (compareOp .IsNot) (rD X.K fun a b => opD (.cmp .notN) [a, b]) := opR_imp op_notN fun x y H Q ⟨a, b, d, Hs, F1, F2, e, _, la, lb, q⟩ => by
  have e : ((cmpD .notN a b).map D.bl) = some d := e
  cases b with
  | non =>
    refine ⟨lb.1, ?_⟩
    rw [la.nonB]
    cases a <;> (cases e; exact q)
  | _ => cases a <;> cases e
/-- the items of a list or tuple -/
theorem Lv.seq {K : PySem.W.Frag} {Hs H : Hp} {b : D} {y : V} {F : List Addr} {l : List D} (sb : Sub Hs H) (h : seqD b = some l) (lb : Lv K Hs H b y F) : ∃ p xs F', y = .ref p ∧ (SqL K H p xs ∨ SqT K H p xs) ∧ LvL K Hs H l xs F' := by
  cases b with
  | tup m =>
    cases h
    obtain ⟨p, vs, e, t, _, k⟩ := lb
    exact ⟨p, vs, _, e, .inr (sqT_sub sb t), k⟩
  | lst f m =>
    cases h
    cases f with
    | false =>
      obtain ⟨p, vs, e, t, _, _, k⟩ := lb
      exact ⟨p, vs, _, e, .inl (sqL_sub sb t), k⟩
    | true =>
      obtain ⟨p, vs, F', e, t, _, _, k⟩ := lb
      exact ⟨p, vs, _, e, .inl (SqL.of t), k⟩
  | _ => cases h
theorem mem_inv {c : Cmp} {n : Bool → Bool} {a b d : D} (hc : (c = .mem ∧ n = id) ∨ (c = .nmem ∧ n = fun z => !z)) (e : opD (.cmp c) [a, b] = some d) : (∃ l, seqD b = some l ∧ Mp.scal a = true ∧ l.all Mp.scal = true ∧ d = .bl (n (l.any fun e => same e a))) ∨ ∃ x z, a = .str [x] ∧ b = .str z ∧ d = .bl (n (decide (x ∈ z))) := by
  have fin : ∀ l : List D, ((if (Mp.scal a && l.all Mp.scal) = true then some (n (l.any fun e => same e a)) else none : Option Bool).map D.bl) = some d → Mp.scal a = true ∧ l.all Mp.scal = true ∧ d = .bl (n (l.any fun e => same e a)) := fun l z => by
    by_cases k : (Mp.scal a && l.all Mp.scal) = true
    · rw [if_pos k] at z
      cases z
      obtain ⟨k1, k2⟩ := Bool.and_eq_true_iff.mp k
      exact ⟨k1, k2, rfl⟩
    · rw [if_neg k] at z
      cases z
  rcases hc with ⟨rfl, rfl⟩ | ⟨rfl, rfl⟩ <;> cases b with
  | lst f l => exact .inl ⟨l, rfl, fin l (by
      cases a with
      | str s => match s, e with
        | [], e => exact e
        | [_], e => exact e
        | _ :: _ :: _, e => exact e
      | _ => exact e)⟩
  | tup l => exact .inl ⟨l, rfl, fin l (by
      cases a with
      | str s => match s, e with
        | [], e => exact e
        | [_], e => exact e
        | _ :: _ :: _, e => exact e
      | _ => exact e)⟩
  | str z => exact .inr (by
      cases a with
      | str s => match s, e with
        | [], e => cases e
        | [x], e => cases e; exact ⟨x, z, rfl, rfl, rfl⟩
        | _ :: _ :: _, e => cases e
      | _ => cases e)
  | _ => (cases a with
      | str s => match s, e with
        | [], e => cases e
        | [_], e => cases e
        | _ :: _ :: _, e => cases e
      | _ => cases e)
theorem ok_mem : OpR X (compareOp .In) (rD X.K fun a b => opD (.cmp .mem) [a, b]) := opR_imp (opR_or op_in_seq op_in_sign) fun x y H Q ⟨a, b, d, Hs, F1, F2, e, sb, la, lb, q⟩ => by
  rcases mem_inv (.inl ⟨rfl, rfl⟩) e with ⟨l, h1, h2, h3, rfl⟩ | ⟨c, z, rfl, rfl, rfl⟩
  · obtain ⟨p, xs, F', e1, e2, e3⟩ := lb.seq sb h1
    obtain ⟨k1, k2⟩ := la.scal h2
    obtain ⟨k3, k4⟩ := e3.scal h3
    refine .inl ⟨p, xs, e1, e2, k2, k4, ?_⟩
    rw [k1, k3, inV_scal h2 h3]
    exact q
  · refine .inr ⟨c, sV z, la.1, lb.1, ?_⟩
    have e : (sV z).cps.toList = z := rfl
    rw [e]
    exact q
theorem ok_nmem : OpR X (compareOp .NotIn) (rD X.K fun a b => opD (.cmp .nmem) [a, b]) := opR_imp (opR_or op_notIn_seq op_notIn_sign) fun x y H Q ⟨a, b, d, Hs, F1, F2, e, sb, la, lb, q⟩ => by
  rcases mem_inv (.inr ⟨rfl, rfl⟩) e with ⟨l, h1, h2, h3, rfl⟩ | ⟨c, z, rfl, rfl, rfl⟩
  · obtain ⟨p, xs, F', e1, e2, e3⟩ := lb.seq sb h1
    obtain ⟨k1, k2⟩ := la.scal h2
    obtain ⟨k3, k4⟩ := e3.scal h3
    refine .inl ⟨p, xs, e1, e2, k2, k4, ?_⟩
    rw [k1, k3, inV_scal h2 h3]
    exact q
  · refine .inr ⟨c, sV z, la.1, lb.1, ?_⟩
    have e : (sV z).cps.toList = z := rfl
    rw [e]
    exact q
/-- any comparison -/
theorem ok_cmp (hu : X.A.units + 64 < cLine) (c : Cmp) : OpR X (compareOp (cmpO c)) (rD X.K fun a b => opD (.cmp c) [a, b]) := by
  cases c with
  | lt => exact ok_lt
  | le => exact ok_le
  | gt => exact ok_gt
  | ge => exact ok_ge
  | eq => exact ok_eq hu
  | ne => exact ok_ne hu
  | isN => exact ok_isN
  | notN => exact ok_notN
  | mem => exact ok_mem
  | nmem => exact ok_nmem
/-- what an operator gives is no object -/
theorem opD_scal {o : Op} {ds : List D} {d : D} (h : opD o ds = some d) : Mp.scal d = true := by
  unfold opD at h
  split at h <;> first
    | (cases h; rfl)
    | (cases h; done)
    | (split at h <;> first | (cases h; rfl) | (cases h; done))
    | (obtain ⟨b, _, rfl⟩ := Option.map_eq_some_iff.mp h; rfl)
    | (obtain ⟨b, _, h⟩ := Option.bind_eq_some_iff.mp h; split at h <;> first | (cases h; rfl) | (cases h; done))
theorem ofS_strI (i : Int) : Str.ofString (toString i) = sV (strI i) := by
  rw [PySem.Str.ofString_eq_toList]
  rfl
theorem strI_ok {i : Int} (h : digOk i.natAbs = true) : okS (strI i) := by
  refine ⟨fun c hc => ?_, ?_⟩
  · unfold strI at hc
    obtain ⟨x, _, rfl⟩ := List.mem_map.mp hc
    have := x.valid
    simp only [UInt32.isValidChar, Nat.isValidChar] at this
    show x.val.toNat < 1114112
    omega
  · have := PySem.int_text_fits10 (a := i) (of_decide_eq_true h)
    rw [ofS_strI, sV_length] at this
    exact this
theorem strip_len (b a : List Nat) : (∀ c ∈ stripL b a, c ∈ a) ∧ (stripL b a).length ≤ a.length := by
  have d1 : ∀ (p : Nat → Bool) (l : List Nat), (l.dropWhile p).Sublist l := fun p l => List.dropWhile_sublist p
  unfold stripL
  have s1 := (d1 (fun c => b.contains c) a)
  have s2 := (d1 (fun c => b.contains c) (a.dropWhile fun c => b.contains c).reverse)
  refine ⟨fun c hc => s1.subset (List.mem_reverse.mp (s2.subset (List.mem_reverse.mp hc))), ?_⟩
  rw [List.length_reverse]
  have := s2.length_le
  have := s1.length_le
  simp only [List.length_reverse] at *
  omega
theorem allS_mem : ∀ {l : List D} {ys : List (List Nat)}, allS l = some ys → ∀ y ∈ ys, D.str y ∈ l
  | [], _, h, y, hy => by cases h; cases hy
  | d :: l, ys, h, y, hy => by
    cases d <;> first | (cases h; done) | skip
    obtain ⟨zs, h1, h2⟩ := Option.map_eq_some_iff.mp h
    subst h2
    rcases List.mem_cons.mp hy with q | q
    · rw [q]; exact List.mem_cons_self
    · exact List.mem_cons_of_mem _ (allS_mem h1 y q)
theorem join_len (t : List Nat) : ∀ ys : List (List Nat), (∀ c ∈ joinS t ys, c ∈ t ∨ ∃ y ∈ ys, c ∈ y) ∧ (joinS t ys).length ≤ (ys.map (·.length)).sum + ys.length * t.length
  | [] => ⟨fun c h => absurd h List.not_mem_nil, Nat.zero_le _⟩
  | [p] => ⟨fun c h => .inr ⟨p, List.mem_cons_self, h⟩, by simp [joinS]⟩
  | p :: q :: r => by
    obtain ⟨h1, h2⟩ := join_len t (q :: r)
    refine ⟨fun c h => ?_, ?_⟩
    · rcases List.mem_append.mp (show c ∈ p ++ (t ++ joinS t (q :: r)) from h) with z | z
      · exact .inr ⟨p, List.mem_cons_self, z⟩
      · rcases List.mem_append.mp z with z | z
        · exact .inl z
        · rcases h1 c z with w | ⟨y, hy, w⟩
          · exact .inl w
          · exact .inr ⟨y, List.mem_cons_of_mem _ hy, w⟩
    · show (p ++ (t ++ joinS t (q :: r))).length ≤ _
      rw [List.length_append, List.length_append]
      simp only [List.map_cons, List.sum_cons, List.length_cons, Nat.succ_mul] at h2 ⊢
      omega
theorem join_str {t : List Nat} {f : Bool} {l : List D} {ys : List (List Nat)} (h : allS l = some ys) (hs : ∀ s, D.str s ∈ [D.str t] → okS s) (hl : ∀ s, D.str s ∈ l → okS s) (c : (ys.map (·.length)).sum + ys.length * t.length ≤ 16777216) : okS (joinS t ys) := by
  obtain ⟨h1, h2⟩ := join_len t ys
  refine ⟨fun x hx => ?_, Nat.le_trans h2 c⟩
  rcases h1 x hx with q | ⟨y, hy, q⟩
  · exact (hs t List.mem_cons_self).1 x q
  · exact (hl y (allS_mem h y hy)).1 x q
mutual
/-- every text in it, also inside lists and tuples, may stand -/
def okD : D → Prop
  | .str s => okS s
  | .tup l => okDs l
  | .lst _ l => okDs l
  | _ => True
def okDs : List D → Prop
  | [] => True
  | d :: l => okD d ∧ okDs l
end
theorem okDs_mem : ∀ {l : List D}, okDs l → ∀ d ∈ l, okD d
  | [], _, _, h => absurd h List.not_mem_nil
  | a :: l, ⟨h1, h2⟩, d, h => by
    rcases List.mem_cons.mp h with q | q
    · rw [q]; exact h1
    · exact okDs_mem h2 d q
theorem opD_str {o : Op} {ds : List D} {s : List Nat} (h : opD o ds = some (.str s)) (hd : okDs ds) : okS s := by
  have hs : ∀ t, D.str t ∈ ds → okS t := fun t ht => okDs_mem hd _ ht
  unfold opD at h
  split at h
  case h_4 a b =>
    split at h
    · rename_i c
      cases h
      refine ⟨fun x hx => ?_, ?_⟩
      · rcases List.mem_append.mp hx with q | q
        · exact (hs a List.mem_cons_self).1 x q
        · exact (hs b (List.mem_cons_of_mem _ List.mem_cons_self)).1 x q
      · rw [List.length_append]; exact c
    · cases h
  case h_6 a =>
    split at h
    · rename_i c
      cases h
      exact strI_ok c
    · cases h
  case h_10 a b =>
    cases h
    obtain ⟨h1, h2⟩ := strip_len b a
    have k := hs a List.mem_cons_self
    exact ⟨fun x hx => k.1 x (h1 x hx), Nat.le_trans h2 k.2⟩
  case h_11 t f l =>
    obtain ⟨ys, h1, h2⟩ := Option.bind_eq_some_iff.mp h
    split at h2
    · rename_i c
      cases h2
      exact join_str (f := f) h1 (fun z hz => hs z (by rw [List.mem_singleton.mp hz]; exact List.mem_cons_self)) (fun z hz => okDs_mem (okDs_mem hd (.lst f l) (List.mem_cons_of_mem _ List.mem_cons_self)) _ hz) c
    · cases h2
  all_goals first
    | (cases h; done)
    | (split at h <;> (cases h; done))
    | (obtain ⟨b, _, q⟩ := Option.map_eq_some_iff.mp h; cases q; done)
mutual
theorem Lv.okD {K : PySem.W.Frag} {Hs H : Hp} : ∀ {d : D} {v : V} {F : List Addr}, Lv K Hs H d v F → Mp.okD d
  | .non, _, _, _ => trivial
  | .bl _, _, _, _ => trivial
  | .int _, _, _, _ => trivial
  | .str _, _, _, h => h.2.2
  | .tup _, _, _, ⟨_, _, _, _, _, c⟩ => LvL.okDs c
  | .lst false _, _, _, ⟨_, _, _, _, _, _, c⟩ => LvL.okDs c
  | .lst true _, _, _, ⟨_, _, _, _, _, _, _, c⟩ => LvL.okDs c
  | .dic _ _, _, _, h => h.elim
  | .obj _ _, _, _, h => h.elim
  | .exc _ _, _, _, _ => trivial
theorem LvL.okDs {K : PySem.W.Frag} {Hs H : Hp} : ∀ {l : List D} {vs : List V} {F : List Addr}, LvL K Hs H l vs F → Mp.okDs l
  | [], _, _, _ => trivial
  | _ :: _, _, _, ⟨_, _, _, _, _, _, c, d⟩ => ⟨Lv.okD c, LvL.okDs d⟩
end
theorem Lv.okS {K : PySem.W.Frag} {Hs H : Hp} {s : List Nat} {v : V} {F : List Addr} (l : Lv K Hs H (.str s) v F) : Mp.okS s := l.2.2
theorem LvL.okS {K : PySem.W.Frag} {Hs H : Hp} : ∀ {ds : List D} {vs : List V} {F : List Addr}, LvL K Hs H ds vs F → ∀ t, D.str t ∈ ds → Mp.okS t
  | [], _, _, _, _, h => absurd h List.not_mem_nil
  | d :: ds, _, _, ⟨v, vs, F1, F2, _, _, c, m⟩, t, h => by
    rcases List.mem_cons.mp h with z | z
    · rw [← z] at c; exact c.okS
    · exact LvL.okS m t z
theorem opD_lv {K : PySem.W.Frag} {Hs H Hs' H' : Hp} {o : Op} {ds : List D} {d : D} {vs : List V} {F : List Addr} (h : opD o ds = some d) (l : LvL K Hs H ds vs F) : Lv K Hs' H' d (vS d) [] := by
  have k := opD_scal h
  cases d with
  | non => exact ⟨rfl, rfl⟩
  | bl _ => exact ⟨rfl, rfl⟩
  | int _ => exact ⟨rfl, rfl⟩
  | str s => exact ⟨rfl, rfl, opD_str h l.okDs⟩
  | _ => cases k
end
end Mp
end
section
/-! Mp exc2: isinstance of kept exceptions. -/
namespace Mp
open PySem PySem.Spec PyProof.Rows L2
/-- a class by its name: an own one, ValueError -/
def clsV (K : PySem.W.Frag) (x : Str) : Bool → V
  | true => .ref (He.ga K x)
  | false => .ty "ValueError"
def clsU (K : PySem.W.Frag) (x : Str) : Bool → Value
  | true => .ref (He.ga K x)
  | false => .type "ValueError"
theorem clsVU (K : PySem.W.Frag) (x : Str) (b : Bool) : ClsV (clsV K x b) (clsU K x b) := by
  cases b
  · exact .ty _
  · exact .own _
def bltTys : List String := ["NoneType", "bool", "int", "str", "tuple", "list"]
/-- what is known of the exception classes -/
structure XFacts (tb : Tbl) (K : PySem.W.Frag) (mg : Str → Option Value) : Prop where
  ex : ∀ k ∈ tb.exs, ExcC K (He.ga K (exNm k))
  nm : ∀ q ∈ tb.xt, (q.2.1 = true ∧ mg q.1 = some (clsU K q.1 q.2.1)) ∨ (q.2.1 = false ∧ mg q.1 = none ∧ q.1 = "ValueError")
  kit : ∀ q ∈ tb.xt, ∀ k ∈ tb.exs, PySem.W.kitOne K (exC K k) (clsU K q.1 q.2.1) = some (q.2.2.contains k) ∧ PySem.W.exmOne K (exC K k) (clsU K q.1 q.2.1) = some (q.2.2.contains k)
  blt : ∀ q ∈ tb.xt, ∀ t ∈ bltTys, PySem.W.kitOne K (.type t) (clsU K q.1 q.2.1) = some false
  mkx : ∀ k ∈ tb.mks, mg (exNm k) = some (.ref (He.ga K (exNm k))) ∧ PySem.W.excIn K (He.ga K (exNm k)) He.veBase "ValueError.__new__" = true ∧ PySem.W.keepIn K (.ref (He.ga K (exNm k))) = true ∧
    PySem.W.subIn K (.ref (He.ga K (exNm k))) (.type "BaseException") = some true ∧ PySem.W.typeIn K (.ref (He.ga K (exNm k))) = some (.type "type") ∧ exFl k = []
/-- a value's type: of plain data, or a kept exception's class -/
inductive TyK (K : PySem.W.Frag) (H : Hp) : V → Value → Prop where
  | x {v : V} {t : Value} (h : TyX K H v t) : TyK K H v t
  | e {a D : Addr} (C : ExcC K D) (h : H a = some (ExcH (.ref D) none a)) : TyK K H (.ref a) (.ref D)
section
variable {X : Cx} {pins : List (Addr × Obj)} {σ : L2.St} {H : Hp} {s : Shared}
theorem kit_k {v : V} {u t : Value} (I : Inv X pins σ H s) (rv : RelV v u) (ty : TyK X.K H v t) : ∃ P : Heap → Prop, PySem.W.KitX X.K u t P ∧ P s.heap ∧ u ≠ .builtin "__main__.__loader__#opaque" := by
  cases ty with
  | x h => exact L2.kit_of I rv h
  | @e a D C h =>
    cases (show u = Value.ref a from rv)
    obtain ⟨⟨oe, vs, h1, h2, h3⟩, _, _⟩ := (show ObjOk X.prog X.w H s.heap a (ExcH (.ref D) none a) from I.hok a _ h)
    have J : PySem.W.InstAt s.heap a oe D none := by
      obtain ⟨oc, od, oda, osl⟩ := oe
      obtain ⟨z1, z2⟩ := h2
      dsimp only at z1 z2 h3
      subst z1 z2 h3
      exact ⟨h1, rfl, rfl, trivial⟩
    exact ⟨_, PySem.W.handS_kitx_exc C.hg C.hk C.hs C.hd C.ha C.hn C.ht C.hm, J, fun z => nomatch z⟩
/-- isinstance(v, c) -/
theorem cr_isK : CallR X (.builtin "isinstance") (fun vs H Q => ∃ (v c : V) (t u : Value) (b : Bool), vs = [v, c] ∧ ClsV c u ∧ TyK X.K H v t ∧ PySem.W.kitOne X.K t u = some b ∧ Q (.bl b) H) := by
  intro ps st σ H vs us Q I rv hh
  obtain ⟨v, c, t, u, b, rfl, k, ty, e, q⟩ := hh
  obtain ⟨u1, u2, rfl, r1, r2⟩ := vals2 rv
  have e2 := k.eq r2
  subst e2
  obtain ⟨P, Z, p, hx⟩ := kit_k I r1 ty
  exact PySem.W.kia_one Z I.kIn p e hx fun tk => ⟨.bl b, H, I.tok tk, rfl, q⟩
/-- isinstance(v, (c1, c2, ..)) -/
theorem cr_isKT : CallR X (.builtin "isinstance") (fun vs H Q => ∃ (v : V) (tp : Addr) (cs : List V) (t : Value) (ws : List Value) (b : Bool), vs = [v, .ref tp] ∧ H tp = some (.tup cs) ∧ Paired ClsV cs ws ∧ TyK X.K H v t ∧ PySem.W.kitAny X.K t ws = some b ∧ Q (.bl b) H) := by
  intro ps st σ H vs us Q I rv hh
  obtain ⟨v, tp, cs, t, ws, b, rfl, hT, k, ty, e, q⟩ := hh
  obtain ⟨u1, u2, rfl, r1, r2⟩ := vals2 rv
  cases (show u2 = Value.ref tp from r2)
  obtain ⟨P, Z, p, hx⟩ := kit_k I r1 ty
  obtain ⟨_, its, rw, o, h1, h2, n, h3⟩ := (show ObjOk X.prog X.w H st.heap tp (.tup cs) from I.hok tp _ hT)
  have e3 := ClsV.all k rw
  subst e3
  obtain ⟨oc, od, dt, sl⟩ := o
  simp only at h2 h3
  subst h2 h3
  exact PySem.W.kia_tup Z I.kIn p h1 e hx fun tk => ⟨.bl b, H, I.tok tk, rfl, q⟩
end
theorem kit_any {K : PySem.W.Frag} {t : Value} : ∀ {l : List (Value × Bool)}, (∀ q ∈ l, PySem.W.kitOne K t q.1 = some q.2) → PySem.W.kitAny K t (l.map (·.1)) = some (l.any (·.2))
  | [], _ => rfl
  | q :: l, h => by
    have ih := kit_any (l := l) fun p hp => h p (List.mem_cons_of_mem _ hp)
    refine L2.kitAny_cons (h q List.mem_cons_self) (fun e => ?_) fun e => ?_
    · rw [List.any_cons, e, Bool.false_or]
      exact ih
    · rw [List.any_cons, e, Bool.true_or]
end Mp
end
section
/-! Mp snd: the small language's values are the text's. -/
namespace Mp
open PySem PySem.Spec PyProof.Rows L2

/-- a def's promise, by what its calls give -/
def spOf (K : PySem.W.Frag) (XR : XRel) (n : Nat) (r : List D → ROut) : Sp := fun vs H Q E => vs.length = n ∧ ∃ Hs ds, Sub Hs H ∧ LvL K Hs H ds vs [] ∧ (match r ds with
  | .ok d [] => ∀ v H' Hs' F, Same H H' → Same Hs Hs' → Sub Hs' H' → Lv K Hs' H' d v F → (∀ p ∈ F, H p = none ∧ Hs' p = none) → F.Nodup → (∀ p o, Hs' p = some o → Hs p = some o ∨ H p = none) → Q v H'
  | .exc k l => ∀ c dd H' Hs', Same H H' → Same Hs Hs' → Sub Hs' H' → (∀ p o, Hs' p = some o → Hs p = some o ∨ H p = none) → XR k l c dd Hs' → E c dd H'
  | _ => False)
/-- the limit of str is as at the start -/
def DigK (K : PySem.W.Frag) : Prop := ∀ h : Heap, K.In h → h.NoDigits
/-- the text's surroundings -/
structure Cxt (C : Ctx) (XR : XRel) (sc : Scope) (X : Cx) : Prop where
  N : X.N = C.N
  nd : C.N.Nodup
  sc : X.env.scope = sc
  calm : X.calm = true
  dig : DigK X.K
  xf : XFacts C.tb X.K X.mg
  xr : XR = XRk X.K
  room : Room C.lev X.A
  free : ∀ x, C.free.contains x = true → X.mg x = none
  glb : ∀ x z, C.glbs.lookup x = some z → ∃ t, X.mg x = some (.str (sV z) t)
  fn : ∀ f x, C.fnm[f]? = some x → ∃ (a : Addr) (fd : FuncData) (ps : List Str) (n : Nat), X.mg x = some (.ref a) ∧ PySem.W.keepIn X.K (.ref a) = true ∧ Binds X.K fd ps [] ∧
    FnOk X.prog X.w X.K X.mg X.base (L2.CX X.prog X.w) C.lev a fd ps (spOf X.K XR n (C.cl f)) ∧ ∀ ds, C.cl f ds ≠ .bad → ds.length = n
section
variable {C : Ctx} {XR : XRel} {sc : Scope} {X : Cx}
theorem Cxt.ndX (c : Cxt C XR sc X) : X.N.Nodup := by rw [c.N]; exact c.nd
theorem Cxt.slot (c : Cxt C XR sc X) {i : Nat} {x : Str} (h : C.N[i]? = some x) : X.N[i]? = some x := by rw [c.N]; exact h
theorem vis_of {x : Str} (h : visB sc x = true) (e : X.env.scope = sc) : Vis X.env.scope x ∧ (x == ("__debug__" : Str)) = false ∧ (x == ("__classdict__" : Str)) = false := by
  unfold visB at h
  obtain ⟨h1, h2⟩ := Bool.and_eq_true_iff.mp h
  obtain ⟨h2, h3⟩ := Bool.and_eq_true_iff.mp h2
  refine ⟨?_, by simpa using h2, by simpa using h3⟩
  rw [e]
  split at h1
  · exact .inl (by assumption)
  · exact .inr (.inl (by assumption))
  · exact .inr (.inr (by assumption))
  · cases h1
theorem loc_of {x : Str} (h : locB sc x = true) (e : X.env.scope = sc) : Loc X.env.scope x := by
  unfold locB at h
  rw [e]
  split at h
  · exact .inl (by assumption)
  · exact .inr (by assumption)
  · cases h
theorem gl_of {x : Str} (h : glB sc x = true) (e : X.env.scope = sc) : Gl X x ∧ (x == ("__debug__" : Str)) = false := by
  unfold glB at h
  obtain ⟨h1, h2⟩ := Bool.and_eq_true_iff.mp h
  refine ⟨?_, by simpa using h2⟩
  show X.env.scope.names.lookup x = _
  rw [e]
  exact of_decide_eq_true h1
theorem Cxt.fr (c : Cxt C XR sc X) {x : Str} (h : freeB C sc x = true) : Gl X x ∧ X.mg x = none := by
  unfold freeB at h
  obtain ⟨h1, h2⟩ := Bool.and_eq_true_iff.mp h
  exact ⟨(gl_of h1 c.sc).1, c.free x h2⟩
end

/-! ### forms of the text -/
def plainT : Expr → Bool
  | .UnaryOp .Not _ _ => false
  | .BoolOp _ _ _ => false
  | .IfExp _ _ _ _ => false
  | .Compare _ _ _ _ => false
  | _ => true
theorem isTrue_of {e : Expr} (h : plainT e = true) (env : PySem.Env) (whole : Sem Value) : isTrue e env whole = (do let v ← whole; standAt e.pos; holding [v] (truthy v)) := by
  cases e with
  | UnaryOp op a p => cases op <;> first | rfl | cases h
  | BoolOp _ _ _ => cases h
  | IfExp _ _ _ _ => cases h
  | Compare _ _ _ _ => cases h
  | _ => rfl
theorem chk_star {C : Ctx} {sc : Scope} {x : Expr} {p : Pos} (c : E) : chkE C c sc (.Starred x p) = false := by
  cases c with
  | lit d => cases d <;> rfl
  | _ => rfl
theorem chk_slice {C : Ctx} {sc : Scope} {a b d : Option Expr} {p : Pos} (c : E) : chkE C c sc (.Slice a b d p) = false := by
  cases c with
  | lit d => cases d <;> rfl
  | _ => rfl
theorem chk_set {C : Ctx} {sc : Scope} {l : List Expr} {k : Nat} {p : Pos} (c : E) : chkE C c sc (.Set l k p) = false := by
  cases c with
  | lit d => cases d <;> rfl
  | _ => rfl
theorem star_of {e : Expr} {es : List Expr} {env : PySem.Env} (h : ∀ x p, e ≠ .Starred x p) : starEach (e :: es) env = (false, eval e env) :: starEach es env := by
  cases e with
  | Starred x p => exact absurd rfl (h x p)
  | _ => rfl
theorem chk_noStar {C : Ctx} {sc : Scope} {c : E} {e : Expr} (h : chkE C c sc e = true) : ∀ x p, e ≠ .Starred x p := fun x p q => by
  rw [q, chk_star] at h; cases h
theorem stars_of {C : Ctx} {sc : Scope} {env : PySem.Env} {pos : Pos} : ∀ {cs : List E} {es : List Expr}, chkEs C cs sc es = true → (backTo pos (starEach es env)).any (·.1) = false
  | [], [], _ => rfl
  | [], _ :: _, h => by cases h
  | _ :: _, [], h => by cases h
  | c :: cs, e :: es, h => by
    obtain ⟨h1, h2⟩ := Bool.and_eq_true_iff.mp (show (chkE C c sc e && chkEs C cs sc es) = true from h)
    rw [star_of (chk_noStar h1)]
    have ih := stars_of (env := env) (pos := pos) h2
    unfold backTo at ih ⊢
    rw [List.map_cons, List.any_cons, ih]
    rfl
theorem folded_of {C : Ctx} {sc : Scope} {c : E} {e : Expr} {env : PySem.Env} (h : chkE C c sc e = true) : ∀ x, foldedSetIterable e env x = pure x := fun x => by
  cases e with
  | Set l k p => rw [chk_set] at h; cases h
  | _ => rfl
theorem plainIx_of {i : Expr} (h : notSlice i = true) : PlainIx i := fun o u => by
  cases i with
  | Slice _ _ _ _ => cases h
  | _ => rfl

/-! ### what is proved of a term -/
structure Good (C : Ctx) (XR : XRel) (c : E) : Prop where
  v : ∀ (sc : Scope) (X : Cx) (W : WX) (e : Expr), Cxt C XR sc X → Takes X W → chkE C c sc e = true → PE X e (rdV X.K XR C.cl W c)
  b : ∀ (sc : Scope) (X : Cx) (W : WX) (e : Expr), Cxt C XR sc X → Takes X W → chkE C c sc e = true → PE X e (rdB X.K XR C.cl W c)
  t : ∀ (sc : Scope) (X : Cx) (W : WX) (e : Expr), Cxt C XR sc X → Takes X W → chkE C c sc e = true → isIf e = false → PT X e (rdT X.K XR C.cl W c)
section
variable {C : Ctx} {XR : XRel}
theorem pt_gen {c : E} {X : Cx} {W : WX} {e : Expr} (h : PE X e (rdV X.K XR C.cl W c)) (p : plainT e = true) : PT X e (rdT X.K XR C.cl W c) := pt_val h fun w => isTrue_of p _ w
/-- a term that reads no place: only looked at, it is the same -/
theorem rdB_of {K : PySem.W.Frag} {W : WX} {c : E} (h : ∀ g, ev C.cl c true g = ev C.cl c false g) : ∀ σ H Q, rdB K XR C.cl W c σ H Q → rdV K XR C.cl W c σ H Q := fun σ H Q ⟨Hs, g, A, st, q⟩ =>
  ⟨Hs, g, A, st, by rw [h] at q; exact q.mono fun r _ p v H' Hs' A' F s x l => p v H' Hs' A' F s x.drop l⟩
theorem Good.of {c : E} (h : ∀ g, ev C.cl c true g = ev C.cl c false g) (pl : ∀ sc e, chkE C c sc e = true → plainT e = true)
    (v : ∀ (sc : Scope) (X : Cx) (W : WX) (e : Expr), Cxt C XR sc X → Takes X W → chkE C c sc e = true → PE X e (rdV X.K XR C.cl W c)) : Good C XR c :=
  ⟨v, fun sc X W e k t q => (v sc X W e k t q).imp (rdB_of h), fun sc X W e k t q _ => pt_gen (v sc X W e k t q) (pl sc e q)⟩

theorem good_lit (d : D) : Good C XR (.lit d) := by
  refine Good.of (fun _ => rfl) (fun sc e q => ?_) fun sc X W e k t q => ?_
  · have q : litB d e = true := q
    cases e with
    | Constant c _ _ => rfl
    | _ => cases d <;> cases q
  · have q : litB d e = true := q
    have go : ∀ {v : V}, (∀ Hs H, Lv X.K Hs H d v []) → ∀ σ H Q, rdV X.K XR C.cl W (.lit d) σ H Q → tC v σ H Q := fun lv σ H Q ⟨Hs, g, A, st, p⟩ => p _ H Hs A [] st Xst.refl (lv Hs H)
    cases e with
    | Constant c _ _ =>
      cases d with
      | int i =>
        cases c with
        | int j =>
          have e : i = j := of_decide_eq_true q
          subst e
          exact pe_int.imp (go fun _ _ => ⟨rfl, rfl⟩)
        | _ => cases q
      | bl a =>
        cases c with
        | bool b =>
          have e : a = b := by simpa [litB] using q
          subst e
          exact pe_bl.imp (go fun _ _ => ⟨rfl, rfl⟩)
        | _ => cases q
      | non =>
        cases c with
        | none => exact pe_non.imp (go fun _ _ => ⟨rfl, rfl⟩)
        | _ => cases q
      | str z =>
        cases c with
        | str x =>
          obtain ⟨q1, q2⟩ := Bool.and_eq_true_iff.mp (show (decide (sV z = x) && (z.all (fun c => decide (c < 1114112)) && decide (z.length ≤ 1000))) = true from q)
          obtain ⟨q2, q3⟩ := Bool.and_eq_true_iff.mp q2
          have e : sV z = x := of_decide_eq_true q1
          subst e
          exact pe_str.imp (go fun _ _ => ⟨rfl, rfl, fun c hc => of_decide_eq_true (List.all_eq_true.mp q2 c hc), Nat.le_trans (of_decide_eq_true q3) (by decide)⟩)
        | _ => cases q
      | _ => cases c <;> cases q
    | _ => cases d <;> cases q

theorem good_var (i : Nat) : Good C XR (.var i) := by
  have inv : ∀ sc e, chkE C (.var i) sc e = true → ∃ x p, e = .Name x p ∧ C.N[i]? = some x ∧ visB sc x = true := fun sc e q => by
    cases e with
    | Name x p =>
      obtain ⟨h1, h2⟩ := Bool.and_eq_true_iff.mp (show (decide (C.N[i]? = some x) && visB sc x) = true from q)
      exact ⟨x, p, rfl, of_decide_eq_true h1, h2⟩
    | _ => cases q
  have pv : ∀ (sc : Scope) (X : Cx) (W : WX) (e : Expr), Cxt C XR sc X → chkE C (.var i) sc e = true → PE X e (tVar i) := fun sc X W e k q => by
    obtain ⟨x, p, rfl, h1, h2⟩ := inv sc e q
    obtain ⟨a1, a2, a3⟩ := vis_of h2 k.sc
    exact pe_var (k.slot h1) a1 a2 a3
  have v : ∀ (sc : Scope) (X : Cx) (W : WX) (e : Expr), Cxt C XR sc X → Takes X W → chkE C (.var i) sc e = true → PE X e (rdV X.K XR C.cl W (.var i)) := fun sc X W e k t q => (pv sc X W e k q).imp fun σ H Q ⟨Hs, g, A, st, p⟩ => by
    unfold ev at p
    cases eg : g[i]? with
    | none => rw [eg] at p; exact p.elim
    | some o =>
      cases o with
      | none => rw [eg] at p; exact p.elim
      | some d =>
        rw [eg] at p
        obtain ⟨v, e1, l⟩ := st.sl i d eg
        refine ⟨v, e1, ?_⟩
        cases hc : cold d with
        | true =>
          have p : EvG X.K XR W σ Hs H A (postV X.K σ Hs H A Q) (if (false || cold d) = true then .ok (d, g) else .ok (frz d, g.set i (some (frz d)))) := p
          rw [hc] at p
          have e := l.cold hc
          exact p v H Hs A [] st Xst.refl (by rw [e] at l; exact l)
        | false =>
          have p : EvG X.K XR W σ Hs H A (postV X.K σ Hs H A Q) (if (false || cold d) = true then .ok (d, g) else .ok (frz d, g.set i (some (frz d)))) := p
          rw [hc] at p
          obtain ⟨A', s', x'⟩ := st.frz eg
          exact p v H _ A' [] s' x' (l.frz (laid_same (st.off i)) fun q hq => laid_in hq)
  refine ⟨v, fun sc X W e k t q => (pv sc X W e k q).imp fun σ H Q ⟨Hs, g, A, st, p⟩ => ?_, fun sc X W e k t q _ => pt_gen (v sc X W e k t q) ?_⟩
  · unfold ev at p
    cases eg : g[i]? with
    | none => rw [eg] at p; exact p.elim
    | some o =>
      cases o with
      | none => rw [eg] at p; exact p.elim
      | some d =>
        rw [eg] at p
        obtain ⟨v, e1, l⟩ := st.sl i d eg
        exact ⟨v, e1, p v H Hs A (A i) st Xst.refl l⟩
  · obtain ⟨x, p, rfl, _⟩ := inv sc e q
    rfl
theorem good_mv (i : Nat) : Good C XR (.mv i) := by
  have inv : ∀ sc e, chkE C (.mv i) sc e = true → ∃ x p, e = .Name x p ∧ C.N[i]? = some x ∧ visB sc x = true := fun sc e q => by
    cases e with
    | Name x p =>
      obtain ⟨h1, h2⟩ := Bool.and_eq_true_iff.mp (show (decide (C.N[i]? = some x) && visB sc x) = true from q)
      exact ⟨x, p, rfl, of_decide_eq_true h1, h2⟩
    | _ => cases q
  refine Good.of (fun _ => rfl) (fun sc e q => ?_) fun sc X W e k t q => ?_
  · obtain ⟨x, p, rfl, _⟩ := inv sc e q
    rfl
  · obtain ⟨x, p, rfl, h1, h2⟩ := inv sc e q
    obtain ⟨a1, a2, a3⟩ := vis_of h2 k.sc
    refine (pe_var (k.slot h1) a1 a2 a3).imp fun σ H Q ⟨Hs, g, A, st, p⟩ => ?_
    unfold ev at p
    cases eg : g[i]? with
    | none => rw [eg] at p; exact p.elim
    | some o =>
      cases o with
      | none => rw [eg] at p; exact p.elim
      | some d =>
        rw [eg] at p
        obtain ⟨A', v, e1, l, s', x', _⟩ := st.take eg
        exact ⟨v, e1, p v H Hs A' (A i) s' x' l⟩

/-! ### operators -/
theorem chk_one {cs : List E} {sc : Scope} {a : Expr} (h : chkEs C cs sc [a] = true) : ∃ c, cs = [c] ∧ chkE C c sc a = true := by
  cases cs with
  | nil => cases h
  | cons c cs =>
    obtain ⟨h1, h2⟩ := Bool.and_eq_true_iff.mp (show (chkE C c sc a && chkEs C cs sc []) = true from h)
    cases cs with
    | nil => exact ⟨c, rfl, h1⟩
    | cons _ _ => cases h2
theorem chk_two {cs : List E} {sc : Scope} {a b : Expr} (h : chkEs C cs sc [a, b] = true) : ∃ c d, cs = [c, d] ∧ chkE C c sc a = true ∧ chkE C d sc b = true := by
  cases cs with
  | nil => cases h
  | cons c cs =>
    obtain ⟨h1, h2⟩ := Bool.and_eq_true_iff.mp (show (chkE C c sc a && chkEs C cs sc [b]) = true from h)
    obtain ⟨d, rfl, h3⟩ := chk_one h2
    exact ⟨c, d, rfl, h1, h3⟩
theorem lv_one {K : PySem.W.Frag} {Hs H : Hp} {d : D} {v : V} {F : List Addr} (l : Lv K Hs H d v F) : LvL K Hs H [d] [v] F := ⟨v, [], F, [], rfl, by rw [List.append_nil], l, rfl, rfl⟩
theorem lv_two {K : PySem.W.Frag} {Hs H : Hp} {d e : D} {v w : V} {F G : List Addr} (l : Lv K Hs H d v F) (m : Lv K Hs H e w G) : LvL K Hs H [d, e] [v, w] (F ++ G) := ⟨v, [w], F, G, rfl, rfl, l, lv_one m⟩
/-- an operator on two values, whatever its text -/
theorem op2_rd {K : PySem.W.Frag} {W : WX} {o : Op} {a b : E} {σ : L2.St} {H : Hp} {Q : VK} (h : rdV K XR C.cl W (.op o [a, b]) σ H Q) : tOp (rD K fun x y => opD o [x, y]) (rdB K XR C.cl W a) (rdB K XR C.cl W b) σ H Q := by
  obtain ⟨Hs, g, A, st, p⟩ := h
  simp only [ev, evs, EvG_bind] at p
  refine rdB_go st p fun d1 g1 v1 H1 Hs1 A1 F1 p1 s1 x1 l1 => ?_
  refine rdB_on s1 x1 p1 fun d2 g2 v2 H2 Hs2 A2 F2 p2 s2 x2 l2 => ?_
  have p2 : EvG K XR W σ Hs H A (fun d => postV K σ Hs H A Q (d, g2)) (Out.of (opD o [d1, d2])) := p2
  cases e : opD o [d1, d2] with
  | none => rw [e] at p2; exact p2.elim
  | some d =>
    rw [e] at p2
    exact ⟨d1, d2, d, Hs2, F1, F2, e, s2.sub, l1.keep x2, l2, p2 _ H2 Hs2 A2 [] s2 (x1.trans x2) (opD_lv e (lv_two (l1.keep x2) l2))⟩
theorem op1_rd {K : PySem.W.Frag} {W : WX} {o : Op} {a : E} {σ : L2.St} {H : Hp} {Q : VK} (h : rdV K XR C.cl W (.op o [a]) σ H Q) :
    rdB K XR C.cl W a σ H fun x H1 => ∃ a d Hs F, opD o [a] = some d ∧ Sub Hs H1 ∧ Lv K Hs H1 a x F ∧ Q (vS d) H1 := by
  obtain ⟨Hs, g, A, st, p⟩ := h
  simp only [ev, evs, EvG_bind] at p
  refine rdB_go st p fun d1 g1 v1 H1 Hs1 A1 F1 p1 s1 x1 l1 => ?_
  have p1 : EvG K XR W σ Hs H A (fun d => postV K σ Hs H A Q (d, g1)) (Out.of (opD o [d1])) := p1
  cases e : opD o [d1] with
  | none => rw [e] at p1; exact p1.elim
  | some d =>
    rw [e] at p1
    exact ⟨d1, d, Hs1, F1, e, s1.sub, l1, p1 _ H1 Hs1 A1 [] s1 x1 (opD_lv e (lv_one l1))⟩
theorem bin_pe {a b : E} {sc : Scope} {X : Cx} {W : WX} {o : Op} {p : Operator} {l r : Expr} {pos : Pos} (ga : Good C XR a) (gb : Good C XR b) (k : Cxt C XR sc X) (t : Takes X W) (ha : chkE C a sc l = true) (hb : chkE C b sc r = true)
    (ok : OpR X (binaryOp p) (rD X.K fun x y => opD o [x, y])) : PE X (.BinOp l p r pos) (rdV X.K XR C.cl W (.op o [a, b])) :=
  (pe_op ok (ga.b sc X W l k t ha) (gb.b sc X W r k t hb)).imp fun σ H Q h => op2_rd h
theorem callR_or {X : Cx} {f : Value} {r r' : List V → Hp → VK → Prop} (h : CallR X f r) (h' : CallR X f r') : CallR X f (fun xs H Q => r xs H Q ∨ r' xs H Q) := by
  intro pins s σ H xs us Q I rx q
  rcases q with q | q
  · exact h pins s σ H xs us Q I rx q
  · exact h' pins s σ H xs us Q I rx q
theorem callR_imp {X : Cx} {f : Value} {r r' : List V → Hp → VK → Prop} (h : CallR X f r) (k : ∀ xs H Q, r' xs H Q → r xs H Q) : CallR X f r' := fun pins s σ H xs us Q I rx q => h pins s σ H xs us Q I rx (k xs H Q q)
/-- what an operator on values asks -/
def rDs (K : PySem.W.Frag) (o : Op) : List V → Hp → VK → Prop := fun xs H Q => ∃ ds d Hs F, opD o ds = some d ∧ Sub Hs H ∧ LvL K Hs H ds xs F ∧ Q (vS d) H
theorem ops_rd {K : PySem.W.Frag} {W : WX} {o : Op} {cs : List E} {σ : L2.St} {H : Hp} {Q : VK} (h : rdV K XR C.cl W (.op o cs) σ H Q) : tCB (rDs K o) (rdBs K XR C.cl W cs) σ H Q := by
  obtain ⟨Hs, g, A, st, p⟩ := h
  simp only [ev, EvG_bind] at p
  refine ⟨Hs, g, A, st, p.mono fun r _ p vs H1 Hs1 A1 F s1 x1 l1 => ?_⟩
  obtain ⟨ds, g1⟩ := r
  have p : EvG K XR W σ Hs H A (fun d => postV K σ Hs H A Q (d, g1)) (Out.of (opD o ds)) := p
  cases e : opD o ds with
  | none => rw [e] at p; exact p.elim
  | some d =>
    rw [e] at p
    exact ⟨ds, d, Hs1, F, e, s1.sub, l1, p _ H1 Hs1 A1 [] s1 x1 (opD_lv e l1)⟩
theorem lv1 {K : PySem.W.Frag} {Hs H : Hp} {d : D} {xs : List V} {F : List Addr} (l : LvL K Hs H [d] xs F) : ∃ v, xs = [v] ∧ Lv K Hs H d v F := by
  obtain ⟨v, vs, F1, F2, e1, e2, l1, e3, e4⟩ := l
  subst e1 e2 e3 e4
  exact ⟨v, rfl, by rw [List.append_nil]; exact l1⟩
theorem lv2 {K : PySem.W.Frag} {Hs H : Hp} {d e : D} {xs : List V} {F : List Addr} (l : LvL K Hs H [d, e] xs F) : ∃ v w F1 F2, xs = [v, w] ∧ Lv K Hs H d v F1 ∧ Lv K Hs H e w F2 := by
  obtain ⟨v, vs, F1, F2, e1, e2, l1, l2⟩ := l
  obtain ⟨w, rfl, l3⟩ := lv1 l2
  exact ⟨v, w, F1, F2, e1, l1, l3⟩
theorem ok_len {X : Cx} : CallR X (.builtin "len") (rDs X.K .len) := callR_imp (callR_or call_len_seq call_len_str) fun xs H Q ⟨ds, d, Hs, F, e, sb, l, q⟩ => by
  match ds, e, l with
  | [.lst f m], e, l =>
    cases e
    obtain ⟨v, ex, lv⟩ := lv1 l
    obtain ⟨p, ys, F', e1, e2, e3⟩ := lv.seq (l := m) sb rfl
    exact .inl ⟨p, ys, by rw [ex, e1], e2, by rw [e3.length]; exact q⟩
  | [.tup m], e, l =>
    cases e
    obtain ⟨v, ex, lv⟩ := lv1 l
    obtain ⟨p, ys, F', e1, e2, e3⟩ := lv.seq (l := m) sb rfl
    exact .inl ⟨p, ys, by rw [ex, e1], e2, by rw [e3.length]; exact q⟩
  | [.str m], e, l =>
    cases e
    obtain ⟨v, ex, lv⟩ := lv1 l
    obtain ⟨e1, _, k⟩ := lv
    exact .inr ⟨sV m, by rw [ex, e1], k.2, q⟩
theorem ok_abs {X : Cx} : CallR X (.builtin "abs") (rDs X.K .abs) := callR_imp call_abs fun xs H Q ⟨ds, d, Hs, F, e, sb, l, q⟩ => by
  match ds, e, l with
  | [.int i], e, l =>
    cases e
    obtain ⟨v, ex, lv⟩ := lv1 l
    exact ⟨i, by rw [ex, lv.1], q⟩
theorem ok_max2 {X : Cx} (hc : X.calm = true) : CallR X (.builtin "max") (rDs X.K .max2) := callR_imp (call_max2 hc) fun xs H Q ⟨ds, d, Hs, F, e, sb, l, q⟩ => by
  match ds, e, l with
  | [.int i, .int j], e, l =>
    cases e
    obtain ⟨v, w, F1, F2, ex, l1, l2⟩ := lv2 l
    exact ⟨i, j, by rw [ex, l1.1, l2.1], q⟩
theorem ok_min2 {X : Cx} (hc : X.calm = true) : CallR X (.builtin "min") (rDs X.K .min2) := callR_imp (call_min2 hc) fun xs H Q ⟨ds, d, Hs, F, e, sb, l, q⟩ => by
  match ds, e, l with
  | [.int i, .int j], e, l =>
    cases e
    obtain ⟨v, w, F1, F2, ex, l1, l2⟩ := lv2 l
    exact ⟨i, j, by rw [ex, l1.1, l2.1], q⟩
theorem digV_int {s : List Nat} (h : s.all isDig = true) (hne : s ≠ []) (hl : s.length ≤ 640) : PySem.intText? (sV s) = some ((digV s : Nat) : Int) := SX.int_S (a := s) h hne (Nat.le_trans hl (by decide))
theorem ok_toInt {X : Cx} : CallR X (.type "int") (rDs X.K .toInt) := callR_imp (callR_or call_int1 call_int_str) fun xs H Q ⟨ds, d, Hs, F, e, sb, l, q⟩ => by
  match ds, e, l with
  | [.int i], e, l =>
    cases e
    obtain ⟨v, ex, lv⟩ := lv1 l
    exact .inl (.inl ⟨i, by rw [ex, lv.1], q⟩)
  | [.bl b], e, l =>
    cases e
    obtain ⟨v, ex, lv⟩ := lv1 l
    exact .inl (.inr ⟨b, by rw [ex, lv.1], q⟩)
  | [.str s], e, l =>
    have e : (if (s.all isDig && (decide (s ≠ []) && decide (s.length ≤ 640))) = true then some (D.int (digV s)) else none) = some d := e
    by_cases c : (s.all isDig && (decide (s ≠ []) && decide (s.length ≤ 640))) = true
    · rw [if_pos c] at e
      cases e
      obtain ⟨c1, c2⟩ := Bool.and_eq_true_iff.mp c
      obtain ⟨c2, c3⟩ := Bool.and_eq_true_iff.mp c2
      obtain ⟨v, ex, lv⟩ := lv1 l
      exact .inr ⟨sV s, _, by rw [ex, lv.1], digV_int c1 (of_decide_eq_true c2) (of_decide_eq_true c3), by rw [sV_length]; exact of_decide_eq_true c3, q⟩
    · rw [if_neg c] at e
      cases e
theorem cr_str {X : Cx} (hc : X.calm = true) (hd : DigK X.K) : CallR X (.type "str") (fun xs H Q => ∃ i, xs = [.int i] ∧ digOk i.natAbs = true ∧ Q (.str (toString i)) H) := by
  intro ps st σ H xs us Q I rv hh
  obtain ⟨i, rfl, hz, q⟩ := hh
  obtain ⟨u, rfl, t, rfl⟩ := vals1 rv
  have nd : st.heap.NoDigits := (hd _ I.ok.mod.kin).keeps fun b o e => (I.bs b o e).1
  refine str_of_int_or (I.ok.hd hc) nd (fun _ => ?_) fun ge => absurd (of_decide_eq_true hz) (Nat.not_lt.mpr ge)
  exact ⟨.str (toString i), H, I.tok _, ⟨_, rfl⟩, q⟩
theorem ok_toStr {X : Cx} (hc : X.calm = true) (hd : DigK X.K) : CallR X (.type "str") (rDs X.K .toStr) := callR_imp (cr_str hc hd) fun xs H Q ⟨ds, d, Hs, F, e, sb, l, q⟩ => by
  match ds, e, l with
  | [.int i], e, l =>
    have e : (if digOk i.natAbs then some (D.str (strI i)) else none) = some d := e
    by_cases c : digOk i.natAbs = true
    · rw [if_pos c] at e
      cases e
      obtain ⟨v, ex, lv⟩ := lv1 l
      refine ⟨i, by rw [ex, lv.1], c, ?_⟩
      have q : Q (.str (sV (strI i))) H := q
      rw [← ofS_strI] at q
      exact q
    · rw [if_neg c] at e
      cases e
theorem allB_lv {K : PySem.W.Frag} {Hs H : Hp} : ∀ {l : List D} {vs : List V} {F : List Addr} {bs : List Bool}, allB l = some bs → LvL K Hs H l vs F → vs = bs.map V.bl
  | [], _, _, _, h, ⟨e, _⟩ => by cases h; exact e
  | d :: l, _, _, bs, h, ⟨v, vs, F1, F2, e, _, c, m⟩ => by
    cases d <;> first | (cases h; done) | skip
    obtain ⟨cs, h1, h2⟩ := Option.map_eq_some_iff.mp h
    subst h2
    rw [e, allB_lv h1 m, c.1]
    rfl
theorem allI_lv {K : PySem.W.Frag} {Hs H : Hp} : ∀ {l : List D} {vs : List V} {F : List Addr} {ns : List Int}, allI l = some ns → LvL K Hs H l vs F → vs = ns.map V.int
  | [], _, _, _, h, ⟨e, _⟩ => by cases h; exact e
  | d :: l, _, _, bs, h, ⟨v, vs, F1, F2, e, _, c, m⟩ => by
    cases d <;> first | (cases h; done) | skip
    obtain ⟨cs, h1, h2⟩ := Option.map_eq_some_iff.mp h
    subst h2
    rw [e, allI_lv h1 m, c.1]
    rfl
theorem lst_sq {K : PySem.W.Frag} {Hs H : Hp} {f : Bool} {m : List D} {v : V} {F : List Addr} (sb : Sub Hs H) (lv : Lv K Hs H (.lst f m) v F) : ∃ p ys F', v = .ref p ∧ SqL K H p ys ∧ LvL K Hs H m ys F' := by
  cases f with
  | false =>
    obtain ⟨p, vs, e1, e2, _, _, c⟩ := lv
    exact ⟨p, vs, _, e1, sqL_sub sb e2, c⟩
  | true =>
    obtain ⟨p, vs, G, e1, e2, _, _, c⟩ := lv
    exact ⟨p, vs, _, e1, SqL.of e2, c⟩
theorem ok_all {X : Cx} (hc : X.calm = true) : CallR X (.builtin "all") (rDs X.K .all_) := callR_imp (cr_all hc) fun xs H Q ⟨ds, d, Hs, F, e, sb, l, q⟩ => by
  match ds, e, l with
  | [.lst f m], e, l =>
    obtain ⟨bs, h1, h2⟩ := Option.map_eq_some_iff.mp (show (allB m).map (fun bs => D.bl (bs.all id)) = some d from e)
    subst h2
    obtain ⟨v, ex, lv⟩ := lv1 l
    obtain ⟨p, ys, F', e1, e2, e3⟩ := lst_sq sb lv
    rw [allB_lv h1 e3] at e2
    exact ⟨p, bs, by rw [ex, e1], e2, q⟩
theorem ok_any {X : Cx} (hc : X.calm = true) : CallR X (.builtin "any") (rDs X.K .any_) := callR_imp (cr_any hc) fun xs H Q ⟨ds, d, Hs, F, e, sb, l, q⟩ => by
  match ds, e, l with
  | [.lst f m], e, l =>
    obtain ⟨bs, h1, h2⟩ := Option.map_eq_some_iff.mp (show (allB m).map (fun bs => D.bl (bs.any id)) = some d from e)
    subst h2
    obtain ⟨v, ex, lv⟩ := lv1 l
    obtain ⟨p, ys, F', e1, e2, e3⟩ := lst_sq sb lv
    rw [allB_lv h1 e3] at e2
    exact ⟨p, bs, by rw [ex, e1], e2, q⟩
theorem ok_sum {X : Cx} (hc : X.calm = true) : CallR X (.builtin "sum") (rDs X.K .sumL) := callR_imp (cr_sum hc) fun xs H Q ⟨ds, d, Hs, F, e, sb, l, q⟩ => by
  match ds, e, l with
  | [.lst f m], e, l =>
    obtain ⟨ns, h1, h2⟩ := Option.map_eq_some_iff.mp (show (allI m).map (fun ns => D.int ns.sum) = some d from e)
    subst h2
    obtain ⟨v, ex, lv⟩ := lv1 l
    obtain ⟨p, ys, F', e1, e2, e3⟩ := lst_sq sb lv
    rw [allI_lv h1 e3] at e2
    exact ⟨p, ns, by rw [ex, e1], e2, q⟩
/-! ### isinstance -/
def tyD : D → String
  | .bl _ => "bool"
  | .int _ => "int"
  | .str _ => "str"
  | .tup _ => "tuple"
  | .lst _ _ => "list"
  | _ => "NoneType"
theorem Lv.ty {K : PySem.W.Frag} {Hs H : Hp} {d : D} {v : V} {F : List Addr} {ks : List Nat} {b : Bool} (sb : Sub Hs H) (e : isD ks d = some b) (l : Lv K Hs H d v F) : TyX K H v (.type (tyD d)) := by
  have ofT : ∀ {p : Addr} {vs : List V}, SqT K H p vs → TyX K H (.ref p) (.type "tuple") := fun h => by
    rcases h with (h | ⟨o, h⟩) | ⟨o, its, n, h1, h2, _⟩
    · exact .base (.tup h)
    · exact .fTuple h
    · exact .kTuple h1 h2
  have ofL : ∀ {p : Addr} {vs : List V}, SqL K H p vs → TyX K H (.ref p) (.type "list") := fun h => by
    rcases h with (h | ⟨o, h⟩) | ⟨o, its, n, h1, h2, _⟩
    · exact .base (.lst h)
    · exact .base (.frz h)
    · exact .kList h1 h2
  have go : ∀ {w : V} {t : Value}, v = w → TyX K H w t → TyX K H v t := fun e h => by rw [e]; exact h
  cases d with
  | non => exact go l.1 (.base .non)
  | bl b => exact go l.1 (.base (.bl b))
  | int i => exact go l.1 (.base (.int i))
  | str s => exact go l.1 (.base (.str _))
  | tup m =>
    obtain ⟨p, vs, e1, e2, _⟩ := l
    exact go e1 (ofT (sqT_sub sb e2))
  | lst f m =>
    cases f with
    | false =>
      obtain ⟨p, vs, e1, e2, _⟩ := l
      exact go e1 (ofL (sqL_sub sb e2))
    | true =>
      obtain ⟨p, vs, F', e1, e2, _⟩ := l
      exact go e1 (ofL (SqL.of e2))
  | dic _ _ => exact l.elim
  | obj _ _ => exact l.elim
  | exc _ _ => cases e
theorem kit_is {d : D} {k : Nat} {n : String} {b : Bool} (h : tyNm[k]? = some n) (e : isD [k] d = some b) : kitB (tyD d) n = some b := by
  match k, h with
  | 0, h => cases h; cases d <;> first | (cases e; done) | (cases e; (first | (change kitB "NoneType" _ = _; decide +kernel) | (change kitB "bool" _ = _; decide +kernel) | (change kitB "int" _ = _; decide +kernel) | (change kitB "str" _ = _; decide +kernel) | (change kitB "tuple" _ = _; decide +kernel) | (change kitB "list" _ = _; decide +kernel)))
  | 1, h => cases h; cases d <;> first | (cases e; done) | (cases e; (first | (change kitB "NoneType" _ = _; decide +kernel) | (change kitB "bool" _ = _; decide +kernel) | (change kitB "int" _ = _; decide +kernel) | (change kitB "str" _ = _; decide +kernel) | (change kitB "tuple" _ = _; decide +kernel) | (change kitB "list" _ = _; decide +kernel)))
  | 2, h => cases h; cases d <;> first | (cases e; done) | (cases e; (first | (change kitB "NoneType" _ = _; decide +kernel) | (change kitB "bool" _ = _; decide +kernel) | (change kitB "int" _ = _; decide +kernel) | (change kitB "str" _ = _; decide +kernel) | (change kitB "tuple" _ = _; decide +kernel) | (change kitB "list" _ = _; decide +kernel)))
  | 3, h => cases h; cases d <;> first | (cases e; done) | (cases e; (first | (change kitB "NoneType" _ = _; decide +kernel) | (change kitB "bool" _ = _; decide +kernel) | (change kitB "int" _ = _; decide +kernel) | (change kitB "str" _ = _; decide +kernel) | (change kitB "tuple" _ = _; decide +kernel) | (change kitB "list" _ = _; decide +kernel)))
  | 4, h => cases h; cases d <;> first | (cases e; done) | (cases e; (first | (change kitB "NoneType" _ = _; decide +kernel) | (change kitB "bool" _ = _; decide +kernel) | (change kitB "int" _ = _; decide +kernel) | (change kitB "str" _ = _; decide +kernel) | (change kitB "tuple" _ = _; decide +kernel) | (change kitB "list" _ = _; decide +kernel)))
  | n + 5, h => cases h
theorem findIdx_get {α : Type} {p : α → Bool} : ∀ {l : List α} {k : Nat}, l.findIdx? p = some k → ∃ a, l[k]? = some a ∧ p a = true := fun {l k} h => by
  obtain ⟨h1, h2, _⟩ := List.findIdx?_eq_some_iff_getElem.mp h
  exact ⟨l[k], by simp [h1], h2⟩
theorem boot_ty (k : Nat) {n : String} (h : tyNm[k]? = some n) : bootBuiltins (Str.ofString n) = some (.type n) ∧ (Str.ofString n ≠ "__name__") ∧ ((Str.ofString n == ("__debug__" : Str)) = false) := by
  match k, h with
  | 0, h => cases h; exact ⟨by decide +kernel, by decide +kernel, by decide +kernel⟩
  | 1, h => cases h; exact ⟨by decide +kernel, by decide +kernel, by decide +kernel⟩
  | 2, h => cases h; exact ⟨by decide +kernel, by decide +kernel, by decide +kernel⟩
  | 3, h => cases h; exact ⟨by decide +kernel, by decide +kernel, by decide +kernel⟩
  | 4, h => cases h; exact ⟨by decide +kernel, by decide +kernel, by decide +kernel⟩
  | n + 5, h => cases h
theorem Lv.tyK {tb : Tbl} {K : PySem.W.Frag} {mg : Str → Option Value} {Hs H : Hp} {d : D} {v : V} {F : List Addr} {yes : List Nat} {b : Bool} (xf : XFacts tb K mg) (sb : Sub Hs H) (e : isEx tb.exs yes d = some b) (l : Lv K Hs H d v F) :
    (∃ k ∈ tb.exs, b = yes.contains k ∧ TyK K H v (exC K k)) ∨ (b = false ∧ ∃ t ∈ bltTys, TyK K H v (.type t)) := by
  have go : ∀ {d : D}, ((isD [] d).map fun _ => false) = some b → Lv K Hs H d v F → b = false ∧ ∃ t ∈ bltTys, TyK K H v (.type t) := fun {d} e l => by
    obtain ⟨b', e1, e2⟩ := Option.map_eq_some_iff.mp e
    refine ⟨e2.symm, tyD d, ?_, .x (l.ty sb e1)⟩
    cases d <;> simp [tyD, bltTys]
  cases d with
  | exc k m =>
    have e0 : (if tb.exs.contains k && m.isEmpty then some (yes.contains k) else none) = some b := e
    by_cases c : (tb.exs.contains k && m.isEmpty) = true
    · rw [if_pos c] at e0
      obtain ⟨c1, c2⟩ := Bool.and_eq_true_iff.mp c
      obtain ⟨_, a, dd, vs, e1, e2, e3, e4⟩ := l
      have em : m = [] := List.isEmpty_iff.mp c2
      subst em
      have ev : vs = [] := e3.1
      have ed : dd = none := by
        cases dd with
        | none => rfl
        | some d => exact absurd ev e4.1
      subst ed
      have hk : k ∈ tb.exs := by simpa using c1
      refine .inl ⟨k, hk, (Option.some.inj e0).symm, ?_⟩
      rw [e1]
      refine .e (xf.ex k hk) ?_
      rcases sb _ _ e2 with q | ⟨q, _⟩
      · exact q
      · cases q
    · rw [if_neg c] at e0
      cases e0
  | non => exact .inr (go (d := .non) e l)
  | bl b' => exact .inr (go (d := .bl b') e l)
  | int i => exact .inr (go (d := .int i) e l)
  | str s => exact .inr (go (d := .str s) e l)
  | tup m => exact .inr (go (d := .tup m) e l)
  | lst f m => exact .inr (go (d := .lst f m) e l)
  | dic f m => cases e
  | obj f m => cases e
theorem yes_get {C : Ctx} {sc : Scope} {c : Expr} {y : List Nat} (h : clsYes C sc c = some y) : ∃ x p own, c = .Name x p ∧ glB sc x = true ∧ (x, own, y) ∈ C.tb.xt := by
  cases c with
  | Name x p =>
    have h : (if glB sc x then (C.tb.xt.lookup x).map (·.2) else none) = some y := h
    by_cases g : glB sc x = true
    · rw [if_pos g] at h
      obtain ⟨q, h1, h2⟩ := Option.map_eq_some_iff.mp h
      obtain ⟨own, y'⟩ := q
      cases h2
      exact ⟨x, p, own, rfl, g, PySem.mem_of_lookup h1⟩
    · rw [if_neg g] at h; cases h
  | _ => cases h
/-- a class's name -/
theorem cls_pe {sc : Scope} {X : Cx} (k : Cxt C XR sc X) {x : Str} {p : Pos} {own : Bool} {y : List Nat} (g : glB sc x = true) (m : (x, own, y) ∈ C.tb.xt) : PE X (.Name x p) (tC (clsV X.K x own)) := by
  obtain ⟨gx, nd⟩ := gl_of g k.sc
  rcases k.xf.nm _ m with ⟨e, h⟩ | ⟨e, h, hn⟩
  · have e : own = true := e
    subst e
    exact pe_glob gx h rfl nd
  · have e : own = false := e
    subst e
    have hn : x = "ValueError" := hn
    subst hn
    exact pe_bltn (v := .ty "ValueError") gx h (by decide +kernel) rfl (by decide) nd
theorem clss_pe {sc : Scope} {X : Cx} (k : Cxt C XR sc X) : ∀ {cs : List Expr} {y : List Nat}, clsAll C sc cs = some y → ∃ l : List (Str × Bool × List Nat), (∀ q ∈ l, q ∈ C.tb.xt) ∧ l.length = cs.length ∧ y = l.flatMap (·.2.2) ∧ (cs ≠ [] → ∃ c r, cs = c :: r ∧ ∀ z p, c ≠ .Starred z p) ∧
    (∀ pos, (backTo pos (starEach cs X.env)).any (·.1) = false) ∧ PA X cs (fun _ H Q => Q (l.map fun q => clsV X.K q.1 q.2.1) H)
  | [], y, h => by
    cases h
    exact ⟨[], fun _ q => absurd q List.not_mem_nil, rfl, rfl, fun q => absurd rfl q, fun _ => rfl, pa_nil.imp fun σ H Q q => q⟩
  | c :: cs, y, h => by
    obtain ⟨y1, h1, h⟩ := Option.bind_eq_some_iff.mp (show ((clsYes C sc c).bind fun y => (clsAll C sc cs).map (y ++ ·)) = some y from h)
    obtain ⟨y2, h2, h3⟩ := Option.map_eq_some_iff.mp h
    obtain ⟨x, p, own, rfl, g, m⟩ := yes_get h1
    obtain ⟨l, m2, ln, e2, ns, st, pa⟩ := clss_pe k h2
    have he : starEach (.Name x p :: cs) X.env = (false, eval (.Name x p) X.env) :: starEach cs X.env := star_of fun z p q => by cases q
    refine ⟨(x, own, y1) :: l, fun q hq => ?_, by simp [ln], by rw [← h3, e2]; rfl, fun _ => ⟨_, _, rfl, fun z p q => by cases q⟩, fun pos => ?_, ?_⟩
    · rcases List.mem_cons.mp hq with z | z
      · rw [z]; exact m
      · exact m2 q z
    · rw [he]
      have := st pos
      unfold backTo at this ⊢
      rw [List.map_cons, List.any_cons, this]
      rfl
    · exact (pa_cons (cls_pe k g m) pa he).imp fun σ H Q q => q
theorem bltOp_plain {sc : Scope} {f : Str} {as es : List Expr} {o : Op} (h : bltOp C sc f as = some (o, es)) : freeB C sc f = true := by
  unfold bltOp at h
  by_cases c : freeB C sc f = true
  · exact c
  · rw [if_neg c] at h; cases h
theorem args_b {sc : Scope} {X : Cx} {W : WX} (k : Cxt C XR sc X) (t : Takes X W) : ∀ {cs : List E} {es : List Expr}, (∀ c ∈ cs, Good C XR c) → chkEs C cs sc es = true → PA X es (rdBs X.K XR C.cl W cs)
  | [], [], _, _ => pa_nil.imp fun σ H Q ⟨Hs, g, A, st, p⟩ => p [] H Hs A [] st Xst.refl ⟨rfl, rfl⟩
  | [], _ :: _, _, h => by cases h
  | _ :: _, [], _, h => by cases h
  | c :: cs, e :: es, gd, h => by
    obtain ⟨h1, h2⟩ := Bool.and_eq_true_iff.mp (show (chkE C c sc e && chkEs C cs sc es) = true from h)
    refine (pa_cons ((gd c List.mem_cons_self).b sc X W e k t h1) (args_b k t (fun c hc => gd c (List.mem_cons_of_mem _ hc)) h2) (star_of (chk_noStar h1))).imp fun σ H Q ⟨Hs, g, A, st, p⟩ => ?_
    simp only [evs, EvG_bind] at p
    refine rdB_go st p fun d1 g1 v1 H1 Hs1 A1 F1 p1 s1 x1 l1 => ?_
    refine ⟨Hs1, g1, A1, s1, p1.shift x1 fun r _ p2 vs H2 Hs2 A2 F2 s2 x2 l2 => ?_⟩
    exact p2 (v1 :: vs) H2 Hs2 A2 (F1 ++ F2) s2 (x1.trans x2) ⟨v1, vs, F1, F2, rfl, rfl, l1.keep x2, l2⟩
theorem args_v {sc : Scope} {X : Cx} {W : WX} (k : Cxt C XR sc X) (t : Takes X W) : ∀ {cs : List E} {es : List Expr}, (∀ c ∈ cs, Good C XR c) → chkEs C cs sc es = true → PA X es (rdVs X.K XR C.cl W cs)
  | [], [], _, _ => pa_nil.imp fun σ H Q ⟨Hs, g, A, st, p⟩ => p [] H Hs A [] st Xst.refl ⟨rfl, rfl⟩
  | [], _ :: _, _, h => by cases h
  | _ :: _, [], _, h => by cases h
  | c :: cs, e :: es, gd, h => by
    obtain ⟨h1, h2⟩ := Bool.and_eq_true_iff.mp (show (chkE C c sc e && chkEs C cs sc es) = true from h)
    refine (pa_cons ((gd c List.mem_cons_self).v sc X W e k t h1) (args_v k t (fun c hc => gd c (List.mem_cons_of_mem _ hc)) h2) (star_of (chk_noStar h1))).imp fun σ H Q ⟨Hs, g, A, st, p⟩ => ?_
    simp only [evs, EvG_bind] at p
    refine rdV_go st p fun d1 g1 v1 H1 Hs1 A1 F1 p1 s1 x1 l1 => ?_
    refine ⟨Hs1, g1, A1, s1, p1.shift x1.drop fun r _ p2 vs H2 Hs2 A2 F2 s2 x2 l2 => ?_⟩
    exact p2 (v1 :: vs) H2 Hs2 A2 (F1 ++ F2) s2 (x1.seq x2 l1.ne) ⟨v1, vs, F1, F2, rfl, rfl, l1.keep x2, l2⟩
theorem blt_go {sc : Scope} {X : Cx} {W : WX} {f : Str} {as : List Expr} {o : Op} {cs : List E} {p pos : Pos} {u : Value} (k : Cxt C XR sc X) (t : Takes X W) (gd : ∀ c ∈ cs, Good C XR c) (hc : chkEs C cs sc as = true) (fr : freeB C sc f = true) (ne : as ≠ [])
    (ok : CallR X u (rDs X.K o)) (hu : (∃ id, u = .builtin id) ∨ ∃ T, u = .type T) (hv : bootBuiltins f = some u) (hn : f ≠ "__name__") : PE X (.Call (.Name f p) as [] pos) (rdV X.K XR C.cl W (.op o cs)) := by
  obtain ⟨gl, nm⟩ := k.fr fr
  have gdb : (f == ("__debug__" : Str)) = false := (gl_of (Bool.and_eq_true_iff.mp fr).1 k.sc).2
  cases as with
  | nil => exact absurd rfl ne
  | cons a as =>
    cases cs with
    | nil => cases hc
    | cons c cs =>
      obtain ⟨z1, z2⟩ := Bool.and_eq_true_iff.mp (show (chkE C c sc a && chkEs C cs sc as) = true from hc)
      rcases hu with ⟨id, rfl⟩ | ⟨T, rfl⟩
      · exact (pe_callB ok gl nm hv (args_b k t gd hc) hn gdb (star_of (chk_noStar z1)) (stars_of z2)).imp fun σ H Q h => ops_rd h
      · exact (pe_callTy ok gl nm hv (args_b k t gd hc) hn gdb (star_of (chk_noStar z1)) (stars_of z2)).imp fun σ H Q h => ops_rd h
/-- isinstance against exception classes -/
theorem ise_pe {sc : Scope} {X : Cx} {W : WX} {a c : Expr} {c1 : E} {y : List Nat} {p pos : Pos} (k : Cxt C XR sc X) (t : Takes X W) (gd : Good C XR c1) (h1 : chkE C c1 sc a = true) (gl : Gl X (Str.ofString "isinstance")) (nm : X.mg (Str.ofString "isinstance") = none)
    (gdb : (Str.ofString "isinstance" == ("__debug__" : Str)) = false) (ey : clsOf C sc c = some y) : PE X (.Call (.Name (Str.ofString "isinstance") p) [a, c] [] pos) (rdV X.K XR C.cl W (.op (.isE C.tb.exs y) [c1])) := by
  have one : ∀ {c : Expr}, clsYes C sc c = some y → PE X (.Call (.Name (Str.ofString "isinstance") p) [a, c] [] pos) (rdV X.K XR C.cl W (.op (.isE C.tb.exs y) [c1])) := fun {c} ey => by
    obtain ⟨x, q, own, rfl, g, m⟩ := yes_get ey
    refine (pe_callB cr_isK gl nm (by decide +kernel) (pa_cons (gd.b sc X W _ k t h1) (pa_cons (cls_pe k g m) pa_nil) (star_of (chk_noStar h1))) (by decide +kernel) gdb (star_of (chk_noStar h1)) rfl).imp fun σ H Q hh => ?_
    have hh := op1_rd hh
    obtain ⟨Hs, g', A, st, pp⟩ := hh
    refine ⟨Hs, g', A, st, pp.mono fun r _ pp v H1 Hs1 A1 F s1 x1 l1 => ?_⟩
    obtain ⟨d', d, Hs2, F2, e, sb, l, qq⟩ := pp v H1 Hs1 A1 F s1 x1 l1
    have e : (isEx C.tb.exs y d').map D.bl = some d := e
    obtain ⟨b, eb, rfl⟩ := Option.map_eq_some_iff.mp e
    rcases l.tyK k.xf sb eb with ⟨kk, hk, e1, ty⟩ | ⟨e1, tt, ht, ty⟩
    · exact ⟨v, _, _, _, b, rfl, clsVU _ _ _, ty, by rw [e1]; exact (k.xf.kit _ m kk hk).1, qq⟩
    · exact ⟨v, _, _, _, b, rfl, clsVU _ _ _, ty, by rw [e1]; exact k.xf.blt _ m tt ht, qq⟩
  cases c with
  | Tuple cs n q =>
    have ey : (if cs.length ≤ 1000 then clsAll C sc cs else none) = some y := ey
    by_cases lc : cs.length ≤ 1000
    · rw [if_pos lc] at ey
      obtain ⟨l, m, ln, e2, ns, sts, pa⟩ := clss_pe k ey
      refine (pe_callB cr_isKT gl nm (by decide +kernel) (pa_cons (gd.b sc X W _ k t h1) (pa_cons (pe_tup pa) pa_nil) (star_of (chk_noStar h1))) (by decide +kernel) gdb (star_of (chk_noStar h1)) rfl).imp fun σ H Q hh => ?_
      have hh := op1_rd hh
      obtain ⟨Hs, g', A, st, pp⟩ := hh
      refine ⟨Hs, g', A, st, pp.mono fun r _ pp v H1 Hs1 A1 F s1 x1 l1 => ?_⟩
      refine ⟨by rw [List.length_map, ln]; exact Nat.le_trans lc (by decide), fun tp hT => ?_⟩
      obtain ⟨s2, x2⟩ := Xst.tup (o := .tup (l.map fun q => clsV X.K q.1 q.2.1)) s1 x1 hT (fun _ z => absurd z List.not_mem_nil)
      have l2 := l1.mono (same_upd (o := .tup (l.map fun q => clsV X.K q.1 q.2.1)) (sub_free s1.sub hT)) (same_upd (o := .tup (l.map fun q => clsV X.K q.1 q.2.1)) hT)
      obtain ⟨d', d, Hs2, F2, e, sb, l3, qq⟩ := pp v _ _ A1 F s2 x2 l2
      have e : (isEx C.tb.exs y d').map D.bl = some d := e
      obtain ⟨b, eb, rfl⟩ := Option.map_eq_some_iff.mp e
      have pr : Paired ClsV (l.map fun q => clsV X.K q.1 q.2.1) (l.map fun q => clsU X.K q.1 q.2.1) := by
        clear m ln e2 pp st qq eb e l3 sb l2 s2 x2 pa
        induction l with
        | nil => exact .nil
        | cons q l ih => exact .cons (clsVU _ _ _) ih
      rcases l3.tyK k.xf sb eb with ⟨kk, hk, e1, ty⟩ | ⟨e1, tt, ht, ty⟩
      · refine ⟨v, tp, _, _, l.map fun q => clsU X.K q.1 q.2.1, b, rfl, upd_same, pr, ty, ?_, qq⟩
        have z := kit_any (K := X.K) (t := exC X.K kk) (l := l.map fun q => (clsU X.K q.1 q.2.1, q.2.2.contains kk)) fun z hz => by
          obtain ⟨q, hq, rfl⟩ := List.mem_map.mp hz
          exact (k.xf.kit q (m q hq) kk hk).1
        rw [List.map_map] at z
        refine Eq.trans z ?_
        rw [e1, e2, List.any_map]
        congr 1
        rw [Bool.eq_iff_iff]
        simp
      · refine ⟨v, tp, _, _, l.map fun q => clsU X.K q.1 q.2.1, b, rfl, upd_same, pr, ty, ?_, qq⟩
        have z := kit_any (K := X.K) (t := .type tt) (l := l.map fun q => (clsU X.K q.1 q.2.1, false)) fun z hz => by
          obtain ⟨q, hq, rfl⟩ := List.mem_map.mp hz
          exact k.xf.blt q (m q hq) tt ht
        rw [List.map_map] at z
        refine Eq.trans z ?_
        rw [e1, List.any_map]
        congr 1
        simp
    · rw [if_neg lc] at ey; cases ey
  | _ => exact one ey
theorem blt_pe {sc : Scope} {X : Cx} {W : WX} {f : Str} {as es : List Expr} {o : Op} {cs : List E} {p pos : Pos} (k : Cxt C XR sc X) (t : Takes X W) (gd : ∀ c ∈ cs, Good C XR c) (h : bltOp C sc f as = some (o, es)) (hc : chkEs C cs sc es = true) :
    PE X (.Call (.Name f p) as [] pos) (rdV X.K XR C.cl W (.op o cs)) := by
  have fr := bltOp_plain h
  obtain ⟨gl, nm⟩ := k.fr fr
  have gdb : (f == ("__debug__" : Str)) = false := (gl_of (Bool.and_eq_true_iff.mp fr).1 k.sc).2
  unfold bltOp at h
  rw [if_pos fr] at h
  split at h
  · rename_i ef
    subst ef
    split at h
    · rename_i a c
      split at h
      · rename_i kk ek
        cases h
        obtain ⟨c1, rfl, h1⟩ := chk_one hc
        cases c with
        | Name x q =>
          have ek : (if freeB C sc x then tyNm.findIdx? (fun n => decide (x = Str.ofString n)) else none) = some kk := ek
          by_cases fx : freeB C sc x = true
          · rw [if_pos fx] at ek
            obtain ⟨n, en, ex⟩ := findIdx_get ek
            have ex : x = Str.ofString n := of_decide_eq_true ex
            subst ex
            obtain ⟨gx, nx⟩ := k.fr fx
            obtain ⟨b1, b2, b3⟩ := boot_ty kk en
            refine (pe_callB call_isi gl nm (by decide +kernel) (pa_cons ((gd c1 List.mem_cons_self).b sc X W _ k t h1) (pa_cons (pe_bltn (v := .ty n) gx nx b1 rfl b2 b3) pa_nil) (star_of (chk_noStar h1))) (by decide +kernel) gdb (star_of (chk_noStar h1)) rfl).imp fun σ H Q hh => ?_
            have hh := op1_rd hh
            obtain ⟨Hs, g, A, st, p⟩ := hh
            refine ⟨Hs, g, A, st, p.mono fun r _ p v H1 Hs1 A1 F s1 x1 l1 => ?_⟩
            obtain ⟨d', d, Hs2, F2, e, sb, l, qq⟩ := p v H1 Hs1 A1 F s1 x1 l1
            have e : (isD [kk] d').map D.bl = some d := e
            obtain ⟨b, eb, rfl⟩ := Option.map_eq_some_iff.mp e
            exact ⟨v, .ty n, .type (tyD d'), .type n, b, rfl, .ty n, l.ty sb eb, kit_ty (kit_is en eb), qq⟩
          · rw [if_neg fx] at ek; cases ek
        | _ => cases ek
      · obtain ⟨y, ey, eo⟩ := Option.map_eq_some_iff.mp h
        cases eo
        obtain ⟨c1, rfl, h1⟩ := chk_one hc
        exact ise_pe k t (gd c1 List.mem_cons_self) h1 gl nm gdb ey
    · cases h
  · obtain ⟨e, h1, h2⟩ := Option.map_eq_some_iff.mp h
    cases h2
    have hm := List.mem_of_find?_eq_some h1
    have hp := List.find?_some h1
    obtain ⟨hp1, hp2⟩ := Bool.and_eq_true_iff.mp hp
    have hp1 : f = Str.ofString e.1 := of_decide_eq_true hp1
    have hp2 : as.length = e.2.2 := by simpa using hp2
    simp only [bltTab, List.mem_cons, List.not_mem_nil, or_false] at hm
    rcases hm with rfl | rfl | rfl | rfl | rfl | rfl | rfl | rfl | rfl <;> subst hp1
    · exact blt_go k t gd hc fr (by intro e; rw [e] at hp2; cases hp2) ok_len (.inl ⟨_, rfl⟩) (by decide +kernel) (by decide +kernel)
    · exact blt_go k t gd hc fr (by intro e; rw [e] at hp2; cases hp2) ok_abs (.inl ⟨_, rfl⟩) (by decide +kernel) (by decide +kernel)
    · exact blt_go k t gd hc fr (by intro e; rw [e] at hp2; cases hp2) (ok_max2 k.calm) (.inl ⟨_, rfl⟩) (by decide +kernel) (by decide +kernel)
    · exact blt_go k t gd hc fr (by intro e; rw [e] at hp2; cases hp2) (ok_min2 k.calm) (.inl ⟨_, rfl⟩) (by decide +kernel) (by decide +kernel)
    · exact blt_go k t gd hc fr (by intro e; rw [e] at hp2; cases hp2) ok_toInt (.inr ⟨_, rfl⟩) (by decide +kernel) (by decide +kernel)
    · exact blt_go k t gd hc fr (by intro e; rw [e] at hp2; cases hp2) (ok_toStr k.calm k.dig) (.inr ⟨_, rfl⟩) (by decide +kernel) (by decide +kernel)
    · exact blt_go k t gd hc fr (by intro e; rw [e] at hp2; cases hp2) (ok_all k.calm) (.inl ⟨_, rfl⟩) (by decide +kernel) (by decide +kernel)
    · exact blt_go k t gd hc fr (by intro e; rw [e] at hp2; cases hp2) (ok_any k.calm) (.inl ⟨_, rfl⟩) (by decide +kernel) (by decide +kernel)
    · exact blt_go k t gd hc fr (by intro e; rw [e] at hp2; cases hp2) (ok_sum k.calm) (.inl ⟨_, rfl⟩) (by decide +kernel) (by decide +kernel)
end
end Mp
end
section
/-! Mp snd2: truth values, indices, displays, calls. -/
namespace Mp
open PySem PySem.Spec PyProof.Rows L2
section
variable {C : Ctx} {XR : XRel}
theorem behind_of {e : Expr} {l r : Expr} {o : CmpOp} {p : Pos} (he : e = .Compare l [o] [r] p) (h : markOk e = true) : behindInMarks o r = false := by
  subst he
  have h : (!behindInMarks o r) = true := h
  cases q : behindInMarks o r with
  | false => rfl
  | true => rw [q] at h; cases h
theorem good_op (o : Op) (cs : List E) (gd : ∀ c ∈ cs, Good C XR c) : Good C XR (.op o cs) := by
  have cmp : ∀ {sc : Scope} {X : Cx} {W : WX} {l r : Expr} {p : Pos} (c : Cmp) (_ : Cxt C XR sc X) (_ : Takes X W) (_ : markOk (.Compare l [cmpO c] [r] p) = true) (_ : o = .cmp c) (_ : chkEs C cs sc [l, r] = true),
      PE X (.Compare l [cmpO c] [r] p) (rdV X.K XR C.cl W (.op o cs)) ∧ PT X (.Compare l [cmpO c] [r] p) (rdT X.K XR C.cl W (.op o cs)) := fun {sc X W l r p} c k t mk eo hc => by
    subst eo
    obtain ⟨a, b, rfl, h1, h2⟩ := chk_two hc
    have ga := gd a List.mem_cons_self
    have gb := gd b (List.mem_cons_of_mem _ List.mem_cons_self)
    have ok := ok_cmp (X := X) k.room.units c
    have bm := behind_of rfl mk
    exact ⟨(pe_cmpR ok (ga.b sc X W l k t h1) (gb.b sc X W r k t h2) bm).imp fun σ H Q h => op2_rd h, (pt_cmpR ok (ga.b sc X W l k t h1) (gb.b sc X W r k t h2) bm).imp fun σ H Q h => op2_rd h⟩
  have inv : ∀ {sc e}, chkE C (.op o cs) sc e = true → ∃ es, exOp C sc e = some (o, es) ∧ markOk e = true ∧ chkEs C cs sc es = true := fun {sc e} q => by
    have q : (match exOp C sc e with
      | some (o', es) => decide (o = o') && (markOk e && chkEs C cs sc es)
      | none => false) = true := q
    cases ee : exOp C sc e with
    | none => rw [ee] at q; cases q
    | some r =>
      obtain ⟨o', es⟩ := r
      rw [ee] at q
      obtain ⟨q1, q2⟩ := Bool.and_eq_true_iff.mp q
      obtain ⟨q2, q3⟩ := Bool.and_eq_true_iff.mp q2
      have : o = o' := of_decide_eq_true q1
      exact ⟨es, by rw [this], q2, q3⟩
  have both : ∀ (sc : Scope) (X : Cx) (W : WX) (e : Expr), Cxt C XR sc X → Takes X W → chkE C (.op o cs) sc e = true → PE X e (rdV X.K XR C.cl W (.op o cs)) ∧ (isIf e = false → PT X e (rdT X.K XR C.cl W (.op o cs))) := fun sc X W e k t q => by
    obtain ⟨es, ee, mk, hc⟩ := inv q
    cases e with
    | BinOp l p r pos =>
      have go : ∀ {o' : Op} {p' : Operator}, p = p' → exOp C sc (.BinOp l p r pos) = some (o', [l, r]) → OpR X (binaryOp p') (rD X.K fun x y => opD o' [x, y]) → PE X (.BinOp l p r pos) (rdV X.K XR C.cl W (.op o cs)) := fun {o' p'} e1 e2 ok => by
        rw [ee] at e2
        cases e2
        subst e1
        obtain ⟨a, b, rfl, h1, h2⟩ := chk_two hc
        exact bin_pe (gd a List.mem_cons_self) (gd b (List.mem_cons_of_mem _ List.mem_cons_self)) k t h1 h2 ok
      have pe : PE X (.BinOp l p r pos) (rdV X.K XR C.cl W (.op o cs)) := by
        cases p with
        | Add => exact go rfl rfl ok_add
        | Sub => exact go rfl rfl ok_sub
        | Mult => exact go rfl rfl ok_mul
        | FloorDiv => exact go rfl rfl ok_div
        | Mod => exact go rfl rfl ok_mod
        | Pow => exact go rfl rfl ok_pow
        | _ => cases ee
      exact ⟨pe, fun _ => pt_gen pe rfl⟩
    | UnaryOp p l pos =>
      cases p with
      | USub =>
        cases ee
        obtain ⟨a, rfl, h1⟩ := chk_one hc
        have pe : PE X (.UnaryOp .USub l pos) (rdV X.K XR C.cl W (.op .neg [a])) := (pe_un un_neg ((gd a List.mem_cons_self).b sc X W l k t h1)).imp fun σ H Q h => by
          obtain ⟨Hs, g, A, st, p⟩ := op1_rd h
          refine ⟨Hs, g, A, st, p.mono fun r _ p v H1 Hs1 A1 F s1 x1 l1 => ?_⟩
          obtain ⟨d', d, Hs2, F2, e, sb, lv, qq⟩ := p v H1 Hs1 A1 F s1 x1 l1
          cases d' <;> first | (cases e; done) | (cases e; exact ⟨_, lv.1, qq⟩)
        exact ⟨pe, fun _ => pt_gen pe rfl⟩
      | _ => cases ee
    | Compare l os rs pos =>
      match os, rs with
      | [p], [r] =>
        have fin : ∀ c, p = cmpO c → o = .cmp c → es = [l, r] → PE X (.Compare l [p] [r] pos) (rdV X.K XR C.cl W (.op o cs)) ∧ (isIf (.Compare l [p] [r] pos) = false → PT X (.Compare l [p] [r] pos) (rdT X.K XR C.cl W (.op o cs))) := fun c e1 e2 e3 => by
          subst e1 e3
          obtain ⟨z1, z2⟩ := cmp c k t mk e2 hc
          exact ⟨z1, fun _ => z2⟩
        cases p <;> (cases ee; first | exact fin .lt rfl rfl rfl | exact fin .le rfl rfl rfl | exact fin .gt rfl rfl rfl | exact fin .ge rfl rfl rfl | exact fin .eq rfl rfl rfl | exact fin .ne rfl rfl rfl | exact fin .isN rfl rfl rfl | exact fin .notN rfl rfl rfl | exact fin .mem rfl rfl rfl | exact fin .nmem rfl rfl rfl)
      | [], [] => cases ee
      | [], _ :: _ => cases ee
      | [_], [] => cases ee
      | [_], _ :: _ :: _ => cases ee
      | _ :: _ :: _, [] => cases ee
      | _ :: _ :: _, [_] => cases ee
      | _ :: _ :: _, _ :: _ :: _ => cases ee
    | Call f as ks pos =>
      cases f with
      | Name x p =>
        cases ks with
        | nil =>
          have pe := blt_pe (p := p) (pos := pos) k t gd (show bltOp C sc x as = some (o, es) from ee) hc
          exact ⟨pe, fun _ => pt_gen pe rfl⟩
        | cons _ _ => cases ee
      | _ => cases ks <;> cases ee
    | _ => cases ee
  exact ⟨fun sc X W e k t q => (both sc X W e k t q).1, fun sc X W e k t q => (both sc X W e k t q).1.imp (rdB_of fun _ => rfl), fun sc X W e k t q i => (both sc X W e k t q).2 i⟩

/-! ### not, and, or, if -/
theorem good_not (a : E) (ga : Good C XR a) : Good C XR (.notE a) := by
  have inv : ∀ {sc e}, chkE C (.notE a) sc e = true → ∃ l p, e = .UnaryOp .Not l p ∧ isIf l = false ∧ chkE C a sc l = true := fun {sc e} q => by
    cases e with
    | UnaryOp p l pos =>
      cases p with
      | Not =>
        obtain ⟨h1, h2⟩ := Bool.and_eq_true_iff.mp (show (!isIf l && chkE C a sc l) = true from q)
        exact ⟨l, pos, rfl, by simpa using h1, h2⟩
      | _ => cases q
    | _ => cases q
  have rd : ∀ {K : PySem.W.Frag} {W : WX} {σ : L2.St} {H : Hp} {Q : VK}, rdV K XR C.cl W (.notE a) σ H Q → rdV K XR C.cl W a σ H fun x H1 => ∃ b, x = .bl b ∧ Q (.bl (!b)) H1 := fun {K W σ H Q} ⟨Hs, g, A, st, p⟩ => by
    simp only [ev, EvG_bind] at p
    refine rdV_go st p fun d g1 v H1 Hs1 A1 F p s x l => ?_
    cases d <;> first | exact p.elim | skip
    rename_i b
    have e := l.2
    subst e
    exact ⟨b, l.1, p _ H1 Hs1 A1 [] s x ⟨rfl, rfl⟩⟩
  have v : ∀ (sc : Scope) (X : Cx) (W : WX) (e : Expr), Cxt C XR sc X → Takes X W → chkE C (.notE a) sc e = true → PE X e (rdV X.K XR C.cl W (.notE a)) := fun sc X W e k t q => by
    obtain ⟨l, p, rfl, h1, h2⟩ := inv q
    exact (pe_not (ga.v sc X W l k t h2)).imp fun σ H Q h => rd h
  refine ⟨v, fun sc X W e k t q => (v sc X W e k t q).imp (rdB_of fun _ => rfl), fun sc X W e k t q _ => ?_⟩
  obtain ⟨l, p, rfl, h1, h2⟩ := inv q
  refine (pt_not (ga.t sc X W l k t h2 h1)).imp fun σ H Q h => ?_
  obtain ⟨Hs, g, A, st, p⟩ := rd h
  refine ⟨Hs, g, A, st, p.mono fun r _ p v H1 Hs1 A1 F s1 x1 l1 => ?_⟩
  obtain ⟨b, e1, c, e2, q⟩ := p v H1 Hs1 A1 F s1 x1 l1
  cases e2
  exact ⟨b, e1, q⟩
theorem rdAnd_cons {K : PySem.W.Frag} {W : WX} {a b : E} {cs : List E} {σ : L2.St} {H : Hp} {Q : VK} (h : rdAnd K XR C.cl W (a :: b :: cs) σ H Q) :
    rdV K XR C.cl W a σ H fun x H1 => ∃ c, x = .bl c ∧ if c = true then rdAnd K XR C.cl W (b :: cs) σ H1 Q else Q (.bl false) H1 := by
  obtain ⟨Hs, g, A, st, p⟩ := h
  rw [evAnd, EvG_bind] at p
  refine rdV_go st p fun d g1 v H1 Hs1 A1 F p s x l => ?_
  cases d <;> first | exact p.elim | skip
  rename_i c
  have e := l.2
  subst e
  refine ⟨c, l.1, ?_⟩
  cases c with
  | true => exact ⟨Hs1, g1, A1, s, EvG.shift p x fun r _ p v H2 Hs2 A2 F s2 x2 l2 => p v H2 Hs2 A2 F s2 (x.trans x2) l2⟩
  | false => exact p _ H1 Hs1 A1 [] s x ⟨rfl, rfl⟩
theorem rdAnd_one {K : PySem.W.Frag} {W : WX} {a : E} {σ : L2.St} {H : Hp} {Q : VK} (h : rdAnd K XR C.cl W [a] σ H Q) : rdV K XR C.cl W a σ H Q := by
  obtain ⟨Hs, g, A, st, p⟩ := h
  rw [evAnd, EvG_bind] at p
  exact ⟨Hs, g, A, st, p.mono fun r _ p => by cases r.1 <;> exact p⟩
theorem rdOr_cons {K : PySem.W.Frag} {W : WX} {a b : E} {cs : List E} {σ : L2.St} {H : Hp} {Q : VK} (h : rdOr K XR C.cl W (a :: b :: cs) σ H Q) :
    rdV K XR C.cl W a σ H fun x H1 => ∃ c, x = .bl c ∧ if c = true then Q (.bl true) H1 else rdOr K XR C.cl W (b :: cs) σ H1 Q := by
  obtain ⟨Hs, g, A, st, p⟩ := h
  rw [evOr, EvG_bind] at p
  refine rdV_go st p fun d g1 v H1 Hs1 A1 F p s x l => ?_
  cases d <;> first | exact p.elim | skip
  rename_i c
  have e := l.2
  subst e
  refine ⟨c, l.1, ?_⟩
  cases c with
  | false => exact ⟨Hs1, g1, A1, s, EvG.shift p x fun r _ p v H2 Hs2 A2 F s2 x2 l2 => p v H2 Hs2 A2 F s2 (x.trans x2) l2⟩
  | true => exact p _ H1 Hs1 A1 [] s x ⟨rfl, rfl⟩
theorem rdOr_one {K : PySem.W.Frag} {W : WX} {a : E} {σ : L2.St} {H : Hp} {Q : VK} (h : rdOr K XR C.cl W [a] σ H Q) : rdV K XR C.cl W a σ H Q := by
  obtain ⟨Hs, g, A, st, p⟩ := h
  rw [evOr, EvG_bind] at p
  exact ⟨Hs, g, A, st, p.mono fun r _ p => by cases r.1 <;> exact p⟩
/-- what and, or give -/
def retT (K : PySem.W.Frag) (t : TE) : TT := fun σ H Q => t σ H fun x H1 => ∃ b, x = .bl b ∧ Q b H1
theorem and_pe {sc : Scope} {X : Cx} {W : WX} {pos : Pos} (k : Cxt C XR sc X) (t : Takes X W) : ∀ {cs : List E} {es : List Expr}, es ≠ [] → (∀ c ∈ cs, Good C XR c) → chkEs C cs sc es = true → PE X (.BoolOp .And es pos) (rdAnd X.K XR C.cl W cs)
  | _, [], h, _, _ => absurd rfl h
  | [], _ :: _, _, _, h => by cases h
  | [c], [e], _, gd, h => by
    obtain ⟨h1, h2⟩ := Bool.and_eq_true_iff.mp (show (chkE C c sc e && chkEs C [] sc []) = true from h)
    exact (pe_one ((gd c List.mem_cons_self).v sc X W e k t h1)).imp fun σ H Q h => rdAnd_one h
  | [c], e :: e' :: es, _, _, h => by
    obtain ⟨h1, h2⟩ := Bool.and_eq_true_iff.mp (show (chkE C c sc e && chkEs C [] sc (e' :: es)) = true from h)
    cases h2
  | c :: c' :: cs, [e], _, _, h => by
    obtain ⟨h1, h2⟩ := Bool.and_eq_true_iff.mp (show (chkE C c sc e && chkEs C (c' :: cs) sc []) = true from h)
    cases h2
  | c :: c' :: cs, e :: e' :: es, _, gd, h => by
    obtain ⟨h1, h2⟩ := Bool.and_eq_true_iff.mp (show (chkE C c sc e && chkEs C (c' :: cs) sc (e' :: es)) = true from h)
    exact (pe_and ((gd c List.mem_cons_self).v sc X W e k t h1) (and_pe k t (List.cons_ne_nil _ _) (fun c hc => gd c (List.mem_cons_of_mem _ hc)) h2)).imp fun σ H Q h => rdAnd_cons h
theorem or_pe {sc : Scope} {X : Cx} {W : WX} {pos : Pos} (k : Cxt C XR sc X) (t : Takes X W) : ∀ {cs : List E} {es : List Expr}, es ≠ [] → (∀ c ∈ cs, Good C XR c) → chkEs C cs sc es = true → PE X (.BoolOp .Or es pos) (rdOr X.K XR C.cl W cs)
  | _, [], h, _, _ => absurd rfl h
  | [], _ :: _, _, _, h => by cases h
  | [c], [e], _, gd, h => by
    obtain ⟨h1, h2⟩ := Bool.and_eq_true_iff.mp (show (chkE C c sc e && chkEs C [] sc []) = true from h)
    exact (pe_one ((gd c List.mem_cons_self).v sc X W e k t h1)).imp fun σ H Q h => rdOr_one h
  | [c], e :: e' :: es, _, _, h => by
    obtain ⟨h1, h2⟩ := Bool.and_eq_true_iff.mp (show (chkE C c sc e && chkEs C [] sc (e' :: es)) = true from h)
    cases h2
  | c :: c' :: cs, [e], _, _, h => by
    obtain ⟨h1, h2⟩ := Bool.and_eq_true_iff.mp (show (chkE C c sc e && chkEs C (c' :: cs) sc []) = true from h)
    cases h2
  | c :: c' :: cs, e :: e' :: es, _, gd, h => by
    obtain ⟨h1, h2⟩ := Bool.and_eq_true_iff.mp (show (chkE C c sc e && chkEs C (c' :: cs) sc (e' :: es)) = true from h)
    exact (pe_or ((gd c List.mem_cons_self).v sc X W e k t h1) (or_pe k t (List.cons_ne_nil _ _) (fun c hc => gd c (List.mem_cons_of_mem _ hc)) h2)).imp fun σ H Q h => rdOr_cons h
theorem and_pw {sc : Scope} {X : Cx} {W : WX} {pos : Pos} (k : Cxt C XR sc X) (t : Takes X W) : ∀ {cs : List E} {es : List Expr}, es ≠ [] → (∀ c ∈ cs, Good C XR c) → chkEs C cs sc es = true → es.any isIf = false → PW X (.BoolOp .And es pos) (retT X.K (rdAnd X.K XR C.cl W cs))
  | _, [], h, _, _, _ => absurd rfl h
  | [], _ :: _, _, _, h, _ => by cases h
  | [c], [e], _, gd, h, ni => by
    obtain ⟨h1, h2⟩ := Bool.and_eq_true_iff.mp (show (chkE C c sc e && chkEs C [] sc []) = true from h)
    have n1 : isIf e = false := by simpa using ni
    have w := pw_and1 (pos := pos) ((gd c List.mem_cons_self).t sc X W e k t h1 n1)
    exact ⟨fun wh pins s σ H Q I h => w.run wh pins s σ H Q I (rdAnd_one h)⟩
  | [c], e :: e' :: es, _, _, h, _ => by
    obtain ⟨h1, h2⟩ := Bool.and_eq_true_iff.mp (show (chkE C c sc e && chkEs C [] sc (e' :: es)) = true from h)
    cases h2
  | c :: c' :: cs, [e], _, _, h, _ => by
    obtain ⟨h1, h2⟩ := Bool.and_eq_true_iff.mp (show (chkE C c sc e && chkEs C (c' :: cs) sc []) = true from h)
    cases h2
  | c :: c' :: cs, e :: e' :: es, _, gd, h, ni => by
    obtain ⟨h1, h2⟩ := Bool.and_eq_true_iff.mp (show (chkE C c sc e && chkEs C (c' :: cs) sc (e' :: es)) = true from h)
    obtain ⟨n1, n2⟩ := Bool.or_eq_false_iff.mp (show (isIf e || (e' :: es).any isIf) = false from ni)
    have w := pw_and (pos := pos) ((gd c List.mem_cons_self).t sc X W e k t h1 n1) (and_pw k t (List.cons_ne_nil _ _) (fun c hc => gd c (List.mem_cons_of_mem _ hc)) h2 n2)
    refine ⟨fun wh pins s σ H Q I h => w.run wh pins s σ H Q I ?_⟩
    obtain ⟨Hs, g, A, st, p⟩ := rdAnd_cons h
    refine ⟨Hs, g, A, st, p.mono fun r _ p v H1 Hs1 A1 F s1 x1 l1 => ?_⟩
    obtain ⟨b, e1, q⟩ := p v H1 Hs1 A1 F s1 x1 l1
    refine ⟨b, e1, ?_⟩
    cases b with
    | true => exact q
    | false =>
      obtain ⟨c, e2, q⟩ := q
      cases e2
      exact q
theorem or_pw {sc : Scope} {X : Cx} {W : WX} {pos : Pos} (k : Cxt C XR sc X) (t : Takes X W) : ∀ {cs : List E} {es : List Expr}, es ≠ [] → (∀ c ∈ cs, Good C XR c) → chkEs C cs sc es = true → es.any isIf = false → PW X (.BoolOp .Or es pos) (retT X.K (rdOr X.K XR C.cl W cs))
  | _, [], h, _, _, _ => absurd rfl h
  | [], _ :: _, _, _, h, _ => by cases h
  | [c], [e], _, gd, h, ni => by
    obtain ⟨h1, h2⟩ := Bool.and_eq_true_iff.mp (show (chkE C c sc e && chkEs C [] sc []) = true from h)
    have n1 : isIf e = false := by simpa using ni
    have w := pw_or1 (pos := pos) ((gd c List.mem_cons_self).t sc X W e k t h1 n1)
    exact ⟨fun wh pins s σ H Q I h => w.run wh pins s σ H Q I (rdOr_one h)⟩
  | [c], e :: e' :: es, _, _, h, _ => by
    obtain ⟨h1, h2⟩ := Bool.and_eq_true_iff.mp (show (chkE C c sc e && chkEs C [] sc (e' :: es)) = true from h)
    cases h2
  | c :: c' :: cs, [e], _, _, h, _ => by
    obtain ⟨h1, h2⟩ := Bool.and_eq_true_iff.mp (show (chkE C c sc e && chkEs C (c' :: cs) sc []) = true from h)
    cases h2
  | c :: c' :: cs, e :: e' :: es, _, gd, h, ni => by
    obtain ⟨h1, h2⟩ := Bool.and_eq_true_iff.mp (show (chkE C c sc e && chkEs C (c' :: cs) sc (e' :: es)) = true from h)
    obtain ⟨n1, n2⟩ := Bool.or_eq_false_iff.mp (show (isIf e || (e' :: es).any isIf) = false from ni)
    have w := pw_or (pos := pos) ((gd c List.mem_cons_self).t sc X W e k t h1 n1) (or_pw k t (List.cons_ne_nil _ _) (fun c hc => gd c (List.mem_cons_of_mem _ hc)) h2 n2)
    refine ⟨fun wh pins s σ H Q I h => w.run wh pins s σ H Q I ?_⟩
    obtain ⟨Hs, g, A, st, p⟩ := rdOr_cons h
    refine ⟨Hs, g, A, st, p.mono fun r _ p v H1 Hs1 A1 F s1 x1 l1 => ?_⟩
    obtain ⟨b, e1, q⟩ := p v H1 Hs1 A1 F s1 x1 l1
    refine ⟨b, e1, ?_⟩
    cases b with
    | false => exact q
    | true =>
      obtain ⟨c, e2, q⟩ := q
      cases e2
      exact q
theorem bool_inv {o : BoolOp} {cs : List E} {sc : Scope} {e : Expr} (q : (match exBool o e with
    | some es => chkEs C cs sc es && !es.any isIf
    | none => false) = true) : ∃ es pos, e = .BoolOp o es pos ∧ es ≠ [] ∧ chkEs C cs sc es = true ∧ es.any isIf = false := by
  cases e with
  | BoolOp p es pos =>
    match es with
    | [] => cases q
    | [_] => cases q
    | a :: b :: l =>
      have q : (match (if p = o then some (a :: b :: l) else none) with
        | some es => chkEs C cs sc es && !es.any isIf
        | none => false) = true := q
      by_cases h : p = o
      · rw [if_pos h] at q
        obtain ⟨h1, h2⟩ := Bool.and_eq_true_iff.mp q
        exact ⟨_, pos, by rw [h], List.cons_ne_nil _ _, h1, by simpa using h2⟩
      · rw [if_neg h] at q
        cases q
  | _ => cases q
theorem good_and (cs : List E) (gd : ∀ c ∈ cs, Good C XR c) : Good C XR (.andE cs) := by
  have v : ∀ (sc : Scope) (X : Cx) (W : WX) (e : Expr), Cxt C XR sc X → Takes X W → chkE C (.andE cs) sc e = true → PE X e (rdV X.K XR C.cl W (.andE cs)) := fun sc X W e k t q => by
    obtain ⟨es, pos, rfl, h1, h2, h3⟩ := bool_inv (cs := cs) q
    exact and_pe k t h1 gd h2
  refine ⟨v, fun sc X W e k t q => (v sc X W e k t q).imp (rdB_of fun _ => rfl), fun sc X W e k t q _ => ?_⟩
  obtain ⟨es, pos, rfl, h1, h2, h3⟩ := bool_inv (cs := cs) q
  exact (and_pw k t h1 gd h2 h3).pt
theorem good_or (cs : List E) (gd : ∀ c ∈ cs, Good C XR c) : Good C XR (.orE cs) := by
  have v : ∀ (sc : Scope) (X : Cx) (W : WX) (e : Expr), Cxt C XR sc X → Takes X W → chkE C (.orE cs) sc e = true → PE X e (rdV X.K XR C.cl W (.orE cs)) := fun sc X W e k t q => by
    obtain ⟨es, pos, rfl, h1, h2, h3⟩ := bool_inv (cs := cs) q
    exact or_pe k t h1 gd h2
  refine ⟨v, fun sc X W e k t q => (v sc X W e k t q).imp (rdB_of fun _ => rfl), fun sc X W e k t q _ => ?_⟩
  obtain ⟨es, pos, rfl, h1, h2, h3⟩ := bool_inv (cs := cs) q
  exact (or_pw k t h1 gd h2 h3).pt
theorem good_ite (c a b : E) (gc : Good C XR c) (ga : Good C XR a) (gb : Good C XR b) : Good C XR (.ite c a b) := by
  have inv : ∀ {sc e}, chkE C (.ite c a b) sc e = true → ∃ c' a' b' p, e = .IfExp c' a' b' p ∧ isIf c' = false ∧ chkE C c sc c' = true ∧ chkE C a sc a' = true ∧ chkE C b sc b' = true := fun {sc e} q => by
    cases e with
    | IfExp c' a' b' p =>
      obtain ⟨h1, h2⟩ := Bool.and_eq_true_iff.mp (show (!isIf c' && (chkE C c sc c' && (chkE C a sc a' && chkE C b sc b'))) = true from q)
      obtain ⟨h2, h3⟩ := Bool.and_eq_true_iff.mp h2
      obtain ⟨h3, h4⟩ := Bool.and_eq_true_iff.mp h3
      exact ⟨c', a', b', p, rfl, by simpa using h1, h2, h3, h4⟩
    | _ => cases q
  have v : ∀ (sc : Scope) (X : Cx) (W : WX) (e : Expr), Cxt C XR sc X → Takes X W → chkE C (.ite c a b) sc e = true → PE X e (rdV X.K XR C.cl W (.ite c a b)) := fun sc X W e k t q => by
    obtain ⟨c', a', b', p, rfl, h1, h2, h3, h4⟩ := inv q
    refine (pe_ifExp (gc.t sc X W c' k t h2 h1) (ga.v sc X W a' k t h3) (gb.v sc X W b' k t h4)).imp fun σ H Q ⟨Hs, g, A, st, p⟩ => ?_
    simp only [ev, EvG_bind] at p
    refine rdV_go st p fun d g1 v H1 Hs1 A1 F p s x l => ?_
    cases d <;> first | exact p.elim | skip
    rename_i y
    have e := l.2
    subst e
    refine ⟨y, l.1, ?_⟩
    cases y with
    | true => exact ⟨Hs1, g1, A1, s, EvG.shift p x fun r _ p v H2 Hs2 A2 F s2 x2 l2 => p v H2 Hs2 A2 F s2 (x.trans x2) l2⟩
    | false => exact ⟨Hs1, g1, A1, s, EvG.shift p x fun r _ p v H2 Hs2 A2 F s2 x2 l2 => p v H2 Hs2 A2 F s2 (x.trans x2) l2⟩
  refine ⟨v, fun sc X W e k t q => (v sc X W e k t q).imp (rdB_of fun _ => rfl), fun sc X W e k t q n => ?_⟩
  obtain ⟨c', a', b', p, rfl, _⟩ := inv q
  cases n
theorem cmpI_is {p : CmpOp} {c : Cmp} (h : cmpI p = some c) : p = cmpO c ∧ p ≠ .In ∧ p ≠ .NotIn := by
  cases p <;> first | (cases h; done) | (cases h; exact ⟨rfl, by decide, by decide⟩)
theorem good_chain (o o' : Cmp) (a b c : E) (ga : Good C XR a) (gb : Good C XR b) (gc : Good C XR c) : Good C XR (.chain o o' a b c) := by
  have inv : ∀ {sc e}, chkE C (.chain o o' a b c) sc e = true → ∃ p p' a' b' c' pos, e = .Compare a' [p, p'] [b', c'] pos ∧ cmpI p = some o ∧ cmpI p' = some o' ∧ chkE C a sc a' = true ∧ chkE C b sc b' = true ∧ chkE C c sc c' = true := fun {sc e} q => by
    cases e with
    | Compare a' os rs pos =>
      match os, rs with
      | [p, p'], [b', c'] =>
        have q : (match (match cmpI p, cmpI p' with
            | some p, some p' => some (p, p', a', b', c')
            | _, _ => none) with
          | some (p, p', a', b', c') => decide (o = p) && (decide (o' = p') && (chkE C a sc a' && (chkE C b sc b' && chkE C c sc c')))
          | none => false) = true := q
        cases e1 : cmpI p with
        | none => rw [e1] at q; cases q
        | some z =>
          cases e2 : cmpI p' with
          | none => rw [e1, e2] at q; cases q
          | some z' =>
            rw [e1, e2] at q
            obtain ⟨h1, h2⟩ := Bool.and_eq_true_iff.mp q
            obtain ⟨h2, h3⟩ := Bool.and_eq_true_iff.mp h2
            obtain ⟨h3, h4⟩ := Bool.and_eq_true_iff.mp h3
            obtain ⟨h4, h5⟩ := Bool.and_eq_true_iff.mp h4
            have h1 : o = z := of_decide_eq_true h1
            have h2 : o' = z' := of_decide_eq_true h2
            exact ⟨p, p', a', b', c', pos, rfl, by rw [e1, h1], by rw [e2, h2], h3, h4, h5⟩
      | [], _ => cases q
      | [_], _ => cases q
      | _ :: _ :: _ :: _, _ => cases q
      | [_, _], [] => cases q
      | [_, _], [_] => cases q
      | [_, _], _ :: _ :: _ :: _ => cases q
    | _ => cases q
  have rd : ∀ {K : PySem.W.Frag} {W : WX} {σ : L2.St} {H : Hp} {Q : VK}, rdV K XR C.cl W (.chain o o' a b c) σ H Q →
      tChain (rD K fun x y => opD (.cmp o) [x, y]) (rD K fun x y => opD (.cmp o') [x, y]) (rdB K XR C.cl W a) (rdB K XR C.cl W b) (rdB K XR C.cl W c) σ H Q := fun {K W σ H Q} ⟨Hs, g, A, st, p⟩ => by
    simp only [ev, EvG_bind] at p
    refine rdB_go st p fun d1 g1 v1 H1 Hs1 A1 F1 p1 s1 x1 l1 => ?_
    refine rdB_on s1 x1 p1 fun d2 g2 v2 H2 Hs2 A2 F2 p2 s2 x2 l2 => ?_
    have p2 : EvG K XR W σ Hs H A (postV K σ Hs H A Q) (match cmpD o d1 d2 with
      | some true => (ev C.cl c true g2).bind fun (z, g3) => match cmpD o' d2 z with
        | some r => .ok (.bl r, g3)
        | none => .bad
      | some false => .ok (.bl false, g2)
      | none => .bad) := p2
    cases e : cmpD o d1 d2 with
    | none => rw [e] at p2; exact p2.elim
    | some y =>
      rw [e] at p2
      refine ⟨d1, d2, .bl y, Hs2, F1, F2, (by show (cmpD o d1 d2).map D.bl = _; rw [e]; rfl), s2.sub, l1.keep x2, l2, y, rfl, ?_⟩
      cases y with
      | false => exact p2 _ H2 Hs2 A2 [] s2 (x1.trans x2) ⟨rfl, rfl⟩
      | true =>
        have p2 : EvG K XR W σ Hs H A (postV K σ Hs H A Q) ((ev C.cl c true g2).bind fun (z, g3) => match cmpD o' d2 z with
          | some r => .ok (.bl r, g3)
          | none => .bad) := p2
        rw [EvG_bind] at p2
        show rdB K XR C.cl W c σ H2 _
        refine rdB_on s2 (x1.trans x2) p2 fun d3 g3 v3 H3 Hs3 A3 F3 p3 s3 x3 l3 => ?_
        have p3 : EvG K XR W σ Hs H A (postV K σ Hs H A Q) (match cmpD o' d2 d3 with
          | some r => .ok (.bl r, g3)
          | none => .bad) := p3
        cases e' : cmpD o' d2 d3 with
        | none => rw [e'] at p3; exact p3.elim
        | some r =>
          rw [e'] at p3
          exact ⟨d2, d3, .bl r, Hs3, F2, F3, (by show (cmpD o' d2 d3).map D.bl = _; rw [e']; rfl), s3.sub, l2.keep x3, l3, p3 _ H3 Hs3 A3 [] s3 ((x1.trans x2).trans x3) ⟨rfl, rfl⟩⟩
  have mk : ∀ {p p' : CmpOp} {b' c' : Expr}, p ≠ .In → p ≠ .NotIn → p' ≠ .In → p' ≠ .NotIn → lastMarks [p, p'] [b', c'] = false := fun {p p' b' c'} h1 h2 h3 h4 => by
    have e2 := nobehind c' h3 h4
    first
      | exact e2
      | (show behindInMarks p' c' = false; exact e2)
      | simp [lastMarks, e2]
  have both : ∀ (sc : Scope) (X : Cx) (W : WX) (e : Expr), Cxt C XR sc X → Takes X W → chkE C (.chain o o' a b c) sc e = true → PE X e (rdV X.K XR C.cl W (.chain o o' a b c)) ∧ PT X e (rdT X.K XR C.cl W (.chain o o' a b c)) := fun sc X W e k t q => by
    obtain ⟨p, p', a', b', c', pos, rfl, e1, e2, h1, h2, h3⟩ := inv q
    obtain ⟨z1, z2, z3⟩ := cmpI_is e1
    obtain ⟨y1, y2, y3⟩ := cmpI_is e2
    have ok := ok_cmp (X := X) k.room.units o
    have ok' := ok_cmp (X := X) k.room.units o'
    rw [← z1] at ok
    rw [← y1] at ok'
    exact ⟨(pe_chain ok ok' (ga.b sc X W a' k t h1) (gb.b sc X W b' k t h2) (gc.b sc X W c' k t h3) (mk z2 z3 y2 y3)).imp fun σ H Q h => rd h,
      (pt_chain ok ok' (ga.b sc X W a' k t h1) (gb.b sc X W b' k t h2) (gc.b sc X W c' k t h3) (mk z2 z3 y2 y3)).imp fun σ H Q h => rd h⟩
  exact ⟨fun sc X W e k t q => (both sc X W e k t q).1, fun sc X W e k t q => (both sc X W e k t q).1.imp (rdB_of fun _ => rfl), fun sc X W e k t q _ => (both sc X W e k t q).2⟩
end
end Mp
end
section
/-! Mp snd3: places, displays, sums of lists, slices. -/
namespace Mp
open PySem PySem.Spec PyProof.Rows L2
/-! ### places -/
/-- what of F is the value's own: nothing, of a slot's data; else all -/
def Own (ro : Option Nat) (A : Nat → List Addr) (F F0 : List Addr) : Prop := match ro with
  | some i => F0 = [] ∧ ∀ p ∈ F, p ∈ A i
  | none => F0 = F
section
variable (K : PySem.W.Frag) (XR : XRel) (cl : Nat → List D → ROut) (W : WX)
def postL (σ : L2.St) (Hs H : Hp) (A : Nat → List Addr) (ro : Option Nat) (Q : VK) (r : D × Env) : Prop :=
  ∀ v H' Hs' A' F F0, Sta K Hs' H' r.2 σ A' → Xst Hs H A Hs' H' A' F0 → Lv K Hs' H' r.1 v F → Own ro A' F F0 → Q v H'
def rdL (c : E) : TE := fun σ H Q => ∃ Hs g A, Sta K Hs H g σ A ∧ EvG K XR W σ Hs H A (postL K σ Hs H A (rootE c) Q) (ev cl c (rootE c).isSome g)
end
section
variable {K : PySem.W.Frag} {XR : XRel} {cl : Nat → List D → ROut} {W : WX} {σ : L2.St} {Hs H : Hp} {A : Nat → List Addr} {g : Env}
theorem rdL_go {a : E} {P : D × Env → Prop} {T : VK} (st : Sta K Hs H g σ A) (h : EvG K XR W σ Hs H A P (ev cl a (rootE a).isSome g))
    (k : ∀ d g1 v H1 Hs1 A1 F F0, P (d, g1) → Sta K Hs1 H1 g1 σ A1 → Xst Hs H A Hs1 H1 A1 F0 → Lv K Hs1 H1 d v F → Own (rootE a) A1 F F0 → T v H1) : rdL K XR cl W a σ H T :=
  ⟨Hs, g, A, st, h.mono fun r _ p v H1 Hs1 A1 F F0 s x l o => k r.1 r.2 v H1 Hs1 A1 F F0 p s x l o⟩
theorem rdL_on {a : E} {Hs1 H1 : Hp} {A1 : Nat → List Addr} {g1 : Env} {P : D × Env → Prop} {T : VK} (st : Sta K Hs1 H1 g1 σ A1) (x : Xst Hs H A Hs1 H1 A1 []) (h : EvG K XR W σ Hs H A P (ev cl a (rootE a).isSome g1))
    (k : ∀ d g2 v H2 Hs2 A2 F F0, P (d, g2) → Sta K Hs2 H2 g2 σ A2 → Xst Hs1 H1 A1 Hs2 H2 A2 F0 → Lv K Hs2 H2 d v F → Own (rootE a) A2 F F0 → T v H2) : rdL K XR cl W a σ H1 T :=
  ⟨Hs1, g1, A1, st, h.shift x fun r _ p v H2 Hs2 A2 F F0 s y l o => k r.1 r.2 v H2 Hs2 A2 F F0 p s y l o⟩
end
section
variable {C : Ctx} {XR : XRel}
/-- a term is looked at, its own kept apart -/
def Look (C : Ctx) (XR : XRel) (c : E) : Prop := ∀ (sc : Scope) (X : Cx) (W : WX) (e : Expr), Cxt C XR sc X → Takes X W → chkE C c sc e = true → PE X e (rdL X.K XR C.cl W c)
theorem look_none {c : E} (h : rootE c = none) (gd : Good C XR c) : Look C XR c := fun sc X W e k t q => (gd.v sc X W e k t q).imp fun σ H Q ⟨Hs, g, A, st, p⟩ => by
  rw [h] at p
  exact ⟨Hs, g, A, st, p.mono fun r _ p v H' Hs' A' F s x l => p v H' Hs' A' F F s x l rfl⟩
theorem look_b {c : E} {i : Nat} (h : rootE c = some i) (lk : Look C XR c) : ∀ (sc : Scope) (X : Cx) (W : WX) (e : Expr), Cxt C XR sc X → Takes X W → chkE C c sc e = true → PE X e (rdB X.K XR C.cl W c) := fun sc X W e k t q =>
  (lk sc X W e k t q).imp fun σ H Q ⟨Hs, g, A, st, p⟩ => ⟨Hs, g, A, st, by
    rw [h]
    exact p.mono fun r _ p v H' Hs' A' F F0 s x l o => p v H' Hs' A' F s (by obtain ⟨o, _⟩ := o; subst o; exact x) l⟩
theorem look_var (i : Nat) : Look C XR (.var i) := fun sc X W e k t q => by
  cases e with
  | Name x p =>
    obtain ⟨h1, h2⟩ := Bool.and_eq_true_iff.mp (show (decide (C.N[i]? = some x) && visB sc x) = true from q)
    obtain ⟨a1, a2, a3⟩ := vis_of h2 k.sc
    refine (pe_var (k.slot (of_decide_eq_true h1)) a1 a2 a3).imp fun σ H Q ⟨Hs, g, A, st, p⟩ => ?_
    have p : EvG X.K XR W σ Hs H A (postL X.K σ Hs H A (some i) Q) (ev C.cl (.var i) true g) := p
    unfold ev at p
    cases eg : g[i]? with
    | none => rw [eg] at p; exact p.elim
    | some o =>
      cases o with
      | none => rw [eg] at p; exact p.elim
      | some d =>
        rw [eg] at p
        obtain ⟨v, e1, l⟩ := st.sl i d eg
        exact ⟨v, e1, p v H Hs A (A i) [] st Xst.refl l ⟨rfl, fun _ h => h⟩⟩
  | _ => cases q
mutual
theorem Lv.hot {K : PySem.W.Frag} {Hs H : Hp} : ∀ {d : D} {v : V}, Lv K Hs H d v [] → cold d = true
  | .non, _, _ => rfl
  | .bl _, _, _ => rfl
  | .int _, _, _ => rfl
  | .str _, _, _ => rfl
  | .tup l, _, ⟨_, vs, _, _, _, c⟩ => LvL.hot c
  | .lst false _, _, _ => rfl
  | .lst true _, _, ⟨q, vs, F, _, b, _, e, d⟩ => by cases e
  | .dic _ _, _, h => h.elim
  | .obj _ _, _, h => h.elim
  | .exc _ _, _, _ => rfl
theorem LvL.hot {K : PySem.W.Frag} {Hs H : Hp} : ∀ {l : List D} {vs : List V}, LvL K Hs H l vs [] → coldL l = true
  | [], _, _ => rfl
  | d :: l, _, ⟨_, _, F1, F2, _, b, c, e⟩ => by
    obtain ⟨h1, h2⟩ := List.append_eq_nil_iff.mp b.symm
    subst h1 h2
    exact Bool.and_eq_true_iff.mpr ⟨Lv.hot c, LvL.hot e⟩
end
theorem hotS_inv {g : Env} {r : Nat} (h : hotS g r = true) : ∃ z, g[r]? = some (some z) ∧ cold z = false := by
  unfold hotS at h
  split at h
  · rename_i z e
    exact ⟨z, e, by simpa using h⟩
  · cases h
theorem Sta.hot {K : PySem.W.Frag} {Hs H : Hp} {g : Env} {σ : L2.St} {A : Nat → List Addr} {r : Nat} (st : Sta K Hs H g σ A) (h : hotS g r = true) : A r ≠ [] := fun e => by
  obtain ⟨z, e1, e2⟩ := hotS_inv h
  obtain ⟨v, _, l⟩ := st.sl r z e1
  rw [e] at l
  rw [l.hot] at e2
  cases e2
theorem atD_atI {α : Type} (l : List α) (i : Int) : atD l i = atI l i := rfl
theorem LvL.at {K : PySem.W.Frag} {Hs H : Hp} {l : List D} {vs : List V} {F : List Addr} {i : Int} {d : D} (m : LvL K Hs H l vs F) (e : atD l i = some d) : ∃ u F', atI vs i = some u ∧ Lv K Hs H d u F' ∧ F'.Sublist F := by
  unfold atD at e
  obtain ⟨j, h1, h2⟩ := Option.bind_eq_some_iff.mp e
  obtain ⟨u, F', h3, h4, h5⟩ := m.get h2
  refine ⟨u, F', ?_, h4, h5⟩
  unfold atI
  rw [m.length]
  exact Option.bind_eq_some_iff.mpr ⟨j, h1, h3⟩
theorem atI_mem {α : Type} {l : List α} {i : Int} {c : α} (e : atI l i = some c) : c ∈ l := by
  obtain ⟨j, _, h⟩ := Option.bind_eq_some_iff.mp e
  exact List.mem_of_getElem? h
theorem okS_one {s : List Nat} {c : Nat} (h : okS s) (m : c ∈ s) : okS [c] := ⟨fun d hd => by rw [List.mem_singleton.mp hd]; exact h.1 c m, show 1 ≤ sizeLine by decide⟩
theorem Lv.item {K : PySem.W.Frag} {Hs H : Hp} {x y d : D} {v : V} {F : List Addr} (sb : Sub Hs H) (e : idxD x y = some d) (l : Lv K Hs H x v F) :
    (∃ s j c, x = .str s ∧ y = .int j ∧ d = .str [c] ∧ atI s j = some c) ∨ ∃ p ys j u F', v = .ref p ∧ y = .int j ∧ (SqL K H p ys ∨ SqT K H p ys) ∧ atI ys j = some u ∧ Lv K Hs H d u F' ∧ F'.Sublist F := by
  cases y with
  | int j =>
    cases x with
    | tup m =>
      obtain ⟨p, vs, e1, e2, _, c⟩ := l
      obtain ⟨u, F', h1, h2, h3⟩ := c.at (i := j) e
      exact .inr ⟨p, vs, j, u, F', e1, rfl, .inr (sqT_sub sb e2), h1, h2, h3⟩
    | lst f m =>
      cases f with
      | false =>
        obtain ⟨p, vs, e1, e2, _, e3, c⟩ := l
        obtain ⟨u, F', h1, h2, h3⟩ := c.at (i := j) e
        exact .inr ⟨p, vs, j, u, F', e1, rfl, .inl (sqL_sub sb e2), h1, h2, by rw [e3]; exact h3⟩
      | true =>
        obtain ⟨p, vs, G, e1, e2, _, e3, c⟩ := l
        obtain ⟨u, F', h1, h2, h3⟩ := c.at (i := j) e
        exact .inr ⟨p, vs, j, u, F', e1, rfl, .inl (SqL.of e2), h1, h2, by rw [e3]; exact h3.cons _⟩
    | str s =>
      obtain ⟨c, h1, h2⟩ := Option.map_eq_some_iff.mp (show (atD s j).map (fun c => D.str [c]) = some d from e)
      exact .inl ⟨s, j, c, rfl, rfl, h2.symm, h1⟩
    | _ => cases e
  | _ => cases x <;> cases e
theorem own_on {ro : Option Nat} {A1 A2 : Nat → List Addr} {F F0 : List Addr} {Hs1 H1 Hs2 H2 : Hp} {F2 : List Addr} (o : Own ro A1 F F0) (x : Xst Hs1 H1 A1 Hs2 H2 A2 F2) (h : ∀ r, ro = some r → A2 r ≠ []) : Own ro A2 F F0 := by
  cases ro with
  | none => exact o
  | some r =>
    refine ⟨o.1, fun p hp => ?_⟩
    rcases x.ka r with e | e
    · rw [e]; exact o.2 p hp
    · exact (h r rfl e).elim
/-- the result of an index -/
def idxR (ro : Option Nat) (b : Bool) (d : D) (g2 : Env) : Out (D × Env) := if cold d then .ok (d, g2) else (match ro with
  | some r => if hotS g2 r then (if b then .ok (d, g2) else .ok (frz d, frzS g2 r)) else .bad
  | none => .ok (d, g2))
theorem ev_idx {cl : Nat → List D → ROut} {p i : E} {b : Bool} {g : Env} : ev cl (.idx p i) b g = (ev cl p (rootE p).isSome g).bind fun r => (ev cl i true r.2).bind fun s => match idxD r.1 s.1 with
    | some d => idxR (rootE p) b d s.2
    | none => .bad := by
  rw [ev]
  rfl
theorem idx_pe {p0 i : E} (lp : Look C XR p0) (gi : Good C XR i) (b : Bool) (hb : b = false ∨ ∃ r, rootE p0 = some r) {sc : Scope} {X : Cx} {W : WX} {e : Expr} (k : Cxt C XR sc X) (t : Takes X W) (q : chkE C (.idx p0 i) sc e = true) :
    PE X e fun σ H Q => ∃ Hs g A, Sta X.K Hs H g σ A ∧ EvG X.K XR W σ Hs H A (postL X.K σ Hs H A (if b = true then rootE p0 else none) Q) (ev C.cl (.idx p0 i) b g) := by
  cases e with
  | Subscript v ix pos =>
    have q : (match (if notSlice ix then some (v, ix) else none) with
      | some (p', i') => chkE C p0 sc p' && chkE C i sc i'
      | none => false) = true := q
    by_cases ns : notSlice ix = true
    · rw [if_pos ns] at q
      obtain ⟨q1, q2⟩ := Bool.and_eq_true_iff.mp q
      refine (pe_ix ix_seq (lp sc X W v k t q1) (gi.b sc X W ix k t q2) (plainIx_of ns)).imp fun σ H Q ⟨Hs, g, A, st, p⟩ => ?_
      rw [ev_idx] at p
      simp only [EvG_bind] at p
      refine rdL_go st p fun d1 g1 v1 H1 Hs1 A1 F1 F01 p1 s1 x1 l1 o1 => ?_
      refine rdB_on s1 x1.drop p1 fun d2 g2 v2 H2 Hs2 A2 F2 p2 s2 x2 l2 => ?_
      simp only at p2
      cases ed : idxD d1 d2 with
      | none => rw [ed] at p2; exact p2.elim
      | some d =>
        rw [ed] at p2
        have l1' := l1.keep x2
        rcases l1'.item s2.sub ed with ⟨s, j, c, ex, ey, ez, ec⟩ | ⟨a, ys, j, u, F', e1, e2, e3, e4, l, sb⟩
        · subst ex ey ez
          obtain ⟨ev1, _, ok1⟩ := l1'
          have ev2 : v2 = .int j := l2.1
          subst ev1 ev2
          refine .inr (.inr ⟨sV s, j, c, rfl, rfl, ok1.2, ec, ?_⟩)
          have p2 : EvG X.K XR W σ Hs H A (postL X.K σ Hs H A (if b = true then rootE p0 else none) Q) (.ok (.str [c], g2)) := p2
          refine p2 _ H2 Hs2 A2 [] [] s2 (x1.drop.trans x2) ⟨rfl, rfl, okS_one ok1 (atI_mem ec)⟩ ?_
          unfold Own
          split
          · exact ⟨rfl, fun _ h => absurd h List.not_mem_nil⟩
          · rfl
        subst e1 e2
        have ev2 : v2 = .int j := l2.1
        subst ev2
        have fin : Q u H2 → rIx X.K (.ref a) (.int j) H2 Q := fun qq => by
          rcases e3 with e3 | e3
          · exact .inl ⟨a, ys, j, u, rfl, rfl, e3, e4, qq⟩
          · exact .inr (.inl ⟨a, ys, j, u, rfl, rfl, e3, e4, qq⟩)
        refine fin ?_
        have p2 : EvG X.K XR W σ Hs H A (postL X.K σ Hs H A (if b = true then rootE p0 else none) Q) (idxR (rootE p0) b d g2) := p2
        unfold idxR at p2
        cases hc : cold d with
        | true =>
          rw [hc, if_pos rfl] at p2
          have := l.cold hc
          subst this
          refine p2 u H2 Hs2 A2 [] [] s2 (x1.drop.trans x2) l ?_
          unfold Own
          split
          · exact ⟨rfl, fun _ h => absurd h List.not_mem_nil⟩
          · rfl
        | false =>
          rw [hc, if_neg Bool.false_ne_true] at p2
          cases er : rootE p0 with
          | none =>
            rw [er] at p2 o1
            have hb : b = false := by
              rcases hb with h | ⟨r, h⟩
              · exact h
              · rw [er] at h; cases h
            have o1 : F01 = F1 := o1
            subst o1 hb
            have x12 := x1.seq x2 l1.ne
            exact p2 u H2 Hs2 A2 F' F' s2 (x12.sub (by rw [List.append_nil]; exact sb)) l rfl
          | some r =>
            rw [er] at p2 o1
            have p2 : EvG X.K XR W σ Hs H A (postL X.K σ Hs H A (if b = true then some r else none) Q) (if hotS g2 r = true then (if b = true then .ok (d, g2) else .ok (frz d, frzS g2 r)) else .bad) := p2
            by_cases hr : hotS g2 r = true
            · rw [if_pos hr] at p2
              have o2 := own_on o1 x2 fun r' e => by cases e; exact s2.hot hr
              have inA : ∀ q ∈ F', q ∈ A2 r := fun q hq => o2.2 q (sb.subset hq)
              cases b with
              | true => exact p2 u H2 Hs2 A2 F' [] s2 (x1.drop.trans x2) l ⟨rfl, inA⟩
              | false =>
                obtain ⟨z, ez, _⟩ := hotS_inv hr
                have ef : frzS g2 r = g2.set r (some (frz z)) := by unfold frzS; rw [ez]
                have p2 : postL X.K σ Hs H A none Q (frz d, frzS g2 r) := p2
                obtain ⟨A3, s3, x3⟩ := s2.frz ez
                refine p2 u H2 _ A3 [] [] (by rw [ef]; exact s3) ((x1.drop.trans x2).trans x3) (l.frz (laid_same (s2.off r)) fun q hq => laid_in (inA q hq)) rfl
            · rw [if_neg hr] at p2
              exact p2.elim
    · rw [if_neg ns] at q; cases q
  | _ => cases q
theorem look_idx (p0 i : E) (lp : Look C XR p0) (gi : Good C XR i) : Look C XR (.idx p0 i) := fun sc X W e k t q => by
  cases er : rootE p0 with
  | none =>
    have h := idx_pe lp gi false (.inl rfl) k t q
    refine h.imp fun σ H Q ⟨Hs, g, A, st, p⟩ => ⟨Hs, g, A, st, ?_⟩
    have er' : rootE (.idx p0 i) = none := er
    rw [er'] at p
    exact p
  | some r =>
    have h := idx_pe lp gi true (.inr ⟨r, er⟩) k t q
    refine h.imp fun σ H Q ⟨Hs, g, A, st, p⟩ => ⟨Hs, g, A, st, ?_⟩
    have er' : rootE (.idx p0 i) = some r := er
    rw [er'] at p
    rw [er]
    exact p
theorem idx_true {cl : Nat → List D → ROut} {p0 i : E} (h : rootE p0 = none) (g : Env) : ev cl (.idx p0 i) true g = ev cl (.idx p0 i) false g := by
  rw [ev_idx, ev_idx, h]
  rfl
theorem good_idx (p0 i : E) (lp : Look C XR p0) (gi : Good C XR i) : Good C XR (.idx p0 i) := by
  have v : ∀ (sc : Scope) (X : Cx) (W : WX) (e : Expr), Cxt C XR sc X → Takes X W → chkE C (.idx p0 i) sc e = true → PE X e (rdV X.K XR C.cl W (.idx p0 i)) := fun sc X W e k t q =>
    (idx_pe lp gi false (.inl rfl) k t q).imp fun σ H Q ⟨Hs, g, A, st, p⟩ => ⟨Hs, g, A, st, p.mono fun r _ p v H' Hs' A' F F0 s x l o => p v H' Hs' A' F s (by have o : F0 = F := o; subst o; exact x) l⟩
  have pl : ∀ sc e, chkE C (.idx p0 i) sc e = true → plainT e = true := fun sc e q => by
    cases e <;> first | rfl | cases q
  refine ⟨v, fun sc X W e k t q => ?_, fun sc X W e k t q _ => pt_gen (v sc X W e k t q) (pl sc e q)⟩
  cases er : rootE p0 with
  | none => exact (v sc X W e k t q).imp (rdB_of (idx_true er))
  | some r => exact look_b (c := .idx p0 i) (i := r) er (look_idx p0 i lp gi) sc X W e k t q

/-! ### displays -/
theorem evs_length {cl : Nat → List D → ROut} : ∀ {cs : List E} {b : Bool} {g : Env} {ds : List D} {g' : Env}, evs cl cs b g = .ok (ds, g') → ds.length = cs.length
  | [], _, _, _, _, h => by cases h; rfl
  | c :: cs, b, g, ds, g', h => by
    unfold evs at h
    cases e1 : ev cl c b g with
    | ok r =>
      rw [e1] at h
      obtain ⟨d, g1⟩ := r
      have h : ((evs cl cs b g1).bind fun (ds, g2) => Out.ok (d :: ds, g2)) = .ok (ds, g') := h
      cases e2 : evs cl cs b g1 with
      | ok r2 =>
        rw [e2] at h
        obtain ⟨ds2, g2⟩ := r2
        cases h
        exact congrArg (· + 1) (evs_length e2)
      | exc _ _ _ => rw [e2] at h; cases h
      | bad => rw [e2] at h; cases h
    | exc _ _ _ => rw [e1] at h; cases h
    | bad => rw [e1] at h; cases h
theorem chk_length {sc : Scope} : ∀ {cs : List E} {es : List Expr}, chkEs C cs sc es = true → cs.length = es.length
  | [], [], _ => rfl
  | [], _ :: _, h => by cases h
  | _ :: _, [], h => by cases h
  | c :: cs, e :: es, h => by
    obtain ⟨h1, h2⟩ := Bool.and_eq_true_iff.mp (show (chkE C c sc e && chkEs C cs sc es) = true from h)
    exact congrArg (· + 1) (chk_length h2)
theorem small_line {n : Nat} (h : n ≤ 1000) : n ≤ sizeLine := Nat.le_trans h (by decide)
theorem good_tup (cs : List E) (gd : ∀ c ∈ cs, Good C XR c) : Good C XR (.tup cs) := by
  refine Good.of (fun _ => rfl) (fun sc e q => by cases e <;> first | rfl | cases q) fun sc X W e k t q => ?_
  cases e with
  | Tuple es n pos =>
    obtain ⟨q1, q2⟩ := Bool.and_eq_true_iff.mp (show (decide (es.length ≤ 1000) && chkEs C cs sc es) = true from q)
    have q1 : es.length ≤ 1000 := of_decide_eq_true q1
    refine (pe_tup (args_v k t gd q2)).imp fun σ H Q ⟨Hs, g, A, st, p⟩ => ?_
    simp only [ev, EvG_bind] at p
    refine ⟨Hs, g, A, st, p.mono fun r er p vs H1 Hs1 A1 F s1 x1 l1 => ?_⟩
    obtain ⟨ds, g1⟩ := r
    have le : ds.length ≤ sizeLine := by rw [evs_length er, chk_length q2]; exact small_line q1
    refine ⟨by rw [l1.length]; exact le, fun a ha => ?_⟩
    obtain ⟨s2, x2⟩ := Xst.tup (o := .tup vs) s1 x1 ha l1.ne
    exact p _ _ _ A1 F s2 x2 ⟨a, vs, rfl, .inl (.inl upd_same), le, l1.mono (same_upd (sub_free s1.sub ha)) (same_upd ha)⟩
  | _ => cases q
theorem good_lst (cs : List E) (gd : ∀ c ∈ cs, Good C XR c) : Good C XR (.lst cs) := by
  refine Good.of (fun _ => rfl) (fun sc e q => by cases e <;> first | rfl | cases q) fun sc X W e k t q => ?_
  cases e with
  | List es pos =>
    obtain ⟨q1, q2⟩ := Bool.and_eq_true_iff.mp (show (decide (es.length ≤ 1000) && chkEs C cs sc es) = true from q)
    have q1 : es.length ≤ 1000 := of_decide_eq_true q1
    refine (pe_lst (args_v k t gd q2)).imp fun σ H Q ⟨Hs, g, A, st, p⟩ => ?_
    simp only [ev, EvG_bind] at p
    refine ⟨Hs, g, A, st, p.mono fun r er p vs H1 Hs1 A1 F s1 x1 l1 => ?_⟩
    obtain ⟨ds, g1⟩ := r
    have le : ds.length ≤ sizeLine := by rw [evs_length er, chk_length q2]; exact small_line q1
    refine ⟨by rw [l1.length]; exact le, fun a ha => ?_⟩
    obtain ⟨s2, x2⟩ := Xst.new1 (o := .lst vs) s1 x1 ha l1.ne
    exact p _ _ _ A1 (a :: F) s2 x2 ⟨a, vs, F, rfl, upd_same, le, rfl, l1.mono (Same.refl _) (same_upd ha)⟩
  | _ => cases q
end
end Mp
end
section
/-! Mp snd4: sums of lists, slices, calls. -/
namespace Mp
open PySem PySem.Spec PyProof.Rows L2
/-! ### sums of lists -/
def rPlus (K : PySem.W.Frag) : R2 := fun x y H Q => ∃ l b xs zs, x = .ref l ∧ y = .ref b ∧ SqL K H l xs ∧ SqL K H b zs ∧ xs.length + zs.length ≤ sizeLine ∧ ∀ p, H p = none → Q (.ref p) (upd H p (.lst (xs ++ zs)))
theorem lst_at {X : Cx} {pins : List (Addr × Obj)} {σ : L2.St} {H : Hp} {s : Shared} {l : Addr} {xs : List V} (I : Inv X pins σ H s) (h : SqL X.K H l xs) : ∃ (its : List Value) (n : Nat) (sl : Array (Option Value)), Vals xs its ∧ s.heap.get? l = some { cls := .type "list", dict := none, data := .seq its.toArray n, slots := sl } := by
  obtain ⟨its, r, ⟨o, n, e, c, d, t⟩, _⟩ := I.list h
  obtain ⟨cls, dict, data, slots⟩ := o
  cases c
  cases d
  cases t
  exact ⟨its, n, slots, r, e⟩
theorem op_plus {X : Cx} : OpR X (binaryOp .Add) (rPlus X.K) := by
  intro pins s σ H x y v u Q I rx ry h
  obtain ⟨l, b, xs, zs, rfl, rfl, hH, hB, hz, q⟩ := h
  cases rx
  cases ry
  obtain ⟨its, n, sl, r, e⟩ := lst_at I hH
  obtain ⟨its2, n2, sl2, r2, e2⟩ := lst_at I hB
  have l1 := r.length
  have l2 := r2.length
  refine concat_meets ⟨_, e, rfl⟩ ⟨_, e2, rfl⟩ noFill_list_add seq_list_add F.slot_list_add F.entry_list_add (F.args_list_add_2 _ _) (list_addW l b its.toArray its2.toArray n n2 none none sl sl2 (by rw [List.size_toArray, List.size_toArray]; omega)) ⟨e, e2, ?_⟩
  have ea : its.toArray ++ its2.toArray = (its ++ its2).toArray := by simp
  rw [ea]
  exact ⟨.ref _, _, I.lnew (t' := s.toks) (r.append r2) (by rw [List.length_append]; omega), rfl, q _ I.fresh⟩
section
variable {C : Ctx} {XR : XRel}
/-- a list looked at: its cell, and what of its items is its own -/
theorem Lv.lst {K : PySem.W.Frag} {Hs H : Hp} {f : Bool} {l : List D} {v : V} {F : List Addr} (sb : Sub Hs H) (lv : Lv K Hs H (.lst f l) v F) : ∃ p vs F', v = .ref p ∧ SqL K H p vs ∧ l.length ≤ sizeLine ∧ LvL K Hs H l vs F' ∧ F'.Sublist F := by
  cases f with
  | false =>
    obtain ⟨p, vs, e1, e2, z, e3, c⟩ := lv
    exact ⟨p, vs, [], e1, sqL_sub sb e2, z, c, List.nil_sublist _⟩
  | true =>
    obtain ⟨p, vs, G, e1, e2, z, e3, c⟩ := lv
    exact ⟨p, vs, G, e1, SqL.of e2, z, c, by rw [e3]; exact List.sublist_cons_self _ _⟩
/-- the items' own: nothing of a slot's -/
theorem own_items {K : PySem.W.Frag} {Hs H : Hp} {ro : Option Nat} {A : Nat → List Addr} {l : List D} {vs : List V} {F F0 F' : List Addr} (o : Own ro A F F0) (lv : LvL K Hs H l vs F') (sb : F'.Sublist F) (h : (ro.isNone || coldL l) = true) : F'.Sublist F0 := by
  cases ro with
  | none =>
    have o : F0 = F := o
    rw [o]; exact sb
  | some r =>
    have c : coldL l = true := by simpa using h
    rw [lv.cold c]
    exact List.nil_sublist _
theorem good_cat (a b : E) (la : Look C XR a) (lb : Look C XR b) : Good C XR (.cat a b) := by
  refine Good.of (fun _ => rfl) (fun sc e q => by cases e <;> first | rfl | cases q) fun sc X W e k t q => ?_
  cases e with
  | BinOp l p r pos =>
    cases p with
    | Add =>
      obtain ⟨q1, q2⟩ := Bool.and_eq_true_iff.mp (show (chkE C a sc l && chkE C b sc r) = true from q)
      refine (pe_op op_plus (la sc X W l k t q1) (lb sc X W r k t q2)).imp fun σ H Q ⟨Hs, g, A, st, p⟩ => ?_
      simp only [ev, EvG_bind] at p
      refine rdL_go st p fun d1 g1 v1 H1 Hs1 A1 F1 F01 p1 s1 x1 l1 o1 => ?_
      simp only [EvG_bind] at p1
      refine rdL_on s1 x1.drop p1 fun d2 g2 v2 H2 Hs2 A2 F2 F02 p2 s2 x2 l2 o2 => ?_
      cases d1 with
      | lst f1 m1 =>
        cases d2 with
        | lst f2 m2 =>
          have p2 : EvG X.K XR W σ Hs H A (postV X.K σ Hs H A Q) (if (fitsL (m1 ++ m2) && (((rootE a).isNone || coldL m1) && ((rootE b).isNone || coldL m2))) = true then .ok (.lst true (m1 ++ m2), g2) else .bad) := p2
          by_cases c : (fitsL (m1 ++ m2) && (((rootE a).isNone || coldL m1) && ((rootE b).isNone || coldL m2))) = true
          · rw [if_pos c] at p2
            obtain ⟨c1, c2⟩ := Bool.and_eq_true_iff.mp c
            obtain ⟨c2, c3⟩ := Bool.and_eq_true_iff.mp c2
            have c1 : (m1 ++ m2).length ≤ sizeLine := of_decide_eq_true c1
            obtain ⟨pa, xs, G1, e1, r1, z1, m1l, sb1⟩ := (l1.keep x2).lst s2.sub
            obtain ⟨pb, ys, G2, e2, r2, z2, m2l, sb2⟩ := l2.lst s2.sub
            have le : xs.length + ys.length ≤ sizeLine := by rw [m1l.length, m2l.length, ← List.length_append]; exact c1
            refine ⟨pa, pb, xs, ys, e1, e2, r1, r2, le, fun w hw => ?_⟩
            have ne1 : ∀ q ∈ F01, H1 q ≠ none := fun q hq e => by
              cases ea : rootE a with
              | none =>
                rw [ea] at o1
                have o1 : F01 = F1 := o1
                rw [o1] at hq
                exact l1.ne q hq e
              | some r =>
                rw [ea] at o1
                rw [o1.1] at hq
                cases hq
            have y1 := own_items o1 m1l sb1 c2
            have y2 := own_items o2 m2l sb2 c3
            have x12 := (x1.seq x2 ne1).sub (y1.append y2)
            have lv := m1l.append m2l
            obtain ⟨s3, x3⟩ := Xst.new1 (o := .lst (xs ++ ys)) s2 x12 hw lv.ne
            exact p2 _ _ _ A2 (w :: (G1 ++ G2)) s3 x3 ⟨w, xs ++ ys, G1 ++ G2, rfl, upd_same, c1, rfl, lv.mono (Same.refl _) (same_upd hw)⟩
          · rw [if_neg c] at p2
            exact p2.elim
        | _ => exact p2.elim
      | _ => cases d2 <;> exact p2.elim
    | _ => cases q
  | _ => cases q

/-! ### slices -/
theorem cut_cut (l : List D) (vs : List V) (h : vs.length = l.length) (lo hi : Option Int) : ∃ i n, cutL l lo hi = (l.drop i).take n ∧ cutV vs lo hi = (vs.drop i).take n := by
  have e : ∀ n d o, HT.sIx n d o = cutI n d o := fun n d o => by cases o <;> rfl
  refine ⟨cutI l.length 0 lo, cutI l.length l.length hi - cutI l.length 0 lo, rfl, ?_⟩
  unfold cutV
  rw [e, e, h]
theorem LvL.drop {K : PySem.W.Frag} {Hs H : Hp} : ∀ {l : List D} {vs : List V} (i : Nat), LvL K Hs H l vs [] → LvL K Hs H (l.drop i) (vs.drop i) []
  | [], _, i, ⟨e, _⟩ => by rw [e]; cases i <;> exact ⟨rfl, rfl⟩
  | d :: l, _, 0, h => h
  | d :: l, _, i + 1, ⟨v, vs, F1, F2, e, b, c, m⟩ => by
    obtain ⟨h1, h2⟩ := List.append_eq_nil_iff.mp b.symm
    subst h1 h2
    rw [e]
    exact LvL.drop i m
theorem LvL.take {K : PySem.W.Frag} {Hs H : Hp} : ∀ {l : List D} {vs : List V} (i : Nat), LvL K Hs H l vs [] → LvL K Hs H (l.take i) (vs.take i) []
  | [], _, i, ⟨e, _⟩ => by rw [e]; cases i <;> exact ⟨rfl, rfl⟩
  | d :: l, _, 0, h => ⟨rfl, rfl⟩
  | d :: l, _, i + 1, ⟨v, vs, F1, F2, e, b, c, m⟩ => by
    obtain ⟨h1, h2⟩ := List.append_eq_nil_iff.mp b.symm
    subst h1 h2
    rw [e]
    exact ⟨v, vs.take i, [], [], rfl, rfl, c, LvL.take i m⟩
theorem LvL.cut {K : PySem.W.Frag} {Hs H : Hp} {l : List D} {vs : List V} (m : LvL K Hs H l vs []) (lo hi : Option Int) : LvL K Hs H (cutL l lo hi) (cutV vs lo hi) [] ∧ (cutL l lo hi).length ≤ l.length := by
  obtain ⟨i, n, e1, e2⟩ := cut_cut l vs m.length lo hi
  rw [e1, e2]
  refine ⟨(m.drop i).take n, ?_⟩
  rw [List.length_take, List.length_drop]
  omega
/-- what a slice gives, from the state Hs, H, A on -/
theorem slice_fin {K : PySem.W.Frag} {XR : XRel} {W : WX} {σ : L2.St} {Hs H Hs3 H3 : Hp} {A A3 : Nat → List Addr} {g3 : Env} {Q : VK} {x : D} {v : V} {F : List Addr} {lo hi : Option Int} {o : Out (D × Env)}
    (ho : o = sliceR x lo hi g3) (p : EvG K XR W σ Hs H A (postV K σ Hs H A Q) o) (s3 : Sta K Hs3 H3 g3 σ A3) (x3 : Xst Hs H A Hs3 H3 A3 []) (l : Lv K Hs3 H3 x v F) : rSlL K v lo hi H3 Q ∨ rSlS v lo hi H3 Q := by
  subst ho
  cases x with
  | lst f m =>
    have p : EvG K XR W σ Hs H A (postV K σ Hs H A Q) (if coldL m = true then .ok (.lst true (cutL m lo hi), g3) else .bad) := p
    by_cases c : coldL m = true
    · rw [if_pos c] at p
      obtain ⟨a, vs, G, e1, r1, z1, ml, sb⟩ := l.lst s3.sub
      have := ml.cold c
      subst this
      obtain ⟨mc, lc⟩ := ml.cut lo hi
      refine .inl ⟨a, vs, e1, r1, fun w hw => ?_⟩
      obtain ⟨s4, x4⟩ := Xst.new1 (o := .lst (cutV vs lo hi)) s3 x3 hw (fun _ h => absurd h List.not_mem_nil)
      exact p _ _ _ A3 [w] s4 x4 ⟨w, _, [], rfl, upd_same, Nat.le_trans lc z1, rfl, mc.mono (Same.refl _) (same_upd hw)⟩
    · rw [if_neg c] at p
      exact p.elim
  | str s =>
    obtain ⟨e1, _, k1, k2⟩ := l
    have es : (sV s).length = s.length := by unfold sV PySem.Str.length; simp
    have ec : cutS (sV s) lo hi = sV (cutL s lo hi) := by
      have e : ∀ n d o, HT.sIx n d o = cutI n d o := fun n d o => by cases o <;> rfl
      unfold cutS cutL sV
      first
        | (simp only [e]; simp; done)
        | (simp [e, PySem.Str.length]; done)
    refine .inr ⟨sV s, e1, by rw [es]; exact k2, ?_⟩
    rw [ec]
    refine p _ H3 Hs3 A3 [] s3 x3 ⟨rfl, rfl, fun c hc => k1 c ?_, ?_⟩
    · exact List.mem_of_mem_drop (List.mem_of_mem_take hc)
    · refine Nat.le_trans ?_ k2
      unfold cutL
      rw [List.length_take, List.length_drop]
      omega
  | _ => exact p.elim
theorem ex_slice {e v : Expr} {lo hi : Option Expr} (h : exSlice e = some (v, lo, hi)) : ∃ p2 pos, e = .Subscript v (.Slice lo hi none p2) pos := by
  cases e with
  | Subscript v ix pos =>
    cases ix with
    | Slice lo hi st p2 =>
      cases st with
      | none => cases h; exact ⟨p2, pos, rfl⟩
      | some _ => cases h
    | _ => cases h
  | _ => cases h
theorem good_slHi (p0 hi : E) (gp : Good C XR p0) (gh : Good C XR hi) : Good C XR (.slHi p0 hi) := by
  have inv : ∀ {sc e}, chkE C (.slHi p0 hi) sc e = true → ∃ v h p2 pos, e = .Subscript v (.Slice none (some h) none p2) pos ∧ chkE C p0 sc v = true ∧ chkE C hi sc h = true := fun {sc e} q => by
    have q : (match exSlice e with
      | some (p', none, some hi') => chkE C p0 sc p' && chkE C hi sc hi'
      | _ => false) = true := q
    split at q
    · rename_i p' hi' ee
      obtain ⟨p2, pos, rfl⟩ := ex_slice ee
      obtain ⟨q1, q2⟩ := Bool.and_eq_true_iff.mp q
      exact ⟨_, _, _, _, rfl, q1, q2⟩
    · cases q
  refine Good.of (fun _ => rfl) (fun sc e q => by obtain ⟨_, _, _, _, rfl, _⟩ := inv q; rfl) fun sc X W e k t q => ?_
  obtain ⟨v, h, p2, pos, rfl, h1, h2⟩ := inv q
  refine (pe_slice (SlR.or sl_list sl_str) (gp.b sc X W v k t h1) po_none (po_some (gh.v sc X W h k t h2))).imp fun σ H Q ⟨Hs, g, A, st, p⟩ => ?_
  simp only [ev, EvG_bind] at p
  refine rdB_go st p fun d1 g1 v1 H1 Hs1 A1 F1 p1 s1 x1 l1 => ?_
  show rdV X.K XR C.cl W hi σ H1 _
  refine rdV_on s1 x1 p1 fun d2 g2 v2 H2 Hs2 A2 F2 p2 s2 x2 l2 => ?_
  cases d2 <;> first | exact p2.elim | skip
  rename_i j
  exact ⟨j, l2.1, slice_fin rfl p2 s2 (x1.trans x2.drop) (l1.keep x2)⟩
theorem good_slLo (p0 lo : E) (gp : Good C XR p0) (gl : Good C XR lo) : Good C XR (.slLo p0 lo) := by
  have inv : ∀ {sc e}, chkE C (.slLo p0 lo) sc e = true → ∃ v h p2 pos, e = .Subscript v (.Slice (some h) none none p2) pos ∧ chkE C p0 sc v = true ∧ chkE C lo sc h = true := fun {sc e} q => by
    have q : (match exSlice e with
      | some (p', some lo', none) => chkE C p0 sc p' && chkE C lo sc lo'
      | _ => false) = true := q
    split at q
    · rename_i p' hi' ee
      obtain ⟨p2, pos, rfl⟩ := ex_slice ee
      obtain ⟨q1, q2⟩ := Bool.and_eq_true_iff.mp q
      exact ⟨_, _, _, _, rfl, q1, q2⟩
    · cases q
  refine Good.of (fun _ => rfl) (fun sc e q => by obtain ⟨_, _, _, _, rfl, _⟩ := inv q; rfl) fun sc X W e k t q => ?_
  obtain ⟨v, h, p2, pos, rfl, h1, h2⟩ := inv q
  refine (pe_slice (SlR.or sl_list sl_str) (gp.b sc X W v k t h1) (po_some (gl.v sc X W h k t h2)) po_none).imp fun σ H Q ⟨Hs, g, A, st, p⟩ => ?_
  simp only [ev, EvG_bind] at p
  refine rdB_go st p fun d1 g1 v1 H1 Hs1 A1 F1 p1 s1 x1 l1 => ?_
  show rdV X.K XR C.cl W lo σ H1 _
  refine rdV_on s1 x1 p1 fun d2 g2 v2 H2 Hs2 A2 F2 p2 s2 x2 l2 => ?_
  cases d2 <;> first | exact p2.elim | skip
  rename_i j
  exact ⟨j, l2.1, slice_fin rfl p2 s2 (x1.trans x2.drop) (l1.keep x2)⟩
theorem good_slc (p0 lo hi : E) (gp : Good C XR p0) (gl : Good C XR lo) (gh : Good C XR hi) : Good C XR (.slc p0 lo hi) := by
  have inv : ∀ {sc e}, chkE C (.slc p0 lo hi) sc e = true → ∃ v h h' p2 pos, e = .Subscript v (.Slice (some h) (some h') none p2) pos ∧ chkE C p0 sc v = true ∧ chkE C lo sc h = true ∧ chkE C hi sc h' = true := fun {sc e} q => by
    have q : (match exSlice e with
      | some (p', some lo', some hi') => chkE C p0 sc p' && (chkE C lo sc lo' && chkE C hi sc hi')
      | _ => false) = true := q
    split at q
    · rename_i p' lo' hi' ee
      obtain ⟨p2, pos, rfl⟩ := ex_slice ee
      obtain ⟨q1, q2⟩ := Bool.and_eq_true_iff.mp q
      obtain ⟨q2, q3⟩ := Bool.and_eq_true_iff.mp q2
      exact ⟨_, _, _, _, _, rfl, q1, q2, q3⟩
    · cases q
  refine Good.of (fun _ => rfl) (fun sc e q => by obtain ⟨_, _, _, _, _, rfl, _⟩ := inv q; rfl) fun sc X W e k t q => ?_
  obtain ⟨v, h, h', p2, pos, rfl, h1, h2, h3⟩ := inv q
  refine (pe_slice (SlR.or sl_list sl_str) (gp.b sc X W v k t h1) (po_some (gl.v sc X W h k t h2)) (po_some (gh.v sc X W h' k t h3))).imp fun σ H Q ⟨Hs, g, A, st, p⟩ => ?_
  simp only [ev, EvG_bind] at p
  refine rdB_go st p fun d1 g1 v1 H1 Hs1 A1 F1 p1 s1 x1 l1 => ?_
  show rdV X.K XR C.cl W lo σ H1 _
  refine rdV_on s1 x1 p1 fun d2 g2 v2 H2 Hs2 A2 F2 p2 s2 x2 l2 => ?_
  cases d2 <;> first | exact p2.elim | skip
  rename_i i
  refine ⟨i, l2.1, ?_⟩
  show rdV X.K XR C.cl W hi σ H2 _
  simp only [EvG_bind] at p2
  refine rdV_on s2 (x1.trans x2.drop) p2 fun d3 g3 v3 H3 Hs3 A3 F3 p3 s3 x3 l3 => ?_
  cases d3 <;> first | exact p3.elim | skip
  rename_i j
  exact ⟨j, l3.1, slice_fin rfl p3 s3 ((x1.trans x2.drop).trans x3.drop) ((l1.keep x2).keep x3)⟩

/-! ### calls -/
section
variable {K : PySem.W.Frag} {Hs H Hs1 H1 Hs2 H2 : Hp} {g : Env} {σ : L2.St} {A A1 : Nat → List Addr} {F : List Addr}
/-- nothing that stood is gone, nothing of a slot's stands -/
structure Aft (Hs1 H1 Hs2 H2 : Hp) : Prop where
  hp : Same H1 H2
  hs : Same Hs1 Hs2
  sub : Sub Hs2 H2
  new : ∀ p o, Hs2 p = some o → Hs1 p = some o ∨ H1 p = none
theorem Sta.aft (st : Sta K Hs1 H1 g σ A) (a : Aft Hs1 H1 Hs2 H2) : Sta K Hs2 H2 g σ A := by
  refine ⟨a.sub, st.len, fun i d e => ?_, st.emp, st.dj, st.nd, fun i p h => ?_⟩
  · obtain ⟨v, h1, h2⟩ := st.sl i d e
    exact ⟨v, h1, h2.mono a.hs a.hp⟩
  · cases e : Hs2 p with
    | none => rfl
    | some o =>
      rcases a.new p o e with z | z
      · rw [st.off i p h] at z; cases z
      · obtain ⟨u, hu, _⟩ := st.live h
        rw [z] at hu; cases hu
theorem Xst.aft (st : Sta K Hs1 H1 g σ A1) (x : Xst Hs H A Hs1 H1 A1 []) (a : Aft Hs1 H1 Hs2 H2) (fr : ∀ p ∈ F, H1 p = none ∧ Hs2 p = none) (nd : F.Nodup) : Xst Hs H A Hs2 H2 A1 F := by
  refine ⟨x.hp.trans a.hp, x.hs.trans a.hs, x.ka, fun p h => .inr (x.hp.free (fr p h).1), fun p h i q => ?_, nd, fun p h => (fr p h).2, fun p o e => ?_⟩
  · obtain ⟨u, hu, _⟩ := st.live q
    rw [(fr p h).1] at hu; cases hu
  · rcases a.new p o e with z | z
    · exact x.new p o z
    · exact .inr (.inr (x.hp.free z))
end
theorem call_inv {f : Nat} {cs : List E} {sc : Scope} {e : Expr} (q : (match exCall e with
    | some (x, es) => decide (C.fnm[f]? = some x) && (glB sc x && chkEs C cs sc es)
    | none => false) = true) : ∃ x a as p pos, e = .Call (.Name x p) (a :: as) [] pos ∧ C.fnm[f]? = some x ∧ glB sc x = true ∧ chkEs C cs sc (a :: as) = true := by
  cases e with
  | Call fn as ks pos =>
    cases fn with
    | Name x p =>
      cases as with
      | nil => cases ks <;> cases q
      | cons a as =>
        cases ks with
        | nil =>
          obtain ⟨q1, q2⟩ := Bool.and_eq_true_iff.mp (show (decide (C.fnm[f]? = some x) && (glB sc x && chkEs C cs sc (a :: as))) = true from q)
          obtain ⟨q2, q3⟩ := Bool.and_eq_true_iff.mp q2
          exact ⟨x, a, as, p, pos, rfl, of_decide_eq_true q1, q2, q3⟩
        | cons _ _ => cases q
    | _ => cases as <;> cases ks <;> cases q
  | _ => cases q
theorem frzL_len (l : List D) : (frzL l).length = l.length := frzL_length l
theorem good_call (f : Nat) (cs : List E) (gd : ∀ c ∈ cs, Good C XR c) : Good C XR (.call f cs) := by
  refine Good.of (fun _ => rfl) (fun sc e q => by obtain ⟨_, _, _, _, _, rfl, _⟩ := call_inv (cs := cs) q; rfl) fun sc X W e k t q => ?_
  obtain ⟨x, a, as, p, pos, rfl, h1, h2, h3⟩ := call_inv (cs := cs) q
  obtain ⟨ad, fd, ps, n, m1, m2, m3, m4, m5⟩ := k.fn f x h1
  obtain ⟨g1, g2⟩ := gl_of h2 k.sc
  have ha : ∃ c0 cs0, cs = c0 :: cs0 ∧ chkE C c0 sc a = true ∧ chkEs C cs0 sc as = true := by
    cases cs with
    | nil => cases h3
    | cons c0 cs0 =>
      obtain ⟨z1, z2⟩ := Bool.and_eq_true_iff.mp (show (chkE C c0 sc a && chkEs C cs0 sc as) = true from h3)
      exact ⟨c0, cs0, rfl, z1, z2⟩
  obtain ⟨c0, cs0, ec, z1, z2⟩ := ha
  refine (pe_callS m4 k.room g1 m1 m2 m3 (passAt t) (args_v k t gd h3) g2 (star_of (chk_noStar z1)) (stars_of z2)).imp fun σ H Q ⟨Hs, g, A, st, p⟩ => ?_
  simp only [ev, EvG_bind] at p
  refine ⟨Hs, g, A, st, p.mono fun r er p vs H1 Hs1 A1 F s1 x1 l1 => ?_⟩
  obtain ⟨ds, g1⟩ := r
  obtain ⟨s2, x2⟩ := Xst.frz s1 x1
  have fl := l1.frz (H' := H1) (laid_same x1.off) (fun q hq => laid_in hq)
  have p : EvG X.K XR W σ Hs H A (postV X.K σ Hs H A Q) (match C.cl f (frzL ds) with
    | .ok d [] => .ok (d, g1)
    | .exc k l => .exc k l g1
    | _ => .bad) := p
  have nb : C.cl f (frzL ds) ≠ .bad := fun e => by rw [e] at p; exact p.elim
  refine ⟨by rw [fl.length]; exact m5 _ nb, laid Hs1 H1 F, frzL ds, s2.sub, fl, ?_⟩
  cases er2 : C.cl f (frzL ds) with
  | ok d io =>
    cases io with
    | nil =>
      rw [er2] at p
      intro v H' Hs' F' b1 b2 b3 b4 b5 b6 b7
      have af : Aft (laid Hs1 H1 F) H1 Hs' H' := ⟨b1, b2, b3, b7⟩
      exact p v H' Hs' A1 F' (s2.aft af) (Xst.aft s2 x2 af b5 b6) b4
    | cons _ _ => rw [er2] at p; exact p.elim
  | exc kk l =>
    rw [er2] at p
    intro c dd H' Hs' b1 b2 b3 b4 b5
    have af : Aft (laid Hs1 H1 F) H1 Hs' H' := ⟨b1, b2, b3, b4⟩
    exact p c dd H' Hs' A1 (s2.aft af) (Xst.aft s2 x2 af (fun _ h => absurd h List.not_mem_nil) List.nodup_nil) b5
  | bad => exact nb er2

/-! ### calls that only look at their arguments -/
/-- all of F stands, for a while -/
def lend (Hs H : Hp) (F : List Addr) : Hp := fun p => match Hs p with
  | some o => some o
  | none => if p ∈ F then H p else none
/-- what was lent stands no longer -/
def unlend (Hs H Hs' : Hp) : Hp := fun p => match Hs p with
  | some o => some o
  | none => match H p with
    | some _ => none
    | none => Hs' p
section
variable {K : PySem.W.Frag} {Hs H Hs1 H1 Hs2 H2 : Hp} {F : List Addr}
theorem lend_same : Same Hs (lend Hs H F) := fun p o e => by unfold lend; rw [e]
theorem lend_sub (s : Sub Hs H) : Sub (lend Hs H F) H := fun p o e => by
  unfold lend at e
  cases h : Hs p with
  | some u => rw [h] at e; cases e; exact s p _ h
  | none =>
    rw [h] at e
    have e : (if p ∈ F then H p else none) = some o := e
    by_cases q : p ∈ F
    · rw [if_pos q] at e; exact .inl e
    · rw [if_neg q] at e; cases e
theorem lend_at (s : Sub Hs H) (lv : ∀ p ∈ F, ∃ o, H p = some o ∧ isMut o = true) : ∀ p ∈ F, lend Hs H F p = H p := fun p hp => by
  unfold lend
  cases h : Hs p with
  | none => exact if_pos hp
  | some u =>
    obtain ⟨o, h1, h2⟩ := lv p hp
    rcases s p u h with z | ⟨_, ob, z⟩
    · exact z.symm
    · rw [h1] at z
      cases z
      cases h2
mutual
theorem Lv.flat0 {K : PySem.W.Frag} {Hs Hs' H H' : Hp} (k : ∀ p vs, SqT K Hs p vs → SqT K Hs' p vs) : ∀ {d : D} {v : V} {F : List Addr}, flat d = true → Lv K Hs H d v F → F = [] ∧ Lv K Hs' H' d v []
  | .non, _, _, _, h => ⟨h.2, h.1, rfl⟩
  | .bl _, _, _, _, h => ⟨h.2, h.1, rfl⟩
  | .int _, _, _, _, h => ⟨h.2, h.1, rfl⟩
  | .str _, _, _, _, h => ⟨h.2.1, h.1, rfl, h.2.2⟩
  | .tup l, _, _, f, ⟨p, vs, a, b, z, c⟩ => by
    obtain ⟨h1, h2⟩ := LvL.flat0 k (l := l) f c
    exact ⟨h1, p, vs, a, k p vs b, z, h2⟩
  | .lst _ _, _, _, f, _ => by cases f
  | .dic _ _, _, _, f, _ => by cases f
  | .obj _ _, _, _, f, _ => by cases f
  | .exc _ _, _, _, f, _ => by cases f
theorem LvL.flat0 {K : PySem.W.Frag} {Hs Hs' H H' : Hp} (k : ∀ p vs, SqT K Hs p vs → SqT K Hs' p vs) : ∀ {l : List D} {vs : List V} {F : List Addr}, flatL l = true → LvL K Hs H l vs F → F = [] ∧ LvL K Hs' H' l vs []
  | [], _, _, _, h => ⟨h.2, h.1, rfl⟩
  | _ :: _, _, _, f, ⟨v, vs, F1, F2, a, b, c, d⟩ => by
    obtain ⟨f1, f2⟩ := Bool.and_eq_true_iff.mp (show (flat _ && flatL _) = true from f)
    obtain ⟨h1, h2⟩ := Lv.flat0 k f1 c
    obtain ⟨h3, h4⟩ := LvL.flat0 k f2 d
    subst h1 h3
    exact ⟨b, v, vs, [], [], a, rfl, h2, h4⟩
end
theorem unlend_aft (s : Sub Hs1 H1) (lv : ∀ p ∈ F, ∃ o, H1 p = some o ∧ isMut o = true) (a : Aft (lend Hs1 H1 F) H1 Hs2 H2) : Aft Hs1 H1 (unlend Hs1 H1 Hs2) H2 ∧ (∀ p vs, SqT K Hs2 p vs → SqT K (unlend Hs1 H1 Hs2) p vs) ∧ ∀ p o, Hs2 p = some o → isMut o = false → unlend Hs1 H1 Hs2 p = some o := by
  have up : ∀ p o, unlend Hs1 H1 Hs2 p = some o → Hs2 p = some o ∧ (Hs1 p = some o ∨ H1 p = none) := fun p o e => by
    unfold unlend at e
    cases h : Hs1 p with
    | some u =>
      rw [h] at e
      cases e
      exact ⟨a.hs p _ (lend_same p _ h), .inl rfl⟩
    | none =>
      rw [h] at e
      cases h' : H1 p with
      | some u => rw [h'] at e; cases e
      | none => rw [h'] at e; exact ⟨e, .inr rfl⟩
  have dn : ∀ p o, Hs2 p = some o → (isMut o = false ∨ H1 p = none) → unlend Hs1 H1 Hs2 p = some o := fun p o e m => by
    unfold unlend
    cases h : Hs1 p with
    | some u =>
      have := a.hs p _ (lend_same p _ h)
      rw [e] at this
      cases this
      rfl
    | none =>
      cases h' : H1 p with
      | none => exact e
      | some u =>
        exfalso
        rcases m with m | m
        · rcases a.new p o e with z | z
          · unfold lend at z
            rw [h] at z
            have z : (if p ∈ F then H1 p else none) = some o := z
            by_cases q : p ∈ F
            · rw [if_pos q] at z
              obtain ⟨o', y1, y2⟩ := lv p q
              rw [z] at y1
              cases y1
              rw [m] at y2
              cases y2
            · rw [if_neg q] at z; cases z
          · rw [h'] at z; cases z
        · rw [h'] at m; cases m
  refine ⟨⟨a.hp, fun p o e => ?_, fun p o e => a.sub p o (up p o e).1, fun p o e => (up p o e).2⟩, fun p vs h => ?_, fun p o e m => dn p o e (.inl m)⟩
  · unfold unlend; rw [e]
  · rcases h with (h | ⟨o, h⟩) | h
    · exact .inl (.inl (dn p _ h (.inl rfl)))
    · exact .inl (.inr ⟨o, dn p _ h (.inl rfl)⟩)
    · exact .inr h
end
theorem good_callP (f : Nat) (cs : List E) (gd : ∀ c ∈ cs, Good C XR c) : Good C XR (.callP f cs) := by
  refine Good.of (fun _ => rfl) (fun sc e q => by obtain ⟨_, _, _, _, _, rfl, _⟩ := call_inv (cs := cs) q; rfl) fun sc X W e k t q => ?_
  obtain ⟨x, a, as, p, pos, rfl, h1, h2, h3⟩ := call_inv (cs := cs) q
  obtain ⟨ad, fd, ps, n, m1, m2, m3, m4, m5⟩ := k.fn f x h1
  obtain ⟨g1, g2⟩ := gl_of h2 k.sc
  have ha : ∃ c0 cs0, cs = c0 :: cs0 ∧ chkE C c0 sc a = true ∧ chkEs C cs0 sc as = true := by
    cases cs with
    | nil => cases h3
    | cons c0 cs0 =>
      obtain ⟨z1, z2⟩ := Bool.and_eq_true_iff.mp (show (chkE C c0 sc a && chkEs C cs0 sc as) = true from h3)
      exact ⟨c0, cs0, rfl, z1, z2⟩
  obtain ⟨c0, cs0, ec, z1, z2⟩ := ha
  refine (pe_callS m4 k.room g1 m1 m2 m3 (passAt t) (args_b k t gd h3) g2 (star_of (chk_noStar z1)) (stars_of z2)).imp fun σ H Q ⟨Hs, g, A, st, p⟩ => ?_
  simp only [ev, EvG_bind] at p
  refine ⟨Hs, g, A, st, p.mono fun r er p vs H1 Hs1 A1 F s1 x1 l1 => ?_⟩
  obtain ⟨ds, g1⟩ := r
  have lv := l1.live
  have fl := l1.frz (H' := H1) lend_same (lend_at s1.sub lv)
  have p : EvG X.K XR W σ Hs H A (postV X.K σ Hs H A Q) (match C.cl f (frzL ds) with
    | .ok d [] => if flat d then .ok (d, g1) else .bad
    | .exc k l => .exc k l g1
    | _ => .bad) := p
  have nb : C.cl f (frzL ds) ≠ .bad := fun e => by rw [e] at p; exact p.elim
  refine ⟨by rw [fl.length]; exact m5 _ nb, lend Hs1 H1 F, frzL ds, lend_sub s1.sub, fl, ?_⟩
  cases er2 : C.cl f (frzL ds) with
  | ok d io =>
    cases io with
    | nil =>
      rw [er2] at p
      intro v H' Hs' F' b1 b2 b3 b4 b5 b6 b7
      have p : EvG X.K XR W σ Hs H A (postV X.K σ Hs H A Q) (if flat d = true then .ok (d, g1) else .bad) := p
      by_cases c : flat d = true
      · rw [if_pos c] at p
        obtain ⟨af, sq, _⟩ := unlend_aft (K := X.K) s1.sub lv ⟨b1, b2, b3, b7⟩
        obtain ⟨e, lf⟩ := b4.flat0 sq c
        exact p v H' _ A1 [] (s1.aft af) (Xst.aft s1 x1 af (fun _ h => absurd h List.not_mem_nil) List.nodup_nil) lf
      · rw [if_neg c] at p
        exact p.elim
    | cons _ _ => rw [er2] at p; exact p.elim
  | exc kk l =>
    rw [er2] at p
    intro c dd H' Hs' b1 b2 b3 b4 b5
    obtain ⟨af, _, keep⟩ := unlend_aft (K := X.K) s1.sub lv ⟨b1, b2, b3, b4⟩
    have b6 : XR kk l c dd (unlend Hs1 H1 Hs') := by
      rw [k.xr] at b5 ⊢
      obtain ⟨z1, z2, vs, z3, z4⟩ := b5
      refine ⟨z1, z2, vs, z3.scalH z2, ?_⟩
      cases dd with
      | none => exact z4
      | some d => exact ⟨z4.1, z4.2.1, keep _ _ z4.2.2 rfl⟩
    exact p c dd H' _ A1 (s1.aft af) (Xst.aft s1 x1 af (fun _ h => absurd h List.not_mem_nil) List.nodup_nil) b6
  | bad => exact nb er2
end
end Mp
end
section
/-! Mp snds: texts cut, joined, made; global texts. -/
namespace Mp
open PySem PySem.Spec PyProof.Rows L2
section
variable {C : Ctx} {XR : XRel}
theorem good_glb (d : D) : Good C XR (.glb d) := by
  have inv : ∀ {sc e}, chkE C (.glb d) sc e = true → ∃ x p s, e = .Name x p ∧ d = .str s ∧ glB sc x = true ∧ C.glbs.lookup x = some s ∧ okS s := fun {sc e} q => by
    have q : (match (generalizing := false) exName e, d with
      | some x, .str s => glB sc x && (decide (C.glbs.lookup x = some s) && (s.all (fun c => decide (c < 1114112)) && decide (s.length ≤ 1000)))
      | _, _ => false) = true := q
    cases e with
    | Name x p =>
      cases d with
      | str s =>
        obtain ⟨q1, q⟩ := Bool.and_eq_true_iff.mp q
        obtain ⟨q2, q⟩ := Bool.and_eq_true_iff.mp q
        obtain ⟨q3, q4⟩ := Bool.and_eq_true_iff.mp q
        exact ⟨x, p, s, rfl, rfl, q1, of_decide_eq_true q2, fun c hc => of_decide_eq_true (List.all_eq_true.mp q3 c hc), Nat.le_trans (of_decide_eq_true q4) (by decide)⟩
      | _ => cases q
    | _ => cases q
  refine Good.of (fun _ => rfl) (fun sc e q => by obtain ⟨_, _, _, rfl, _⟩ := inv q; rfl) fun sc X W e k t q => ?_
  obtain ⟨x, p, s, rfl, rfl, h1, h2, h3⟩ := inv q
  obtain ⟨g1, g2⟩ := gl_of h1 k.sc
  obtain ⟨tk, hm⟩ := k.glb x s h2
  exact (pe_glob g1 hm (v := .str (sV s)) ⟨tk, rfl⟩ g2).imp fun σ H Q ⟨Hs, g, A, st, p⟩ => p _ H Hs A [] st Xst.refl ⟨rfl, rfl, h3⟩
/-! ### methods of texts -/
theorem base_ok {o : Expr} {a : Str} {env : PySem.Env} {w : Sem Value} (h : baseOk o = true) : attributeBase o a env w = w := by
  cases o with
  | Call f as ks p =>
    cases as with
    | nil =>
      cases ks with
      | nil => cases h
      | cons _ _ => cases f <;> rfl
    | cons _ _ => cases f <;> rfl
  | _ => rfl
def rM (K : PySem.W.Frag) (o : Op) : V → List V → Hp → VK → Prop := fun x xs H Q => ∃ y, xs = [y] ∧ rD K (fun a b => opD o [a, b]) x y H Q
theorem MtR.imp {X : Cx} {id : String} {r r' : V → List V → Hp → VK → Prop} (h : MtR X id r) (k : ∀ x xs H Q, r' x xs H Q → r x xs H Q) : MtR X id r' := fun pins s σ H x xs v us Q I rx rs q => h pins s σ H x xs v us Q I rx rs (k x xs H Q q)
theorem tw_len {p : Nat → Bool} : ∀ l : List Nat, l.drop (l.takeWhile p).length = l.dropWhile p
  | [] => rfl
  | c :: l => by
    by_cases h : p c = true
    · rw [List.takeWhile_cons_of_pos h, List.dropWhile_cons_of_pos h]
      exact tw_len l
    · rw [List.takeWhile_cons_of_neg h, List.dropWhile_cons_of_neg h]
      rfl
theorem rev_tw {p : Nat → Bool} (l : List Nat) : l.take (l.length - (l.reverse.takeWhile p).length) = (l.reverse.dropWhile p).reverse := by
  rw [← tw_len l.reverse, List.drop_reverse, List.reverse_reverse]
theorem strip_S (a b : List Nat) : Txt.stripChars (sV a) (sV b) = sV (stripL b a) := by
  have ec : ∀ c, (sV b).cps.contains c = b.contains c := fun c => by unfold sV; simp
  have e0 : (sV a).cps.toList = a := rfl
  have lo : stripLo ((sV b).cps.contains) true (sV a) = (a.takeWhile fun c => b.contains c).length := by
    unfold stripLo
    rw [if_pos rfl, e0]
    congr 1
    congr 1
    funext c
    exact ec c
  have dl : a.drop (a.takeWhile fun c => b.contains c).length = a.dropWhile fun c => b.contains c := tw_len a
  have hi : stripHi ((sV b).cps.contains) true (sV a) (a.takeWhile fun c => b.contains c).length = a.length - ((a.dropWhile fun c => b.contains c).reverse.takeWhile fun c => b.contains c).length := by
    unfold stripHi
    rw [if_pos rfl, e0, dl, sV_length]
    congr 2
    congr 1
    funext c
    exact ec c
  have tl : (a.takeWhile fun c => b.contains c).length + (a.dropWhile fun c => b.contains c).length = a.length := by
    rw [← dl, List.length_drop]
    have := (List.takeWhile_sublist (fun c => b.contains c) (l := a)).length_le
    omega
  have sub : Builtin.Str.strSub (sV a) (a.takeWhile fun c => b.contains c).length (a.length - ((a.dropWhile fun c => b.contains c).reverse.takeWhile fun c => b.contains c).length) = sV (stripL b a) := by
    have es : ∀ (lo hi : Nat), Builtin.Str.strSub (sV a) lo hi = sV ((a.drop lo).take (hi - lo)) := fun lo hi => by
      unfold Builtin.Str.strSub sV
      simp [List.extract_eq_drop_take]
    rw [es, dl]
    unfold stripL
    rw [← rev_tw]
    have e : a.length - ((a.dropWhile fun c => b.contains c).reverse.takeWhile fun c => b.contains c).length - (a.takeWhile fun c => b.contains c).length = (a.dropWhile fun c => b.contains c).length - ((a.dropWhile fun c => b.contains c).reverse.takeWhile fun c => b.contains c).length := by omega
    rw [e]
  unfold Txt.stripChars Txt.stripBy
  by_cases c : stripSame ((sV b).cps.contains) true true (sV a) = true
  · rw [if_pos c]
    unfold stripSame at c
    rw [lo, hi, sV_length] at c
    obtain ⟨c1, c2⟩ := Bool.and_eq_true_iff.mp c
    have c1 : (a.takeWhile fun c => b.contains c).length = 0 := by simpa using c1
    have c2 : a.length - ((a.dropWhile fun c => b.contains c).reverse.takeWhile fun c => b.contains c).length = a.length := by simpa using c2
    rw [← sub, c1, c2]
    unfold Builtin.Str.strSub sV
    simp
  · rw [if_neg c]
    unfold stripped
    rw [lo, hi]
    exact sub
theorem ok_strip {X : Cx} : MtR X "str.strip" (rM X.K .strip) := MtR.imp mt_stripChars fun x xs H Q ⟨y, ex, a, b, d, Hs, F1, F2, e, _, la, lb, q⟩ => by
  cases a <;> cases b <;> first | cases (show none = some d from e) | skip
  rename_i s t
  cases e
  refine ⟨sV s, sV t, la.1, by rw [ex, lb.1], by rw [sV_length]; exact la.2.2.2, ?_⟩
  rw [strip_S]
  exact q
theorem joinS_eq (t : List Nat) : ∀ ys : List (List Nat), joinS t ys = TL.joinL t ys
  | [] => rfl
  | [_] => rfl
  | p :: q :: r => by
    show p ++ (t ++ joinS t (q :: r)) = p ++ (t ++ TL.joinL t (q :: r))
    rw [joinS_eq t (q :: r)]
theorem join_sV (t : List Nat) (ys : List (List Nat)) : Txt.join (sV t) (ys.map sV) = sV (joinS t ys) := by
  rw [joinS_eq]
  exact SX.join_S t ys
theorem allS_lv {K : PySem.W.Frag} {Hs H : Hp} : ∀ {l : List D} {vs : List V} {F : List Addr} {ys : List (List Nat)}, allS l = some ys → LvL K Hs H l vs F → vs = (ys.map sV).map V.str
  | [], _, _, _, h, ⟨e, _⟩ => by cases h; exact e
  | d :: l, _, _, bs, h, ⟨v, vs, F1, F2, e, _, c, m⟩ => by
    cases d <;> first | (cases h; done) | skip
    obtain ⟨cs, h1, h2⟩ := Option.map_eq_some_iff.mp h
    subst h2
    rw [e, allS_lv h1 m, c.1]
    rfl
theorem ok_join {X : Cx} : MtR X "str.join" (rM X.K .join) := MtR.imp mt_join fun x xs H Q ⟨y, ex, a, b, d, Hs, F1, F2, e, sb, la, lb, q⟩ => by
  cases a with
  | str t =>
    cases b with
    | lst f l =>
      obtain ⟨ys, h1, h2⟩ := Option.bind_eq_some_iff.mp (show (allS l).bind (fun ys => if (ys.map (·.length)).sum + ys.length * t.length ≤ 16777216 then some (D.str (joinS t ys)) else none) = some d from e)
      by_cases c : (ys.map (·.length)).sum + ys.length * t.length ≤ 16777216
      · rw [if_pos c] at h2
        cases h2
        obtain ⟨p, vs, F', e1, e2, e3⟩ := lst_sq sb lb
        rw [allS_lv h1 e3] at e2
        refine ⟨sV t, p, ys.map sV, la.1, by rw [ex, e1], .inl e2, ?_, ?_⟩
        · have : (ys.map sV).map (·.length) = ys.map (·.length) := by
            rw [List.map_map]
            apply List.map_congr_left
            intro y _
            exact sV_length y
          rw [this, List.length_map, sV_length]
          exact c
        · rw [join_sV]
          exact q
      · rw [if_neg c] at h2
        cases h2
    | _ => cases e
  | _ => cases b <;> cases e
/-! ### find, count -/
theorem at_one (s : List Nat) (c i : Nat) : StrLaws.At (sV s) (sV [c]) (sV s).length i ↔ s[i]? = some c := StrLaws.subAt_one (sV s) c i
theorem find_S (s : List Nat) (c : Nat) : Txt.find (sV s) (sV [c]) = findC c s := by
  show (match Builtin.Str.occurrences (sV s) (sV [c]) 0 (sV s).length 1 with | i :: _ => (i : Int) | [] => -1) = _
  unfold findC
  rcases StrLaws.occ_head (sV s) (sV [c]) 1 (Nat.le_refl _) with ⟨e, h⟩ | ⟨i, r, e, h1, h2⟩
  · rw [e]
    have : s.findIdx? (fun x => x == c) = none := by
      rw [List.findIdx?_eq_none_iff]
      intro x hx
      obtain ⟨j, hj⟩ := List.getElem?_of_mem hx
      have := h j
      rw [at_one, hj] at this
      simpa using this
    rw [this]
  · rw [e]
    rw [at_one] at h1
    obtain ⟨lt, gi⟩ := List.getElem?_eq_some_iff.mp h1
    have : s.findIdx? (fun x => x == c) = some i := by
      rw [List.findIdx?_eq_some_iff_getElem]
      refine ⟨lt, by simp [gi], fun j hj => ?_⟩
      have := h2 j hj
      rw [at_one, List.getElem?_eq_getElem (by omega)] at this
      simpa using this
    rw [this]
theorem count_run (s : List Nat) (c lim : Nat) : ∀ (m i : Nat) (st : Array Nat × Nat), i + m = s.length + 1 → st.2 ≤ i → st.1.size + m ≤ lim →
    (forIn (List.range' i m) st (StrLaws.occBody (sV s) (sV [c]) (sV s).length lim)).run.fst.size = st.1.size + (s.drop i).count c
  | 0, i, st, e, _, _ => by
    rw [List.drop_of_length_le (by omega)]
    rfl
  | m + 1, i, st, e, hf, hl => by
    rw [List.range'_succ, List.forIn_cons]
    have cnt : (s.drop i).count c = (if s[i]? = some c then 1 else 0) + (s.drop (i + 1)).count c := by
      by_cases lt : i < s.length
      · rw [List.drop_eq_getElem_cons lt, List.count_cons, List.getElem?_eq_getElem lt]
        by_cases q : s[i] = c
        · simp [q]; omega
        · simp [q]
      · rw [List.drop_of_length_le (by omega), List.drop_of_length_le (by omega), List.getElem?_eq_none (by omega)]
        simp
    unfold StrLaws.occBody
    by_cases q : s[i]? = some c
    · obtain ⟨a1, a2⟩ := (StrLaws.subAt_one (sV s) c i).mpr q
      rw [if_pos ⟨⟨⟨by omega, hf⟩, a1⟩, a2⟩]
      refine Eq.trans (count_run s c lim m (i + 1) _ (by omega) (Nat.le_refl (i + 1)) (by simp only [Array.size_push]; omega)) ?_
      rw [cnt, if_pos q]
      simp only [Array.size_push]
      omega
    · rw [if_neg fun z => q ((StrLaws.subAt_one (sV s) c i).mp ⟨z.1.2, z.2⟩)]
      refine Eq.trans (count_run s c lim m (i + 1) (st.1, st.2) (by omega) (show st.2 ≤ i + 1 by omega) (show st.1.size + m ≤ lim by omega)) ?_
      rw [cnt, if_neg q, Nat.zero_add]
theorem count_S (s : List Nat) (c : Nat) : Txt.count (sV s) (sV [c]) = (s.count c : Nat) := by
  show ((Builtin.Str.occurrences (sV s) (sV [c]) 0 (sV s).length ((sV s).length + 1)).length : Int) = _
  rw [StrLaws.occ_eq, Array.length_toList]
  have e : (sV s).length = s.length := sV_length s
  have := count_run s c ((sV s).length + 1) ((sV s).length + 1 - 0) 0 (#[], 0) (by rw [e]; omega) (Nat.le_refl 0) (by rw [e]; simp)
  rw [this]
  simp
theorem ok_find {X : Cx} : MtR X "str.find" (rM X.K .find) := MtR.imp mt_find fun x xs H Q ⟨y, ex, a, b, d, Hs, F1, F2, e, _, la, lb, q⟩ => by
  cases a with
  | str s =>
    match b, e, lb with
    | .str [c], e, lb =>
      cases e
      refine ⟨sV s, sV [c], la.1, by rw [ex, lb.1], ?_⟩
      rw [find_S]
      exact q
  | _ => cases (show none = some d from e)
theorem ok_count {X : Cx} : MtR X "str.count" (rM X.K .count) := MtR.imp mt_count fun x xs H Q ⟨y, ex, a, b, d, Hs, F1, F2, e, _, la, lb, q⟩ => by
  cases a with
  | str s =>
    match b, e, lb with
    | .str [c], e, lb =>
      cases e
      refine ⟨sV s, sV [c], la.1, by rw [ex, lb.1], ?_⟩
      rw [count_S]
      exact q
  | _ => cases (show none = some d from e)
theorem met_inv {e r x : Expr} {m : Str} (h : exMet e = some (r, m, x)) : ∃ ap cp, e = .Call (.Attribute r m ap) [x] [] cp ∧ (ap.endLine == cp.line) = true ∧ baseOk r = true := by
  unfold exMet at h
  split at h
  · split at h
    · rename_i c
      cases h
      obtain ⟨c1, c2⟩ := Bool.and_eq_true_iff.mp c
      exact ⟨_, _, rfl, c1, c2⟩
    · cases h
  · cases h
/-- a method on a text and a value, whatever the text -/
theorem met_rd {K : PySem.W.Frag} {W : WX} {o : Op} {a b : E} {σ : L2.St} {H : Hp} {Q : VK} (h : rdV K XR C.cl W (.met o a b) σ H Q) : tM1 (rM K o) (rdB K XR C.cl W a) (rdB K XR C.cl W b) σ H Q := by
  obtain ⟨Hs, g, A, st, p⟩ := h
  simp only [ev, EvG_bind] at p
  refine rdB_go st p fun d1 g1 v1 H1 Hs1 A1 F1 p1 s1 x1 l1 => ?_
  cases d1 <;> first | exact p1.elim | skip
  rename_i s
  refine ⟨⟨sV s, l1.1⟩, ?_⟩
  simp only [EvG_bind] at p1
  refine rdB_on s1 x1 p1 fun d2 g2 v2 H2 Hs2 A2 F2 p2 s2 x2 l2 => ?_
  have p2 : EvG K XR W σ Hs H A (fun d => postV K σ Hs H A Q (d, g2)) (Out.of (opD o [.str s, d2])) := p2
  cases e : opD o [.str s, d2] with
  | none => rw [e] at p2; exact p2.elim
  | some d =>
    rw [e] at p2
    exact ⟨v2, rfl, .str s, d2, d, Hs2, F1, F2, e, s2.sub, l1.keep x2, l2, p2 _ H2 Hs2 A2 [] s2 (x1.trans x2) (opD_lv e (lv_two (l1.keep x2) l2))⟩
theorem good_met (o : Op) (a b : E) (ga : Good C XR a) (gb : Good C XR b) : Good C XR (.met o a b) := by
  have inv : ∀ {sc e}, chkE C (.met o a b) sc e = true → ∃ r m x, exMet e = some (r, m, x) ∧ metNm o = some m ∧ chkE C a sc r = true ∧ chkE C b sc x = true := fun {sc e} q => by
    have q : (match exMet e with
      | some (r, m, x) => decide (metNm o = some m) && (chkE C a sc r && chkE C b sc x)
      | none => false) = true := q
    split at q
    · rename_i r m x ee
      obtain ⟨q1, q⟩ := Bool.and_eq_true_iff.mp q
      obtain ⟨q2, q3⟩ := Bool.and_eq_true_iff.mp q
      exact ⟨r, m, x, ee, of_decide_eq_true q1, q2, q3⟩
    · cases q
  refine Good.of (fun _ => rfl) (fun sc e q => by obtain ⟨r, m, x, ee, _⟩ := inv q; obtain ⟨_, _, rfl, _⟩ := met_inv ee; rfl) fun sc X W e k t q => ?_
  obtain ⟨r, m, x, ee, h1, h2, h3⟩ := inv q
  obtain ⟨ap, cp, rfl, z1, z2⟩ := met_inv ee
  have ha := ga.b sc X W r k t h2
  have hb := gb.b sc X W x k t h3
  cases o <;> first | (cases h1; done) | skip
  · cases h1
    exact (pe_m1 PySem.F.slot_str_strip PySem.F.type_str_strip ok_strip ha hb (star_of (chk_noStar h3)) (base_ok z2) z1).imp fun σ H Q h => met_rd h
  · cases h1
    exact (pe_m1 PySem.F.slot_str_join PySem.F.type_str_join ok_join ha hb (star_of (chk_noStar h3)) (base_ok z2) z1).imp fun σ H Q h => met_rd h
  · cases h1
    exact (pe_m1 PySem.F.slot_str_find PySem.F.type_str_find ok_find ha hb (star_of (chk_noStar h3)) (base_ok z2) z1).imp fun σ H Q h => met_rd h
  · cases h1
    exact (pe_m1 PySem.F.slot_str_count PySem.F.type_str_count ok_count ha hb (star_of (chk_noStar h3)) (base_ok z2) z1).imp fun σ H Q h => met_rd h
/-! ### split -/
theorem splL_eq (t : List Nat) : ∀ (l : List Nat) (k : Nat) (acc : List Nat), splL t k acc l = TL.spl t k acc l
  | [], k, acc => by cases k <;> rfl
  | c :: r, 0, acc => by
    show (if preL t (c :: r) = true then acc :: splL t (t.length - 1) [] r else splL t 0 (acc ++ [c]) r) = (if TL.pre t (c :: r) = true then acc :: TL.spl t (t.length - 1) [] r else TL.spl t 0 (acc ++ [c]) r)
    rw [splL_eq t r, splL_eq t r]
    rfl
  | _ :: r, k + 1, acc => splL_eq t r k acc
theorem splL_ok (t : List Nat) : ∀ (l : List Nat) (k : Nat) (acc : List Nat), (∀ p ∈ splL t k acc l, (∀ c ∈ p, c ∈ acc ++ l) ∧ p.length ≤ acc.length + l.length) ∧ (splL t k acc l).length ≤ l.length + 1
  | [], k, acc => by
    have e : splL t k acc [] = [acc] := by cases k <;> rfl
    rw [e]
    refine ⟨fun p hp => ?_, Nat.le_refl _⟩
    rw [List.mem_singleton.mp hp]
    exact ⟨fun c hc => List.mem_append_left _ hc, Nat.le_refl _⟩
  | c :: r, 0, acc => by
    have e : splL t 0 acc (c :: r) = if preL t (c :: r) = true then acc :: splL t (t.length - 1) [] r else splL t 0 (acc ++ [c]) r := rfl
    rw [e]
    by_cases h : preL t (c :: r) = true
    · rw [if_pos h]
      obtain ⟨h1, h2⟩ := splL_ok t r (t.length - 1) []
      refine ⟨fun p hp => ?_, by rw [List.length_cons, List.length_cons]; omega⟩
      rcases List.mem_cons.mp hp with q | q
      · rw [q]
        exact ⟨fun x hx => List.mem_append_left _ hx, by omega⟩
      · obtain ⟨z1, z2⟩ := h1 p q
        refine ⟨fun x hx => List.mem_append_right _ (List.mem_cons_of_mem _ (by simpa using z1 x hx)), ?_⟩
        rw [List.length_nil] at z2
        rw [List.length_cons]
        omega
    · rw [if_neg h]
      obtain ⟨h1, h2⟩ := splL_ok t r 0 (acc ++ [c])
      refine ⟨fun p hp => ?_, by rw [List.length_cons]; omega⟩
      obtain ⟨z1, z2⟩ := h1 p hp
      refine ⟨fun x hx => ?_, ?_⟩
      · have := z1 x hx
        rw [List.append_assoc] at this
        exact this
      · rw [List.length_append, List.length_singleton] at z2
        rw [List.length_cons]
        omega
  | c :: r, k + 1, acc => by
    obtain ⟨h1, h2⟩ := splL_ok t r k acc
    refine ⟨fun p hp => ?_, by rw [List.length_cons]; exact Nat.le_succ_of_le h2⟩
    obtain ⟨z1, z2⟩ := h1 p hp
    refine ⟨fun x hx => ?_, by rw [List.length_cons]; omega⟩
    rcases List.mem_append.mp (z1 x hx) with w | w
    · exact List.mem_append_left _ w
    · exact List.mem_append_right _ (List.mem_cons_of_mem _ w)
theorem strs_lv {K : PySem.W.Frag} {Hs H : Hp} : ∀ {ys : List (List Nat)}, (∀ y ∈ ys, okS y) → LvL K Hs H (ys.map D.str) ((ys.map sV).map V.str) []
  | [], _ => ⟨rfl, rfl⟩
  | y :: ys, h => ⟨.str (sV y), _, [], [], rfl, rfl, ⟨rfl, rfl, h y List.mem_cons_self⟩, strs_lv fun z hz => h z (List.mem_cons_of_mem _ hz)⟩
theorem good_split (a b : E) (ga : Good C XR a) (gb : Good C XR b) : Good C XR (.splitE a b) := by
  have inv : ∀ {sc e}, chkE C (.splitE a b) sc e = true → ∃ r x, exMet e = some (r, Str.ofString "split", x) ∧ chkE C a sc r = true ∧ chkE C b sc x = true := fun {sc e} q => by
    have q : (match exMet e with
      | some (r, m, x) => decide (m = Str.ofString "split") && (chkE C a sc r && chkE C b sc x)
      | none => false) = true := q
    split at q
    · rename_i r m x ee
      obtain ⟨q1, q⟩ := Bool.and_eq_true_iff.mp q
      obtain ⟨q2, q3⟩ := Bool.and_eq_true_iff.mp q
      have q1 := of_decide_eq_true q1
      subst q1
      exact ⟨r, x, ee, q2, q3⟩
    · cases q
  refine Good.of (fun _ => rfl) (fun sc e q => by obtain ⟨r, x, ee, _⟩ := inv q; obtain ⟨_, _, rfl, _⟩ := met_inv ee; rfl) fun sc X W e k t q => ?_
  obtain ⟨r, x, ee, h2, h3⟩ := inv q
  obtain ⟨ap, cp, rfl, z1, z2⟩ := met_inv ee
  refine (pe_m1 PySem.F.slot_str_split PySem.F.type_str_split mt_split (ga.b sc X W r k t h2) (gb.b sc X W x k t h3) (star_of (chk_noStar h3)) (base_ok z2) z1).imp fun σ H Q ⟨Hs, g, A, st, p⟩ => ?_
  simp only [ev, EvG_bind] at p
  refine rdB_go st p fun d1 g1 v1 H1 Hs1 A1 F1 p1 s1 x1 l1 => ?_
  cases d1 <;> first | exact p1.elim | skip
  rename_i s
  refine ⟨⟨sV s, l1.1⟩, ?_⟩
  simp only [EvG_bind] at p1
  refine rdB_on s1 x1 p1 fun d2 g2 v2 H2 Hs2 A2 F2 p2 s2 x2 l2 => ?_
  cases d2 <;> first | exact p2.elim | skip
  rename_i u
  have p2 : EvG X.K XR W σ Hs H A (postV X.K σ Hs H A Q) (if (decide (u ≠ []) && (u.all (fun c => decide (c < 256)) && decide (s.length + 2 ≤ 16777216))) = true then .ok (.lst true ((splL u 0 [] s).map .str), g2) else .bad) := p2
  by_cases c : (decide (u ≠ []) && (u.all (fun c => decide (c < 256)) && decide (s.length + 2 ≤ 16777216))) = true
  · rw [if_pos c] at p2
    obtain ⟨c1, c⟩ := Bool.and_eq_true_iff.mp c
    obtain ⟨c2, c3⟩ := Bool.and_eq_true_iff.mp c
    have c1 : u ≠ [] := of_decide_eq_true c1
    have c3 : s.length + 2 ≤ sizeLine := of_decide_eq_true c3
    have ks := (l1.keep x2).2.2
    refine ⟨sV s, sV u, l1.1, by rw [l2.1], ?_, by rw [sV_length]; exact c3, fun w hw => ?_⟩
    · rw [sV_length]
      cases u with
      | nil => exact absurd rfl c1
      | cons _ _ => rfl
    · have es : Txt.split (sV s) (sV u) = (splL u 0 [] s).map sV := by
        rw [splL_eq]
        exact SX.split_S c1 c2
      rw [es]
      obtain ⟨k1, k2⟩ := splL_ok u s 0 []
      have oks : ∀ y ∈ splL u 0 [] s, okS y := fun y hy => by
        obtain ⟨z1, z2⟩ := k1 y hy
        exact ⟨fun x hx => ks.1 x (by simpa using z1 x hx), by rw [List.length_nil] at z2; exact Nat.le_trans (by omega) ks.2⟩
      obtain ⟨s3, x3⟩ := Xst.new1 (o := .lst (((splL u 0 [] s).map sV).map V.str)) s2 (x1.trans x2) hw (fun _ h => absurd h List.not_mem_nil)
      exact p2 _ _ _ A2 [w] s3 x3 ⟨w, _, [], rfl, upd_same, by rw [List.length_map]; omega, rfl, strs_lv oks⟩
  · rw [if_neg c] at p2
    exact p2.elim
/-! ### tuple(..), list(..) -/
theorem Lv.seqq {K : PySem.W.Frag} {Hs H : Hp} {x : D} {l : List D} {v : V} {F : List Addr} (sb : Sub Hs H) (h : seqD x = some l) (lv : Lv K Hs H x v F) : ∃ p vs F', v = .ref p ∧ l.length ≤ sizeLine ∧ LvL K Hs H l vs F' ∧ F'.Sublist F ∧ (((∃ f, x = .lst f l) ∧ SqL K H p vs) ∨ (x = .tup l ∧ SqT K Hs p vs ∧ F' = F)) := by
  cases x with
  | lst f m =>
    cases h
    obtain ⟨p, vs, F', e1, e2, z, c, s⟩ := lv.lst sb
    exact ⟨p, vs, F', e1, z, c, s, .inl ⟨⟨f, rfl⟩, e2⟩⟩
  | tup m =>
    cases h
    obtain ⟨p, vs, e1, e2, z, c⟩ := lv
    exact ⟨p, vs, F, e1, z, c, List.Sublist.refl _, .inr ⟨rfl, e2, rfl⟩⟩
  | _ => cases h
theorem good_seqOf (kk : Bool) (a : E) (la : Look C XR a) : Good C XR (.seqOf kk a) := by
  have inv : ∀ {sc e}, chkE C (.seqOf kk a) sc e = true → ∃ p pos a', e = .Call (.Name (Str.ofString (if kk then "tuple" else "list")) p) [a'] [] pos ∧ freeB C sc (Str.ofString (if kk then "tuple" else "list")) = true ∧ chkE C a sc a' = true := fun {sc e} q => by
    have q : (match exCall e with
      | some (x, [a']) => decide (x = Str.ofString (if kk then "tuple" else "list")) && (freeB C sc x && chkE C a sc a')
      | _ => false) = true := q
    split at q
    · rename_i x a' ee
      obtain ⟨q1, q⟩ := Bool.and_eq_true_iff.mp q
      obtain ⟨q2, q3⟩ := Bool.and_eq_true_iff.mp q
      have q1 := of_decide_eq_true q1
      subst q1
      cases e with
      | Call f as ks pos =>
        cases f with
        | Name y p =>
          cases as with
          | nil => cases ks <;> cases ee
          | cons a2 as =>
            cases ks with
            | nil => cases ee; exact ⟨p, pos, _, rfl, q2, q3⟩
            | cons _ _ => cases ee
        | _ => cases as <;> cases ks <;> cases ee
      | _ => cases ee
    · cases q
  refine Good.of (fun _ => rfl) (fun sc e q => by obtain ⟨_, _, _, rfl, _⟩ := inv q; rfl) fun sc X W e k t q => ?_
  obtain ⟨p0, pos, a', rfl, fr, h1⟩ := inv q
  obtain ⟨gl, nm⟩ := k.fr fr
  have gdb : (Str.ofString (if kk then "tuple" else "list") == ("__debug__" : Str)) = false := (gl_of (Bool.and_eq_true_iff.mp fr).1 k.sc).2
  have pa := pa_cons (la sc X W a' k t h1) pa_nil (star_of (chk_noStar h1))
  cases kk with
  | true =>
    refine (pe_callTy call_tuple_of gl nm (by decide +kernel) pa (by decide +kernel) gdb (star_of (chk_noStar h1)) rfl).imp fun σ H Q ⟨Hs, g, A, st, p⟩ => ?_
    simp only [ev, EvG_bind] at p
    refine rdL_go st p fun d1 g1 v1 H1 Hs1 A1 F1 F01 p1 s1 x1 l1 o1 => ?_
    cases es : seqD d1 with
    | none => simp only [es] at p1; exact p1.elim
    | some l =>
      simp only [es] at p1
      have p1 : EvG X.K XR W σ Hs H A (postV X.K σ Hs H A Q) (if ((rootE a).isNone || coldL l) = true then .ok (.tup l, g1) else .bad) := p1
      by_cases c : ((rootE a).isNone || coldL l) = true
      · rw [if_pos c] at p1
        obtain ⟨pa, vs, F', e1, z, ml, sb, alt⟩ := l1.seqq s1.sub es
        have y := own_items o1 ml sb c
        refine ⟨pa, vs, by rw [e1], ?_⟩
        rcases alt with ⟨⟨f, ed⟩, sq⟩ | ⟨ed, sq, ef⟩
        · refine .inl ⟨sq, fun w hw => ?_⟩
          obtain ⟨s2, x2⟩ := Xst.tup (o := .tup vs) s1 (x1.sub y) hw ml.ne
          exact p1 _ _ _ A1 F' s2 x2 ⟨w, vs, rfl, .inl (.inl upd_same), z, ml.mono (same_upd (sub_free s1.sub hw)) (same_upd hw)⟩
        · exact .inr ⟨sqT_sub s1.sub sq, p1 _ _ _ A1 F' s1 (x1.sub y) ⟨pa, vs, rfl, sq, z, ml⟩⟩
      · rw [if_neg c] at p1; exact p1.elim
  | false =>
    refine (pe_callTy call_list_of gl nm (by decide +kernel) pa (by decide +kernel) gdb (star_of (chk_noStar h1)) rfl).imp fun σ H Q ⟨Hs, g, A, st, p⟩ => ?_
    simp only [ev, EvG_bind] at p
    refine rdL_go st p fun d1 g1 v1 H1 Hs1 A1 F1 F01 p1 s1 x1 l1 o1 => ?_
    cases es : seqD d1 with
    | none => simp only [es] at p1; exact p1.elim
    | some l =>
      simp only [es] at p1
      have p1 : EvG X.K XR W σ Hs H A (postV X.K σ Hs H A Q) (if ((rootE a).isNone || coldL l) = true then .ok (.lst true l, g1) else .bad) := p1
      by_cases c : ((rootE a).isNone || coldL l) = true
      · rw [if_pos c] at p1
        obtain ⟨pa, vs, F', e1, z, ml, sb, alt⟩ := l1.seqq s1.sub es
        have y := own_items o1 ml sb c
        refine ⟨pa, vs, by rw [e1], ?_, fun w hw => ?_⟩
        · rcases alt with ⟨_, sq⟩ | ⟨_, sq, _⟩
          · exact .inl sq
          · exact .inr (sqT_sub s1.sub sq)
        · obtain ⟨s2, x2⟩ := Xst.new1 (o := .lst vs) s1 (x1.sub y) hw ml.ne
          exact p1 _ _ _ A1 (w :: F') s2 x2 ⟨w, vs, F', rfl, upd_same, z, rfl, ml.mono (Same.refl _) (same_upd hw)⟩
      · rw [if_neg c] at p1; exact p1.elim
end
end Mp
end
section
/-! Mp snd5: hidden slots, iterables. -/
namespace Mp
open PySem PySem.Spec PyProof.Rows L2

/-! ### slots hidden and shown again -/
theorem wipeS_length (g : Env) : ∀ hs : List Nat, (wipeS g hs).length = g.length
  | [] => rfl
  | r :: hs => by unfold wipeS; rw [List.length_set, wipeS_length g hs]
theorem wipeS_out {g : Env} {j : Nat} : ∀ {hs : List Nat}, j ∉ hs → (wipeS g hs)[j]? = g[j]?
  | [], _ => rfl
  | r :: hs, h => by
    have h1 : j ≠ r := fun e => h (by rw [e]; exact List.mem_cons_self)
    have h2 : j ∉ hs := fun e => h (List.mem_cons_of_mem _ e)
    unfold wipeS
    rw [List.getElem?_set_ne (Ne.symm h1), wipeS_out h2]
theorem wipeS_in {g : Env} {j : Nat} {d : D} : ∀ {hs : List Nat}, j ∈ hs → (wipeS g hs)[j]? ≠ some (some d)
  | [], h => absurd h List.not_mem_nil
  | r :: hs, h => fun e => by
    unfold wipeS at e
    by_cases q : r = j
    · subst q
      by_cases lt : r < (wipeS g hs).length
      · rw [List.getElem?_set_self lt] at e; cases e
      · rw [List.getElem?_eq_none (by rw [List.length_set]; omega)] at e; cases e
    · rw [List.getElem?_set_ne q] at e
      rcases List.mem_cons.mp h with z | z
      · exact q z.symm
      · exact wipeS_in z e
theorem backS_length (g0 g : Env) : ∀ hs : List Nat, (backS g0 hs g).length = g.length
  | [] => rfl
  | r :: hs => by unfold backS; rw [List.length_set, backS_length g0 g hs]
theorem backS_out {g0 g : Env} {j : Nat} : ∀ {hs : List Nat}, j ∉ hs → (backS g0 hs g)[j]? = g[j]?
  | [], _ => rfl
  | r :: hs, h => by
    have h1 : j ≠ r := fun e => h (by rw [e]; exact List.mem_cons_self)
    have h2 : j ∉ hs := fun e => h (List.mem_cons_of_mem _ e)
    unfold backS
    rw [List.getElem?_set_ne (Ne.symm h1), backS_out h2]
theorem backS_in {g0 g : Env} {j : Nat} {d : D} : ∀ {hs : List Nat}, j ∈ hs → g0.length = g.length → ((backS g0 hs g)[j]? = some (some d) ↔ g0[j]? = some (some d))
  | [], h, _ => absurd h List.not_mem_nil
  | r :: hs, h, le => by
    unfold backS
    by_cases q : r = j
    · subst q
      by_cases lt : r < g.length
      · rw [List.getElem?_set_self (by rw [backS_length]; exact lt)]
        cases e : g0[r]? with
        | none => simp
        | some x => cases x <;> simp
      · rw [List.getElem?_eq_none (by rw [List.length_set, backS_length]; omega), List.getElem?_eq_none (by omega)]
    · rw [List.getElem?_set_ne q]
      rcases List.mem_cons.mp h with z | z
      · exact absurd z.symm q
      · exact backS_in z le
def wipeA (A : Nat → List Addr) (hs : List Nat) : Nat → List Addr := fun j => if j ∈ hs then [] else A j
def backA (A0 : Nat → List Addr) (hs : List Nat) (A : Nat → List Addr) : Nat → List Addr := fun j => if j ∈ hs then A0 j else A j
section
variable {K : PySem.W.Frag} {Hs H Hs1 H1 Hs2 H2 : Hp} {g g2 : Env} {σ σ2 : L2.St} {A A1 A2 : Nat → List Addr} {F : List Addr} {hs : List Nat}
theorem Sta.wipes (st : Sta K Hs H g σ A) (hs : List Nat) {σ' : L2.St} (hl : σ'.length = σ.length) (hσ : ∀ j, j ∉ hs → σ'[j]? = σ[j]?) : Sta K Hs H (wipeS g hs) σ' (wipeA A hs) := by
  refine ⟨st.sub, by rw [wipeS_length, hl]; exact st.len, fun j d q => ?_, fun j q => ?_, fun j k p h1 h2 => ?_, fun j => ?_, fun j p h => ?_⟩
  · by_cases hj : j ∈ hs
    · exact absurd q (wipeS_in hj)
    · rw [wipeS_out hj] at q
      obtain ⟨v, h1, h2⟩ := st.sl j d q
      refine ⟨v, by rw [hσ j hj]; exact h1, ?_⟩
      unfold wipeA
      rw [if_neg hj]
      exact h2
  · unfold wipeA
    by_cases hj : j ∈ hs
    · exact if_pos hj
    · rw [if_neg hj]
      rw [wipeS_out hj] at q
      exact st.emp j q
  · unfold wipeA at h1 h2
    by_cases hj : j ∈ hs
    · rw [if_pos hj] at h1; cases h1
    · by_cases hk : k ∈ hs
      · rw [if_pos hk] at h2; cases h2
      · rw [if_neg hj] at h1
        rw [if_neg hk] at h2
        exact st.dj j k p h1 h2
  · unfold wipeA
    by_cases hj : j ∈ hs
    · rw [if_pos hj]; exact List.nodup_nil
    · rw [if_neg hj]; exact st.nd j
  · unfold wipeA at h
    by_cases hj : j ∈ hs
    · rw [if_pos hj] at h; cases h
    · rw [if_neg hj] at h; exact st.off j p h
/-- behind statements: what no slot owns stays as it is -/
structure Stp (Hs H : Hp) (A : Nat → List Addr) (Hs' H' : Hp) (A' : Nat → List Addr) : Prop where
  hs : Same Hs Hs'
  fr : ∀ p o, H p = some o → (∀ i, p ∉ A i) → H' p = some o
  inA : ∀ i p, p ∈ A' i → (∃ j, p ∈ A j) ∨ H p = none
  new : ∀ p o, Hs' p = some o → Hs p = some o ∨ (∃ i, p ∈ A i) ∨ H p = none
theorem Xst.stp (x : Xst Hs H A Hs1 H1 A1 F) : Stp Hs H A Hs1 H1 A1 := ⟨x.hs, fun p o e _ => x.hp p o e, fun i p h => .inl ⟨i, x.inA i p h⟩, x.new⟩
theorem Stp.refl : Stp Hs H A Hs H A := ⟨Same.refl _, fun _ _ e _ => e, fun i _ h => .inl ⟨i, h⟩, fun _ _ e => .inl e⟩
theorem Stp.back (x : Stp Hs H A Hs1 H1 A1) {p : Addr} (h : (∃ i, p ∈ A1 i) ∨ H1 p = none) : (∃ i, p ∈ A i) ∨ H p = none := by
  rcases h with ⟨i, h⟩ | h
  · exact x.inA i p h
  · by_cases q : ∃ i, p ∈ A i
    · exact .inl q
    · cases e : H p with
      | none => exact .inr rfl
      | some o =>
        have := x.fr p o e fun i z => q ⟨i, z⟩
        rw [h] at this; cases this
theorem Stp.trans (x : Stp Hs H A Hs1 H1 A1) (y : Stp Hs1 H1 A1 Hs2 H2 A2) : Stp Hs H A Hs2 H2 A2 := by
  refine ⟨x.hs.trans y.hs, fun p o e n => y.fr p o (x.fr p o e n) fun i z => ?_, fun i p h => x.back (y.inA i p h), fun p o e => ?_⟩
  · rcases x.inA i p z with ⟨j, h⟩ | h
    · exact n j h
    · rw [e] at h; cases h
  · rcases y.new p o e with h | h
    · exact x.new p o h
    · exact .inr (x.back h)
/-- what was hidden is untouched -/
theorem Stp.hid {hs : List Nat} (st : Sta K Hs1 H1 g σ A1) (y : Stp Hs1 H1 (wipeA A1 hs) Hs2 H2 A2) {j : Nat} {p : Addr} (hj : j ∈ hs) (h : p ∈ A1 j) : H2 p = H1 p ∧ (∀ i, p ∉ A2 i) ∧ Hs2 p = none := by
  have no : ∀ i, p ∉ wipeA A1 hs i := fun i z => by
    unfold wipeA at z
    by_cases hi : i ∈ hs
    · rw [if_pos hi] at z; cases z
    · rw [if_neg hi] at z
      exact hi (by rw [st.dj i j p z h]; exact hj)
  obtain ⟨o, ho, _⟩ := st.live h
  refine ⟨by rw [y.fr p o ho no, ho], fun i z => ?_, ?_⟩
  · rcases y.inA i p z with ⟨k, q⟩ | q
    · exact no k q
    · rw [ho] at q; cases q
  · cases e : Hs2 p with
    | none => rfl
    | some u =>
      rcases y.new p u e with q | ⟨k, q⟩ | q
      · rw [st.off j p h] at q; cases q
      · exact (no k q).elim
      · rw [ho] at q; cases q
theorem Sta.backs {hs : List Nat} (st : Sta K Hs1 H1 g σ A1) (s2 : Sta K Hs2 H2 g2 σ2 A2) (y : Stp Hs1 H1 (wipeA A1 hs) Hs2 H2 A2) (hl : σ2.length = σ.length) (hσ : ∀ j ∈ hs, σ2[j]? = σ[j]?) : Sta K Hs2 H2 (backS g hs g2) σ2 (backA A1 hs A2) := by
  have le : g.length = g2.length := by rw [st.len, s2.len, hl]
  refine ⟨s2.sub, by rw [backS_length]; exact s2.len, fun j d q => ?_, fun j q => ?_, fun j k p h1 h2 => ?_, fun j => ?_, fun j p h => ?_⟩
  · by_cases hj : j ∈ hs
    · obtain ⟨v, h1, h2⟩ := st.sl j d ((backS_in hj le).mp q)
      refine ⟨v, by rw [hσ j hj]; exact h1, ?_⟩
      unfold backA
      rw [if_pos hj]
      exact h2.at' y.hs fun p hp => (y.hid st hj hp).1
    · rw [backS_out hj] at q
      obtain ⟨v, h1, h2⟩ := s2.sl j d q
      refine ⟨v, h1, ?_⟩
      unfold backA
      rw [if_neg hj]
      exact h2
  · unfold backA
    by_cases hj : j ∈ hs
    · rw [if_pos hj]
      exact st.emp j fun d e => q d ((backS_in hj le).mpr e)
    · rw [if_neg hj]
      rw [backS_out hj] at q
      exact s2.emp j q
  · unfold backA at h1 h2
    by_cases hj : j ∈ hs
    · rw [if_pos hj] at h1
      by_cases hk : k ∈ hs
      · rw [if_pos hk] at h2; exact st.dj j k p h1 h2
      · rw [if_neg hk] at h2; exact ((y.hid st hj h1).2.1 k h2).elim
    · rw [if_neg hj] at h1
      by_cases hk : k ∈ hs
      · rw [if_pos hk] at h2; exact ((y.hid st hk h2).2.1 j h1).elim
      · rw [if_neg hk] at h2; exact s2.dj j k p h1 h2
  · unfold backA
    by_cases hj : j ∈ hs
    · rw [if_pos hj]; exact st.nd j
    · rw [if_neg hj]; exact s2.nd j
  · unfold backA at h
    by_cases hj : j ∈ hs
    · rw [if_pos hj] at h; exact (y.hid st hj h).2.2
    · rw [if_neg hj] at h; exact s2.off j p h
theorem Xst.backs {hs : List Nat} (x : Xst Hs H A Hs1 H1 A1 []) (st : Sta K Hs1 H1 g σ A1) (y : Xst Hs1 H1 (wipeA A1 hs) Hs2 H2 A2 F) : Xst Hs H A Hs2 H2 (backA A1 hs A2) F := by
  have up : ∀ {p : Addr}, (∃ i, p ∈ wipeA A1 hs i) → ∃ i, p ∈ A i := fun ⟨i, z⟩ => by
    unfold wipeA at z
    by_cases hi : i ∈ hs
    · rw [if_pos hi] at z; cases z
    · rw [if_neg hi] at z; exact ⟨i, x.inA i _ z⟩
  refine ⟨x.hp.trans y.hp, x.hs.trans y.hs, fun j => ?_, fun p h => ?_, fun p h j z => ?_, y.nd, y.off, fun p o e => ?_⟩
  · unfold backA
    by_cases hj : j ∈ hs
    · rw [if_pos hj]; exact x.ka j
    · rw [if_neg hj]
      rcases y.ka j with e | e
      · rw [e]
        unfold wipeA
        rw [if_neg hj]
        exact x.ka j
      · exact .inr e
  · rcases y.inF p h with q | q
    · exact .inl (up q)
    · exact .inr (x.hp.free q)
  · unfold backA at z
    by_cases hj : j ∈ hs
    · rw [if_pos hj] at z
      obtain ⟨o, ho, _⟩ := st.live z
      rcases y.inF p h with ⟨i, q⟩ | q
      · unfold wipeA at q
        by_cases hi : i ∈ hs
        · rw [if_pos hi] at q; cases q
        · rw [if_neg hi] at q
          exact hi (by rw [st.dj i j p q z]; exact hj)
      · rw [ho] at q; cases q
    · rw [if_neg hj] at z; exact y.dj p h j z
  · rcases y.new p o e with q | q | q
    · exact x.new p o q
    · exact .inr (.inl (up q))
    · exact .inr (.inr (x.hp.free q))
end

/-! ### what a loop walks -/
def inHid (A : Nat → List Addr) (hs : List Nat) : Addr → Prop := fun p => ∃ j ∈ hs, p ∈ A j
structure Later (Hs1 H1 : Hp) (Fh : Addr → Prop) (Hs2 H2 : Hp) : Prop where
  hs : Same Hs1 Hs2
  sub : Sub Hs2 H2
  fh : ∀ p, Fh p → H2 p = H1 p
/-- a turn lays a tuple, or nothing -/
def LayS (Hs H Hs' H' : Hp) : Prop := (Hs' = Hs ∧ H' = H) ∨ ∃ T o, H T = none ∧ Hs' = upd Hs T o ∧ H' = upd H T o
structure Walks (K : PySem.W.Frag) (l : List D) (Hs1 H1 : Hp) (Fh : Addr → Prop) (J : L2.It) : Prop where
  go : ∀ i Hs2 H2, i < l.length → Later Hs1 H1 Fh Hs2 H2 → J.go i H2
  stop : ∀ Hs2 H2, Later Hs1 H1 Fh Hs2 H2 → J.stop l.length H2
  yld : ∀ i Hs2 H2 x H3, i < l.length → Later Hs1 H1 Fh Hs2 H2 → J.yld i H2 x H3 → ∃ Hs3 d, l[i]? = some d ∧ LayS Hs2 H2 Hs3 H3 ∧ Lv K Hs3 H3 d x []
section
variable (K : PySem.W.Frag) (XR : XRel) (cl : Nat → List D → ROut) (W : WX)
def postI (σ : L2.St) (Hs H : Hp) (A : Nat → List Addr) (R : L2.It → Hp → Prop) (r : List D × Env × List Nat) : Prop :=
  ∀ J H1 Hs1 A1, Sta K Hs1 H1 r.2.1 σ A1 → Xst Hs H A Hs1 H1 A1 [] → Walks K r.1 Hs1 H1 (inHid A1 r.2.2) J → R J H1
def rdI (it : It) : TI := fun σ H R => ∃ Hs g A, Sta K Hs H g σ A ∧ EvG K XR W σ Hs H A (postI K σ Hs H A R) (evIt cl it g)
end
section
variable {K : PySem.W.Frag} {Hs H Hs1 H1 : Hp} {g1 g2 : Env} {σ : L2.St} {A A1 : Nat → List Addr} {F F0 : List Addr} {d : D} {v : V} {m m' : List D} {hs : List Nat} {ro : Option Nat}
theorem Lv.nil_at {Hs' H' : Hp} (e : Same Hs Hs') (l : Lv K Hs H d v []) : Lv K Hs' H' d v [] := l.at' e fun _ h => absurd h List.not_mem_nil
theorem LvL.nil_at {Hs' H' : Hp} {vs : List V} (e : Same Hs Hs') (l : LvL K Hs H m vs []) : LvL K Hs' H' m vs [] := l.at' e fun _ h => absurd h List.not_mem_nil
theorem LvL.get0 {vs : List V} {i : Nat} (l : LvL K Hs H m vs []) (h : i < m.length) : ∃ d u, m[i]? = some d ∧ vs[i]? = some u ∧ Lv K Hs H d u [] := by
  obtain ⟨u, F', h1, h2, h3⟩ := l.get (d := m[i]) (List.getElem?_eq_getElem h)
  have := List.eq_nil_of_sublist_nil h3
  subst this
  exact ⟨m[i], u, List.getElem?_eq_getElem h, h1, h2⟩
/-- a list held for a loop -/
theorem hold_lst {f : Bool} (s : Sta K Hs1 H1 g1 σ A1) (x : Xst Hs H A Hs1 H1 A1 F0) (l : Lv K Hs1 H1 (.lst f m) v F) (o : Own ro A1 F F0) (e : holdIt ro (.lst f m) m g1 = some (m', g2, hs)) :
    ∃ Hs2 A2, Sta K Hs2 H1 g2 σ A2 ∧ Xst Hs H A Hs2 H1 A2 [] ∧ ∃ p vs, v = .ref p ∧ LvL K Hs2 H1 m' vs [] ∧ ∀ Hs3 H3, Later Hs2 H1 (inHid A2 hs) Hs3 H3 → SqL K H3 p vs := by
  cases ro with
  | none =>
    cases e
    have o : F0 = F := o
    subst o
    obtain ⟨s2, x2⟩ := Xst.frz s x
    have fl := l.frz (H' := H1) (laid_same x.off) (fun q hq => laid_in hq)
    refine ⟨_, A1, s2, x2, ?_⟩
    obtain ⟨p, vs, e1, e2, _, _, c⟩ := fl
    exact ⟨p, vs, e1, c, fun Hs3 H3 lt => sqL_sub lt.sub (lt.hs.seq e2)⟩
  | some r =>
    obtain ⟨o1, o2⟩ := o
    subst o1
    replace e : (if cold (.lst f m) = true then some (m, g1, []) else if hotS g1 r then (if coldL m then some (m, g1, [r]) else some (frzL m, frzS g1 r, [])) else none) = some (m', g2, hs) := e
    by_cases c : cold (.lst f m) = true
    · rw [if_pos c] at e
      cases e
      have := l.cold c
      subst this
      cases f with
      | true => cases c
      | false =>
        obtain ⟨p, vs, e1, e2, _, _, cc⟩ := l
        exact ⟨Hs1, A1, s, x, p, vs, e1, cc, fun Hs3 H3 lt => sqL_sub lt.sub (lt.hs.seq e2)⟩
    · rw [if_neg c] at e
      cases f with
      | false => exact absurd rfl c
      | true =>
        by_cases hr : hotS g1 r = true
        · rw [if_pos hr] at e
          by_cases c2 : coldL m = true
          · rw [if_pos c2] at e
            cases e
            obtain ⟨p, vs, G, e1, e2, _, e3, cc⟩ := l
            have := cc.cold c2
            subst this
            refine ⟨Hs1, A1, s, x, p, vs, e1, cc, fun Hs3 H3 lt => SqL.of ?_⟩
            rw [lt.fh p ⟨r, List.mem_cons_self, o2 p (by rw [e3]; exact List.mem_cons_self)⟩]
            exact e2
          · rw [if_neg c2] at e
            cases e
            obtain ⟨z, ez, _⟩ := hotS_inv hr
            obtain ⟨A3, s3, x3⟩ := s.frz ez
            have fl := l.frz (H' := H1) (laid_same (s.off r)) (fun q hq => laid_in (o2 q hq))
            have ef : frzS g1 r = g1.set r (some (frz z)) := by unfold frzS; rw [ez]
            refine ⟨_, A3, by rw [ef]; exact s3, x.trans x3, ?_⟩
            obtain ⟨p, vs, e1, e2, _, _, cc⟩ := fl
            exact ⟨p, vs, e1, cc, fun Hs3 H3 lt => sqL_sub lt.sub (lt.hs.seq e2)⟩
        · rw [if_neg hr] at e; cases e
/-- a tuple held for a loop -/
theorem hold_tup (s : Sta K Hs1 H1 g1 σ A1) (x : Xst Hs H A Hs1 H1 A1 F0) (l : Lv K Hs1 H1 (.tup m) v F) (o : Own ro A1 F F0) (e : holdIt ro (.tup m) m g1 = some (m', g2, hs)) :
    ∃ Hs2 A2, Sta K Hs2 H1 g2 σ A2 ∧ Xst Hs H A Hs2 H1 A2 [] ∧ ∃ p vs, v = .ref p ∧ LvL K Hs2 H1 m' vs [] ∧ ∀ Hs3 H3, Later Hs2 H1 (inHid A2 hs) Hs3 H3 → SqT K H3 p vs := by
  cases ro with
  | none =>
    cases e
    have o : F0 = F := o
    subst o
    obtain ⟨s2, x2⟩ := Xst.frz s x
    have fl := l.frz (H' := H1) (laid_same x.off) (fun q hq => laid_in hq)
    refine ⟨_, A1, s2, x2, ?_⟩
    obtain ⟨p, vs, e1, e2, _, c⟩ := fl
    exact ⟨p, vs, e1, c, fun Hs3 H3 lt => sqT_sub lt.sub (sqT_mono lt.hs e2)⟩
  | some r =>
    obtain ⟨o1, o2⟩ := o
    subst o1
    replace e : (if cold (.tup m) = true then some (m, g1, []) else if hotS g1 r then (if coldL m then some (m, g1, [r]) else some (frzL m, frzS g1 r, [])) else none) = some (m', g2, hs) := e
    by_cases c : cold (.tup m) = true
    · rw [if_pos c] at e
      cases e
      have := l.cold c
      subst this
      obtain ⟨p, vs, e1, e2, _, cc⟩ := l
      exact ⟨Hs1, A1, s, x, p, vs, e1, cc, fun Hs3 H3 lt => sqT_sub lt.sub (sqT_mono lt.hs e2)⟩
    · rw [if_neg c] at e
      by_cases hr : hotS g1 r = true
      · rw [if_pos hr] at e
        by_cases c2 : coldL m = true
        · exact absurd c2 c
        · rw [if_neg c2] at e
          cases e
          obtain ⟨z, ez, _⟩ := hotS_inv hr
          obtain ⟨A3, s3, x3⟩ := s.frz ez
          have fl := l.frz (H' := H1) (laid_same (s.off r)) (fun q hq => laid_in (o2 q hq))
          have ef : frzS g1 r = g1.set r (some (frz z)) := by unfold frzS; rw [ez]
          refine ⟨_, A3, by rw [ef]; exact s3, x.trans x3, ?_⟩
          obtain ⟨p, vs, e1, e2, _, cc⟩ := fl
          exact ⟨p, vs, e1, cc, fun Hs3 H3 lt => sqT_sub lt.sub (sqT_mono lt.hs e2)⟩
      · rw [if_neg hr] at e; cases e
theorem walks_lst {p : Addr} {vs : List V} {Fh : Addr → Prop} (l : LvL K Hs1 H1 m vs []) (h : ∀ Hs3 H3, Later Hs1 H1 Fh Hs3 H3 → SqL K H3 p vs) : Walks K m Hs1 H1 Fh (Itl K p) := by
  refine ⟨fun i Hs2 H2 hi lt => ?_, fun Hs2 H2 lt => ⟨vs, h _ _ lt, by rw [l.length]; exact Nat.le_refl _⟩, fun i Hs2 H2 x H3 hi lt y => ?_⟩
  · obtain ⟨d, u, _, h2, _⟩ := l.get0 hi
    exact ⟨vs, u, h _ _ lt, h2⟩
  · obtain ⟨d, u, h1, h2, h3⟩ := l.get0 hi
    obtain ⟨y1, y2⟩ := y
    have := y2 vs (h _ _ lt)
    rw [h2] at this
    cases this
    exact ⟨Hs2, d, h1, .inl ⟨rfl, y1⟩, h3.nil_at lt.hs⟩
theorem walks_tup {p : Addr} {vs : List V} {Fh : Addr → Prop} (l : LvL K Hs1 H1 m vs []) (h : ∀ Hs3 H3, Later Hs1 H1 Fh Hs3 H3 → SqT K H3 p vs) : Walks K m Hs1 H1 Fh (Itt K p) := by
  refine ⟨fun i Hs2 H2 hi lt => ?_, fun Hs2 H2 lt => ⟨vs, h _ _ lt, by rw [l.length]; exact Nat.le_refl _⟩, fun i Hs2 H2 x H3 hi lt y => ?_⟩
  · obtain ⟨d, u, _, h2, _⟩ := l.get0 hi
    exact ⟨vs, u, h _ _ lt, h2⟩
  · obtain ⟨d, u, h1, h2, h3⟩ := l.get0 hi
    obtain ⟨y1, y2⟩ := y
    have := y2 vs (h _ _ lt)
    rw [h2] at this
    cases this
    exact ⟨Hs2, d, h1, .inl ⟨rfl, y1⟩, h3.nil_at lt.hs⟩
theorem enumL_len : ∀ (k : Nat) (l : List D), (enumL k l).length = l.length
  | _, [] => rfl
  | k, _ :: l => congrArg (· + 1) (enumL_len (k + 1) l)
theorem enumL_get : ∀ (k : Nat) (l : List D) (i : Nat) {d : D}, l[i]? = some d → (enumL k l)[i]? = some (.tup [.int (k + i), d])
  | _, [], i, _, h => by simp at h
  | k, a :: l, 0, d, h => by simp at h; subst h; simp [enumL]
  | k, a :: l, i + 1, d, h => by
    have := enumL_get (k + 1) l i (d := d) (by simpa using h)
    show (enumL (k + 1) l)[i]? = _
    rw [this]
    have e : ((k + 1 : Nat) : Int) + (i : Nat) = (k : Int) + ((i + 1 : Nat) : Int) := by omega
    rw [e]
theorem pair_lv {T : Addr} {a b : D} {x y : V} {Hs2 H2 : Hp} (hT : H2 T = none) (sb : Sub Hs2 H2) (la : Lv K Hs2 H2 a x []) (lb : Lv K Hs2 H2 b y []) : Lv K (upd Hs2 T (.tup [x, y])) (upd H2 T (.tup [x, y])) (.tup [a, b]) (.ref T) [] := by
  have e1 := same_upd (o := .tup [x, y]) (sub_free sb hT)
  exact ⟨T, [x, y], rfl, .inl (.inl upd_same), (show 2 ≤ sizeLine by decide), x, [y], [], [], rfl, rfl, la.nil_at e1, y, [], [], [], rfl, rfl, lb.nil_at e1, rfl, rfl⟩
theorem walks_enum {p : Addr} {vs : List V} {Fh : Addr → Prop} (l : LvL K Hs1 H1 m vs []) (h : ∀ Hs3 H3, Later Hs1 H1 Fh Hs3 H3 → SqL K H3 p vs) : Walks K (enumL 0 m) Hs1 H1 Fh (Ite K p) := by
  refine ⟨fun i Hs2 H2 hi lt => ?_, fun Hs2 H2 lt => ⟨vs, h _ _ lt, by rw [l.length, enumL_len]; exact Nat.le_refl _⟩, fun i Hs2 H2 x H3 hi lt y => ?_⟩
  · rw [enumL_len] at hi
    obtain ⟨d, u, _, h2, _⟩ := l.get0 hi
    exact ⟨vs, u, h _ _ lt, h2⟩
  · rw [enumL_len] at hi
    obtain ⟨d, u, h1, h2, h3⟩ := l.get0 hi
    obtain ⟨T, z, y1, y2, y3, y4⟩ := y
    have := y4 vs (h _ _ lt)
    rw [h2] at this
    cases this
    subst y1 y3
    refine ⟨upd Hs2 T (.tup [.int (i : Nat), u]), _, enumL_get 0 m i h1, .inr ⟨T, _, y2, rfl, rfl⟩, ?_⟩
    have e : ((0 : Nat) : Int) + (i : Nat) = (i : Nat) := by omega
    rw [e]
    exact pair_lv y2 lt.sub ⟨rfl, rfl⟩ (h3.nil_at lt.hs)
theorem walks_rev {p : Addr} {vs : List V} {Fh : Addr → Prop} (l : LvL K Hs1 H1 m vs []) (h : ∀ Hs3 H3, Later Hs1 H1 Fh Hs3 H3 → SqL K H3 p vs) : Walks K m.reverse Hs1 H1 Fh (Itv K p vs.length) := by
  have le := l.length
  refine ⟨fun i Hs2 H2 hi lt => ?_, fun Hs2 H2 lt => by rw [List.length_reverse, ← le]; exact Nat.le_refl _, fun i Hs2 H2 x H3 hi lt y => ?_⟩
  · rw [List.length_reverse] at hi
    obtain ⟨d, u, _, h2, _⟩ := l.get0 (i := m.length - 1 - i) (by omega)
    exact ⟨by omega, vs, u, h _ _ lt, by rw [le]; exact h2⟩
  · rw [List.length_reverse] at hi
    obtain ⟨d, u, h1, h2, h3⟩ := l.get0 (i := m.length - 1 - i) (by omega)
    obtain ⟨y1, y2⟩ := y
    have := y2 vs (h _ _ lt)
    rw [le, h2] at this
    cases this
    exact ⟨Hs2, d, by rw [List.getElem?_reverse hi]; exact h1, .inl ⟨rfl, y1⟩, h3.nil_at lt.hs⟩
theorem zipL_len : ∀ (l m : List D), (zipL l m).length = min l.length m.length
  | [], _ => by simp [zipL]
  | _ :: _, [] => by simp [zipL]
  | _ :: l, _ :: m => by simp [zipL, zipL_len l m]
theorem zipL_get : ∀ (l m : List D) (i : Nat) {a b : D}, l[i]? = some a → m[i]? = some b → (zipL l m)[i]? = some (.tup [a, b])
  | [], _, i, _, _, h, _ => by simp at h
  | _ :: _, [], i, _, _, _, h => by simp at h
  | x :: l, y :: m, 0, a, b, h, h' => by simp at h h'; subst h h'; rfl
  | x :: l, y :: m, i + 1, a, b, h, h' => by
    show (zipL l m)[i]? = _
    exact zipL_get l m i (by simpa using h) (by simpa using h')
theorem walks_zip {p q : Addr} {vs ws : List V} {Fh : Addr → Prop} (l : LvL K Hs1 H1 m vs []) (l' : LvL K Hs1 H1 m' ws []) (h : ∀ Hs3 H3, Later Hs1 H1 Fh Hs3 H3 → SqL K H3 p vs) (h' : ∀ Hs3 H3, Later Hs1 H1 Fh Hs3 H3 → SqL K H3 q ws) : Walks K (zipL m m') Hs1 H1 Fh (Itz K p q) := by
  refine ⟨fun i Hs2 H2 hi lt => ?_, fun Hs2 H2 lt => ⟨vs, ws, h _ _ lt, h' _ _ lt, by rw [l.length, l'.length, zipL_len]; omega⟩, fun i Hs2 H2 x H3 hi lt y => ?_⟩
  · rw [zipL_len] at hi
    obtain ⟨d, u, _, h2, _⟩ := l.get0 (i := i) (by omega)
    obtain ⟨d', u', _, h2', _⟩ := l'.get0 (i := i) (by omega)
    exact ⟨vs, ws, u, u', h _ _ lt, h' _ _ lt, h2, h2'⟩
  · rw [zipL_len] at hi
    obtain ⟨d, u, h1, h2, h3⟩ := l.get0 (i := i) (by omega)
    obtain ⟨d', u', h1', h2', h3'⟩ := l'.get0 (i := i) (by omega)
    obtain ⟨T, z, z', y1, y2, y3, y4, y5⟩ := y
    have e1 := y4 vs (h _ _ lt)
    have e2 := y5 ws (h' _ _ lt)
    rw [h2] at e1
    rw [h2'] at e2
    cases e1
    cases e2
    subst y1 y3
    exact ⟨upd Hs2 T (.tup [u, u']), _, zipL_get m m' i h1 h1', .inr ⟨T, _, y2, rfl, rfl⟩, pair_lv y2 lt.sub (h3.nil_at lt.hs) (h3'.nil_at lt.hs)⟩
theorem walks_zipT {p q : Addr} {vs ws : List V} {Fh : Addr → Prop} (l : LvL K Hs1 H1 m vs []) (l' : LvL K Hs1 H1 m' ws []) (h : ∀ Hs3 H3, Later Hs1 H1 Fh Hs3 H3 → SqT K H3 p vs) (h' : ∀ Hs3 H3, Later Hs1 H1 Fh Hs3 H3 → SqT K H3 q ws) : Walks K (zipL m m') Hs1 H1 Fh (RZ.ItzT K p q) := by
  refine ⟨fun i Hs2 H2 hi lt => ?_, fun Hs2 H2 lt => ⟨vs, ws, h _ _ lt, h' _ _ lt, by rw [l.length, l'.length, zipL_len]; omega⟩, fun i Hs2 H2 x H3 hi lt y => ?_⟩
  · rw [zipL_len] at hi
    obtain ⟨d, u, _, h2, _⟩ := l.get0 (i := i) (by omega)
    obtain ⟨d', u', _, h2', _⟩ := l'.get0 (i := i) (by omega)
    exact ⟨vs, ws, u, u', h _ _ lt, h' _ _ lt, h2, h2'⟩
  · rw [zipL_len] at hi
    obtain ⟨d, u, h1, h2, h3⟩ := l.get0 (i := i) (by omega)
    obtain ⟨d', u', h1', h2', h3'⟩ := l'.get0 (i := i) (by omega)
    obtain ⟨T, z, z', y1, y2, y3, y4, y5⟩ := y
    have e1 := y4 vs (h _ _ lt)
    have e2 := y5 ws (h' _ _ lt)
    rw [h2] at e1
    rw [h2'] at e2
    cases e1
    cases e2
    subst y1 y3
    exact ⟨upd Hs2 T (.tup [u, u']), _, zipL_get m m' i h1 h1', .inr ⟨T, _, y2, rfl, rfl⟩, pair_lv y2 lt.sub (h3.nil_at lt.hs) (h3'.nil_at lt.hs)⟩
theorem rngL_len : ∀ (lo : Int) (n : Nat), (rngL lo n).length = n
  | _, 0 => rfl
  | lo, n + 1 => congrArg (· + 1) (rngL_len (lo + 1) n)
theorem rngL_get : ∀ (lo : Int) (n i : Nat), i < n → (rngL lo n)[i]? = some (.int (lo + i))
  | _, 0, _, h => by omega
  | lo, n + 1, 0, _ => by simp [rngL]
  | lo, n + 1, i + 1, h => by
    show (rngL (lo + 1) n)[i]? = _
    rw [rngL_get (lo + 1) n i (by omega)]
    congr 2
    push_cast
    omega
theorem rngC_len : ∀ (lo c : Int) (n : Nat), (rngC lo c n).length = n
  | _, _, 0 => rfl
  | lo, c, n + 1 => congrArg (· + 1) (rngC_len (lo + c) c n)
theorem rngC_get : ∀ (lo c : Int) (n i : Nat), i < n → (rngC lo c n)[i]? = some (.int (lo + i * c))
  | _, _, 0, _, h => by omega
  | lo, c, n + 1, 0, _ => by simp [rngC]
  | lo, c, n + 1, i + 1, h => by
    show (rngC (lo + c) c n)[i]? = _
    rw [rngC_get (lo + c) c n i (by omega)]
    congr 2
    push_cast
    rw [Int.add_mul]
    omega
theorem walks_rng {lo : Int} {n : Nat} {Fh : Addr → Prop} : Walks K (rngL lo n) Hs1 H1 Fh (Itr lo n) := by
  refine ⟨fun i Hs2 H2 hi lt => by rw [rngL_len] at hi; exact hi, fun Hs2 H2 lt => by rw [rngL_len]; exact Nat.le_refl _, fun i Hs2 H2 x H3 hi lt y => ?_⟩
  rw [rngL_len] at hi
  obtain ⟨y1, y2⟩ := y
  exact ⟨Hs2, _, rngL_get lo n i hi, .inl ⟨rfl, y1⟩, y2, rfl⟩
theorem walks_rngC {lo c : Int} {n : Nat} {Fh : Addr → Prop} : Walks K (rngC lo c n) Hs1 H1 Fh (Itc lo c n) := by
  refine ⟨fun i Hs2 H2 hi lt => by rw [rngC_len] at hi; exact hi, fun Hs2 H2 lt => by rw [rngC_len]; exact Nat.le_refl _, fun i Hs2 H2 x H3 hi lt y => ?_⟩
  rw [rngC_len] at hi
  obtain ⟨y1, y2⟩ := y
  exact ⟨Hs2, _, rngC_get lo c n i hi, .inl ⟨rfl, y1⟩, y2, rfl⟩
theorem walks_str {s : List Nat} {Fh : Addr → Prop} (k : okS s) : Walks K (s.map fun c => .str [c]) Hs1 H1 Fh (Its (sV s)) := by
  have sz : (sV s).cps.size = s.length := by unfold sV; simp
  refine ⟨fun i Hs2 H2 hi lt => ?_, fun Hs2 H2 lt => ?_, fun i Hs2 H2 x H3 hi lt y => ?_⟩
  · rw [List.length_map] at hi
    show i < (sV s).cps.size
    rw [sz]; exact hi
  · show (sV s).cps.size ≤ _
    rw [sz, List.length_map]; exact Nat.le_refl _
  · rw [List.length_map] at hi
    obtain ⟨y1, c, y2, y3⟩ := y
    have e : s[i]? = some c := by
      have : (sV s).cps[i]? = s[i]? := by unfold sV; simp
      rw [← this]; exact y2
    refine ⟨Hs2, .str [c], by rw [List.getElem?_map, e]; rfl, .inl ⟨rfl, y1⟩, ?_⟩
    subst y3
    refine ⟨rfl, rfl, fun z hz => ?_, (show 1 ≤ sizeLine by decide)⟩
    rw [List.mem_singleton.mp hz]
    exact k.1 c (List.mem_of_getElem? e)
theorem rngC_ok {i j c : Int} (h1 : small62 i = true) (h2 : small62 j = true) (h3 : c ≠ 0) (h4 : c.natAbs < 2 ^ 30) : RgC i j c (rngN i j c) := by
  obtain ⟨a1, a2⟩ := Bool.and_eq_true_iff.mp h1
  obtain ⟨b1, b2⟩ := Bool.and_eq_true_iff.mp h2
  have a1 := of_decide_eq_true a1
  have a2 := of_decide_eq_true a2
  have b1 := of_decide_eq_true b1
  have b2 := of_decide_eq_true b2
  have sz : Builtin.Range.rangeSize i j c = (rngN i j c : Nat) ∧ 0 ≤ Builtin.Range.rangeSize i j c ∧ Builtin.Range.rangeSize i j c ≤ 16000001 := by
    unfold Builtin.Range.rangeSize rngN
    by_cases hc : 0 < c
    · simp only [gt_iff_lt, if_pos hc]
      by_cases hij : i < j
      · rw [if_pos hij]
        have n1 : 0 ≤ (j - i - 1) / c := Int.ediv_nonneg (by omega) (by omega)
        have n2 : (j - i - 1) / c ≤ j - i - 1 := Int.ediv_le_self _ (by omega)
        omega
      · rw [if_neg hij]; omega
    · simp only [gt_iff_lt, if_neg hc]
      by_cases hij : j < i
      · rw [if_pos hij]
        have n1 : 0 ≤ (i - j - 1) / (-c) := Int.ediv_nonneg (by omega) (by omega)
        have n2 : (i - j - 1) / (-c) ≤ i - j - 1 := Int.ediv_le_self _ (by omega)
        omega
      · rw [if_neg hij]; omega
  obtain ⟨z1, z2, z3⟩ := sz
  refine ⟨h3, by omega, ?_, z1⟩
  unfold Builtin.Range.small
  simp only [Builtin.Range.rangeFitsLong, Bool.and_eq_true, Bool.or_eq_true, decide_eq_true_eq, beq_iff_eq]
  refine ⟨⟨⟨⟨?_, ?_⟩, ?_⟩, ?_⟩, .inr ?_⟩
  · omega
  · omega
  · omega
  · omega
  · split <;> (simp only [decide_eq_true_eq, Bool.and_eq_true]; omega)
end
end Mp
end
section
/-! Mp snd6: targets, comprehensions. -/
namespace Mp
open PySem PySem.Spec PyProof.Rows L2

/-! ### iterables -/
section
variable {C : Ctx} {XR : XRel}
theorem pi_imp {X : Cx} {tg e : Expr} {w w' : TI} (h : PI X tg e w) (k : ∀ σ H R, w' σ H R → w σ H R) : PI X tg e w' := ⟨fun pins s σ H R I q => h.run pins s σ H R I (k σ H R q)⟩
theorem pi_or3 {X : Cx} {tg e : Expr} {w1 w2 w3 : TI} (h1 : PI X tg e w1) (h2 : PI X tg e w2) (h3 : PI X tg e w3) : PI X tg e (fun σ H R => w1 σ H R ∨ w2 σ H R ∨ w3 σ H R) := ⟨fun pins s σ H R I q => by
  rcases q with q | q | q
  · exact h1.run pins s σ H R I q
  · exact h2.run pins s σ H R I q
  · exact h3.run pins s σ H R I q⟩
/-- an iterable's text is read as the iterable's value -/
def GoodIt (C : Ctx) (XR : XRel) (it : It) : Prop := ∀ (sc : Scope) (X : Cx) (W : WX) (tg e : Expr), Cxt C XR sc X → Takes X W → chkIt C it sc e = true → tgOk it tg = true → PI X tg e (rdI X.K XR C.cl W it)
theorem later_refl {Hs H : Hp} {Fh : Addr → Prop} (s : Sub Hs H) : Later Hs H Fh Hs H := ⟨Same.refl _, s, fun _ _ => rfl⟩
theorem it_of (c : E) (lk : Look C XR c) : GoodIt C XR (.of c) := fun sc X W tg e k t q _ => by
  have pe := lk sc X W e k t q
  refine pi_imp (pi_or3 (pi_list pe) (pi_tup pe) (pi_str pe)) fun σ H R ⟨Hs, g, A, st, p⟩ => ?_
  have p : EvG X.K XR W σ Hs H A (postI X.K σ Hs H A R) ((ev C.cl c (rootE c).isSome g).bind fun (d, g1) => match d with
    | .str s => .ok (s.map fun c => .str [c], g1, [])
    | .lst f l => Out.of (holdIt (rootE c) (.lst f l) l g1)
    | .tup l => Out.of (holdIt (rootE c) (.tup l) l g1)
    | _ => .bad) := p
  rw [EvG_bind] at p
  cases er : ev C.cl c (rootE c).isSome g with
  | ok r =>
    obtain ⟨d, g1⟩ := r
    rw [er] at p
    cases d with
    | lst f m =>
      refine .inl ⟨Hs, g, A, st, ?_⟩
      rw [er]
      intro v H1 Hs1 A1 F F0 s1 x1 l1 o1
      have p : EvG X.K XR W σ Hs H A (postI X.K σ Hs H A R) (Out.of (holdIt (rootE c) (.lst f m) m g1)) := p
      cases eh : holdIt (rootE c) (.lst f m) m g1 with
      | none => rw [eh] at p; exact p.elim
      | some z =>
        obtain ⟨m', g2, hs⟩ := z
        rw [eh] at p
        obtain ⟨Hs2, A2, s2, x2, pa, vs, ev, lv, sq⟩ := hold_lst s1 x1 l1 o1 eh
        exact ⟨pa, ev, ⟨vs, sq _ _ (later_refl s2.sub)⟩, p _ H1 Hs2 A2 s2 x2 (walks_lst lv sq)⟩
    | tup m =>
      refine .inr (.inl ⟨Hs, g, A, st, ?_⟩)
      rw [er]
      intro v H1 Hs1 A1 F F0 s1 x1 l1 o1
      have p : EvG X.K XR W σ Hs H A (postI X.K σ Hs H A R) (Out.of (holdIt (rootE c) (.tup m) m g1)) := p
      cases eh : holdIt (rootE c) (.tup m) m g1 with
      | none => rw [eh] at p; exact p.elim
      | some z =>
        obtain ⟨m', g2, hs⟩ := z
        rw [eh] at p
        obtain ⟨Hs2, A2, s2, x2, pa, vs, ev, lv, sq⟩ := hold_tup s1 x1 l1 o1 eh
        exact ⟨pa, ev, ⟨vs, sq _ _ (later_refl s2.sub)⟩, p _ H1 Hs2 A2 s2 x2 (walks_tup lv sq)⟩
    | str z =>
      refine .inr (.inr ⟨Hs, g, A, st, ?_⟩)
      rw [er]
      intro v H1 Hs1 A1 F F0 s1 x1 l1 o1
      have p : postI X.K σ Hs H A R (z.map fun c => .str [c], g1, []) := p
      exact ⟨sV z, l1.1, p _ H1 Hs1 A1 s1 (by
        have : F0 = [] := by
          cases ro : rootE c with
          | none => rw [ro] at o1; have o1 : F0 = F := o1; rw [o1, l1.2.1]
          | some r => rw [ro] at o1; exact o1.1
        subst this
        exact x1) (walks_str l1.2.2)⟩
    | _ => exact p.elim
  | exc kk l g1 =>
    rw [er] at p
    refine .inl ⟨Hs, g, A, st, ?_⟩
    rw [er]
    exact p
  | bad => rw [er] at p; exact p.elim
theorem name_call {x : Str} {l : List Expr} {e : Expr} (h : exCall e = some (x, l)) : ∃ p pos, e = .Call (.Name x p) l [] pos := by
  cases e with
  | Call fn as ks pos =>
    cases fn with
    | Name y p =>
      cases as with
      | nil => cases ks <;> cases h
      | cons a as =>
        cases ks with
        | nil => cases h; exact ⟨p, pos, rfl⟩
        | cons _ _ => cases h
    | _ => cases as <;> cases ks <;> cases h
  | _ => cases h
theorem it_rng1 (a : E) (ga : Good C XR a) : GoodIt C XR (.rng1 a) := fun sc X W tg e k t q _ => by
  have q : (match exCall e with
    | some (x, [a']) => decide (x = Str.ofString "range") && (freeB C sc x && chkE C a sc a')
    | _ => false) = true := q
  split at q
  · rename_i x a' ee
    obtain ⟨p, pos, rfl⟩ := name_call ee
    obtain ⟨q1, q2⟩ := Bool.and_eq_true_iff.mp q
    obtain ⟨q2, q3⟩ := Bool.and_eq_true_iff.mp q2
    have ex : x = Str.ofString "range" := of_decide_eq_true q1
    subst ex
    obtain ⟨gl, nm⟩ := k.fr q2
    refine pi_imp (pi_range1 gl nm (pa_cons (ga.v sc X W a' k t q3) pa_nil (star_of (chk_noStar q3))) (star_of (chk_noStar q3))) fun σ H R ⟨Hs, g, A, st, p⟩ => ?_
    simp only [evIt, EvG_bind] at p
    show rdV X.K XR C.cl W a σ H _
    refine rdV_go st p fun d g1 v H1 Hs1 A1 F p s x l => ?_
    cases d <;> first | exact p.elim | skip
    rename_i n
    have p : EvG X.K XR W σ Hs H A (postI X.K σ Hs H A R) (if small62 n = true then .ok (rngL 0 n.toNat, g1, []) else .bad) := p
    by_cases c : small62 n = true
    · rw [if_pos c] at p
      obtain ⟨c1, c2⟩ := Bool.and_eq_true_iff.mp c
      have c1 := of_decide_eq_true c1
      have c2 := of_decide_eq_true c2
      have lv := l.1
      have lf := l.2
      subst lf lv
      exact ⟨n, rfl, by omega, by omega, p _ H1 Hs1 A1 s x walks_rng⟩
    · rw [if_neg c] at p
      exact p.elim
  · cases q
theorem it_rng2 (a b : E) (ga : Good C XR a) (gb : Good C XR b) : GoodIt C XR (.rng2 a b) := fun sc X W tg e k t q _ => by
  have q : (match exCall e with
    | some (x, [a', b']) => decide (x = Str.ofString "range") && (freeB C sc x && (chkE C a sc a' && chkE C b sc b'))
    | _ => false) = true := q
  split at q
  · rename_i x a' b' ee
    obtain ⟨p, pos, rfl⟩ := name_call ee
    obtain ⟨q1, q2⟩ := Bool.and_eq_true_iff.mp q
    obtain ⟨q2, q3⟩ := Bool.and_eq_true_iff.mp q2
    obtain ⟨q3, q4⟩ := Bool.and_eq_true_iff.mp q3
    have ex : x = Str.ofString "range" := of_decide_eq_true q1
    subst ex
    obtain ⟨gl, nm⟩ := k.fr q2
    refine pi_imp (pi_range2 gl nm (pa_cons (ga.v sc X W a' k t q3) (pa_cons (gb.v sc X W b' k t q4) pa_nil (star_of (chk_noStar q4))) (star_of (chk_noStar q3))) (by rw [star_of (chk_noStar q3), star_of (chk_noStar q4)]; rfl) (star_of (chk_noStar q4))) fun σ H R ⟨Hs, g, A, st, p⟩ => ?_
    simp only [evIt, EvG_bind] at p
    show rdV X.K XR C.cl W a σ H _
    refine rdV_go st p fun d g1 v H1 Hs1 A1 F p s x l => ?_
    show rdV X.K XR C.cl W b σ H1 _
    refine rdV_on s x.drop p fun d2 g2 v2 H2 Hs2 A2 F2 p2 s2 x2 l2 => ?_
    cases d with
    | int n =>
      cases d2 with
      | int m =>
        have p2 : EvG X.K XR W σ Hs H A (postI X.K σ Hs H A R) (if (small62 n && small62 m) = true then .ok (rngL n (m - n).toNat, g2, []) else .bad) := p2
        by_cases c : (small62 n && small62 m) = true
        · rw [if_pos c] at p2
          obtain ⟨c, c'⟩ := Bool.and_eq_true_iff.mp c
          obtain ⟨c1, c2⟩ := Bool.and_eq_true_iff.mp c
          obtain ⟨c3, c4⟩ := Bool.and_eq_true_iff.mp c'
          have c1 := of_decide_eq_true c1
          have c2 := of_decide_eq_true c2
          have c3 := of_decide_eq_true c3
          have c4 := of_decide_eq_true c4
          have lv := l.1
          have lv2 := l2.1
          have lf := l.2
          have lf2 := l2.2
          subst lf lv lf2 lv2
          exact ⟨n, m, rfl, ⟨by omega, by omega, by omega, by omega⟩, p2 _ H2 Hs2 A2 s2 (x.drop.trans x2.drop) walks_rng⟩
        · rw [if_neg c] at p2
          exact p2.elim
      | _ => exact p2.elim
    | _ => cases d2 <;> exact p2.elim
  · cases q
theorem it_rng3 (a b c : E) (ga : Good C XR a) (gb : Good C XR b) (gc : Good C XR c) : GoodIt C XR (.rng3 a b c) := fun sc X W tg e k t q _ => by
  have q : (match exCall e with
    | some (x, [a', b', c']) => decide (x = Str.ofString "range") && (freeB C sc x && (chkE C a sc a' && (chkE C b sc b' && chkE C c sc c')))
    | _ => false) = true := q
  split at q
  · rename_i x a' b' c' ee
    obtain ⟨p, pos, rfl⟩ := name_call ee
    obtain ⟨q1, q2⟩ := Bool.and_eq_true_iff.mp q
    obtain ⟨q2, q3⟩ := Bool.and_eq_true_iff.mp q2
    obtain ⟨q3, q4⟩ := Bool.and_eq_true_iff.mp q3
    obtain ⟨q4, q5⟩ := Bool.and_eq_true_iff.mp q4
    have ex : x = Str.ofString "range" := of_decide_eq_true q1
    subst ex
    obtain ⟨gl, nm⟩ := k.fr q2
    refine pi_imp (pi_range3 gl nm (pa_cons (ga.v sc X W a' k t q3) (pa_cons (gb.v sc X W b' k t q4) (pa_cons (gc.v sc X W c' k t q5) pa_nil (star_of (chk_noStar q5))) (star_of (chk_noStar q4))) (star_of (chk_noStar q3))) (star_of (chk_noStar q3)) (stars_of (C := C) (sc := sc) (cs := [b, c]) (by show (chkE C b sc b' && (chkE C c sc c' && true)) = true; rw [q4, q5]; rfl))) fun σ H R ⟨Hs, g, A, st, p⟩ => ?_
    simp only [evIt, EvG_bind] at p
    show rdV X.K XR C.cl W a σ H _
    refine rdV_go st p fun d g1 v H1 Hs1 A1 F p s x l => ?_
    show rdV X.K XR C.cl W b σ H1 _
    refine rdV_on s x.drop p fun d2 g2 v2 H2 Hs2 A2 F2 p2 s2 x2 l2 => ?_
    show rdV X.K XR C.cl W c σ H2 _
    refine rdV_on s2 (x.drop.trans x2.drop) p2 fun d3 g3 v3 H3 Hs3 A3 F3 p3 s3 x3 l3 => ?_
    cases d with
    | int n =>
      cases d2 with
      | int m =>
        cases d3 with
        | int r =>
          have p3 : EvG X.K XR W σ Hs H A (postI X.K σ Hs H A R) (if (small62 n && small62 m && (decide (r ≠ 0) && decide (r.natAbs < 2 ^ 30))) = true then .ok (rngC n r (rngN n m r), g3, []) else .bad) := p3
          by_cases c : (small62 n && small62 m && (decide (r ≠ 0) && decide (r.natAbs < 2 ^ 30))) = true
          · rw [if_pos c] at p3
            obtain ⟨c, c'⟩ := Bool.and_eq_true_iff.mp c
            obtain ⟨c1, c2⟩ := Bool.and_eq_true_iff.mp c
            obtain ⟨c3, c4⟩ := Bool.and_eq_true_iff.mp c'
            have lv := l.1
            have lv2 := l2.1
            have lv3 := l3.1
            subst lv lv2 lv3
            exact ⟨n, m, r, _, rfl, rngC_ok c1 c2 (of_decide_eq_true c3) (of_decide_eq_true c4), p3 _ H3 Hs3 A3 s3 ((x.drop.trans x2.drop).trans x3.drop) walks_rngC⟩
          · rw [if_neg c] at p3
            exact p3.elim
        | _ => exact p3.elim
      | _ => cases d3 <;> exact p3.elim
    | _ => cases d2 <;> cases d3 <;> exact p3.elim
  · cases q
theorem tgTup {it : It} {tg : Expr} (h : tgOk it tg = true) (e : (∃ a, it = .enum a) ∨ ∃ a b, it = .zip a b) : ∃ es k p, tg = .Tuple es k p := by
  rcases e with ⟨a, rfl⟩ | ⟨a, b, rfl⟩ <;> (cases tg <;> first | exact ⟨_, _, _, rfl⟩ | cases h)
theorem it_enum (c : E) (lk : Look C XR c) : GoodIt C XR (.enum c) := fun sc X W tg e k t q tgo => by
  obtain ⟨es, kk, tp, rfl⟩ := tgTup tgo (.inl ⟨_, rfl⟩)
  have q : (match exCall e with
    | some (x, [a']) => decide (x = Str.ofString "enumerate") && (freeB C sc x && chkE C c sc a')
    | _ => false) = true := q
  split at q
  · rename_i x a' ee
    obtain ⟨p, pos, rfl⟩ := name_call ee
    obtain ⟨q1, q2⟩ := Bool.and_eq_true_iff.mp q
    obtain ⟨q2, q3⟩ := Bool.and_eq_true_iff.mp q2
    have ex : x = Str.ofString "enumerate" := of_decide_eq_true q1
    subst ex
    obtain ⟨gl, nm⟩ := k.fr q2
    refine pi_imp (pi_enum gl nm (pa_cons (lk sc X W a' k t q3) pa_nil (star_of (chk_noStar q3))) (star_of (chk_noStar q3))) fun σ H R ⟨Hs, g, A, st, p⟩ => ?_
    simp only [evIt, EvG_bind] at p
    show rdL X.K XR C.cl W c σ H _
    refine rdL_go st p fun d g1 v H1 Hs1 A1 F F0 p s1 x1 l1 o1 => ?_
    cases d <;> first | exact p.elim | skip
    rename_i f m
    simp only [EvG_bind] at p
    cases eh : holdIt (rootE c) (.lst f m) m g1 with
    | none => rw [eh] at p; exact p.elim
    | some z =>
      obtain ⟨m', g2, hs⟩ := z
      rw [eh] at p
      obtain ⟨Hs2, A2, s2, x2, pa, vs, ev, lv, sq⟩ := hold_lst s1 x1 l1 o1 eh
      exact ⟨pa, vs, by rw [ev], sq _ _ (later_refl s2.sub), p _ H1 Hs2 A2 s2 x2 (walks_enum lv sq)⟩
  · cases q
theorem it_rev (c : E) (lk : Look C XR c) : GoodIt C XR (.rev c) := fun sc X W tg e k t q tgo => by
  have q : (match exCall e with
    | some (x, [a']) => decide (x = Str.ofString "reversed") && (freeB C sc x && chkE C c sc a')
    | _ => false) = true := q
  split at q
  · rename_i x a' ee
    obtain ⟨p, pos, rfl⟩ := name_call ee
    obtain ⟨q1, q2⟩ := Bool.and_eq_true_iff.mp q
    obtain ⟨q2, q3⟩ := Bool.and_eq_true_iff.mp q2
    have ex : x = Str.ofString "reversed" := of_decide_eq_true q1
    subst ex
    obtain ⟨gl, nm⟩ := k.fr q2
    refine pi_imp (pi_reversed gl nm (pa_cons (lk sc X W a' k t q3) pa_nil (star_of (chk_noStar q3))) (star_of (chk_noStar q3))) fun σ H R ⟨Hs, g, A, st, p⟩ => ?_
    simp only [evIt, EvG_bind] at p
    show rdL X.K XR C.cl W c σ H _
    refine rdL_go st p fun d g1 v H1 Hs1 A1 F F0 p s1 x1 l1 o1 => ?_
    cases d <;> first | exact p.elim | skip
    rename_i f m
    simp only [EvG_bind] at p
    cases eh : holdIt (rootE c) (.lst f m) m g1 with
    | none => rw [eh] at p; exact p.elim
    | some z =>
      obtain ⟨m', g2, hs⟩ := z
      rw [eh] at p
      obtain ⟨Hs2, A2, s2, x2, pa, vs, ev, lv, sq⟩ := hold_lst s1 x1 l1 o1 eh
      exact ⟨pa, vs, by rw [ev], sq _ _ (later_refl s2.sub), p _ H1 Hs2 A2 s2 x2 (walks_rev lv sq)⟩
  · cases q
theorem it_zip (a b : E) (ga : Good C XR a) (gb : Good C XR b) : GoodIt C XR (.zip a b) := fun sc X W tg e k t q tgo => by
  obtain ⟨es, kk, tp, rfl⟩ := tgTup tgo (.inr ⟨_, _, rfl⟩)
  have q : (match exCall e with
    | some (x, [a', b']) => decide (x = Str.ofString "zip") && (freeB C sc x && (chkE C a sc a' && chkE C b sc b'))
    | _ => false) = true := q
  split at q
  · rename_i x a' b' ee
    obtain ⟨p, pos, rfl⟩ := name_call ee
    obtain ⟨q1, q2⟩ := Bool.and_eq_true_iff.mp q
    obtain ⟨q2, q3⟩ := Bool.and_eq_true_iff.mp q2
    obtain ⟨q3, q4⟩ := Bool.and_eq_true_iff.mp q3
    have ex : x = Str.ofString "zip" := of_decide_eq_true q1
    subst ex
    obtain ⟨gl, nm⟩ := k.fr q2
    refine pi_imp (RZ.pi_zipA gl nm (pa_cons (ga.v sc X W a' k t q3) (pa_cons (gb.v sc X W b' k t q4) pa_nil (star_of (chk_noStar q4))) (star_of (chk_noStar q3))) (star_of (chk_noStar q3)) (stars_of (C := C) (sc := sc) (cs := [b]) (by show (chkE C b sc b' && true) = true; rw [q4]; rfl))) fun σ H R ⟨Hs, g, A, st, p⟩ => ?_
    simp only [evIt, EvG_bind] at p
    show rdV X.K XR C.cl W a σ H _
    refine rdV_go st p fun d1 g1 v1 H1 Hs1 A1 F1 p1 s1 x1 l1 => ?_
    show rdV X.K XR C.cl W b σ H1 _
    refine rdV_on s1 x1.drop p1 fun d2 g2 v2 H2 Hs2 A2 F2 p2 s2 x2 l2 => ?_
    have x12 := x1.seq x2 l1.ne
    obtain ⟨s3, x3⟩ := Xst.frz s2 x12
    have sm := laid_same (H := H2) x12.off
    have f1 := (l1.keep x2).frz (H' := H2) sm (fun q hq => laid_in (List.mem_append_left _ hq))
    have f2 := l2.frz (H' := H2) sm (fun q hq => laid_in (List.mem_append_right _ hq))
    cases d1 with
    | lst c1 m1 =>
      cases d2 with
      | lst c2 m2 =>
        obtain ⟨pa, vs, e1, r1, _, _, c1⟩ := f1
        obtain ⟨pb, ws, e2, r2, _, _, c2⟩ := f2
        have sq1 : ∀ Hs3 H3, Later (laid Hs2 H2 (F1 ++ F2)) H2 (inHid A2 []) Hs3 H3 → SqL X.K H3 pa vs := fun _ _ lt => sqL_sub lt.sub (lt.hs.seq r1)
        have sq2 : ∀ Hs3 H3, Later (laid Hs2 H2 (F1 ++ F2)) H2 (inHid A2 []) Hs3 H3 → SqL X.K H3 pb ws := fun _ _ lt => sqL_sub lt.sub (lt.hs.seq r2)
        exact ⟨pa, pb, vs, ws, by rw [e1, e2], .inl ⟨sq1 _ _ (later_refl s3.sub), sq2 _ _ (later_refl s3.sub), p2 _ H2 _ A2 s3 x3 (walks_zip c1 c2 sq1 sq2)⟩⟩
      | _ => exact p2.elim
    | tup m1 =>
      cases d2 with
      | tup m2 =>
        obtain ⟨pa, vs, e1, r1, _, c1⟩ := f1
        obtain ⟨pb, ws, e2, r2, _, c2⟩ := f2
        have sq1 : ∀ Hs3 H3, Later (laid Hs2 H2 (F1 ++ F2)) H2 (inHid A2 []) Hs3 H3 → SqT X.K H3 pa vs := fun _ _ lt => sqT_sub lt.sub (sqT_mono lt.hs r1)
        have sq2 : ∀ Hs3 H3, Later (laid Hs2 H2 (F1 ++ F2)) H2 (inHid A2 []) Hs3 H3 → SqT X.K H3 pb ws := fun _ _ lt => sqT_sub lt.sub (sqT_mono lt.hs r2)
        exact ⟨pa, pb, vs, ws, by rw [e1, e2], .inr ⟨sq1 _ _ (later_refl s3.sub), sq2 _ _ (later_refl s3.sub), p2 _ H2 _ A2 s3 x3 (walks_zipT c1 c2 sq1 sq2)⟩⟩
      | _ => exact p2.elim
    | _ => cases d2 <;> exact p2.elim
  · cases q
end
end Mp
end
section
/-! Mp snd7: targets, comprehensions, all terms. -/
namespace Mp
open PySem PySem.Spec PyProof.Rows L2

/-! ### targets -/
/-- F is nobody's else -/
structure Ext (A : Nat → List Addr) (Hs : Hp) (F : List Addr) : Prop where
  dj : ∀ p ∈ F, ∀ j, p ∉ A j
  nd : F.Nodup
  off : ∀ p ∈ F, Hs p = none
def Put (A : Nat → List Addr) (F : List Addr) (A' : Nat → List Addr) : Prop := ∀ i, A' i = A i ∨ ∀ p ∈ A' i, p ∈ F
def Kept (L : List Nat) (σ σ' : L2.St) : Prop := σ'.length = σ.length ∧ ∀ i, i ∉ L → σ'[i]? = σ[i]?
theorem Ext.nil {A : Nat → List Addr} {Hs : Hp} : Ext A Hs [] := ⟨fun _ h => absurd h List.not_mem_nil, List.nodup_nil, fun _ h => absurd h List.not_mem_nil⟩
theorem Xst.ext {Hs H Hs1 H1 : Hp} {A A1 : Nat → List Addr} {F : List Addr} (x : Xst Hs H A Hs1 H1 A1 F) : Ext A1 Hs1 F := ⟨x.dj, x.nd, x.off⟩
theorem Kept.trans {L M : List Nat} {σ σ1 σ2 : L2.St} (a : Kept L σ σ1) (b : Kept M σ1 σ2) : Kept (L ++ M) σ σ2 :=
  ⟨b.1.trans a.1, fun i h => (b.2 i fun z => h (List.mem_append_right _ z)).trans (a.2 i fun z => h (List.mem_append_left _ z))⟩
theorem Kept.refl {L : List Nat} {σ : L2.St} : Kept L σ σ := ⟨rfl, fun _ _ => rfl⟩
theorem Kept.sub {L M : List Nat} {σ σ1 : L2.St} (a : Kept L σ σ1) (h : ∀ i ∈ L, i ∈ M) : Kept M σ σ1 := ⟨a.1, fun i k => a.2 i fun z => k (h i z)⟩
theorem Put.trans {A A1 A2 : Nat → List Addr} {F1 F2 : List Addr} (a : Put A F1 A1) (b : Put A1 F2 A2) : Put A (F1 ++ F2) A2 := fun i => by
  rcases b i with e | e
  · rcases a i with e' | e'
    · exact .inl (e.trans e')
    · exact .inr fun p hp => List.mem_append_left _ (e' p (by rw [← e]; exact hp))
  · exact .inr fun p hp => List.mem_append_right _ (e p hp)
def gD (K : PySem.W.Frag) (t : Tgt) : TG := fun v σ H Q => ∃ Hs g A d F g', Sta K Hs H g σ A ∧ Lv K Hs H d v F ∧ Ext A Hs F ∧ asg t d g = some g' ∧ ∀ σ' A', Sta K Hs H g' σ' A' → Put A F A' → Kept (tgtS t) σ σ' → Q σ' H
def gDs (K : PySem.W.Frag) (ts : List Tgt) : TGs := fun vs σ H Q => ∃ Hs g A ds F g', Sta K Hs H g σ A ∧ LvL K Hs H ds vs F ∧ Ext A Hs F ∧ asgL ts ds g = some g' ∧ ∀ σ' A', Sta K Hs H g' σ' A' → Put A F A' → Kept (tgtS.tgtsS ts) σ σ' → Q σ' H
theorem pg_imp {X : Cx} {e : Expr} {t t' : TG} (h : PG X e t) (k : ∀ v σ H Q, t' v σ H Q → t v σ H Q) : PG X e t' := ⟨fun pins s σ H v u Q I r q => h.run pins s σ H v u Q I r (k v σ H Q q)⟩
theorem pgs_imp {X : Cx} {e : List Expr} {t t' : TGs} (h : PGs X e t) (k : ∀ v σ H Q, t' v σ H Q → t v σ H Q) : PGs X e t' := ⟨fun pins s σ H v u Q I r q => h.run pins s σ H v u Q I r (k v σ H Q q)⟩
section
variable {C : Ctx} {X : Cx} {sc : Scope}
theorem tgt_star {t : Tgt} {x : Expr} {p : Pos} : tgtB C sc t (.Starred x p) = false := by cases t <;> rfl
theorem each_of : ∀ {ts : List Tgt} {es : List Expr} (env : PySem.Env), tgtsB C sc ts es = true → (assignEach es env).length = es.length ∧ (assignEach es env).findIdx? (·.1) = none ∧ (assignEach es env).map (·.2) = es.map fun e => assign e env
  | [], [], _, _ => ⟨rfl, rfl, rfl⟩
  | [], _ :: _, _, h => by cases h
  | _ :: _, [], _, h => by cases h
  | t :: ts, e :: es, env, h => by
    obtain ⟨h1, h2⟩ := Bool.and_eq_true_iff.mp (show (tgtB C sc t e && tgtsB C sc ts es) = true from h)
    obtain ⟨a, b, c⟩ := each_of env h2
    have e1 : assignEach (e :: es) env = (false, assign e env) :: assignEach es env := by
      cases e with
      | Starred x p => rw [tgt_star] at h1; cases h1
      | _ => rfl
    rw [e1]
    refine ⟨congrArg (· + 1) a, ?_, congrArg _ c⟩
    rw [List.findIdx?_cons, b]
    rfl
mutual
theorem tgt_pg (hc : X.calm = true) (hN : X.N.Nodup) (en : X.N = C.N) (hl : ∀ x, locB sc x = true → Loc X.env.scope x ∧ (X.fn x = true ∨ X.env.scope.names.lookup x = some .local)) : ∀ {t : Tgt} {e : Expr}, tgtB C sc t e = true → PG X e (gD X.K t)
  | .nm i, e, h => by
    cases e with
    | Name x p =>
      obtain ⟨h1, h2⟩ := Bool.and_eq_true_iff.mp (show (decide (C.N[i]? = some x) && locB sc x) = true from h)
      obtain ⟨l1, l2⟩ := hl x h2
      refine pg_imp (pg_name hN (by rw [en]; exact of_decide_eq_true h1) l1 l2) fun v σ H Q ⟨Hs, g, A, d, F, g', st, lv, ex, ea, k⟩ => ?_
      cases ea
      refine k (σ.set i (some v)) _ (st.put i lv ex.dj ex.nd ex.off) (fun j => ?_) ⟨List.length_set .., fun j hj => List.getElem?_set_ne fun e => hj (by rw [e]; exact List.mem_cons_self)⟩
      by_cases hj : j = i
      · refine .inr fun p hp => ?_
        have hp : p ∈ (if j = i then (if i < g.length then F else []) else A j) := hp
        rw [if_pos hj] at hp
        by_cases lt : i < g.length
        · rw [if_pos lt] at hp; exact hp
        · rw [if_neg lt] at hp; cases hp
      · exact .inl (if_neg hj)
    | _ => cases h
  | .tp ts, e, h => by
    cases e with
    | Tuple es n p =>
      have h : tgtsB C sc ts es = true := h
      obtain ⟨a, b, c⟩ := each_of X.env h
      refine pg_imp (pg_tup hc (tgts_pgs hc hN en hl h) a b) fun v σ H Q ⟨Hs, g, A, d, F, g', st, lv, ex, ea, k⟩ => ?_
      cases d with
      | tup ds =>
        obtain ⟨q, vs, e1, e2, _, c2⟩ := lv
        have ea : asgL ts ds g = some g' := ea
        have len : ∀ {ts : List Tgt} {ds : List D} {g g' : Env} {es : List Expr}, asgL ts ds g = some g' → tgtsB C sc ts es = true → ds.length = es.length := by
          intro ts
          induction ts with
          | nil =>
            intro ds g g' es h1 h2
            cases ds with
            | nil => cases es with
              | nil => rfl
              | cons _ _ => cases h2
            | cons _ _ => cases h1
          | cons t ts ih =>
            intro ds g g' es h1 h2
            cases ds with
            | nil => cases h1
            | cons d ds =>
              cases es with
              | nil => cases h2
              | cons e es =>
                obtain ⟨_, h4⟩ := Bool.and_eq_true_iff.mp (show (tgtB C sc t e && tgtsB C sc ts es) = true from h2)
                unfold asgL at h1
                split at h1
                · exact congrArg (· + 1) (ih h1 h4)
                · cases h1
        exact ⟨q, vs, e1, sqT_sub st.sub e2, by rw [c2.length]; exact len ea h, Hs, g, A, ds, F, g', st, c2, ex, ea, k⟩
      | _ => cases ea
    | _ => cases h
theorem tgts_pgs (hc : X.calm = true) (hN : X.N.Nodup) (en : X.N = C.N) (hl : ∀ x, locB sc x = true → Loc X.env.scope x ∧ (X.fn x = true ∨ X.env.scope.names.lookup x = some .local)) : ∀ {ts : List Tgt} {es : List Expr}, tgtsB C sc ts es = true → PGs X es (gDs X.K ts)
  | [], [], _ => pgs_imp pgs_nil fun v σ H Q ⟨Hs, g, A, ds, F, g', st, lv, ex, ea, k⟩ => by
    cases ds with
    | nil =>
      cases ea
      exact ⟨lv.1, k σ A st (fun i => .inl rfl) Kept.refl⟩
    | cons _ _ => cases ea
  | [], _ :: _, h => by cases h
  | _ :: _, [], h => by cases h
  | t :: ts, e :: es, h => by
    obtain ⟨h1, h2⟩ := Bool.and_eq_true_iff.mp (show (tgtB C sc t e && tgtsB C sc ts es) = true from h)
    obtain ⟨_, _, c1⟩ := each_of X.env h
    obtain ⟨_, _, c2⟩ := each_of X.env h2
    refine pgs_imp (pgs_cons (tgt_pg hc hN en hl h1) (tgts_pgs hc hN en hl h2) (by rw [c1, c2]; rfl)) fun v σ H Q ⟨Hs, g, A, ds, F, g', st, lv, ex, ea, k⟩ => ?_
    cases ds with
    | nil => cases ea
    | cons d ds =>
      obtain ⟨u, us, F1, F2, e1, e2, l1, l2⟩ := lv
      subst e1 e2
      unfold asgL at ea
      cases eg : asg t d g with
      | none => rw [eg] at ea; cases ea
      | some g1 =>
        rw [eg] at ea
        have ea : asgL ts ds g1 = some g' := ea
        have nd := List.nodup_append.mp ex.nd
        refine ⟨u, us, rfl, Hs, g, A, d, F1, g1, st, l1, ⟨fun p hp => ex.dj p (List.mem_append_left _ hp), nd.1, fun p hp => ex.off p (List.mem_append_left _ hp)⟩, eg, fun σ1 A1 s1 pt kp => ?_⟩
        refine ⟨Hs, g1, A1, ds, F2, g', s1, l2, ⟨fun p hp j z => ?_, nd.2.1, fun p hp => ex.off p (List.mem_append_right _ hp)⟩, ea, fun σ2 A2 s2 pt2 kp2 => k σ2 A2 s2 (pt.trans pt2) (kp.trans kp2)⟩
        rcases pt j with e | e
        · rw [e] at z; exact ex.dj p (List.mem_append_right _ hp) j z
        · exact nd.2.2 p (e p z) p hp rfl
end
end

/-! ### comprehensions -/
section
variable {K : PySem.W.Frag} {Hs H Hs1 H1 Hs2 H2 : Hp} {g g1 g2 : Env} {σ σ1 : L2.St} {A A1 A2 A' : Nat → List Addr} {F F1 : List Addr} {own : List Nat}
theorem Xst.less (x : Xst Hs H A Hs1 H1 A1 F) (h : ∀ i, A2 i = A1 i ∨ A2 i = []) : Xst Hs H A Hs1 H1 A2 F := by
  refine ⟨x.hp, x.hs, fun i => (h i).elim (fun e => (x.ka i).imp e.trans e.trans) .inr, x.inF, fun p hp i z => ?_, x.nd, x.off, x.new⟩
  rcases h i with e | e
  · rw [e] at z; exact x.dj p hp i z
  · rw [e] at z; cases z
theorem Xst.more (x : Xst Hs H (wipeA A own) Hs1 H1 A1 F) : Xst Hs H A Hs1 H1 A1 F := by
  have up : ∀ {p : Addr}, (∃ i, p ∈ wipeA A own i) → ∃ i, p ∈ A i := fun ⟨i, z⟩ => by
    unfold wipeA at z
    by_cases hi : i ∈ own
    · rw [if_pos hi] at z; cases z
    · rw [if_neg hi] at z; exact ⟨i, z⟩
  refine ⟨x.hp, x.hs, fun i => ?_, fun p hp => (x.inF p hp).imp up id, x.dj, x.nd, x.off, fun p o e => (x.new p o e).imp id (Or.imp up id)⟩
  rcases x.ka i with e | e
  · rw [e]
    unfold wipeA
    by_cases hi : i ∈ own
    · exact .inr (if_pos hi)
    · exact .inl (if_neg hi)
  · exact .inr e
theorem wipeA_less : ∀ i, wipeA A own i = A i ∨ wipeA A own i = [] := fun i => by
  unfold wipeA
  by_cases hi : i ∈ own
  · exact .inr (if_pos hi)
  · exact .inl (if_neg hi)
/-- the list at D, nobody's else, is changed -/
theorem Sta.upd (st : Sta K Hs H g σ A) {p : Addr} {o : HO} (dj : ∀ i, p ∉ A i) (off : Hs p = none) : Sta K Hs (upd H p o) g σ A := by
  refine ⟨fun q u e => ?_, st.len, fun i d e => ?_, st.emp, st.dj, st.nd, st.off⟩
  · have hq : q ≠ p := fun z => by rw [z, off] at e; cases e
    rcases st.sub q u e with z | ⟨z, ob, y⟩
    · exact .inl (by rw [upd_ne hq]; exact z)
    · exact .inr ⟨z, ob, by rw [upd_ne hq]; exact y⟩
  · obtain ⟨v, h1, h2⟩ := st.sl i d e
    exact ⟨v, h1, h2.at' (Same.refl _) fun q hq => upd_ne fun z => dj i (by rw [← z]; exact hq)⟩
theorem Xst.upd (x : Xst Hs H A Hs1 H1 A1 F) {p : Addr} {o : HO} (h : H p = none) : Xst Hs H A Hs1 (upd H1 p o) A1 F :=
  ⟨fun q u e => by rw [upd_ne (ne_of_none e h)]; exact x.hp q u e, x.hs, x.ka, x.inF, x.dj, x.nd, x.off, x.new⟩
theorem wipe_out {j : Nat} : ∀ {vs : List Nat}, j ∉ vs → (wipe σ vs)[j]? = σ[j]?
  | [], _ => rfl
  | r :: vs, h => by
    have h1 : j ≠ r := fun e => h (by rw [e]; exact List.mem_cons_self)
    have h2 : j ∉ vs := fun e => h (List.mem_cons_of_mem _ e)
    unfold wipe
    rw [List.getElem?_set_ne (Ne.symm h1), wipe_out h2]
theorem wipe_ext {vs : List Nat} (hl : σ1.length = σ.length) (h : ∀ j, j ∉ vs → σ1[j]? = σ[j]?) : wipe σ1 vs = wipe σ vs := by
  apply List.ext_getElem?
  intro j
  by_cases hj : j ∈ vs
  · have go : ∀ {τ : L2.St} {vs : List Nat}, j ∈ vs → (wipe τ vs)[j]? = if j < τ.length then some none else none := by
      intro τ vs
      induction vs with
      | nil => intro h; cases h
      | cons r vs ih =>
        intro hh
        unfold wipe
        by_cases q : r = j
        · subst q
          by_cases lt : r < τ.length
          · rw [List.getElem?_set_self (by rw [wipe_length]; exact lt), if_pos lt]
          · rw [List.getElem?_eq_none (by rw [List.length_set, wipe_length]; omega), if_neg lt]
        · rw [List.getElem?_set_ne q]
          rcases List.mem_cons.mp hh with z | z
          · exact absurd z.symm q
          · exact ih z
    rw [go hj, go hj, hl]
  · rw [wipe_out hj, wipe_out hj, h j hj]
/-- what is laid by a turn -/
theorem Xst.lay (st : Sta K Hs1 H1 g σ A1) (x : Xst Hs H A Hs1 H1 A1 F) (l : LayS Hs1 H1 Hs2 H2) (lv : ∀ p ∈ F, H1 p ≠ none) : Sta K Hs2 H2 g σ A1 ∧ Xst Hs H A Hs2 H2 A1 F := by
  rcases l with ⟨e1, e2⟩ | ⟨T, o, h, e1, e2⟩
  · subst e1 e2
    exact ⟨st, x⟩
  · subst e1 e2
    exact Xst.tup st x h lv
theorem LayS.same (l : LayS Hs1 H1 Hs2 H2) (sb : Sub Hs1 H1) : Same Hs1 Hs2 ∧ Same H1 H2 := by
  rcases l with ⟨e1, e2⟩ | ⟨T, o, h, e1, e2⟩
  · subst e1 e2
    exact ⟨Same.refl _, Same.refl _⟩
  · subst e1 e2
    exact ⟨same_upd (sub_free sb h), same_upd h⟩
end
section
variable {C : Ctx} {XR : XRel}
def W0 : WX := fun _ _ _ _ => False
def rdTs (K : PySem.W.Frag) (cs : List E) : TT := fun σ H Q => ∃ Hs g A, Sta K Hs H g σ A ∧ EvG K XR W0 σ Hs H A (fun r => ∀ H' Hs' A', Sta K Hs' H' r.2 σ A' → Xst Hs H A Hs' H' A' [] → Q r.1 H') (evT C.cl cs g)
theorem tests_pts {cs : List E} {sc : Scope} {X : Cx} {ifs : List Expr} (gd : ∀ c ∈ cs, Good C XR c) (k : Cxt C XR sc X) (h1 : ifs.any isIf = false) (h2 : ifs.length ≤ 1) (q : chkEs C cs sc ifs = true) : PTs X ifs (rdTs (C := C) (XR := XR) X.K cs) := by
  match cs, ifs, q with
  | [], [], _ => exact ⟨fun pins s σ H Q I ⟨Hs, g, A, st, p⟩ => pts_nil.run pins s σ H Q I (p H Hs A st Xst.refl)⟩
  | [], _ :: _, q => cases q
  | _ :: _, [], q => cases q
  | [c], [e], q =>
    obtain ⟨q1, _⟩ := Bool.and_eq_true_iff.mp (show (chkE C c sc e && chkEs C [] sc []) = true from q)
    have n1 : isIf e = false := by simpa using h1
    have pt := (gd c List.mem_cons_self).t sc X W0 e k takes0 q1 n1
    refine ⟨fun pins s σ H Q I ⟨Hs, g, A, st, p⟩ => (pts_one pt).run pins s σ H Q I ?_⟩
    simp only [evT, EvG_bind] at p
    refine rdV_go st p fun d g1 v H1 Hs1 A1 F p s x l => ?_
    cases d <;> first | exact p.elim | skip
    rename_i b
    exact ⟨b, l.1, p H1 Hs1 A1 s x.drop⟩
  | [_], _ :: _ :: _, q => exact absurd h2 (by simp)
  | _ :: _ :: _, [e], q =>
    obtain ⟨_, q2⟩ := Bool.and_eq_true_iff.mp q
    cases q2
  | _ :: _ :: _, _ :: _ :: _, q => exact absurd h2 (by simp)
/-- the parts of a comprehension's text -/
structure CompOk (C : Ctx) (XR : XRel) (X : Cx) (W : WX) (elt : E) (t : Tgt) (own : List Nat) (it : It) (cs : List E) (elt' t' it' : Expr) (ifs : List Expr) (sc' : Scope) : Prop where
  pi : PI X t' it' (rdI X.K XR C.cl W it)
  ok : BlkOk X.N X.env.scope sc' (own.map fun i => (C.N.getD i (Str.ofString ""), i))
  pg : ∀ (s : Shared) (H : Hp) (D : Addr) (cl : List (Str × Addr)) (fp : List Addr), PG (X.blk s H sc' (compEnvC sc' cl D X.env) fp) t' (gD X.K t)
  pt : ∀ (s : Shared) (H : Hp) (D : Addr) (cl : List (Str × Addr)) (fp : List Addr), PTs (X.blk s H sc' (compEnvC sc' cl D X.env) fp) ifs (rdTs (C := C) (XR := XR) X.K cs)
  pe : ∀ (s : Shared) (H : Hp) (D : Addr) (cl : List (Str × Addr)) (fp : List Addr), PE (X.blk s H sc' (compEnvC sc' cl D X.env) fp) elt' (rdV X.K XR C.cl W0 elt)
  fs : ∀ x, foldedSetIterable it' X.env x = pure x
  tg : ∀ i ∈ tgtS t, i ∈ own
theorem chkIt_set {it : It} {sc : Scope} {l : List Expr} {k : Nat} {p : Pos} : chkIt C it sc (.Set l k p) = false := by
  cases it with
  | of e => exact chk_set e
  | _ => rfl
theorem ex_comp {e elt t it : Expr} {ifs : List Expr} {sc' : Scope} (h : exComp e = some (elt, t, it, ifs, sc')) : ∃ pos, e = .ListComp elt [⟨t, it, ifs, 0⟩] sc' pos := by
  unfold exComp at h
  split at h
  · cases h; exact ⟨_, rfl⟩
  · cases h
theorem comp_ok {elt : E} {t : Tgt} {own : List Nat} {it : It} {cs : List E} {sc : Scope} {X : Cx} {W : WX} {e : Expr} (ge : Good C XR elt) (gi : GoodIt C XR it) (gd : ∀ c ∈ cs, Good C XR c) (k : Cxt C XR sc X) (tk : Takes X W) (q : chkE C (.comp elt t own it cs) sc e = true) :
    ∃ elt' t' it' ifs sc' pos, e = .ListComp elt' [⟨t', it', ifs, 0⟩] sc' pos ∧ CompOk C XR X W elt t own it cs elt' t' it' ifs sc' := by
  have q : (match exComp e with
    | some (elt', t', it', ifs, sc') => blkC C.N sc sc' (own.map fun i => (C.N.getD i (Str.ofString ""), i)) && (tgtB C sc' t t' && (tgOk it t' && (chkIt C it sc it' && (!ifs.any isIf && (decide (ifs.length ≤ 1) && ((tgtS t).all (fun i => own.contains i) && (chkEs C cs (relS sc' sc) ifs && chkE C elt (relS sc' sc) elt')))))))
    | _ => false) = true := q
  split at q
  · rename_i elt' t' it' ifs sc' ee
    obtain ⟨pos, rfl⟩ := ex_comp ee
    obtain ⟨q1, q⟩ := Bool.and_eq_true_iff.mp q
    obtain ⟨q2, q⟩ := Bool.and_eq_true_iff.mp q
    obtain ⟨q3, q⟩ := Bool.and_eq_true_iff.mp q
    obtain ⟨q4, q⟩ := Bool.and_eq_true_iff.mp q
    obtain ⟨q5, q⟩ := Bool.and_eq_true_iff.mp q
    obtain ⟨q6, q⟩ := Bool.and_eq_true_iff.mp q
    obtain ⟨q9, q⟩ := Bool.and_eq_true_iff.mp q
    obtain ⟨q7, q8⟩ := Bool.and_eq_true_iff.mp q
    have esc := k.sc
    have kb : ∀ (s : Shared) (H : Hp) (D : Addr) (cl : List (Str × Addr)) (fp : List Addr), Cxt C XR (relS sc' sc) (X.blk s H sc' (compEnvC sc' cl D X.env) fp) := fun s H D cl fp => by
      refine ⟨k.N, k.nd, ?_, k.calm, k.dig, k.xf, k.xr, k.room, k.free, k.glb, k.fn⟩
      show relS sc' X.env.scope = _
      rw [esc]
    refine ⟨elt', t', it', ifs, sc', pos, rfl, gi sc X W t' it' k tk q4 q3, blkOk_by (by rw [k.N, esc]; exact q1), fun s H D cl fp => ?_, fun s H D cl fp => ?_, fun s H D cl fp => ?_, fun x => ?_, fun i hi => by simpa using List.all_eq_true.mp q9 i hi⟩
    · refine tgt_pg (C := C) (X := X.blk s H sc' (compEnvC sc' cl D X.env) fp) (sc := sc') (kb s H D cl fp).calm (kb s H D cl fp).ndX (kb s H D cl fp).N (fun x hx => ?_) q2
      have e1 : (X.blk s H sc' (compEnvC sc' cl D X.env) fp).env.scope = relS sc' sc := (kb s H D cl fp).sc
      rw [e1]
      unfold locB at hx
      split at hx
      · rename_i e2
        have e3 := lookup_relS_keep (sc := sc) (by decide) e2
        exact ⟨.inl e3, .inr e3⟩
      · rename_i e2
        have e3 := lookup_relS_keep (sc := sc) (by decide) e2
        refine ⟨.inr e3, .inl ?_⟩
        show (sc'.names.lookup x == some .cell) = true
        rw [e2]
        rfl
      · cases hx
    · exact tests_pts gd (kb s H D cl fp) (by simpa using q5) (of_decide_eq_true q6) q7
    · exact ge.v _ _ W0 elt' (kb s H D cl fp) takes0 q8
    · cases it' with
      | Set l k p => rw [chkIt_set] at q4; cases q4
      | _ => rfl
  · cases q
theorem Walks.walk {K : PySem.W.Frag} {l : List D} {Hs1 H1 : Hp} {Fh : Addr → Prop} {J : L2.It} (w : Walks K l Hs1 H1 Fh J) : L2.Walk J l.length (fun H => ∃ Hs2, Later Hs1 H1 Fh Hs2 H)
    (fun i H x H' => ∀ Hs2, Later Hs1 H1 Fh Hs2 H → ∃ Hs3 d, l[i]? = some d ∧ LayS Hs2 H Hs3 H' ∧ Lv K Hs3 H' d x []) :=
  ⟨fun i H hi ⟨Hs2, lt⟩ => w.go i Hs2 H hi lt, fun H ⟨Hs2, lt⟩ => w.stop Hs2 H lt, fun i H x H' hi _ y Hs2 lt => w.yld i Hs2 H x H' hi lt y⟩
theorem Sta.later {K : PySem.W.Frag} {Hs1 H1 Hs2 H2 : Hp} {g1 : Env} {σ : L2.St} {A1 : Nat → List Addr} {hs : List Nat} (s : Sta K Hs1 H1 g1 σ A1) (e : Same Hs1 Hs2) (sb : Sub Hs2 H2) (k : Same H1 H2) : Later Hs1 H1 (inHid A1 hs) Hs2 H2 := by
  refine ⟨e, sb, fun p ⟨j, _, hp⟩ => ?_⟩
  obtain ⟨o, ho, _⟩ := s.live hp
  rw [ho, k p o ho]
theorem Put.nil {A A' : Nat → List Addr} (h : Put A [] A') : ∀ i, A' i = A i ∨ A' i = [] := fun i => (h i).imp id fun e => List.eq_nil_iff_forall_not_mem.mpr fun p hp => absurd (e p hp) List.not_mem_nil
theorem lc_rd {K : PySem.W.Frag} {W : WX} {elt : E} {t : Tgt} {own : List Nat} {it : It} {cs : List E} {σ : L2.St} {H : Hp} {Q : VK} (tg : ∀ i ∈ tgtS t, i ∈ own) (h : rdV K XR C.cl W (.comp elt t own it cs) σ H Q) :
    tLc (rdI K XR C.cl W it) (gD K t) (rdTs (C := C) (XR := XR) K cs) (rdV K XR C.cl W0 elt) own σ H Q := by
  obtain ⟨Hs, g, A, st, p⟩ := h
  simp only [ev, EvG_bind] at p
  refine ⟨Hs, g, A, st, p.mono fun r _ p J H1 Hs1 A1 s1 x1 wk D hD => ?_⟩
  obtain ⟨l, g1, hd⟩ := r
  have p : EvG K XR W σ Hs H A (postV K σ Hs H A Q) (match compL t own (fun g => evT C.cl cs g) (fun g => ev C.cl elt false g) l (wipeS (wipeS g1 hd) own) with
    | .ok (xs, g2) => if fitsL l then .ok (.lst true xs, wipeS (backS g1 hd (wipeS g2 own)) own) else .bad
    | _ => .bad) := p
  cases ec : compL t own (fun g => evT C.cl cs g) (fun g => ev C.cl elt false g) l (wipeS (wipeS g1 hd) own) with
  | exc _ _ _ => rw [ec] at p; exact p.elim
  | bad => rw [ec] at p; exact p.elim
  | ok r =>
    obtain ⟨xs, gz⟩ := r
    rw [ec] at p
    have p : EvG K XR W σ Hs H A (postV K σ Hs H A Q) (if fitsL l = true then .ok (.lst true xs, wipeS (backS g1 hd (wipeS gz own)) own) else .bad) := p
    by_cases fl : fitsL l = true
    · rw [if_pos fl] at p
      have fl : l.length ≤ sizeLine := of_decide_eq_true fl
      have sw : Sta K Hs1 H1 (wipeS (wipeS g1 hd) own) (wipe σ own) (wipeA (wipeA A1 hd) own) := (s1.wipes hd rfl fun _ _ => rfl).wipes own (wipe_length σ own) fun _ hj => wipe_out hj
      refine lc_it wk.walk (fun i H2 => ∃ Hs2 gi A2 ys zs vs F, compL t own (fun g => evT C.cl cs g) (fun g => ev C.cl elt false g) (l.drop i) gi = .ok (zs, gz) ∧ xs = ys ++ zs ∧ ys.length ≤ i ∧
        Sta K Hs2 H2 gi (wipe σ own) A2 ∧ Xst Hs1 H1 (wipeA (wipeA A1 hd) own) Hs2 H2 A2 (D :: F) ∧ H2 D = some (.lst vs) ∧ LvL K Hs2 H2 ys vs F) ?_ ?_ ?_ ?_
      · obtain ⟨s2, x2⟩ := Xst.new1 (o := .lst []) sw Xst.refl hD (fun _ h => absurd h List.not_mem_nil)
        exact ⟨Hs1, _, _, [], xs, [], [], ec, rfl, Nat.le_refl _, s2, x2, upd_same, rfl, rfl⟩
      · rintro i H2 _ ⟨Hs2, gi, A2, ys, zs, vs, F, _, _, _, s2, x2, _, _⟩
        exact ⟨Hs2, s1.later x2.hs s2.sub x2.hp⟩
      · rintro i x Hc H' hi ⟨Hs2, gi, A2, ys, zs, vs, F, e1, e2, e3, s2, x2, hd2, lv⟩ y
        have hi : i < l.length := hi
        obtain ⟨Hs3, d, f1, f2, f3⟩ := y Hs2 (s1.later x2.hs s2.sub x2.hp)
        have ed : l.drop i = d :: l.drop (i + 1) := by
          rw [List.drop_eq_getElem_cons hi]
          rw [List.getElem?_eq_getElem hi] at f1
          cases f1
          rfl
        rw [ed] at e1
        unfold compL at e1
        cases ea : asg t d gi with
        | none => rw [ea] at e1; cases e1
        | some ga =>
          rw [ea] at e1
          have ne2 : ∀ q ∈ D :: F, Hc q ≠ none := fun q hq z => by
            rcases List.mem_cons.mp hq with w | w
            · rw [w, hd2] at z; cases z
            · exact lv.ne q w z
          obtain ⟨s3, x3⟩ := Xst.lay s2 x2 f2 ne2
          obtain ⟨sm1, sm2⟩ := f2.same s2.sub
          have lv3 := lv.mono sm1 sm2
          have hd3 : H' D = some (.lst vs) := sm2 D _ hd2
          have ne3 : ∀ q ∈ D :: F, H' q ≠ none := fun q hq z => by
            rcases List.mem_cons.mp hq with w | w
            · rw [w, hd3] at z; cases z
            · exact lv3.ne q w z
          refine ⟨Hs3, gi, A2, d, [], ga, s3, f3, Ext.nil, ea, fun σ2 A3 s4 pt kp => ⟨?_, ?_⟩⟩
          · refine wipe_ext (by rw [kp.1, wipe_length]) fun j hj => ?_
            rw [kp.2 j fun z => hj (tg j z), wipe_out hj]
          · have x4 := x3.less pt.nil
            have keep : ∀ j, j ∉ own → (wipe σ own)[j]? = σ2[j]? := fun j hj => (kp.2 j fun z => hj (tg j z)).symm
            refine ⟨Hs3, ga, A3, s4, ?_⟩
            have e1 : (match evT C.cl cs ga with
              | .ok (true, g2) => (match ev C.cl elt false g2 with
                | .ok (x, g3) => (match compL t own (fun g => evT C.cl cs g) (fun g => ev C.cl elt false g) (l.drop (i + 1)) (wipeS g3 own) with
                  | .ok (xs, g4) => .ok (x :: xs, g4)
                  | _ => .bad)
                | _ => .bad)
              | .ok (false, g2) => compL t own (fun g => evT C.cl cs g) (fun g => ev C.cl elt false g) (l.drop (i + 1)) (wipeS g2 own)
              | _ => .bad) = (.ok (zs, gz) : Out (List Mp.D × Env)) := e1
            cases et : evT C.cl cs ga with
            | exc _ _ _ => rw [et] at e1; cases e1
            | bad => rw [et] at e1; cases e1
            | ok r =>
              obtain ⟨b, gb⟩ := r
              rw [et] at e1
              intro H'' Hs'' A'' s5 x5
              have x45 := x4.seq x5 ne3
              rw [List.append_nil] at x45
              have lv5 := lv3.mono x5.hs x5.hp
              have hd5 : H'' D = some (.lst vs) := x5.hp D _ hd3
              cases b with
              | false =>
                rw [if_neg Bool.false_ne_true]
                have e1 : compL t own (fun g => evT C.cl cs g) (fun g => ev C.cl elt false g) (l.drop (i + 1)) (wipeS gb own) = .ok (zs, gz) := e1
                exact ⟨Hs'', _, _, ys, zs, vs, F, e1, e2, Nat.le_succ_of_le e3, s5.wipes own (by rw [kp.1]) keep, x45.less wipeA_less, hd5, lv5⟩
              | true =>
                rw [if_pos rfl]
                have e1 : (match ev C.cl elt false gb with
                  | .ok (x, g3) => (match compL t own (fun g => evT C.cl cs g) (fun g => ev C.cl elt false g) (l.drop (i + 1)) (wipeS g3 own) with
                    | .ok (xs, g4) => .ok (x :: xs, g4)
                    | _ => .bad)
                  | _ => .bad) = (.ok (zs, gz) : Out (List Mp.D × Env)) := e1
                refine ⟨Hs'', gb, A'', s5, ?_⟩
                cases ee : ev C.cl elt false gb with
                | exc _ _ _ => rw [ee] at e1; cases e1
                | bad => rw [ee] at e1; cases e1
                | ok r =>
                  obtain ⟨z, g3⟩ := r
                  rw [ee] at e1
                  have e1 : (match compL t own (fun g => evT C.cl cs g) (fun g => ev C.cl elt false g) (l.drop (i + 1)) (wipeS g3 own) with
                    | .ok (xs, g4) => .ok (z :: xs, g4)
                    | _ => .bad) = (.ok (zs, gz) : Out (List Mp.D × Env)) := e1
                  cases er : compL t own (fun g => evT C.cl cs g) (fun g => ev C.cl elt false g) (l.drop (i + 1)) (wipeS g3 own) with
                  | exc _ _ _ => rw [er] at e1; cases e1
                  | bad => rw [er] at e1; cases e1
                  | ok r =>
                    obtain ⟨zs', gz'⟩ := r
                    rw [er] at e1
                    cases e1
                    intro v H6 Hs6 A6 F6 s6 x6 l6
                    have ne5 : ∀ q ∈ D :: F, H'' q ≠ none := fun q hq z => by
                      rcases List.mem_cons.mp hq with w | w
                      · rw [w, hd5] at z; cases z
                      · exact lv5.ne q w z
                    have x56 := x45.seq x6 ne5
                    have hd6 : H6 D = some (.lst vs) := x6.hp D _ hd5
                    have lv6 := lv5.mono x6.hs x6.hp
                    have le6 : vs.length = ys.length := lv.length
                    have djD : ∀ i, D ∉ A6 i := fun i => x56.dj D List.mem_cons_self i
                    have ofD : Hs6 D = none := x56.off D List.mem_cons_self
                    have ndD := x56.nd
                    have ndD2 := List.nodup_cons.mp (show (D :: (F ++ F6)).Nodup from ndD)
                    have x7 : Xst Hs1 H1 (wipeA (wipeA A1 hd) own) Hs6 (upd H6 D (.lst (vs ++ [v]))) A6 (D :: (F ++ F6)) := Xst.upd x56 hD
                    have s7 : Sta K Hs6 (upd H6 D (.lst (vs ++ [v]))) g3 σ2 A6 := s6.upd djD ofD
                    refine ⟨vs, hd6, by omega, Hs6, _, _, ys ++ [z], zs', vs ++ [v], F ++ F6, er, by rw [e2]; simp, by rw [List.length_append]; show ys.length + 1 ≤ i + 1; omega, s7.wipes own (by rw [kp.1]) keep, x7.less wipeA_less, upd_same, ?_⟩
                    have off1 : ∀ q ∈ F ++ F6, upd H6 D (.lst (vs ++ [v])) q = H6 q := fun q hq => upd_ne fun w => ndD2.1 (by rw [← w]; exact hq)
                    refine LvL.append (lv6.at' (Same.refl _) fun q hq => off1 q (List.mem_append_left _ hq)) ?_
                    exact ⟨v, [], F6, [], rfl, by rw [List.append_nil], l6.at' (Same.refl _) (fun q hq => off1 q (List.mem_append_right _ hq)), rfl, rfl⟩
      · rintro H2 ⟨Hs2, gi, A2, ys, zs, vs, F, e1, e2, e3, s2, x2, hd2, lv⟩
        rw [List.drop_length] at e1
        cases e1
        have y := x2.more.less (A2 := wipeA A2 own) wipeA_less
        have s2' : Sta K Hs2 H2 (wipeS gz own) σ (wipeA A2 own) := s2.wipes own (wipe_length σ own).symm fun j hj => (wipe_out hj).symm
        have s3 := s1.backs s2' y.stp rfl fun _ _ => rfl
        have x3 := Xst.backs x1 s1 y
        have s4 := s3.wipes own rfl fun _ _ => rfl
        have x4 := x3.less (A2 := wipeA (backA A1 hd (wipeA A2 own)) own) wipeA_less
        rw [List.append_nil] at e2
        subst e2
        exact p _ H2 Hs2 _ (D :: F) s4 x4 ⟨D, vs, F, rfl, hd2, Nat.le_trans e3 fl, rfl, lv⟩
    · rw [if_neg fl] at p
      exact p.elim
theorem own_map {N : List Str} {own : List Nat} : (own.map fun i => (N.getD i (Str.ofString ""), i)).map (·.2) = own := by
  rw [List.map_map]
  exact List.map_id' own
theorem good_comp (elt : E) (t : Tgt) (own : List Nat) (it : It) (cs : List E) (ge : Good C XR elt) (gi : GoodIt C XR it) (gd : ∀ c ∈ cs, Good C XR c) : Good C XR (.comp elt t own it cs) := by
  refine Good.of (fun _ => rfl) (fun sc e q => by
    have q : (match exComp e with
      | some (elt', t', it', ifs, sc') => blkC C.N sc sc' (own.map fun i => (C.N.getD i (Str.ofString ""), i)) && (tgtB C sc' t t' && (tgOk it t' && (chkIt C it sc it' && (!ifs.any isIf && (decide (ifs.length ≤ 1) && ((tgtS t).all (fun i => own.contains i) && (chkEs C cs (relS sc' sc) ifs && chkE C elt (relS sc' sc) elt')))))))
      | _ => false) = true := q
    split at q
    · rename_i ee
      obtain ⟨pos, rfl⟩ := ex_comp ee
      rfl
    · cases q) fun sc X W e k tk q => ?_
  obtain ⟨elt', t', it', ifs, sc', pos, rfl, co⟩ := comp_ok ge gi gd k tk q
  refine (pe_lc k.calm k.ndX co.pi co.ok co.pg co.pt co.pe co.fs).imp fun σ H Q h => ?_
  rw [own_map]
  exact lc_rd co.tg h
end

/-! ### all terms -/
section
variable {C : Ctx} {XR : XRel}
mutual
theorem good : ∀ c : E, Good C XR c ∧ Look C XR c
  | .lit d => ⟨good_lit d, look_none rfl (good_lit d)⟩
  | .glb d => ⟨good_glb d, look_none rfl (good_glb d)⟩
  | .var i => ⟨good_var i, look_var i⟩
  | .mv i => ⟨good_mv i, look_none rfl (good_mv i)⟩
  | .op o es => have h := good_op o es (goods es); ⟨h, look_none rfl h⟩
  | .notE a => have h := good_not a (good a).1; ⟨h, look_none rfl h⟩
  | .andE es => have h := good_and es (goods es); ⟨h, look_none rfl h⟩
  | .orE es => have h := good_or es (goods es); ⟨h, look_none rfl h⟩
  | .ite c a b => have h := good_ite c a b (good c).1 (good a).1 (good b).1; ⟨h, look_none rfl h⟩
  | .chain o o' a b c => have h := good_chain o o' a b c (good a).1 (good b).1 (good c).1; ⟨h, look_none rfl h⟩
  | .idx p i => ⟨good_idx p i (good p).2 (good i).1, look_idx p i (good p).2 (good i).1⟩
  | .tup es => have h := good_tup es (goods es); ⟨h, look_none rfl h⟩
  | .lst es => have h := good_lst es (goods es); ⟨h, look_none rfl h⟩
  | .cat a b => have h := good_cat a b (good a).2 (good b).2; ⟨h, look_none rfl h⟩
  | .slHi p h => have h := good_slHi p h (good p).1 (good h).1; ⟨h, look_none rfl h⟩
  | .slLo p l => have h := good_slLo p l (good p).1 (good l).1; ⟨h, look_none rfl h⟩
  | .slc p l h => have h := good_slc p l h (good p).1 (good l).1 (good h).1; ⟨h, look_none rfl h⟩
  | .call f es => have h := good_call f es (goods es); ⟨h, look_none rfl h⟩
  | .callP f es => have h := good_callP f es (goods es); ⟨h, look_none rfl h⟩
  | .comp elt t own it cs => have h := good_comp elt t own it cs (good elt).1 (goodIt it) (goods cs); ⟨h, look_none rfl h⟩
  | .met o a b => have h := good_met o a b (good a).1 (good b).1; ⟨h, look_none rfl h⟩
  | .splitE a b => have h := good_split a b (good a).1 (good b).1; ⟨h, look_none rfl h⟩
  | .seqOf k a => have h := good_seqOf k a (good a).2; ⟨h, look_none rfl h⟩
theorem goods : ∀ (es : List E), ∀ c ∈ es, Good C XR c
  | [], c, h => absurd h List.not_mem_nil
  | e :: es, c, h => by
    rcases List.mem_cons.mp h with z | z
    · rw [z]; exact (good e).1
    · exact goods es c z
theorem goodIt : ∀ it : It, GoodIt C XR it
  | .of e => it_of e (good e).2
  | .rng1 a => it_rng1 a (good a).1
  | .rng2 a b => it_rng2 a b (good a).1 (good b).1
  | .rng3 a b c => it_rng3 a b c (good a).1 (good b).1 (good c).1
  | .enum e => it_enum e (good e).2
  | .zip a b => it_zip a b (good a).1 (good b).1
  | .rev e => it_rev e (good e).2
end
end
end Mp
end
section
/-! Mp st: statements. -/
namespace Mp
open PySem PySem.Spec PyProof.Rows L2

/-! ### which text a statement stands for -/
def swapB (sc : Scope) (ts vs : List Expr) : Bool := match ts, vs with
  | [.Name x px, .Name y py], [_, _] => decide (sc.names.lookup x = some .local) && (decide (sc.names.lookup y = some .local) && (decide (py.line = px.line) && (!(x == y) && (!(vs.all (foldedForSure 8)) && !(vs.all (constantsAlone 8))))))
  | _, _ => false
/-- no swapped stores -/
def calmB (e : Expr) : Bool := match e with
  | .Tuple vs _ _ => vs.all (foldedForSure 8)
  | _ => true
mutual
def chkS (C : Ctx) : S → Scope → Stmt → Bool
  | .set i e, sc, st => (match st with
    | .Assign [.Name x _] e' _ => decide (C.N[i]? = some x) && (locB sc x && chkE C e sc e')
    | _ => false)
  | .unp t e, sc, st => (match st with
    | .Assign [.Tuple es k p] e' _ => tgtB C sc t (.Tuple es k p) && (calmB e' && chkE C e sc e')
    | _ => false)
  | .par i j a b, sc, st => (match st with
    | .Assign [.Tuple [.Name x px, .Name y py] _ _] (.Tuple [a', b'] _ _) _ => decide (C.N[i]? = some x) && (decide (C.N[j]? = some y) && (!(i == j) && (swapB sc [.Name x px, .Name y py] [a', b'] && (chkE C a sc a' && chkE C b sc b'))))
    | _ => false)
  | .app i e, sc, st => (match st with
    | .Expr (.Call (.Attribute (.Name x _) m ap) [e'] [] cp) _ => decide (m = Str.ofString "append") && (decide (C.N[i]? = some x) && (visB sc x && ((ap.endLine == cp.line) && chkE C e sc e')))
    | _ => false)
  | .ite c a b, sc, st => (match st with
    | .If c' a' b' _ => !isIf c' && (chkE C c sc c' && (chkSs C a sc a' && chkSs C b sc b'))
    | _ => false)
  | .whl c b, sc, st => (match st with
    | .While c' b' [] _ => !isIf c' && (chkE C c sc c' && chkSs C b sc b')
    | _ => false)
  | .for_ t it b, sc, st => (match st with
    | .For t' it' b' [] _ => tgtB C sc t t' && (tgOk it t' && (chkIt C it sc it' && chkSs C b sc b'))
    | _ => false)
  | .ret e, sc, st => (match st with
    | .Return (some e') _ => chkE C e sc e'
    | _ => false)
  | .retN, _, st => (match st with
    | .Return none _ => true
    | _ => false)
  | .brk, _, st => (match st with
    | .Break _ => true
    | _ => false)
  | .cont, _, st => (match st with
    | .Continue _ => true
    | _ => false)
  | .pass, _, st => (match st with
    | .Pass _ => true
    | _ => false)
  | .nev, _, _ => true
  | .raiseC k, sc, st => (match st with
    | .Raise (some (.Call (.Name x _) [.Constant (.str _) _ _] [] _)) none _ => decide (x = exNm k) && (glB sc x && C.tb.mks.contains k)
    | _ => false)
  | .tryK i j all yes b, sc, st => (match st with
    | .Try body [.ExceptHandler (some (.Name x _)) (some n) [.Assign [.Name m _] (.Name n' _) _] _] [] [] _ =>
      decide (C.N[i]? = some n) && (decide (C.N[j]? = some m) && (decide (n' = n) && (!(i == j) && (decide (sc.names.lookup n = some .local) && (visB sc n && (locB sc m && (glB sc x && (decide (all = C.tb.exs) && (decide ((C.tb.xt.lookup x).map (·.2) = some yes) && chkSs C b sc body)))))))))
    | _ => false)
def chkSs (C : Ctx) : List S → Scope → List Stmt → Bool
  | [], _, [] => true
  | s :: r, sc, st :: l => chkS C s sc st && chkSs C r sc l
  | _, _, _ => false
end

/-! ### what a statement asks -/
section
variable (K : PySem.W.Frag) (XR : XRel) (W : WX)
def postN (L : List Nat) (σ0 : L2.St) (Hs0 H0 : Hp) (A0 : Nat → List Addr) (g : Env) (Q : L2.St → Hp → Prop) : Prop :=
  ∀ σ H Hs A, Sta K Hs H g σ A → Stp Hs0 H0 A0 Hs H A → Kept L σ0 σ → Q σ H
def postS (L : List Nat) (σ0 : L2.St) (Hs0 H0 : Hp) (A0 : Nat → List Addr) (D : Ends) : SOut → Prop
  | .next g => postN K L σ0 Hs0 H0 A0 g D.nx
  | .brk g => postN K L σ0 Hs0 H0 A0 g D.bk
  | .cont g => postN K L σ0 Hs0 H0 A0 g D.ct
  | .ret d g => ∀ v σ H Hs A F, Sta K Hs H g σ A → Stp Hs0 H0 A0 Hs H A → Lv K Hs H d v F → Ext A Hs F → (∀ p ∈ F, (∃ i, p ∈ A0 i) ∨ H0 p = none) → D.rt v H
  | .exc k l g => ∀ c dd σ H Hs A, Sta K Hs H g σ A → Stp Hs0 H0 A0 Hs H A → Kept L σ0 σ → XR k l c dd Hs → W c dd σ H
  | .bad => False
end
section
variable (K : PySem.W.Frag) (XR : XRel) (cl : Nat → List D → ROut) (w : Nat) (W : WX)
def rdSs (b : List S) : TS := fun D σ H => ∃ Hs g A, Sta K Hs H g σ A ∧ postS K XR W (asgSs b) σ Hs H A D (evSs cl w b g)
def rdS (s : S) : TS := fun D σ H => ∃ Hs g A, Sta K Hs H g σ A ∧ postS K XR W (asgS s) σ Hs H A D (evS cl w s g)
end
section
variable {K : PySem.W.Frag} {XR : XRel} {W : WX} {L M : List Nat} {σ σ1 : L2.St} {Hs H Hs1 H1 Hs2 H2 : Hp} {A A1 A2 : Nat → List Addr} {D D' : Ends} {F : List Addr} {g : Env} {own : List Nat}
theorem postS_ofE {α : Type} {o : Out α} {f : α → SOut} (h : postS K XR W L σ Hs H A D (SOut.ofE o f)) : EvG K XR W σ Hs H A (fun r => postS K XR W L σ Hs H A D (f r)) o := by
  cases o with
  | ok a => exact h
  | exc k l g => exact fun c dd H' Hs' A' st x r => h c dd σ H' Hs' A' st x.stp Kept.refl r
  | bad => exact h
theorem postN.mono {Q Q' : L2.St → Hp → Prop} (h : postN K L σ Hs H A g Q) (s : Stp Hs H A Hs1 H1 A1) (k : Kept M σ σ1) (m : ∀ i ∈ M, i ∈ L) {L' : List Nat} (m' : ∀ i ∈ L', i ∈ L) (q : ∀ σ H, Q σ H → Q' σ H) : postN K L' σ1 Hs1 H1 A1 g Q' :=
  fun σ2 H2 Hs2 A2 st x kk => q _ _ (h σ2 H2 Hs2 A2 st (s.trans x) ((k.trans kk).sub fun i hi => (List.mem_append.mp hi).elim (m i) (m' i)))
theorem postS.mono {o : SOut} (h : postS K XR W L σ Hs H A D o) (s : Stp Hs H A Hs1 H1 A1) (k : Kept M σ σ1) (m : ∀ i ∈ M, i ∈ L) {L' : List Nat} (m' : ∀ i ∈ L', i ∈ L)
    (nx : ∀ σ H, D.nx σ H → D'.nx σ H) (bk : ∀ σ H, D.bk σ H → D'.bk σ H) (ct : ∀ σ H, D.ct σ H → D'.ct σ H) (rt : ∀ v H, D.rt v H → D'.rt v H) : postS K XR W L' σ1 Hs1 H1 A1 D' o := by
  cases o with
  | next g => exact postN.mono h s k m m' nx
  | brk g => exact postN.mono h s k m m' bk
  | cont g => exact postN.mono h s k m m' ct
  | ret d g => exact fun v σ2 H2 Hs2 A2 F st x l e f => rt _ _ (h v σ2 H2 Hs2 A2 F st (s.trans x) l e fun p hp => s.back (f p hp))
  | exc kk l g => exact fun c dd σ2 H2 Hs2 A2 st x k2 r => h c dd σ2 H2 Hs2 A2 st (s.trans x) ((k.trans k2).sub fun i hi => (List.mem_append.mp hi).elim (m i) (m' i)) r
  | bad => exact h
theorem postS.go {o : SOut} (h : postS K XR W L σ Hs H A D o) (s : Stp Hs H A Hs1 H1 A1) (k : Kept M σ σ1) (m : ∀ i ∈ M, i ∈ L) {L' : List Nat} (m' : ∀ i ∈ L', i ∈ L) : postS K XR W L' σ1 Hs1 H1 A1 D o :=
  h.mono s k m m' (fun _ _ h => h) (fun _ _ h => h) (fun _ _ h => h) fun _ _ h => h
theorem Xst.put (x : Xst Hs H A Hs1 H1 A1 F) (p : Put A1 F A2) : Stp Hs H A Hs1 H1 A2 := by
  refine ⟨x.hs, fun q o e _ => x.hp q o e, fun i q h => ?_, x.new⟩
  rcases p i with e | e
  · rw [e] at h; exact .inl ⟨i, x.inA i q h⟩
  · exact x.inF q (e q h)
theorem Stp.more (x : Stp Hs H (wipeA A own) Hs1 H1 A1) : Stp Hs H A Hs1 H1 A1 := by
  have up : ∀ {p : Addr}, (∃ i, p ∈ wipeA A own i) → ∃ i, p ∈ A i := fun ⟨i, z⟩ => by
    unfold wipeA at z
    by_cases hi : i ∈ own
    · rw [if_pos hi] at z; cases z
    · rw [if_neg hi] at z; exact ⟨i, z⟩
  exact ⟨x.hs, fun p o e n => x.fr p o e fun i z => (up ⟨i, z⟩).elim n, fun i p h => (x.inA i p h).imp up id, fun p o e => (x.new p o e).imp id (Or.imp up id)⟩
theorem Stp.lay (sb : Sub Hs H) (l : LayS Hs H Hs1 H1) : Stp Hs H A Hs1 H1 A := by
  rcases l with ⟨e1, e2⟩ | ⟨T, o, h, e1, e2⟩
  · subst e1 e2; exact Stp.refl
  · subst e1 e2
    refine ⟨same_upd (sub_free sb h), fun p u e _ => same_upd h p u e, fun i p hp => .inl ⟨i, hp⟩, fun p u e => ?_⟩
    by_cases q : p = T
    · subst q; exact .inr (.inr h)
    · rw [upd_ne q] at e; exact .inl e
theorem Stp.putNil (p : Put A [] A1) : Stp Hs H A Hs H A1 := by
  refine ⟨Same.refl _, fun q o e _ => e, fun i q h => ?_, fun q o e => .inl e⟩
  rcases p.nil i with e | e
  · rw [e] at h; exact .inl ⟨i, h⟩
  · rw [e] at h; cases h
theorem Stp.backs {hs : List Nat} (x : Xst Hs H A Hs1 H1 A1 []) (y : Stp Hs1 H1 (wipeA A1 hs) Hs2 H2 A2) : Stp Hs H A Hs2 H2 (backA A1 hs A2) := by
  have z := x.stp.trans y.more
  refine ⟨z.hs, z.fr, fun i p h => ?_, z.new⟩
  unfold backA at h
  by_cases hi : i ∈ hs
  · rw [if_pos hi] at h; exact .inl ⟨i, x.inA i p h⟩
  · rw [if_neg hi] at h; exact z.inA i p h
end

/-! ### soundness -/
structure Sxt (C : Ctx) (XR : XRel) (sc : Scope) (X : Cx) : Prop where
  c : Cxt C XR sc X
  kind : sc.kind = .function
  fn : ∀ x, X.fn x = true
  own : PassesOwn (model X.prog X.w) X.A X.env X.xe
  ex : X.ex = []
  stk : X.stack = X.env :: X.outer
  frm : X.env.frame = some X.env.locals
section
variable {C : Ctx} {XR : XRel}
theorem ps_imp {X : Cx} {s : Stmt} {t t' : TS} (h : PS X s t) (k : ∀ D σ H, t' D σ H → t D σ H) : PS X s t' := ⟨fun pins s σ H D I q => h.run pins s σ H D I (k D σ H q)⟩
theorem pss_imp {X : Cx} {s : List Stmt} {t t' : TS} (h : PSs X s t) (k : ∀ D σ H, t' D σ H → t D σ H) : PSs X s t' := ⟨fun pins s σ H D I q => h.run pins s σ H D I (k D σ H q)⟩
def GoodS (C : Ctx) (XR : XRel) (w : Nat) (s : S) : Prop := ∀ (sc : Scope) (X : Cx) (W : WX) (st : Stmt), Sxt C XR sc X → Takes X W → chkS C s sc st = true → PS X st (rdS X.K XR C.cl w W s)
def GoodSs (C : Ctx) (XR : XRel) (w : Nat) (b : List S) : Prop := ∀ (sc : Scope) (X : Cx) (W : WX) (st : List Stmt), Sxt C XR sc X → Takes X W → chkSs C b sc st = true → PSs X st (rdSs X.K XR C.cl w W b)
theorem put_ok {K : PySem.W.Frag} {Hs H Hs1 H1 : Hp} {A A1 : Nat → List Addr} {F : List Addr} {g1 : Env} {σ : L2.St} {d : Mp.D} {v : V} {i : Nat} (s : Sta K Hs1 H1 g1 σ A1) (x : Xst Hs H A Hs1 H1 A1 F) (l : Lv K Hs1 H1 d v F) :
    ∃ A', Sta K Hs1 H1 (g1.set i (some d)) (σ.set i (some v)) A' ∧ Put A1 F A' := by
  refine ⟨_, s.put i l x.dj x.nd x.off, fun j => ?_⟩
  by_cases hj : j = i
  · refine .inr fun p hp => ?_
    have hp : p ∈ (if j = i then (if i < g1.length then F else []) else A1 j) := hp
    rw [if_pos hj] at hp
    by_cases lt : i < g1.length
    · rw [if_pos lt] at hp; exact hp
    · rw [if_neg lt] at hp; cases hp
  · exact .inl (if_neg hj)
theorem kept_set {σ : L2.St} {i : Nat} {v : V} : Kept [i] σ (σ.set i (some v)) := ⟨List.length_set .., fun j hj => List.getElem?_set_ne fun e => hj (by rw [e]; exact List.mem_cons_self)⟩
theorem swaps_ok {X : Cx} {e : Expr} {x : Str} {p : Pos} {l : Nat} (k : X.env.scope.kind = .function) : swapsWith e (some (.Name x p)) l X.env = pure false ∨ (∃ elt gs scope pos, e = .ListComp elt gs scope pos ∧ X.env.scope.names.lookup x = some .local ∧ swapsWith e (some (.Name x p)) l X.env = pure true) ∨ (∃ a b c d, e = .SetComp a b c d) ∨ (∃ a b c d f, e = .DictComp a b c d f) := by
  cases e with
  | ListComp elt gs scope pos =>
    have hb : (X.env.blockKind == .function) = true := by unfold Env.blockKind; rw [k]; rfl
    by_cases c : (X.env.kindOf x == some .local && p.line == pos.line && !(scope.names.any fun (n, k) => n == x && (k == .local || k == .cell))) = true
    · refine .inr (.inl ⟨elt, gs, scope, pos, rfl, ?_, ?_⟩)
      · simp only [Bool.and_eq_true, beq_iff_eq] at c
        exact c.1.1
      · unfold swapsWith
        simp only [hb, Expr.pos, Bool.true_and, c]
    · refine .inl ?_
      have c : (X.env.kindOf x == some .local && p.line == pos.line && !(scope.names.any fun (n, k) => n == x && (k == .local || k == .cell))) = false := Bool.eq_false_iff.mpr c
      unfold swapsWith
      simp only [hb, Expr.pos, Bool.true_and, c]
  | SetComp a b c d => exact .inr (.inr (.inl ⟨a, b, c, d, rfl⟩))
  | DictComp a b c d f => exact .inr (.inr (.inr ⟨a, b, c, d, f, rfl⟩))
  | _ => exact .inl rfl
theorem chk_setc {sc : Scope} {a : Expr} {b : List Comprehension} {d : Scope} {p : Pos} (c : E) : chkE C c sc (.SetComp a b d p) = false := by
  cases c with
  | lit d => cases d <;> rfl
  | _ => rfl
theorem chk_dictc {sc : Scope} {a b : Expr} {l : List Comprehension} {d : Scope} {p : Pos} (c : E) : chkE C c sc (.DictComp a b l d p) = false := by
  cases c with
  | lit d => cases d <;> rfl
  | _ => rfl
theorem chk_lc {sc : Scope} {elt : Expr} {gs : List Comprehension} {scope : Scope} {p : Pos} {c : E} (h : chkE C c sc (.ListComp elt gs scope p) = true) : ∃ elt t own it cs, c = .comp elt t own it cs := by
  cases c with
  | lit d => cases d <;> cases h
  | comp elt t own it cs => exact ⟨elt, t, own, it, cs, rfl⟩
  | _ => cases h
theorem s_set {w : Nat} (i : Nat) (e : E) : GoodS C XR w (.set i e) := fun sc X W st sx tk q => by
  have inv : ∃ x p e' pos, st = .Assign [.Name x p] e' pos ∧ C.N[i]? = some x ∧ locB sc x = true ∧ chkE C e sc e' = true := by
    have q : (match (generalizing := false) st with
      | .Assign [.Name x _] e' _ => decide (C.N[i]? = some x) && (locB sc x && chkE C e sc e')
      | _ => false) = true := q
    split at q
    · obtain ⟨q1, q2⟩ := Bool.and_eq_true_iff.mp q
      obtain ⟨q2, q3⟩ := Bool.and_eq_true_iff.mp q2
      exact ⟨_, _, _, _, rfl, of_decide_eq_true q1, q2, q3⟩
    · cases q
  obtain ⟨x, p, e', pos, rfl, h1, h2, h3⟩ := inv
  have k := sx.c
  have hl := loc_of h2 k.sc
  have ek : X.env.scope.kind = .function := by rw [k.sc]; exact sx.kind
  have rd : ∀ {D : Ends} {σ : L2.St} {H : Hp}, rdS X.K XR C.cl w W (.set i e) D σ H → rdV X.K XR C.cl W e σ H fun y H1 => D.nx (σ.set i (some y)) H1 := fun {D σ H} ⟨Hs, g, A, st, p⟩ => by
    have p : postS X.K XR W [i] σ Hs H A D (SOut.ofE (ev C.cl e false g) fun (d, g1) => .next (g1.set i (some d))) := by
      unfold evS at p
      exact p
    refine rdV_go st (postS_ofE p) fun d g1 v H1 Hs1 A1 F p1 s1 x1 l1 => ?_
    obtain ⟨A', s2, pt⟩ := put_ok (i := i) s1 x1 l1
    exact p1 _ H1 Hs1 A' s2 (x1.put pt) kept_set
  rcases swaps_ok (e := e') (x := x) (p := p) (l := pos.line) ek with hs | ⟨elt, gs, scope, ps, rfl, hloc, hs⟩ | ⟨a, b, c, d, rfl⟩ | ⟨a, b, c, d, f, rfl⟩
  · exact ps_imp (ps_set k.ndX (k.slot h1) hl ((good e).1.v sc X W e' k tk h3) hs (.inl (sx.fn x))) fun D σ H h => rd h
  · obtain ⟨elt2, t, own, it, cs, rfl⟩ := chk_lc h3
    obtain ⟨elt', t', it', ifs, sc', pos2, ee, co⟩ := comp_ok (good elt2).1 (goodIt it) (goods cs) k tk h3
    cases ee
    refine ps_imp (ps_setLc k.calm k.ndX (k.slot h1) hloc hs co.pi co.ok co.pg co.pt co.pe co.fs) fun D σ H h => ?_
    rw [own_map]
    exact lc_rd co.tg (rd h)
  · rw [chk_setc] at h3; cases h3
  · rw [chk_dictc] at h3; cases h3
theorem tgt_loc {sc : Scope} {X : Cx} (sx : Sxt C XR sc X) : ∀ x, locB sc x = true → Loc X.env.scope x ∧ (X.fn x = true ∨ X.env.scope.names.lookup x = some .local) := fun x h => ⟨loc_of h sx.c.sc, .inl (sx.fn x)⟩
theorem calm_ok {env : PySem.Env} {es : List Expr} {n : Nat} {p : Pos} {e : Expr} (h : calmB e = true) : swappedStores [.Tuple es n p] e env = pure none := by
  cases e with
  | Tuple vs m q =>
    have h : vs.all (foldedForSure 8) = true := h
    unfold swappedStores
    simp only []
    split
    · rfl
    · split
      · rfl
      · split
        · rfl
        · first
            | rfl
            | (rw [if_pos h]; rfl)
  | _ => rfl
theorem sole_tup {env : PySem.Env} {es : List Expr} {n l : Nat} {p : Pos} {e : Expr} : swapsWithSole [.Tuple es n p] e l env = pure false := by
  unfold swapsWithSole swapsWith
  cases e <;> rfl
theorem s_unp {w : Nat} (t : Tgt) (e : E) : GoodS C XR w (.unp t e) := fun sc X W st sx tk q => by
  have inv : ∃ es n p e' pos, st = .Assign [.Tuple es n p] e' pos ∧ tgtB C sc t (.Tuple es n p) = true ∧ calmB e' = true ∧ chkE C e sc e' = true := by
    have q : (match (generalizing := false) st with
      | .Assign [.Tuple es k p] e' _ => tgtB C sc t (.Tuple es k p) && (calmB e' && chkE C e sc e')
      | _ => false) = true := q
    split at q
    · obtain ⟨q1, q2⟩ := Bool.and_eq_true_iff.mp q
      obtain ⟨q2, q3⟩ := Bool.and_eq_true_iff.mp q2
      exact ⟨_, _, _, _, _, rfl, q1, q2, q3⟩
    · cases q
  obtain ⟨es, n, p, e', pos, rfl, h1, h2, h3⟩ := inv
  have k := sx.c
  refine ps_imp (ps_asg ((good e).1.v sc X W e' k tk h3) (tgt_pg k.calm k.ndX k.N (tgt_loc sx) h1) sole_tup (calm_ok h2)) fun D σ H ⟨Hs, g, A, st, p⟩ => ?_
  unfold evS at p
  refine rdV_go st (postS_ofE p) fun d g1 v H1 Hs1 A1 F p1 s1 x1 l1 => ?_
  have p1 : postS X.K XR W (asgS (.unp t e)) σ Hs H A D (match asg t d g1 with
    | some g2 => .next g2
    | none => .bad) := p1
  cases ea : asg t d g1 with
  | none => rw [ea] at p1; exact p1.elim
  | some g2 =>
    rw [ea] at p1
    exact ⟨Hs1, g1, A1, d, F, g2, s1, l1, x1.ext, ea, fun σ2 A2 s2 pt kp => p1 σ2 H1 Hs1 A2 s2 (x1.put pt) kp⟩
theorem swap_ok {env : PySem.Env} {sc : Scope} {x y : Str} {px py : Pos} {a b : Expr} {kt k2 : Nat} {pt pt2 : Pos} (es : env.scope = sc) (ek : sc.kind = .function) (na : ∀ z p, a ≠ .Starred z p) (nb : ∀ z p, b ≠ .Starred z p)
    (h : swapB sc [.Name x px, .Name y py] [a, b] = true) : swappedStores [.Tuple [.Name x px, .Name y py] kt pt] (.Tuple [a, b] k2 pt2) env = pure (some [x, y]) ∧ sc.names.lookup x = some .local ∧ sc.names.lookup y = some .local := by
  obtain ⟨h1, h⟩ := Bool.and_eq_true_iff.mp (show (decide (sc.names.lookup x = some .local) && (decide (sc.names.lookup y = some .local) && (decide (py.line = px.line) && (!(x == y) && (!([a, b].all (foldedForSure 8)) && !([a, b].all (constantsAlone 8))))))) = true from h)
  obtain ⟨h2, h⟩ := Bool.and_eq_true_iff.mp h
  obtain ⟨h3, h⟩ := Bool.and_eq_true_iff.mp h
  obtain ⟨h4, h⟩ := Bool.and_eq_true_iff.mp h
  obtain ⟨h5, h6⟩ := Bool.and_eq_true_iff.mp h
  have h1 : sc.names.lookup x = some .local := of_decide_eq_true h1
  have h2 : sc.names.lookup y = some .local := of_decide_eq_true h2
  have h3 : py.line = px.line := of_decide_eq_true h3
  have h4 : (x == y) = false := by simpa using h4
  have h4' : (y == x) = false := by
    rw [beq_eq_false_iff_ne] at h4 ⊢
    exact Ne.symm h4
  have h5 : [a, b].all (foldedForSure 8) = false := (Bool.not_eq_true' _).mp h5
  have h6 : [a, b].all (constantsAlone 8) = false := (Bool.not_eq_true' _).mp h6
  have bk : env.blockKind = .function := by unfold Env.blockKind; rw [es, ek]; rfl
  have kx : env.kindOf x = some .local := by unfold Env.kindOf; rw [es]; exact h1
  have ky : env.kindOf y = some .local := by unfold Env.kindOf; rw [es]; exact h2
  have sa : (match a with | .Starred .. => true | _ => false) = false := by
    cases a with
    | Starred z p => exact absurd rfl (na z p)
    | _ => rfl
  have sb : (match b with | .Starred .. => true | _ => false) = false := by
    cases b with
    | Starred z p => exact absurd rfl (nb z p)
    | _ => rfl
  refine ⟨?_, h1, h2⟩
  unfold swappedStores
  simp only [bk, List.any_cons, List.any_nil, sa, sb, Bool.or_false, kx, ky, h3, Expr.pos, List.filterMap_cons, List.filterMap_nil, List.head?_cons, Option.map_some, Option.getD_some, h5, h6, beq_self_eq_true, Bool.and_self, if_true, if_false, Bool.false_eq_true, List.length_cons, List.length_nil]
  simp [List.eraseDups_cons, h4, h4']
theorem s_par {w : Nat} (i j : Nat) (a b : E) : GoodS C XR w (.par i j a b) := fun sc X W st sx tk q => by
  have inv : ∃ x px y py n p a' b' m p' pos, st = .Assign [.Tuple [.Name x px, .Name y py] n p] (.Tuple [a', b'] m p') pos ∧ C.N[i]? = some x ∧ C.N[j]? = some y ∧ i ≠ j ∧ swapB sc [.Name x px, .Name y py] [a', b'] = true ∧ chkE C a sc a' = true ∧ chkE C b sc b' = true := by
    have q : (match (generalizing := false) st with
      | .Assign [.Tuple [.Name x px, .Name y py] _ _] (.Tuple [a', b'] _ _) _ => decide (C.N[i]? = some x) && (decide (C.N[j]? = some y) && (!(i == j) && (swapB sc [.Name x px, .Name y py] [a', b'] && (chkE C a sc a' && chkE C b sc b'))))
      | _ => false) = true := q
    split at q
    · obtain ⟨q1, q⟩ := Bool.and_eq_true_iff.mp q
      obtain ⟨q2, q⟩ := Bool.and_eq_true_iff.mp q
      obtain ⟨q3, q⟩ := Bool.and_eq_true_iff.mp q
      obtain ⟨q4, q⟩ := Bool.and_eq_true_iff.mp q
      obtain ⟨q5, q6⟩ := Bool.and_eq_true_iff.mp q
      exact ⟨_, _, _, _, _, _, _, _, _, _, _, rfl, of_decide_eq_true q1, of_decide_eq_true q2, by simpa using q3, q4, q5, q6⟩
    · cases q
  obtain ⟨x, px, y, py, n, p, a', b', m, p', pos, rfl, h1, h2, h3, h4, h5, h6⟩ := inv
  have k := sx.c
  obtain ⟨z1, z2, z3⟩ := swap_ok (env := X.env) (kt := n) (k2 := m) (pt := p) (pt2 := p') k.sc sx.kind (chk_noStar h5) (chk_noStar h6) h4
  refine ps_imp (ps_par k.calm k.ndX (k.slot h1) (k.slot h2) h3 (by rw [k.sc]; exact z2) (by rw [k.sc]; exact z3) (pa_cons ((good a).1.v sc X W a' k tk h5) (pa_cons ((good b).1.v sc X W b' k tk h6) pa_nil (star_of (chk_noStar h6))) (star_of (chk_noStar h5))) z1 sole_tup) fun D σ H ⟨Hs, g, A, st, p⟩ => ?_
  unfold evS at p
  show rdV X.K XR C.cl W a σ H _
  refine rdV_go st (postS_ofE p) fun d1 g1 v1 H1 Hs1 A1 F1 p1 s1 x1 l1 => ?_
  have p1 := postS_ofE p1
  show rdV X.K XR C.cl W b σ H1 _
  refine rdV_on s1 x1.drop p1 fun d2 g2 v2 H2 Hs2 A2 F2 p2 s2 x2 l2 => ?_
  refine ⟨v1, v2, rfl, ?_⟩
  have x12 := x1.seq x2 l1.ne
  have nd := List.nodup_append.mp x12.nd
  have l1' := l1.keep x2
  have s3 := s2.put i l1' (fun p hp j => x12.dj p (List.mem_append_left _ hp) j) nd.1 (fun p hp => x12.off p (List.mem_append_left _ hp))
  have dj2 : ∀ q ∈ F2, ∀ jj, q ∉ (fun j => if j = i then (if i < g2.length then F1 else []) else A2 j) jj := fun q hq jj z => by
    have z : q ∈ (if jj = i then (if i < g2.length then F1 else []) else A2 jj) := z
    by_cases hj : jj = i
    · rw [if_pos hj] at z
      by_cases lt : i < g2.length
      · rw [if_pos lt] at z; exact nd.2.2 q z q hq rfl
      · rw [if_neg lt] at z; cases z
    · rw [if_neg hj] at z
      exact x12.dj q (List.mem_append_right _ hq) jj z
  have s4 := s3.put j l2 dj2 nd.2.1 (fun p hp => x12.off p (List.mem_append_right _ hp))
  refine p2 _ H2 Hs2 _ s4 (x12.put fun jj => ?_) ⟨by rw [List.length_set, List.length_set], fun jj hj => ?_⟩
  · show (if jj = j then (if j < (g2.set i (some d1)).length then F2 else []) else if jj = i then (if i < g2.length then F1 else []) else A2 jj) = A2 jj ∨ _
    by_cases hj : jj = j
    · refine .inr fun q hq => ?_
      have hq : q ∈ (if jj = j then (if j < (g2.set i (some d1)).length then F2 else []) else if jj = i then (if i < g2.length then F1 else []) else A2 jj) := hq
      rw [if_pos hj] at hq
      by_cases lt : j < (g2.set i (some d1)).length
      · rw [if_pos lt] at hq; exact List.mem_append_right _ hq
      · rw [if_neg lt] at hq; cases hq
    · by_cases hi : jj = i
      · refine .inr fun q hq => ?_
        have hq : q ∈ (if jj = j then (if j < (g2.set i (some d1)).length then F2 else []) else if jj = i then (if i < g2.length then F1 else []) else A2 jj) := hq
        rw [if_neg hj, if_pos hi] at hq
        by_cases lt : i < g2.length
        · rw [if_pos lt] at hq; exact List.mem_append_left _ hq
        · rw [if_neg lt] at hq; cases hq
      · exact .inl (by rw [if_neg hj, if_neg hi])
  · have n1 : jj ≠ i := fun e => hj (by rw [e]; exact List.mem_cons_self)
    have n2 : jj ≠ j := fun e => hj (by rw [e]; exact List.mem_cons_of_mem _ List.mem_cons_self)
    rw [List.getElem?_set_ne (Ne.symm n2), List.getElem?_set_ne (Ne.symm n1)]
end
end Mp
end
section
/-! Mp st2: loops, branches, all statements; a def. -/
namespace Mp
open PySem PySem.Spec PyProof.Rows L2
section
variable {C : Ctx} {XR : XRel}
theorem pe_app {X : Cx} {o e : Expr} {to : TE} {t : TA} {apos cpos : Pos} (ho : PE X o to) (ha : PA X [e] t) (hb : attributeBase o (Str.ofString "append") X.env (eval o X.env) = eval o X.env) (hl : (apos.endLine == cpos.line) = true) (hs : ∀ env, starEach [e] env = (false, eval e env) :: starEach [] env) :
    PE X (.Call (.Attribute o (Str.ofString "append") apos) [e] [] cpos) (tBM X.K "list" rAppend to t) :=
  pe_bm PySem.F.plainAttrs_list PySem.F.slot_list_append PySem.F.type_list_append mt_append ho ha hb (by rw [hs]; rfl) hl (hs _) rfl
theorem base_name {x attr : Str} {p : Pos} {env : PySem.Env} : attributeBase (.Name x p) attr env (eval (.Name x p) env) = eval (.Name x p) env := rfl
/-- the list at a slot grows -/
theorem grow {K : PySem.W.Frag} {Hs H Hs1 H1 : Hp} {A A1 : Nat → List Addr} {F : List Addr} {g1 : Env} {σ : L2.St} {d : Mp.D} {v : V} {i : Nat} {l : List Mp.D} {vs : List V} {a : Addr} (s : Sta K Hs1 H1 g1 σ A1) (x : Xst Hs H A Hs1 H1 A1 F) (lv : Lv K Hs1 H1 d v F)
    (eg : g1[i]? = some (some (.lst true l))) (es : σ[i]? = some (some (.ref a))) (eh : H1 a = some (.lst vs)) (fl : (l ++ [d]).length ≤ sizeLine) :
    ∃ A', Sta K Hs1 (upd H1 a (.lst (vs ++ [v]))) (g1.set i (some (.lst true (l ++ [d])))) σ A' ∧ Stp Hs H A Hs1 (upd H1 a (.lst (vs ++ [v]))) A' := by
  obtain ⟨v', e1, q⟩ := s.sl i _ eg
  rw [es] at e1
  cases e1
  obtain ⟨a', vs', G, e2, e3, z, e4, lvs⟩ := q
  cases e2
  rw [eh] at e3
  cases e3
  have aA : a ∈ A1 i := by rw [e4]; exact List.mem_cons_self
  have lt : i < g1.length := (List.getElem?_eq_some_iff.mp eg).1
  have nd := s.nd i
  rw [e4] at nd
  have aG : a ∉ G := (List.nodup_cons.mp nd).1
  have aF : a ∉ F := fun h => x.dj a h i aA
  have offA : ∀ {j q}, j ≠ i → q ∈ A1 j → q ≠ a := fun hj hq e => hj (s.dj _ _ a (by rw [← e]; exact hq) aA)
  refine ⟨fun j => if j = i then a :: (G ++ F) else A1 j, ⟨fun q o e => ?_, by rw [List.length_set]; exact s.len, fun j d' q => ?_, fun j q => ?_, fun j k p h1 h2 => ?_, fun j => ?_, fun j p h => ?_⟩, ?_⟩
  · have hq : q ≠ a := fun z => by rw [z, s.off i a aA] at e; cases e
    rcases s.sub q o e with z | ⟨z, ob, y⟩
    · exact .inl (by rw [upd_ne hq]; exact z)
    · exact .inr ⟨z, ob, by rw [upd_ne hq]; exact y⟩
  · by_cases hj : j = i
    · subst hj
      rw [List.getElem?_set_self lt] at q
      cases q
      refine ⟨.ref a, es, ?_⟩
      rw [if_pos rfl]
      refine ⟨a, vs ++ [v], G ++ F, rfl, upd_same, fl, rfl, ?_⟩
      refine LvL.append (lvs.at' (Same.refl _) fun q hq => upd_ne fun z => aG (by rw [← z]; exact hq)) ?_
      exact ⟨v, [], F, [], rfl, by rw [List.append_nil], lv.at' (Same.refl _) (fun q hq => upd_ne fun z => aF (by rw [← z]; exact hq)), rfl, rfl⟩
    · rw [List.getElem?_set_ne (Ne.symm hj)] at q
      obtain ⟨w, h1, h2⟩ := s.sl j d' q
      refine ⟨w, h1, ?_⟩
      rw [if_neg hj]
      exact h2.at' (Same.refl _) fun q hq => upd_ne (offA hj hq)
  · by_cases hj : j = i
    · subst hj
      exact absurd (List.getElem?_set_self lt) (q _)
    · rw [if_neg hj]
      rw [List.getElem?_set_ne (Ne.symm hj)] at q
      exact s.emp j q
  · have cs : ∀ {j : Nat}, p ∈ (if j = i then a :: (G ++ F) else A1 j) → (j = i ∧ (p ∈ A1 i ∨ p ∈ F)) ∨ (j ≠ i ∧ p ∈ A1 j) := fun {j} h => by
      by_cases hj : j = i
      · rw [if_pos hj] at h
        refine .inl ⟨hj, ?_⟩
        rw [e4]
        rcases List.mem_cons.mp h with z | z
        · exact .inl (by rw [z]; exact List.mem_cons_self)
        · rcases List.mem_append.mp z with z | z
          · exact .inl (List.mem_cons_of_mem _ z)
          · exact .inr z
      · rw [if_neg hj] at h; exact .inr ⟨hj, h⟩
    rcases cs h1 with ⟨a1, b1⟩ | ⟨a1, b1⟩ <;> rcases cs h2 with ⟨a2, b2⟩ | ⟨a2, b2⟩
    · rw [a1, a2]
    · rcases b1 with b1 | b1
      · exact absurd (s.dj _ _ p b2 b1) a2
      · exact (x.dj p b1 k b2).elim
    · rcases b2 with b2 | b2
      · exact absurd (s.dj _ _ p b1 b2) a1
      · exact (x.dj p b2 j b1).elim
    · exact s.dj j k p b1 b2
  · by_cases hj : j = i
    · rw [if_pos hj]
      refine List.nodup_cons.mpr ⟨fun h => (List.mem_append.mp h).elim aG aF, List.nodup_append.mpr ⟨(List.nodup_cons.mp nd).2, x.nd, fun p h1 q h2 e => ?_⟩⟩
      subst e
      exact x.dj p h2 i (by rw [e4]; exact List.mem_cons_of_mem _ h1)
    · rw [if_neg hj]; exact s.nd j
  · by_cases hj : j = i
    · rw [if_pos hj] at h
      rcases List.mem_cons.mp h with z | z
      · rw [z]; exact s.off i a aA
      · rcases List.mem_append.mp z with z | z
        · exact s.off i p (by rw [e4]; exact List.mem_cons_of_mem _ z)
        · exact x.off p z
    · rw [if_neg hj] at h; exact s.off j p h
  · refine ⟨x.hs, fun q o e n => ?_, fun j q h => ?_, x.new⟩
    · have hq : q ≠ a := fun z => n i (x.inA i q (by rw [z]; exact aA))
      rw [upd_ne hq]
      exact x.hp q o e
    · by_cases hj : j = i
      · have h : q ∈ (if j = i then a :: (G ++ F) else A1 j) := h
        rw [if_pos hj] at h
        rcases List.mem_cons.mp h with z | z
        · exact .inl ⟨i, x.inA i q (by rw [z]; exact aA)⟩
        · rcases List.mem_append.mp z with z | z
          · exact .inl ⟨i, x.inA i q (by rw [e4]; exact List.mem_cons_of_mem _ z)⟩
          · exact x.inF q z
      · have h : q ∈ (if j = i then a :: (G ++ F) else A1 j) := h
        rw [if_neg hj] at h
        exact .inl ⟨j, x.inA j q h⟩
theorem s_app {w : Nat} (i : Nat) (e : E) : GoodS C XR w (.app i e) := fun sc X W st sx tk q => by
  have inv : ∃ x p ap e' cp pos, st = .Expr (.Call (.Attribute (.Name x p) (Str.ofString "append") ap) [e'] [] cp) pos ∧ C.N[i]? = some x ∧ visB sc x = true ∧ (ap.endLine == cp.line) = true ∧ chkE C e sc e' = true := by
    have q : (match (generalizing := false) st with
      | .Expr (.Call (.Attribute (.Name x _) m ap) [e'] [] cp) _ => decide (m = Str.ofString "append") && (decide (C.N[i]? = some x) && (visB sc x && ((ap.endLine == cp.line) && chkE C e sc e')))
      | _ => false) = true := q
    split at q
    · obtain ⟨q1, q⟩ := Bool.and_eq_true_iff.mp q
      obtain ⟨q2, q⟩ := Bool.and_eq_true_iff.mp q
      obtain ⟨q3, q⟩ := Bool.and_eq_true_iff.mp q
      obtain ⟨q4, q5⟩ := Bool.and_eq_true_iff.mp q
      have q1 := of_decide_eq_true q1
      subst q1
      exact ⟨_, _, _, _, _, _, rfl, of_decide_eq_true q2, q3, q4, q5⟩
    · cases q
  obtain ⟨x, p, ap, e', cp, pos, rfl, h1, h2, h3, h4⟩ := inv
  have k := sx.c
  obtain ⟨a1, a2, a3⟩ := vis_of h2 k.sc
  refine ps_imp (ps_expr (pe_app (pe_var (k.slot h1) a1 a2 a3) (pa_cons ((good e).1.v sc X W e' k tk h4) pa_nil (star_of (chk_noStar h4))) base_name h3 (fun env => star_of (chk_noStar h4))) rfl) fun D σ H ⟨Hs, g, A, st, p⟩ => ?_
  unfold evS at p
  split at p
  · rename_i l0 eg0
    obtain ⟨v0, e0, q0⟩ := st.sl i _ eg0
    obtain ⟨a, vs, G0, e1, e2, _, _, _⟩ := q0
    subst e1
    have p := postS_ofE p
    refine ⟨.ref a, e0, .inl ⟨rfl, vs, .inl (.inl e2)⟩, ?_⟩
    show rdV X.K XR C.cl W e σ H _
    refine rdV_go st p fun d g1 v H1 Hs1 A1 F p1 s1 x1 l1 => ?_
    have p1 : postS X.K XR W (asgS (.app i e)) σ Hs H A D (match g1[i]? with
      | some (some (.lst true l)) => if fitsL (l ++ [d]) then .next (g1.set i (some (.lst true (l ++ [d])))) else .bad
      | _ => .bad) := p1
    split at p1
    · rename_i l eg
      by_cases fl : fitsL (l ++ [d]) = true
      · rw [if_pos fl] at p1
        have fl : (l ++ [d]).length ≤ sizeLine := of_decide_eq_true fl
        have eh1 : H1 a = some (.lst vs) := x1.hp a _ e2
        have len : vs.length = l.length := by
          obtain ⟨v', e1, q⟩ := s1.sl i _ eg
          rw [e0] at e1
          cases e1
          obtain ⟨a', vs', G, e2, e3, z, e4, lvs⟩ := q
          cases e2
          rw [eh1] at e3
          cases e3
          exact lvs.length
        obtain ⟨A', s2, y⟩ := grow s1 x1 l1 eg e0 eh1 fl
        refine ⟨a, vs, v, rfl, rfl, eh1, ?_, p1 σ _ Hs1 A' s2 y Kept.refl⟩
        rw [List.length_append] at fl
        have : ([d] : List Mp.D).length = 1 := rfl
        omega
      · rw [if_neg fl] at p1; exact p1.elim
    · exact p1.elim
  · exact p.elim

/-! ### branches, loops -/
theorem s_ite {w : Nat} (c : E) (a b : List S) (ga : GoodSs C XR w a) (gb : GoodSs C XR w b) : GoodS C XR w (.ite c a b) := fun sc X W st sx tk q => by
  have inv : ∃ c' a' b' pos, st = .If c' a' b' pos ∧ isIf c' = false ∧ chkE C c sc c' = true ∧ chkSs C a sc a' = true ∧ chkSs C b sc b' = true := by
    have q : (match (generalizing := false) st with
      | .If c' a' b' _ => !isIf c' && (chkE C c sc c' && (chkSs C a sc a' && chkSs C b sc b'))
      | _ => false) = true := q
    split at q
    · obtain ⟨q1, q⟩ := Bool.and_eq_true_iff.mp q
      obtain ⟨q2, q⟩ := Bool.and_eq_true_iff.mp q
      obtain ⟨q3, q4⟩ := Bool.and_eq_true_iff.mp q
      exact ⟨_, _, _, _, rfl, (Bool.not_eq_true' _).mp q1, q2, q3, q4⟩
    · cases q
  obtain ⟨c', a', b', pos, rfl, h1, h2, h3, h4⟩ := inv
  refine ps_imp (ps_if ((good c).1.t sc X W c' sx.c tk h2 h1) (ga sc X W a' sx tk h3) (gb sc X W b' sx tk h4)) fun D σ H ⟨Hs, g, A, st, p⟩ => ?_
  unfold evS at p
  show rdV X.K XR C.cl W c σ H _
  refine rdV_go st (postS_ofE p) fun d g1 v H1 Hs1 A1 F p1 s1 x1 l1 => ?_
  cases d <;> first | exact p1.elim | skip
  rename_i y
  refine ⟨y, l1.1, ?_⟩
  cases y with
  | true =>
    rw [if_pos rfl]
    have p1 : postS X.K XR W (asgSs a ++ asgSs b) σ Hs H A D (evSs C.cl w a g1) := p1
    exact ⟨Hs1, g1, A1, s1, p1.go x1.drop.stp (Kept.refl (L := [])) (fun _ h => absurd h List.not_mem_nil) fun i hi => List.mem_append_left _ hi⟩
  | false =>
    rw [if_neg Bool.false_ne_true]
    have p1 : postS X.K XR W (asgSs a ++ asgSs b) σ Hs H A D (evSs C.cl w b g1) := p1
    exact ⟨Hs1, g1, A1, s1, p1.go x1.drop.stp (Kept.refl (L := [])) (fun _ h => absurd h List.not_mem_nil) fun i hi => List.mem_append_right _ hi⟩
theorem s_whl {w : Nat} (c : E) (b : List S) (gb : GoodSs C XR w b) : GoodS C XR w (.whl c b) := fun sc X W st sx tk q => by
  have inv : ∃ c' b' pos, st = .While c' b' [] pos ∧ isIf c' = false ∧ chkE C c sc c' = true ∧ chkSs C b sc b' = true := by
    have q : (match (generalizing := false) st with
      | .While c' b' [] _ => !isIf c' && (chkE C c sc c' && chkSs C b sc b')
      | _ => false) = true := q
    split at q
    · obtain ⟨q1, q⟩ := Bool.and_eq_true_iff.mp q
      obtain ⟨q2, q3⟩ := Bool.and_eq_true_iff.mp q
      exact ⟨_, _, _, rfl, (Bool.not_eq_true' _).mp q1, q2, q3⟩
    · cases q
  obtain ⟨c', b', pos, rfl, h1, h2, h3⟩ := inv
  refine ps_imp (ps_while sx.own ((good c).1.t sc X W c' sx.c tk h2 h1) (gb sc X W b' sx tk h3)) fun D σ H ⟨Hs, g, A, st, p⟩ => ?_
  unfold evS at p
  have p : postS X.K XR W (asgSs b) σ Hs H A D (whlL (fun g => ev C.cl c false g) (fun g => evSs C.cl w b g) w g) := p
  refine ⟨fun m σ1 H1 => ∃ Hs1 g1 A1, Sta X.K Hs1 H1 g1 σ1 A1 ∧ Stp Hs H A Hs1 H1 A1 ∧ Kept (asgSs b) σ σ1 ∧ postS X.K XR W (asgSs b) σ Hs H A D (whlL (fun g => ev C.cl c false g) (fun g => evSs C.cl w b g) m g1), ⟨w, Hs, g, A, st, Stp.refl, Kept.refl, p⟩, ?_⟩
  rintro m σ1 H1 ⟨Hs1, g1, A1, s1, y1, k1, p1⟩
  cases m with
  | zero => exact p1.elim
  | succ m =>
    have p1 : postS X.K XR W (asgSs b) σ Hs H A D (match ev C.cl c false g1 with
      | .ok (.bl true, g1) => (match evSs C.cl w b g1 with
        | .next g2 => whlL (fun g => ev C.cl c false g) (fun g => evSs C.cl w b g) m g2
        | .cont g2 => whlL (fun g => ev C.cl c false g) (fun g => evSs C.cl w b g) m g2
        | .brk g2 => .next g2
        | o => o)
      | .ok (.bl false, g1) => .next g1
      | .exc k l g1 => .exc k l g1
      | _ => .bad) := p1
    show rdV X.K XR C.cl W c σ1 H1 _
    refine ⟨Hs1, g1, A1, s1, ?_⟩
    cases ec : ev C.cl c false g1 with
    | bad => rw [ec] at p1; exact p1.elim
    | exc kk l g2 =>
      rw [ec] at p1
      exact fun cc dd H' Hs' A' st' x r => p1 cc dd σ1 H' Hs' A' st' (y1.trans x.stp) k1 r
    | ok r =>
      obtain ⟨d, g2⟩ := r
      rw [ec] at p1
      intro v H2 Hs2 A2 F s2 x2 l2
      cases d <;> first | exact p1.elim | skip
      rename_i y
      refine ⟨y, l2.1, ?_⟩
      have y2 := y1.trans x2.drop.stp
      cases y with
      | false =>
        refine L2.iteF ?_
        exact p1 σ1 H2 Hs2 A2 s2 y2 k1
      | true =>
        refine L2.iteT ?_
        refine ⟨fun σ' H' => ∃ Hs1 g1 A1, Sta X.K Hs1 H' g1 σ' A1 ∧ Stp Hs H A Hs1 H' A1 ∧ Kept (asgSs b) σ σ' ∧ postS X.K XR W (asgSs b) σ Hs H A D (whlL (fun g => ev C.cl c false g) (fun g => evSs C.cl w b g) m g1), fun σ' H' h => ⟨m, Nat.lt_succ_self _, h⟩, ?_⟩
        refine ⟨Hs2, g2, A2, s2, ?_⟩
        have p1 : postS X.K XR W (asgSs b) σ Hs H A D (match evSs C.cl w b g2 with
          | .next g2 => whlL (fun g => ev C.cl c false g) (fun g => evSs C.cl w b g) m g2
          | .cont g2 => whlL (fun g => ev C.cl c false g) (fun g => evSs C.cl w b g) m g2
          | .brk g2 => .next g2
          | o => o) := p1
        have kk : ∀ {σ3}, Kept (asgSs b) σ1 σ3 → Kept (asgSs b) σ σ3 := fun h => (k1.trans h).sub fun i hi => (List.mem_append.mp hi).elim id id
        cases eb : evSs C.cl w b g2 with
        | next g3 => rw [eb] at p1; exact fun σ3 H3 Hs3 A3 s3 z k3 => ⟨Hs3, g3, A3, s3, y2.trans z, kk k3, p1⟩
        | cont g3 => rw [eb] at p1; exact fun σ3 H3 Hs3 A3 s3 z k3 => ⟨Hs3, g3, A3, s3, y2.trans z, kk k3, p1⟩
        | brk g3 => rw [eb] at p1; exact fun σ3 H3 Hs3 A3 s3 z k3 => p1 σ3 H3 Hs3 A3 s3 (y2.trans z) (kk k3)
        | ret d g3 => rw [eb] at p1; exact fun v3 σ3 H3 Hs3 A3 F3 s3 z l3 e3 f3 => p1 v3 σ3 H3 Hs3 A3 F3 s3 (y2.trans z) l3 e3 fun q hq => y2.back (f3 q hq)
        | exc k3 l3 g3 => rw [eb] at p1; exact fun cc dd σ3 H3 Hs3 A3 s3 z k4 r => p1 cc dd σ3 H3 Hs3 A3 s3 (y2.trans z) (kk k4) r
        | bad => rw [eb] at p1; exact p1.elim
theorem Stp.later {K : PySem.W.Frag} {Hs1 H1 Hs2 H2 : Hp} {g1 g2 : Env} {σ σ2 : L2.St} {A1 A2 : Nat → List Addr} {hs : List Nat} (s1 : Sta K Hs1 H1 g1 σ A1) (s2 : Sta K Hs2 H2 g2 σ2 A2) (y : Stp Hs1 H1 (wipeA A1 hs) Hs2 H2 A2) : Later Hs1 H1 (inHid A1 hs) Hs2 H2 :=
  ⟨y.hs, s2.sub, fun _ ⟨_, hj, hp⟩ => (y.hid s1 hj hp).1⟩
theorem s_for {w : Nat} (t : Tgt) (it : It) (b : List S) (gb : GoodSs C XR w b) : GoodS C XR w (.for_ t it b) := fun sc X W st sx tk q => by
  have inv : ∃ t' it' b' pos, st = .For t' it' b' [] pos ∧ tgtB C sc t t' = true ∧ tgOk it t' = true ∧ chkIt C it sc it' = true ∧ chkSs C b sc b' = true := by
    have q : (match (generalizing := false) st with
      | .For t' it' b' [] _ => tgtB C sc t t' && (tgOk it t' && (chkIt C it sc it' && chkSs C b sc b'))
      | _ => false) = true := q
    split at q
    · obtain ⟨q1, q⟩ := Bool.and_eq_true_iff.mp q
      obtain ⟨q2, q⟩ := Bool.and_eq_true_iff.mp q
      obtain ⟨q3, q4⟩ := Bool.and_eq_true_iff.mp q
      exact ⟨_, _, _, _, rfl, q1, q2, q3, q4⟩
    · cases q
  obtain ⟨t', it', b', pos, rfl, h1, h2, h3, h4⟩ := inv
  have k := sx.c
  have fs : ∀ x, foldedSetIterable it' X.env x = pure x := fun x => by
    cases it' with
    | Set l k p => rw [chkIt_set] at h3; cases h3
    | _ => rfl
  refine ps_imp (ps_for sx.own k.calm (goodIt it sc X W t' it' k tk h3 h2) (tgt_pg k.calm k.ndX k.N (tgt_loc sx) h1) (gb sc X W b' sx tk h4) fs) fun D σ H ⟨Hs, g, A, st, p⟩ => ?_
  unfold evS at p
  have p := postS_ofE p
  refine ⟨Hs, g, A, st, p.mono fun r _ p J H1 Hs1 A1 s1 x1 wk => ?_⟩
  obtain ⟨l, g1, hd⟩ := r
  have p : postS X.K XR W (tgtS t ++ asgSs b) σ Hs H A D (if (hd.all fun r => !(tgtS t ++ asgSs b).contains r) = true then (forL t (fun g => evSs C.cl w b g) l (wipeS g1 hd)).unh g1 hd else .bad) := p
  by_cases ch : (hd.all fun r => !(tgtS t ++ asgSs b).contains r) = true
  · rw [if_pos ch] at p
    have keepH : ∀ {σ'}, Kept (tgtS t ++ asgSs b) σ σ' → ∀ j ∈ hd, σ'[j]? = σ[j]? := fun k j hj => k.2 j (by
      have := List.all_eq_true.mp ch j hj
      simpa using this)
    have sw : Sta X.K Hs1 H1 (wipeS g1 hd) σ (wipeA A1 hd) := s1.wipes hd rfl fun _ _ => rfl
    refine for_it wk.walk (fun i σ' H' => ∃ Hs' g' A', Sta X.K Hs' H' g' σ' A' ∧ Stp Hs1 H1 (wipeA A1 hd) Hs' H' A' ∧ Kept (tgtS t ++ asgSs b) σ σ' ∧ forL t (fun g => evSs C.cl w b g) l (wipeS g1 hd) = forL t (fun g => evSs C.cl w b g) (l.drop i) g') ?_ ?_ ?_ ?_
    · exact ⟨Hs1, _, _, sw, Stp.refl, Kept.refl, rfl⟩
    · rintro i σ' H' _ ⟨Hs', g', A', s', y', _, _⟩
      exact ⟨Hs', y'.later s1 s'⟩
    · rintro i x σ' H' H2 hi ⟨Hs', g', A', s', y', k', e'⟩ y
      have hi : i < l.length := hi
      obtain ⟨Hs3, d, f1, f2, f3⟩ := y Hs' (y'.later s1 s')
      have ed : l.drop i = d :: l.drop (i + 1) := by
        rw [List.drop_eq_getElem_cons hi]
        rw [List.getElem?_eq_getElem hi] at f1
        cases f1
        rfl
      rw [ed] at e'
      have e' : forL t (fun g => evSs C.cl w b g) l (wipeS g1 hd) = (match asg t d g' with
        | none => .bad
        | some g1 => match evSs C.cl w b g1 with
          | .next g2 => forL t (fun g => evSs C.cl w b g) (l.drop (i + 1)) g2
          | .cont g2 => forL t (fun g => evSs C.cl w b g) (l.drop (i + 1)) g2
          | .brk g2 => .next g2
          | o => o) := e'
      obtain ⟨s3, x3⟩ := Xst.lay s' (Xst.refl (A := A')) f2 (fun _ h => absurd h List.not_mem_nil)
      cases ea : asg t d g' with
      | none =>
        rw [ea] at e'
        rw [e'] at p
        exact p.elim
      | some ga =>
        rw [ea] at e'
        refine ⟨Hs3, g', A', d, [], ga, s3, f3, Ext.nil, ea, fun σ2 A3 s4 pt kp => ?_⟩
        have y3 : Stp Hs1 H1 (wipeA A1 hd) Hs3 H2 A3 := (y'.trans (Stp.lay s'.sub f2)).trans (Stp.putNil pt)
        have k3 : Kept (tgtS t ++ asgSs b) σ σ2 := (k'.trans kp).sub fun i hi => (List.mem_append.mp hi).elim id fun h => List.mem_append_left _ h
        have kk : ∀ {σ4}, Kept (asgSs b) σ2 σ4 → Kept (tgtS t ++ asgSs b) σ σ4 := fun h => (k3.trans h).sub fun i hi => (List.mem_append.mp hi).elim id fun h => List.mem_append_right _ h
        refine ⟨Hs3, ga, A3, s4, ?_⟩
        have e' : forL t (fun g => evSs C.cl w b g) l (wipeS g1 hd) = (match evSs C.cl w b ga with
          | .next g2 => forL t (fun g => evSs C.cl w b g) (l.drop (i + 1)) g2
          | .cont g2 => forL t (fun g => evSs C.cl w b g) (l.drop (i + 1)) g2
          | .brk g2 => .next g2
          | o => o) := e'
        cases eb : evSs C.cl w b ga with
        | next g3 => rw [eb] at e'; exact fun σ4 H4 Hs4 A4 s5 z k4 => ⟨Hs4, g3, A4, s5, y3.trans z, kk k4, e'⟩
        | cont g3 => rw [eb] at e'; exact fun σ4 H4 Hs4 A4 s5 z k4 => ⟨Hs4, g3, A4, s5, y3.trans z, kk k4, e'⟩
        | brk g3 =>
          rw [eb] at e'
          rw [e'] at p
          have p : postN X.K (tgtS t ++ asgSs b) σ Hs H A (backS g1 hd g3) D.nx := p
          exact fun σ4 H4 Hs4 A4 s5 z k4 => p σ4 H4 Hs4 _ (s1.backs s5 (y3.trans z) (kk k4).1 (keepH (kk k4))) (Stp.backs x1 (y3.trans z)) (kk k4)
        | ret d g3 =>
          rw [eb] at e'
          rw [e'] at p
          have y4 := x1.stp.trans y3.more
          exact fun v4 σ4 H4 Hs4 A4 F4 s5 z l4 e4 f4 => p v4 σ4 H4 Hs4 A4 F4 s5 (y4.trans z) l4 e4 fun q hq => y4.back (f4 q hq)
        | exc kx lx g3 =>
          rw [eb] at e'
          rw [e'] at p
          have y4 := x1.stp.trans y3.more
          exact fun cc dd σ4 H4 Hs4 A4 s5 z k4 r => p cc dd σ4 H4 Hs4 A4 s5 (y4.trans z) (kk k4) r
        | bad =>
          rw [eb] at e'
          rw [e'] at p
          exact p.elim
    · rintro σ' H' ⟨Hs', g', A', s', y', k', e'⟩
      rw [List.drop_length] at e'
      have e' : forL t (fun g => evSs C.cl w b g) l (wipeS g1 hd) = .next g' := e'
      rw [e'] at p
      have p : postN X.K (tgtS t ++ asgSs b) σ Hs H A (backS g1 hd g') D.nx := p
      exact p σ' H' Hs' _ (s1.backs s' y' k'.1 (keepH k')) (Stp.backs x1 y') k'
  · rw [if_neg ch] at p
    exact p.elim
theorem s_ret {w : Nat} (e : E) : GoodS C XR w (.ret e) := fun sc X W st sx tk q => by
  have inv : ∃ e' pos, st = .Return (some e') pos ∧ chkE C e sc e' = true := by
    have q : (match (generalizing := false) st with
      | .Return (some e') _ => chkE C e sc e'
      | _ => false) = true := q
    split at q
    · exact ⟨_, _, rfl, q⟩
    · cases q
  obtain ⟨e', pos, rfl, h1⟩ := inv
  refine ps_imp (ps_ret ((good e).1.v sc X W e' sx.c tk h1)) fun D σ H ⟨Hs, g, A, st, p⟩ => ?_
  unfold evS at p
  exact ⟨Hs, g, A, st, (postS_ofE p).mono fun r _ p v H1 Hs1 A1 F s1 x1 l1 => p v σ H1 Hs1 A1 F s1 x1.drop.stp l1 x1.ext x1.inF⟩
theorem nil_frz {K : PySem.W.Frag} {Hs H : Hp} : Lv K Hs H .non .non [] := ⟨rfl, rfl⟩
/-! ### exceptions -/
theorem s_raise {w : Nat} (n : Nat) : GoodS C XR w (.raiseC n) := fun sc X W st sx tk q => by
  have inv : ∃ x p m j p2 p3 pos, st = .Raise (some (.Call (.Name x p) [.Constant (.str m) j p2] [] p3)) none pos ∧ x = exNm n ∧ glB sc x = true ∧ n ∈ C.tb.mks := by
    have q : (match (generalizing := false) st with
      | .Raise (some (.Call (.Name x _) [.Constant (.str _) _ _] [] _)) none _ => decide (x = exNm n) && (glB sc x && C.tb.mks.contains n)
      | _ => false) = true := q
    split at q
    · obtain ⟨q1, q2⟩ := Bool.and_eq_true_iff.mp q
      obtain ⟨q2, q3⟩ := Bool.and_eq_true_iff.mp q2
      exact ⟨_, _, _, _, _, _, _, rfl, of_decide_eq_true q1, q2, by simpa using q3⟩
    · cases q
  obtain ⟨x, p, m, j, p2, p3, pos, rfl, e1, e2, e3⟩ := inv
  have k := sx.c
  subst e1
  obtain ⟨gx, nd⟩ := gl_of e2 k.sc
  obtain ⟨f1, f2, f3, f4, f5, f6⟩ := k.xf.mkx n e3
  refine ps_imp (ps_raise k.calm tk (pmk_own PySem.F.excBase_ValueError f2 f1 f3 (raises_own f4 f5) gx nd)) fun D σ H ⟨Hs, g, A, st, pp⟩ => ?_
  unfold evS at pp
  refine pp _ none σ H Hs A st Stp.refl Kept.refl ?_
  rw [k.xr]
  exact ⟨rfl, rfl, [], ⟨rfl, rfl⟩, rfl⟩
theorem Sxt.tr {sc : Scope} {X : Cx} (sx : Sxt C XR sc X) (pn : List (Addr × Obj)) (xe : Value → Shared → Prop) (own : PassesOwn (model X.prog X.w) X.A X.env xe) : Sxt C XR sc (X.tr pn xe) := by
  have k := sx.c
  exact ⟨⟨k.N, k.nd, k.sc, k.calm, k.dig, k.xf, k.xr, k.room, k.free, k.glb, k.fn⟩, sx.kind, sx.fn, own, sx.ex, sx.stk, sx.frm⟩
theorem s_try {w : Nat} (i j : Nat) (all yes : List Nat) (b : List S) (gb : GoodSs C XR w b) : GoodS C XR w (.tryK i j all yes b) := fun sc X W st sx tk q => by
  have inv : ∃ body x np n m mp qp l pos' pos, st = .Try body [.ExceptHandler (some (.Name x np)) (some n) [.Assign [.Name m mp] (.Name n qp) l] pos'] [] [] pos ∧ C.N[i]? = some n ∧ C.N[j]? = some m ∧ i ≠ j ∧ sc.names.lookup n = some .local ∧ visB sc n = true ∧ locB sc m = true ∧
      glB sc x = true ∧ all = C.tb.exs ∧ (∃ own, (x, own, yes) ∈ C.tb.xt) ∧ chkSs C b sc body = true := by
    have q : (match (generalizing := false) st with
      | .Try body [.ExceptHandler (some (.Name x _)) (some n) [.Assign [.Name m _] (.Name n' _) _] _] [] [] _ =>
        decide (C.N[i]? = some n) && (decide (C.N[j]? = some m) && (decide (n' = n) && (!(i == j) && (decide (sc.names.lookup n = some .local) && (visB sc n && (locB sc m && (glB sc x && (decide (all = C.tb.exs) && (decide ((C.tb.xt.lookup x).map (·.2) = some yes) && chkSs C b sc body)))))))))
      | _ => false) = true := q
    split at q
    · rename_i body x np n m mp n' qp l pos' pos _
      obtain ⟨q1, q⟩ := Bool.and_eq_true_iff.mp q
      obtain ⟨q2, q⟩ := Bool.and_eq_true_iff.mp q
      obtain ⟨q3, q⟩ := Bool.and_eq_true_iff.mp q
      obtain ⟨q4, q⟩ := Bool.and_eq_true_iff.mp q
      obtain ⟨q5, q⟩ := Bool.and_eq_true_iff.mp q
      obtain ⟨q6, q⟩ := Bool.and_eq_true_iff.mp q
      obtain ⟨q7, q⟩ := Bool.and_eq_true_iff.mp q
      obtain ⟨q8, q⟩ := Bool.and_eq_true_iff.mp q
      obtain ⟨q9, q⟩ := Bool.and_eq_true_iff.mp q
      obtain ⟨q10, q11⟩ := Bool.and_eq_true_iff.mp q
      have q3 : n' = n := of_decide_eq_true q3
      subst q3
      obtain ⟨⟨own, y⟩, h1, h2⟩ := Option.map_eq_some_iff.mp (of_decide_eq_true q10)
      have h2 : y = yes := h2
      subst h2
      exact ⟨_, _, _, _, _, _, _, _, _, _, rfl, of_decide_eq_true q1, of_decide_eq_true q2, by simpa using q4, of_decide_eq_true q5, q6, q7, q8, of_decide_eq_true q9, ⟨own, PySem.mem_of_lookup h1⟩, q11⟩
    · cases q
  obtain ⟨body, x, np, n, m, mp, qp, l, pos', pos, rfl, h1, h2, h3, h4, h5, h6, h7, h8, ⟨own, h9⟩, h10⟩ := inv
  have k := sx.c
  obtain ⟨gx, nd⟩ := gl_of h7 k.sc
  have names : Names X x (clsU X.K x own) := by
    refine ⟨gx, nd, ?_⟩
    rcases k.xf.nm _ h9 with ⟨e, h⟩ | ⟨e, h, hn⟩
    · have e : own = true := e
      subst e
      exact .inl h
    · have e : own = false := e
      have hn : x = "ValueError" := hn
      subst e hn
      exact .inr ⟨h, (show bootBuiltins ("ValueError" : Str) = some (.type "ValueError") by decide +kernel), by decide⟩
  obtain ⟨v1, v2, v3⟩ := vis_of h5 k.sc
  have hln : X.env.kindOf n = some .local := by
    unfold Env.kindOf
    rw [k.sc]
    exact h4
  have hb := fun (W' : WX) (pn : List (Addr × Obj)) (xe : Value → Shared → Prop) (tk' : Takes (X.tr pn xe) W') (ow : PassesOwn (model X.prog X.w) X.A X.env xe) => gb sc (X.tr pn xe) W' body (sx.tr pn xe ow) tk' h10
  refine ps_imp (ps_try_kp (i := i) (j := j) (Wout := W) (tb := fun W' => rdSs X.K XR C.cl w W' b) sx.stk sx.frm sx.ex k.ndX (k.slot h1) hln (k.slot h2) (loc_of h6 k.sc) (sx.fn m) v1 v2 v3 names tk hb) fun D σ H ⟨Hs, g, A, st, p⟩ => ?_
  have p : postS X.K XR W (i :: j :: asgSs b) σ Hs H A D (match evSs C.cl w b g with
    | .exc kk l g1 => if all.contains kk then (if yes.contains kk then .next ((g1.set j (some (.exc kk l))).set i none) else .exc kk l g1) else .bad
    | o => o) := by
    unfold evS at p
    exact p
  have sub : ∀ z ∈ asgSs b, z ∈ i :: j :: asgSs b := fun z hz => List.mem_cons_of_mem _ (List.mem_cons_of_mem _ hz)
  refine ⟨Hs, g, A, st, ?_⟩
  cases eb : evSs C.cl w b g with
  | next g1 => rw [eb] at p; exact fun σ1 H1 Hs1 A1 s1 y kk => p σ1 H1 Hs1 A1 s1 y (kk.sub sub)
  | ret d g1 => rw [eb] at p; exact p
  | brk g1 => rw [eb] at p; exact fun σ1 H1 Hs1 A1 s1 y kk => p σ1 H1 Hs1 A1 s1 y (kk.sub sub)
  | cont g1 => rw [eb] at p; exact fun σ1 H1 Hs1 A1 s1 y kk => p σ1 H1 Hs1 A1 s1 y (kk.sub sub)
  | bad => rw [eb] at p; exact p.elim
  | exc kk l g1 =>
    rw [eb] at p
    have p : postS X.K XR W (i :: j :: asgSs b) σ Hs H A D (if all.contains kk then (if yes.contains kk then .next ((g1.set j (some (.exc kk l))).set i none) else .exc kk l g1) else .bad) := p
    by_cases c1 : all.contains kk = true
    · rw [if_pos c1] at p
      have hk : kk ∈ C.tb.exs := by
        rw [← h8]
        simpa using c1
      intro cc dd σ1 H1 Hs1 A1 s1 y kp r
      have r' := r
      rw [k.xr] at r'
      obtain ⟨r1, r2, vs, r3, r4⟩ := r'
      refine ⟨yes.contains kk, by rw [r1]; exact (k.xf.kit _ h9 kk hk).2, fun c2 a na => ?_, fun c2 => ?_⟩
      · rw [if_pos c2] at p
        obtain ⟨s2, x2⟩ := Xst.tup (o := ExcH cc dd a) s1 Xst.refl na (fun _ z => absurd z List.not_mem_nil)
        have off := sub_free s1.sub na
        have sh : Same Hs1 (upd Hs1 a (ExcH cc dd a)) := same_upd off
        have lv : Lv X.K (upd Hs1 a (ExcH cc dd a)) (upd H1 a (ExcH cc dd a)) (.exc kk l) (.ref a) [] :=
          ⟨rfl, a, dd, vs, rfl, by rw [upd_same, r1], r3.scalH r2, r4.mono sh⟩
        have s3 := s2.put j lv (fun _ z => absurd z List.not_mem_nil) List.nodup_nil (fun _ z => absurd z List.not_mem_nil)
        have s4 := s3.wipe1 i (σ' := ((σ1.set i (some (.ref a))).set j (some (.ref a))).set i none) (by simp) (fun z hz => by
          rw [List.getElem?_set_ne (Ne.symm hz)]
          by_cases e : z = j
          · subst e
            by_cases lt : z < σ1.length
            · rw [List.getElem?_set_self (by rw [List.length_set]; exact lt), List.getElem?_set_self lt]
            · rw [List.getElem?_eq_none (by rw [List.length_set, List.length_set]; omega), List.getElem?_eq_none (by rw [List.length_set]; omega)]
          · rw [List.getElem?_set_ne (Ne.symm e), List.getElem?_set_ne (Ne.symm hz), List.getElem?_set_ne (Ne.symm e)])
        refine p _ _ _ _ s4 ((y.trans (Stp.lay s1.sub (.inr ⟨a, ExcH cc dd a, na, rfl, rfl⟩))).trans (Stp.putNil fun z => ?_)) ⟨?_, fun z hz => ?_⟩
        · by_cases e : z = i
          · exact .inr fun q hq => by
              have hq : q ∈ (if z = i then [] else if z = j then (if j < g1.length then [] else []) else A1 z) := hq
              rw [if_pos e] at hq
              cases hq
          · by_cases e2 : z = j
            · exact .inr fun q hq => by
                have hq : q ∈ (if z = i then [] else if z = j then (if j < g1.length then [] else []) else A1 z) := hq
                rw [if_neg e, if_pos e2] at hq
                by_cases lt : j < g1.length
                · rw [if_pos lt] at hq; cases hq
                · rw [if_neg lt] at hq; cases hq
            · exact .inl (by
                show (if z = i then [] else if z = j then (if j < g1.length then [] else []) else A1 z) = A1 z
                rw [if_neg e, if_neg e2])
        · rw [List.length_set, List.length_set, List.length_set]
          exact kp.1
        · have n1 : z ≠ i := fun e => hz (by rw [e]; exact List.mem_cons_self)
          have n2 : z ≠ j := fun e => hz (by rw [e]; exact List.mem_cons_of_mem _ List.mem_cons_self)
          rw [List.getElem?_set_ne (Ne.symm n1), List.getElem?_set_ne (Ne.symm n2), List.getElem?_set_ne (Ne.symm n1)]
          exact kp.2 z fun h => hz (sub z h)
      · rw [if_neg (by rw [c2]; exact Bool.false_ne_true)] at p
        exact p cc dd σ1 H1 Hs1 A1 s1 y (kp.sub sub) r
    · rw [if_neg c1] at p
      exact p.elim
mutual
theorem goodS (w : Nat) : ∀ s : S, GoodS C XR w s
  | .set i e => s_set i e
  | .unp t e => s_unp t e
  | .par i j a b => s_par i j a b
  | .app i e => s_app i e
  | .ite c a b => s_ite c a b (goodSs w a) (goodSs w b)
  | .whl c b => s_whl c b (goodSs w b)
  | .for_ t it b => s_for t it b (goodSs w b)
  | .ret e => s_ret e
  | .retN => fun sc X W st sx tk q => by
    cases st with
    | Return o pos =>
      cases o with
      | none => exact ps_imp ps_retN fun D σ H ⟨Hs, g, A, st, p⟩ => (show D.rt .non H from p .non σ H Hs A [] st Stp.refl nil_frz Ext.nil (fun _ h => absurd h List.not_mem_nil))
      | some _ => cases q
    | _ => cases q
  | .brk => fun sc X W st sx tk q => by
    cases st with
    | Break pos => exact ps_imp ps_break fun D σ H ⟨Hs, g, A, st, p⟩ => (show D.bk σ H from p σ H Hs A st Stp.refl Kept.refl)
    | _ => cases q
  | .cont => fun sc X W st sx tk q => by
    cases st with
    | Continue pos => exact ps_imp ps_continue fun D σ H ⟨Hs, g, A, st, p⟩ => (show D.ct σ H from p σ H Hs A st Stp.refl Kept.refl)
    | _ => cases q
  | .pass => fun sc X W st sx tk q => by
    cases st with
    | Pass pos => exact ps_imp ps_pass fun D σ H ⟨Hs, g, A, st, p⟩ => (show D.nx σ H from p σ H Hs A st Stp.refl Kept.refl)
    | _ => cases q
  | .nev => fun sc X W st sx tk q => ps_imp ps_never fun D σ H ⟨Hs, g, A, st, p⟩ => by
    unfold evS at p
    exact p
  | .raiseC k => s_raise k
  | .tryK i j all yes b => s_try i j all yes b (goodSs w b)
theorem goodSs (w : Nat) : ∀ b : List S, GoodSs C XR w b
  | [] => fun sc X W st sx tk q => by
    cases st with
    | nil => exact pss_imp pss_nil fun D σ H ⟨Hs, g, A, st, p⟩ => (show D.nx σ H from p σ H Hs A st Stp.refl Kept.refl)
    | cons _ _ => cases q
  | s :: r => fun sc X W st sx tk q => by
    cases st with
    | nil => cases q
    | cons st l =>
      obtain ⟨q1, q2⟩ := Bool.and_eq_true_iff.mp (show (chkS C s sc st && chkSs C r sc l) = true from q)
      refine pss_imp (pss_cons (goodS w s sc X W st sx tk q1) (goodSs w r sc X W l sx tk q2)) fun D σ H ⟨Hs, g, A, st, p⟩ => ?_
      have p : postS X.K XR W (asgS s ++ asgSs r) σ Hs H A D (match evS C.cl w s g with
        | .next g1 => evSs C.cl w r g1
        | o => o) := by
        unfold evSs at p
        exact p
      have ml : ∀ i ∈ asgS s, i ∈ asgS s ++ asgSs r := fun i hi => List.mem_append_left _ hi
      have mr : ∀ i ∈ asgSs r, i ∈ asgS s ++ asgSs r := fun i hi => List.mem_append_right _ hi
      refine ⟨Hs, g, A, st, ?_⟩
      cases es : evS C.cl w s g with
      | next g1 =>
        rw [es] at p
        exact fun σ1 H1 Hs1 A1 s1 y k => ⟨Hs1, g1, A1, s1, p.go y k ml mr⟩
      | ret d g1 => rw [es] at p; exact p
      | brk g1 => rw [es] at p; exact fun σ1 H1 Hs1 A1 s1 y k => p σ1 H1 Hs1 A1 s1 y (k.sub ml)
      | cont g1 => rw [es] at p; exact fun σ1 H1 Hs1 A1 s1 y k => p σ1 H1 Hs1 A1 s1 y (k.sub ml)
      | exc kk l g1 => rw [es] at p; exact fun cc dd σ1 H1 Hs1 A1 s1 y k r => p cc dd σ1 H1 Hs1 A1 s1 y (k.sub ml) r
      | bad => rw [es] at p; exact p.elim
end
end
end Mp
end
section
/-! Mp bind: how arguments bind. -/
namespace Mp
open PySem PySem.Spec PyProof.Rows L2
theorem look_zip {β : Type} : ∀ {ns : List Str} {us : List β} {n : Str}, us.length = ns.length → n ∈ ns → ((ns.zip us).lookup n).isNone = false
  | [], _, _, _, h => by cases h
  | a :: ns, [], _, h, _ => by cases h
  | a :: ns, u :: us, n, h, m => by
    rw [List.zip_cons_cons, List.lookup_cons]
    cases e : n == a with
    | true => rfl
    | false =>
      have : n ≠ a := by simpa using e
      have m' : n ∈ ns := (List.mem_cons.mp m).resolve_left this
      exact look_zip (by simpa using h) m'
theorem fm_congr {α β : Type} {f g : α → Option β} : ∀ {l : List α}, (∀ a ∈ l, f a = g a) → l.filterMap f = l.filterMap g
  | [], _ => rfl
  | a :: l, h => by
    rw [List.filterMap_cons, List.filterMap_cons, h a List.mem_cons_self, fm_congr fun b hb => h b (List.mem_cons_of_mem _ hb)]
theorem zip_self {β : Type} : ∀ {ns : List Str} {us : List β}, us.length = ns.length → ns.Nodup → (ns.filterMap fun n => ((ns.zip us).lookup n).map (n, ·)) = ns.zip us
  | [], us, _, _ => rfl
  | a :: ns, [], h, _ => by cases h
  | a :: ns, u :: us, h, nd => by
    obtain ⟨n1, n2⟩ := List.nodup_cons.mp nd
    have ih := zip_self (ns := ns) (us := us) (by simpa using h) n2
    rw [List.zip_cons_cons, List.filterMap_cons, List.lookup_cons]
    simp only [beq_self_eq_true, Option.map_some]
    congr 1
    refine Eq.trans (fm_congr fun n hn => ?_) ih
    have : (n == a) = false := by
      rw [beq_eq_false_iff_ne]
      intro e
      exact n1 (by rw [← e]; exact hn)
    rw [List.lookup_cons, this]
theorem bind_gen {x qual : Str} {as : List Arg} {body : List Stmt} {scope : Scope} {kV doc pm : Value} {an : Option Addr} {cdv ct : Value} {us : List Value} (nd : (as.map (·.arg)).Nodup) (hl : us.length = as.length) :
    bindArgs (PySem.W.fnOf x qual ⟨[], as, none, [], [], none, []⟩ body scope .none kV doc pm an cdv ct) ⟨us, []⟩ = pure ((as.map (·.arg)).zip us) := by
  have e1 : seqItems? Value.none = pure none := rfl
  have hl' : us.length = (as.map (·.arg)).length := by rw [List.length_map]; exact hl
  have miss : ((as.map (·.arg)).filter fun n => (((as.map (·.arg)).zip us).lookup n).isNone) = [] := by
    rw [List.filter_eq_nil_iff]
    intro n hn
    rw [look_zip hl' hn]
    decide
  have zs := zip_self hl' nd
  unfold bindArgs PySem.W.fnOf
  simp only [e1, List.map_nil, List.nil_append, pure_bind, Option.getD_none, List.append_nil]
  generalize as.map (·.arg) = ns at *
  simp [miss, zs, hl']
end Mp
end
section
/-! Mp def: the text's defs do what their small forms do. -/
namespace Mp
open PySem PySem.Spec PyProof.Rows L2

/-- a def of the text (name, arguments, body, scope), its slots, its small form -/
structure Df where
  name : Str
  args : Arguments
  body : List Stmt
  scope : Scope
  N : List Str
  F : Fn
/-- plain parameters alone -/
def plainArgs (p : Arguments) (ps : List Str) : Bool := match p with
  | ⟨[], as, none, [], [], none, []⟩ => decide (as.map (·.arg) = ps)
  | _ => false
def dfOk (tb : Tbl) (fnm free : List Str) (glbs : List (Str × List Nat)) (cl : Nat → List D → ROut) (lev : Nat) (d : Df) : Bool :=
  decide (d.F.par ≤ d.N.length) && (decide (d.F.slots = d.N.length) && (decide (d.F.io = 0) && (C8.scC d.N (d.N.take d.F.par) d.scope && (plainArgs d.args (d.N.take d.F.par) && chkSs ⟨d.N, fnm, free, cl, lev, glbs, tb⟩ d.F.body d.scope d.body))))
theorem plain_inv {p : Arguments} {ps : List Str} (h : plainArgs p ps = true) : ∃ as, p = ⟨[], as, none, [], [], none, []⟩ ∧ as.map (·.arg) = ps := by
  unfold plainArgs at h
  split at h
  · exact ⟨_, rfl, of_decide_eq_true h⟩
  · cases h
theorem start_eq {K : PySem.W.Frag} {Hs H : Hp} {N : List Str} {ds : List D} {vs : List V} (sb : Sub Hs H) (l : LvL K Hs H ds vs []) (slots : Nat) (hs : slots = N.length) (hp : ds.length ≤ N.length) :
    Sta K Hs H (ds.map some ++ List.replicate (slots - ds.length) none) (L2.start N vs) (fun _ => []) := by
  have le := l.length
  refine ⟨sb, ?_, fun i d e => ?_, fun _ _ => rfl, fun _ _ _ h => absurd h List.not_mem_nil, fun _ => List.nodup_nil, fun _ _ h => absurd h List.not_mem_nil⟩
  · unfold L2.start
    rw [List.length_append, List.length_append, List.length_map, List.length_map, List.length_replicate, List.length_replicate, le, hs]
  · by_cases hi : i < ds.length
    · rw [List.getElem?_append_left (by rw [List.length_map]; exact hi), List.getElem?_map, List.getElem?_eq_getElem hi] at e
      cases e
      obtain ⟨d, u, h1, h2, h3⟩ := l.get0 hi
      rw [List.getElem?_eq_getElem hi] at h1
      cases h1
      refine ⟨u, ?_, h3⟩
      unfold L2.start
      rw [List.getElem?_append_left (by rw [List.length_map, le]; exact hi), List.getElem?_map, h2]
      rfl
    · rw [List.getElem?_append_right (by rw [List.length_map]; omega)] at e
      have := List.mem_of_getElem? e
      rw [List.mem_replicate] at this
      cases this.2
theorem ev_run {w : Nat} {fs : List Fn} {n f : Nat} {ds : List D} (h : run w fs n f ds ≠ .bad) : ∃ F, fs[f]? = some F ∧ ds.length = F.par := by
  cases n with
  | zero => exact absurd rfl h
  | succ n =>
    unfold run at h
    cases e : fs[f]? with
    | none => rw [e] at h; exact absurd rfl h
    | some F =>
      rw [e] at h
      by_cases q : ds.length = F.par
      · exact ⟨F, rfl, q⟩
      · exact absurd (if_neg q) h
section
variable {P : Program} {w0 : World} {K : PySem.W.Frag} {mg : Str → Option Value} {base : Heap} {XR : XRel}
/-- every def, at every depth -/
theorem defs_ok (hdig : DigK K) (tb : Tbl) (hxf : XFacts tb K mg) (hxr : XR = XRk K) (ds : List Df) (free : List Str) (glbs : List (Str × List Nat)) (w : Nat)
    (hF : ∀ d ∈ ds, ∃ f fd, mg d.name = some (.ref f) ∧ FunD K d.name d.name d.args d.body d.scope [] [] f fd)
    (hfree : ∀ x, free.contains x = true → mg x = none)
    (hglb : ∀ x z, glbs.lookup x = some z → ∃ t, mg x = some (.str (sV z) t))
    (hchk : ∀ cl lev, ds.all (dfOk tb (ds.map (·.name)) free glbs cl lev) = true) :
    ∀ (n i : Nat) (d : Df), ds[i]? = some d → ∃ f fd, mg d.name = some (.ref f) ∧ FunD K d.name d.name d.args d.body d.scope [] [] f fd ∧ Binds K fd (d.N.take d.F.par) [] ∧
      FnOk P w0 K mg base (L2.CX P w0) n f fd (d.N.take d.F.par) (spOf K XR d.F.par (run w (ds.map (·.F)) n i)) := by
  intro n
  induction n with
  | zero =>
    intro i d hd
    obtain ⟨f, fd, h1, h2⟩ := hF d (List.mem_of_getElem? hd)
    have ok := List.all_eq_true.mp (hchk (fun _ _ => .bad) 0) d (List.mem_of_getElem? hd)
    obtain ⟨k1, ok⟩ := Bool.and_eq_true_iff.mp ok
    obtain ⟨k2, ok⟩ := Bool.and_eq_true_iff.mp ok
    obtain ⟨k3, ok⟩ := Bool.and_eq_true_iff.mp ok
    obtain ⟨k4, ok⟩ := Bool.and_eq_true_iff.mp ok
    obtain ⟨k5, k6⟩ := Bool.and_eq_true_iff.mp ok
    have S := C8.fnScope_by k4
    obtain ⟨as, ea, en⟩ := plain_inv k5
    have nope : ∀ {vs H Q E}, spOf K XR d.F.par (run w (ds.map (·.F)) 0 i) vs H Q E → False := fun ⟨_, _, _, _, _, h⟩ => h
    refine ⟨f, fd, h1, h2, ?_, ⟨fun vs H Q E h => (nope h).elim, fun A outer s H args us vs Q E _ _ _ _ h => (nope h).elim⟩⟩
    refine FunD.bindsN h2 fun kV doc pm an cdv ct us hl => ?_
    rw [ea, ← en]
    rw [← en, List.length_map] at hl
    exact bind_gen (by rw [en]; exact S.nd.sublist (List.take_sublist _ _)) hl
  | succ n ih =>
    intro i d hd
    obtain ⟨f, fd, h1, h2⟩ := hF d (List.mem_of_getElem? hd)
    have ok := List.all_eq_true.mp (hchk (run w (ds.map (·.F)) n) n) d (List.mem_of_getElem? hd)
    obtain ⟨k1, ok⟩ := Bool.and_eq_true_iff.mp ok
    obtain ⟨k2, ok⟩ := Bool.and_eq_true_iff.mp ok
    obtain ⟨k3, ok⟩ := Bool.and_eq_true_iff.mp ok
    obtain ⟨k4, ok⟩ := Bool.and_eq_true_iff.mp ok
    obtain ⟨k5, k6⟩ := Bool.and_eq_true_iff.mp ok
    have k1 : d.F.par ≤ d.N.length := of_decide_eq_true k1
    have k2 : d.F.slots = d.N.length := of_decide_eq_true k2
    have k3 : d.F.io = 0 := of_decide_eq_true k3
    have S := C8.fnScope_by k4
    obtain ⟨as, ea, en⟩ := plain_inv k5
    have hlen : (d.N.take d.F.par).length = d.F.par := by rw [List.length_take]; omega
    refine ⟨f, fd, h1, h2, ?_, ?_⟩
    · refine FunD.bindsN h2 fun kV doc pm an cdv ct us hl => ?_
      rw [ea, ← en]
      rw [← en, List.length_map] at hl
      exact bind_gen (by rw [en]; exact S.nd.sublist (List.take_sublist _ _)) hl
    · refine FunD.ok h2 S (fun vs H Q E h => by rw [hlen]; exact h.1) fun cdv A outer s H vs Q E hr hsp => ?_
      let C : Ctx := ⟨d.N, ds.map (·.name), free, run w (ds.map (·.F)) n, n, glbs, tb⟩
      have cxt : Cxt C XR d.scope (cxOf (L2.CX P w0) P w0 K mg base d.N d.name d.scope f cdv A outer s H E) := by
        refine ⟨rfl, S.nd, rfl, rfl, hdig, hxf, hxr, hr, hfree, hglb, fun g x hx => ?_⟩
        have hx : (ds.map (·.name))[g]? = some x := hx
        rw [List.getElem?_map] at hx
        cases eg : ds[g]? with
        | none => rw [eg] at hx; cases hx
        | some d' =>
          rw [eg] at hx
          cases hx
          obtain ⟨f', fd', m1, m2, m3, m4⟩ := ih g d' eg
          refine ⟨f', fd', _, d'.F.par, m1, m2.kp, m3, m4, fun l hl => ?_⟩
          obtain ⟨F, e1, e2⟩ := ev_run hl
          rw [List.getElem?_map, eg] at e1
          cases e1
          exact e2
      have sxt : Sxt C XR d.scope (cxOf (L2.CX P w0) P w0 K mg base d.N d.name d.scope f cdv A outer s H E) := ⟨cxt, S.kind, fun _ => rfl, passes_of (K := fun e s'' => L2.CX P w0 outer H s E e s'') rfl, rfl, rfl, rfl⟩
      have tk : Takes (cxOf (L2.CX P w0) P w0 K mg base d.N d.name d.scope f cdv A outer s H E) (fun c dd _ H' => E c dd H') := takes_of rfl rfl rfl rfl
      refine ⟨_, goodSs w d.F.body d.scope _ _ d.body sxt tk k6, ?_⟩
      obtain ⟨lv, Hs, das, sb, l, hm⟩ := hsp
      have ef : (ds.map (·.F))[i]? = some d.F := by rw [List.getElem?_map, hd]; rfl
      have ld : das.length = d.F.par := by rw [← l.length]; exact lv
      have er : run w (ds.map (·.F)) (n + 1) i das = (match evSs (run w (ds.map (·.F)) n) w d.F.body (das.map some ++ List.replicate (d.F.slots - d.F.par) none) with
        | .next g => finish d.F.io .non g
        | .ret d' g => finish d.F.io d' g
        | .exc k l _ => .exc k l
        | _ => .bad) := by
        unfold run
        rw [ef]
        exact if_pos ld
      rw [er] at hm
      have st := start_eq (N := d.N) sb l d.F.slots k2 (by omega)
      rw [ld] at st
      refine ⟨Hs, _, _, st, ?_⟩
      have noA : ∀ {p : Addr}, ¬ ∃ i : Nat, p ∈ (fun _ => ([] : List Addr)) i := fun ⟨_, h⟩ => absurd h List.not_mem_nil
      cases es : evSs (run w (ds.map (·.F)) n) w d.F.body (das.map some ++ List.replicate (d.F.slots - d.F.par) none) with
      | next g =>
        rw [es, k3] at hm
        intro σ' H' Hs' A' s' y _
        have hm : ∀ v H' Hs' F, Same H H' → Same Hs Hs' → Sub Hs' H' → Lv K Hs' H' .non v F → (∀ p ∈ F, H p = none ∧ Hs' p = none) → F.Nodup → (∀ p o, Hs' p = some o → Hs p = some o ∨ H p = none) → Q v H' := hm
        exact hm .non H' Hs' [] (fun p o e => y.fr p o e fun i h => absurd h List.not_mem_nil) y.hs s'.sub ⟨rfl, rfl⟩ (fun _ h => absurd h List.not_mem_nil) List.nodup_nil fun p o e => (y.new p o e).imp id fun h => h.resolve_left noA
      | ret d' g =>
        rw [es, k3] at hm
        intro v σ' H' Hs' A' F s' y lv' ex fr
        have hm : ∀ v H' Hs' F, Same H H' → Same Hs Hs' → Sub Hs' H' → Lv K Hs' H' d' v F → (∀ p ∈ F, H p = none ∧ Hs' p = none) → F.Nodup → (∀ p o, Hs' p = some o → Hs p = some o ∨ H p = none) → Q v H' := hm
        exact hm v H' Hs' F (fun p o e => y.fr p o e fun i h => absurd h List.not_mem_nil) y.hs s'.sub lv' (fun p hp => ⟨(fr p hp).resolve_left noA, ex.off p hp⟩) ex.nd fun p o e => (y.new p o e).imp id fun h => h.resolve_left noA
      | exc kk ll g =>
        rw [es] at hm
        intro c dd σ' H' Hs' A' s' y _ r
        have hm : ∀ c dd H' Hs', Same H H' → Same Hs Hs' → Sub Hs' H' → (∀ p o, Hs' p = some o → Hs p = some o ∨ H p = none) → XR kk ll c dd Hs' → E c dd H' := hm
        exact hm c dd H' Hs' (fun p o e => y.fr p o e fun i h => absurd h List.not_mem_nil) y.hs s'.sub (fun p o e => (y.new p o e).imp id fun h => h.resolve_left noA) r
      | brk g => rw [es] at hm; exact hm.elim
      | cont g => rw [es] at hm; exact hm.elim
      | bad => rw [es] at hm; exact hm.elim
end
/-! ### a law -/
theorem ints_lv {K : PySem.W.Frag} {Hs H : Hp} : ∀ ns : List Int, LvL K Hs H (ns.map D.int) (ns.map V.int) []
  | [] => ⟨rfl, rfl⟩
  | n :: ns => ⟨.int n, ns.map V.int, [], [], rfl, rfl, ⟨rfl, rfl⟩, ints_lv ns⟩
theorem law_sp {K : PySem.W.Frag} {XR : XRel} {r : List D → ROut} {H : Hp} {a : Addr} {ns : List Int} {E : XK} (h : r [.lst false (ns.map D.int)] = .ok (.bl true) []) (sq : SqL K H a (ns.map V.int)) (le : ns.length ≤ sizeLine) :
    spOf K XR 1 r [.ref a] H (fun v _ => v = .bl true) E := by
  refine ⟨rfl, H, [.lst false (ns.map D.int)], fun _ _ e => .inl e, ⟨.ref a, [], [], [], rfl, rfl, ⟨a, _, rfl, sq, by rw [List.length_map]; exact le, rfl, ints_lv ns⟩, rfl, rfl⟩, ?_⟩
  rw [h]
  intro v H' Hs' F _ _ _ l _ _ _
  exact l.1
end Mp
end
section
/-! Mp law: from the head's facts to a law's promise. -/
namespace Mp
open PySem PySem.Spec PyProof.Rows L2

def dfOf (d : He.DefD) (z : List Str × Fn) : Df := ⟨d.name, d.params, d.body, d.scope, z.1, z.2⟩
def dfsOf (fn : List He.DefD) (zs : List (List Str × Fn)) : List Df := List.zipWith dfOf fn zs
def defB (d : He.DefD) : Bool := decide (d.at_ = (d.name, none)) && (decide (d.qual = d.name) && (d.dfl.isEmpty && d.kwd.isEmpty))
def faOf (fn : List He.DefD) (free : List Str) (glbs : List (Str × List Nat)) : List He.Fa := (fn.map fun d => He.Fa.glo d.name) ++ (free.map He.Fa.free ++ glbs.map fun q => He.Fa.str q.1 (sV q.2))
theorem dfs_F : ∀ {fn : List He.DefD} {zs : List (List Str × Fn)}, fn.length = zs.length → (dfsOf fn zs).map (·.F) = zs.map (·.2)
  | [], [], _ => rfl
  | [], _ :: _, h => by cases h
  | _ :: _, [], h => by cases h
  | d :: fn, z :: zs, h => by
    show z.2 :: (dfsOf fn zs).map (·.F) = _
    rw [dfs_F (by simpa using h)]
    rfl
theorem dfs_mem : ∀ {fn : List He.DefD} {zs : List (List Str × Fn)} {d : Df}, d ∈ dfsOf fn zs → ∃ e ∈ fn, ∃ z, d = dfOf e z
  | [], _, _, h => by simp [dfsOf] at h
  | _ :: _, [], _, h => by simp [dfsOf] at h
  | e :: fn, z :: zs, d, h => by
    rcases List.mem_cons.mp (show d ∈ dfOf e z :: dfsOf fn zs from h) with q | q
    · exact ⟨e, List.mem_cons_self, z, q⟩
    · obtain ⟨e', m, z', r⟩ := dfs_mem q
      exact ⟨e', List.mem_cons_of_mem _ m, z', r⟩
theorem calm_fn {P : Program} {w : World} {K : PySem.W.Frag} {mg : Str → Option Value} {base : Heap} {k : Nat} {f : Addr} {fd : FuncData} {ps : List Str} {sp : Sp} (F : FnOk P w K mg base (L2.CX P w) k f fd ps sp) :
    FnOk P w K mg base CX0 k f fd ps (fun vs H Q _ => sp vs H Q fun _ _ _ => False) :=
  ⟨fun vs H Q E h => F.len _ _ _ _ h, fun A outer s H args us vs Q E hr he hb hv hs => codeAny_mono (F.run A outer s H args us vs Q (fun _ _ _ => False) hr he hb hv hs) fun r s' h => by
    cases r with
    | ok o => cases o <;> exact h
    | error e =>
      obtain ⟨_, _, _, _, _, _, _, _, _, _, _, _, z⟩ := h
      exact z.elim⟩
/-! ### the head's facts -/
/-- str's limit, by the object that holds it -/
def digO (o : Obj) : Bool := match o.data with
  | .dict es _ => es.all (fun e => match e.key with
    | .str _ _ => true
    | _ => false) && (nsFind es "sys.int_max_str_digits").isNone
  | _ => false
def digB (K : PySem.W.Frag) : Bool := match K.lookup cStatics with
  | some o => digO o
  | none => false
theorem dig_of {K : PySem.W.Frag} (e : digB K = true) : DigK K := fun h X => by
  unfold digB at e
  cases lk : K.lookup cStatics with
  | none => rw [lk] at e; cases e
  | some o =>
    rw [lk] at e
    have e : digO o = true := e
    have g := X _ _ lk
    unfold digO at e
    cases hd : o.data with
    | dict es ep =>
      rw [hd] at e
      obtain ⟨e1, e2⟩ := Bool.and_eq_true_iff.mp e
      refine ⟨fun n => nsFind es n, ⟨o, es, ep, g, hd, fun x hx => ?_, fun _ => rfl⟩, Option.isNone_iff_eq_none.mp e2⟩
      have q := Array.all_eq_true_iff_forall_mem.mp e1 x hx
      cases hk : x.key <;> rw [hk] at q <;> first
        | exact ⟨_, _, rfl⟩
        | cases q
    | _ => rw [hd] at e; cases e
/-- the exception classes -/
def excB (K : PySem.W.Frag) (D : Addr) : Bool := He.eqO (PySem.W.findIn K (.ref D) "__getattribute__") (some (some (.builtin "BaseException.__getattribute__"))) && (He.eqO (PySem.W.findIn K (.ref D) "__getattr__") (some none) &&
  (decide (PySem.W.subIn K (.ref D) (.type "BaseException") = some true) && (PySem.W.hasDictIn K D && (He.eqO (PySem.W.findIn K (.ref D) "__class__") (some (some (.builtin "object.__class__"))) &&
  (He.eqO (PySem.W.specialIn K (.builtin "object.__class__") "__get__") (some (some (.builtin "getset_descriptor.__get__"))) && (decide (PySem.W.takesIn K (.builtin "object.__class__") = some true) && decide (PySem.W.mroIn K D (.type "object") = some true)))))))
theorem excB_ok {K : PySem.W.Frag} {D : Addr} (h : excB K D = true) : ExcC K D := by
  obtain ⟨h1, h⟩ := Bool.and_eq_true_iff.mp h
  obtain ⟨h2, h⟩ := Bool.and_eq_true_iff.mp h
  obtain ⟨h3, h⟩ := Bool.and_eq_true_iff.mp h
  obtain ⟨h4, h⟩ := Bool.and_eq_true_iff.mp h
  obtain ⟨h5, h⟩ := Bool.and_eq_true_iff.mp h
  obtain ⟨h6, h⟩ := Bool.and_eq_true_iff.mp h
  obtain ⟨h7, h8⟩ := Bool.and_eq_true_iff.mp h
  exact ⟨He.eqO_ok h1, He.eqO_ok h2, of_decide_eq_true h3, h4, He.eqO_ok h5, He.eqO_ok h6, of_decide_eq_true h7, of_decide_eq_true h8⟩
def ownB (K : PySem.W.Frag) (x : Str) : Bool → Bool
  | true => (He.Fa.glo x).ok K
  | false => (He.Fa.free x).ok K && decide (x = "ValueError")
def kitB2 (tb : Tbl) (K : PySem.W.Frag) (q : Str × Bool × List Nat) : Bool := tb.exs.all (fun k => decide (PySem.W.kitOne K (exC K k) (clsU K q.1 q.2.1) = some (q.2.2.contains k)) && decide (PySem.W.exmOne K (exC K k) (clsU K q.1 q.2.1) = some (q.2.2.contains k))) &&
  bltTys.all fun t => decide (PySem.W.kitOne K (.type t) (clsU K q.1 q.2.1) = some false)
def xB (tb : Tbl) (K : PySem.W.Frag) : Bool := tb.exs.all (fun k => excB K (He.ga K (exNm k))) && (tb.xt.all (fun q => ownB K q.1 q.2.1 && kitB2 tb K q) &&
  tb.mks.all fun k => (He.Fa.glo (exNm k)).ok K && ((He.Fa.exc (exNm k)).ok K && decide (exFl k = [])))
theorem xB_ok {tb : Tbl} {K : PySem.W.Frag} {h : Heap} {mg : Str → Option Value} (e : xB tb K = true) (X : K.In h) (G : h.Ns mainGlobals mg) : XFacts tb K mg := by
  obtain ⟨e1, e⟩ := Bool.and_eq_true_iff.mp e
  obtain ⟨e2, e3⟩ := Bool.and_eq_true_iff.mp e
  have q2 := fun q hq => Bool.and_eq_true_iff.mp (List.all_eq_true.mp e2 q hq)
  refine ⟨fun k hk => excB_ok (List.all_eq_true.mp e1 k hk), fun q hq => ?_, fun q hq k hk => ?_, fun q hq t ht => ?_, fun k hk => ?_⟩
  · have z := (q2 q hq).1
    obtain ⟨x, own, yes⟩ := q
    cases own with
    | true => exact .inl ⟨rfl, He.glo_ok X G z⟩
    | false =>
      obtain ⟨z1, z2⟩ := Bool.and_eq_true_iff.mp z
      exact .inr ⟨rfl, He.free_ok X G z1, of_decide_eq_true z2⟩
  · have z := List.all_eq_true.mp (Bool.and_eq_true_iff.mp (q2 q hq).2).1 k hk
    obtain ⟨z1, z2⟩ := Bool.and_eq_true_iff.mp z
    exact ⟨of_decide_eq_true z1, of_decide_eq_true z2⟩
  · exact of_decide_eq_true (List.all_eq_true.mp (Bool.and_eq_true_iff.mp (q2 q hq).2).2 t ht)
  · obtain ⟨z1, z⟩ := Bool.and_eq_true_iff.mp (List.all_eq_true.mp e3 k hk)
    obtain ⟨z2, z3⟩ := Bool.and_eq_true_iff.mp z
    obtain ⟨y1, y2, y3, y4⟩ := He.exc_ok z2
    exact ⟨He.glo_ok X G z1, y1, y2, y3, y4, of_decide_eq_true z3⟩
/-- what is asked of the state ahead of the law -/
def obsK (tb : Tbl) (fa : List He.Fa) (fn : List He.DefD) (K : PySem.W.Frag) : Bool × He.AlD := (digB K && xB tb K, He.obsD fa fn K)
def obsM (n : Nat) (tb : Tbl) (fa : List He.Fa) (fn : List He.DefD) (g : Addr → Option Obj) : Bool × He.AlD := obsK tb fa fn (He.frG g (cStatics :: He.asD g n))
def FactsM (tb : Tbl) (fa : List He.Fa) (fn : List He.DefD) (h : Heap) : Prop := ∃ K : PySem.W.Frag, K.In h ∧ (He.SaysD fa fn K ∧ (DigK K ∧ xB tb K = true))
theorem facts_of {tb : Tbl} {fa : List He.Fa} {fn : List He.DefD} {K : PySem.W.Frag} {h : Heap} (X : K.In h) (e : obsK tb fa fn K = (true, He.valD fn)) : FactsM tb fa fn h := by
  obtain ⟨e1, e2⟩ := Bool.and_eq_true_iff.mp (show (digB K && xB tb K) = true from congrArg Prod.fst e)
  exact ⟨K, X, congrArg Prod.snd e, dig_of e1, e2⟩
def hookM (n : Nat) (tb : Tbl) (fa : List He.Fa) (fn : List He.DefD) : PySem.W.Hook where
  α := Bool × He.AlD
  obs := fun s => obsM n tb fa fn s.heap.get?
  val := fun _ => (true, He.valD fn)
  says := fun _ => FactsM tb fa fn
  of := fun _ _ e => facts_of He.frG_in e
  keeps := fun _ _ _ ⟨K, hK, c⟩ k => ⟨K, hK.keeps k, c⟩
theorem obsM_eq {n : Nat} {tb : Tbl} {fa : List He.Fa} {fn : List He.DefD} {g : Addr → Option Obj} {s : Shared} (h : ∀ a, g a = s.heap.get? a) : obsM n tb fa fn g = (hookM n tb fa fn).obs s := by
  have e : g = s.heap.get? := funext h
  rw [e] <;> rfl
/-- a law's def -/
theorem law_facts {P : Program} {w : World} {K : PySem.W.Frag} {h : Heap} {mg : Str → Option Value} {f : Addr} (tb : Tbl) (fn : List He.DefD) (zs : List (List Str × Fn)) (free : List Str) (glbs : List (Str × List Nat)) (fuel n i : Nat) (nm x : Str)
    (hds : fn.all defB = true) (hl : fn.length = zs.length) (hchk : ∀ cl lev, (dfsOf fn zs).all (dfOk tb ((dfsOf fn zs).map (·.name)) free glbs cl lev) = true)
    (hi : ((dfsOf fn zs)[i]?.map fun d => (d.name, d.F.par, d.N.take 1)) = some (nm, 1, [x]))
    (hdig : DigK K) (hx : xB tb K = true) (X : K.In h) (G : h.Ns mainGlobals mg) (c : He.SaysD (faOf fn free glbs) fn K) (hfa : mg nm = some (.ref f)) :
    ∃ fd : FuncData, (∀ (s : Shared) (u : Value), BindsTo s fd ⟨[u], []⟩ [(x, u)]) ∧ ∀ base : Heap,
      FnOk P w K mg base CX0 n f fd [x] (fun vs H Q _ => spOf K (XRk K) 1 (run fuel (zs.map (·.2)) n i) vs H Q fun _ _ _ => False) := by
  have hfree : ∀ x, free.contains x = true → mg x = none := fun x hx => by
    have hx : x ∈ free := by simpa using hx
    obtain ⟨j, hj, ej⟩ := List.mem_iff_getElem.mp hx
    refine He.free_ok X G (c.fact (fn.length + j) (f := .free x) ?_)
    unfold faOf
    rw [List.getElem?_append_right (by rw [List.length_map]; omega), List.length_map, Nat.add_sub_cancel_left, List.getElem?_append_left (by rw [List.length_map]; exact hj), List.getElem?_map, List.getElem?_eq_getElem hj, ej]
    rfl
  have hglb : ∀ x z, glbs.lookup x = some z → ∃ t, mg x = some (.str (sV z) t) := fun x z hx => by
    have hm : (x, z) ∈ glbs := PySem.mem_of_lookup hx
    obtain ⟨j, hj, ej⟩ := List.mem_iff_getElem.mp hm
    refine He.str_ok X G (c.fact (fn.length + (free.length + j)) (f := .str x (sV z)) ?_)
    unfold faOf
    rw [List.getElem?_append_right (by rw [List.length_map]; omega), List.length_map, Nat.add_sub_cancel_left, List.getElem?_append_right (by rw [List.length_map]; omega), List.length_map, Nat.add_sub_cancel_left, List.getElem?_map, List.getElem?_eq_getElem hj, ej]
    rfl
  have hF : ∀ d ∈ dfsOf fn zs, ∃ f fd, mg d.name = some (.ref f) ∧ FunD K d.name d.name d.args d.body d.scope [] [] f fd := fun d hd => by
    obtain ⟨e, me, z, rfl⟩ := dfs_mem hd
    obtain ⟨j, hj, ej⟩ := List.mem_iff_getElem.mp me
    have b := List.all_eq_true.mp hds e me
    obtain ⟨b1, b⟩ := Bool.and_eq_true_iff.mp b
    obtain ⟨b2, b⟩ := Bool.and_eq_true_iff.mp b
    obtain ⟨b3, b4⟩ := Bool.and_eq_true_iff.mp b
    have b1 : e.at_ = (e.name, none) := of_decide_eq_true b1
    have b2 : e.qual = e.name := of_decide_eq_true b2
    have b3 : e.dfl = [] := List.isEmpty_iff.mp b3
    have b4 : e.kwd = [] := List.isEmpty_iff.mp b4
    obtain ⟨fd, F⟩ := c.def_ j (d := e) (by rw [List.getElem?_eq_getElem hj, ej])
    have g := He.glo_ok X G (c.fact j (f := .glo e.name) (by
      unfold faOf
      rw [List.getElem?_append_left (by rw [List.length_map]; exact hj), List.getElem?_map, List.getElem?_eq_getElem hj, ej]
      rfl))
    have e1 : He.fAd K e.at_ = He.ga K e.name := by rw [b1]; rfl
    have e2 : e.dvs K = [] := by unfold He.DefD.dvs; rw [b3]; rfl
    have e3 : e.kws K = [] := by unfold He.DefD.kws; rw [b4]; rfl
    rw [e1, e2, e3, b2] at F
    exact ⟨_, fd, g, F⟩
  cases ed : (dfsOf fn zs)[i]? with
  | none => rw [ed] at hi; cases hi
  | some d =>
    rw [ed] at hi
    have hi : (d.name, d.F.par, d.N.take 1) = (nm, 1, [x]) := Option.some.inj hi
    have n1 : d.name = nm := congrArg (fun z => z.1) hi
    have n2 : d.F.par = 1 := congrArg (fun z => z.2.1) hi
    have n3 : d.N.take 1 = [x] := congrArg (fun z => z.2.2) hi
    have md := List.mem_of_getElem? ed
    obtain ⟨f', fd, g1, F⟩ := hF d md
    rw [n1, hfa] at g1
    cases g1
    have ok := List.all_eq_true.mp (hchk (fun _ _ => .bad) 0) d md
    obtain ⟨k1, ok⟩ := Bool.and_eq_true_iff.mp ok
    obtain ⟨k2, ok⟩ := Bool.and_eq_true_iff.mp ok
    obtain ⟨k3, ok⟩ := Bool.and_eq_true_iff.mp ok
    obtain ⟨k4, ok⟩ := Bool.and_eq_true_iff.mp ok
    obtain ⟨k5, k6⟩ := Bool.and_eq_true_iff.mp ok
    rw [n2, n3] at k5
    obtain ⟨as, ea, en⟩ := plain_inv k5
    refine ⟨fd, fun s u => ?_, fun base => ?_⟩
    · have b := FunD.bindsA (ps := [x]) F (fun kV doc pm an cdv ct us hl => by
        rw [ea, ← en]
        rw [← en, List.length_map] at hl
        exact bind_gen (by rw [en]; simp) hl)
      exact b s [u] rfl
    · obtain ⟨f2, fd2, g2, F2, _, ok2⟩ := defs_ok (P := P) (w0 := w) (base := base) (XR := XRk K) hdig tb (xB_ok hx X G) rfl (dfsOf fn zs) free glbs fuel hF hfree hglb hchk n i d ed
      rw [n1, hfa] at g2
      cases g2
      have same : fd2 = fd := by
        obtain ⟨_, _, _, _, _, _, _, _, _, _, e1, l1, _⟩ := F.ex
        obtain ⟨_, _, _, _, _, _, _, _, _, _, e2, l2, _⟩ := F2.ex
        rw [l1] at l2
        cases l2
        rfl
      subst same
      rw [n2, n3, dfs_F hl] at ok2
      exact calm_fn ok2
end Mp
end
section
/-! Mp ev: the evaluator, step by step. -/
namespace Mp
@[simp] theorem bind_ok {α β : Type} (a : α) (f : α → Out β) : Out.bind (.ok a) f = f a := rfl
@[simp] theorem bind_bad {α β : Type} (f : α → Out β) : Out.bind .bad f = .bad := rfl
@[simp] theorem bind_exc {α β : Type} (k : Nat) (l : List D) (g : Env) (f : α → Out β) : Out.bind (.exc k l g) f = .exc k l g := rfl
@[simp] theorem of_some {α : Type} (a : α) : Out.of (some a) = .ok a := rfl
@[simp] theorem ofE_ok {α : Type} (a : α) (f : α → SOut) : SOut.ofE (.ok a) f = f a := rfl
@[simp] theorem ofE_exc {α : Type} (k : Nat) (l : List D) (g : Env) (f : α → SOut) : SOut.ofE (.exc k l g) f = .exc k l g := rfl
@[simp] theorem cold_non : cold .non = true := rfl
@[simp] theorem cold_bl (b : Bool) : cold (.bl b) = true := rfl
@[simp] theorem cold_int (i : Int) : cold (.int i) = true := rfl
@[simp] theorem cold_str (s : List Nat) : cold (.str s) = true := rfl
@[simp] theorem cold_tup (l : List D) : cold (.tup l) = coldL l := rfl
@[simp] theorem cold_lst (f : Bool) (l : List D) : cold (.lst f l) = !f := rfl
@[simp] theorem coldL_nil : coldL [] = true := rfl
@[simp] theorem coldL_cons (d : D) (l : List D) : coldL (d :: l) = (cold d && coldL l) := rfl
@[simp] theorem frz_non : frz .non = .non := rfl
@[simp] theorem frz_bl (b : Bool) : frz (.bl b) = .bl b := rfl
@[simp] theorem frz_int (i : Int) : frz (.int i) = .int i := rfl
@[simp] theorem frz_str (s : List Nat) : frz (.str s) = .str s := rfl
@[simp] theorem frz_tup (l : List D) : frz (.tup l) = .tup (frzL l) := rfl
@[simp] theorem frz_lst (f : Bool) (l : List D) : frz (.lst f l) = .lst false (frzL l) := rfl
@[simp] theorem frzL_nil : frzL [] = [] := rfl
@[simp] theorem frzL_cons (d : D) (l : List D) : frzL (d :: l) = frz d :: frzL l := rfl
@[simp] theorem flat_non : flat .non = true := rfl
@[simp] theorem flat_bl (b : Bool) : flat (.bl b) = true := rfl
@[simp] theorem flat_int (i : Int) : flat (.int i) = true := rfl
@[simp] theorem flat_str (s : List Nat) : flat (.str s) = true := rfl
@[simp] theorem flat_tup (l : List D) : flat (.tup l) = flatL l := rfl
@[simp] theorem flatL_nil : flatL [] = true := rfl
@[simp] theorem flatL_cons (d : D) (l : List D) : flatL (d :: l) = (flat d && flatL l) := rfl
/-! ### operators -/
@[simp] theorem op_add_int (a b : Int) : opD .add [.int a, .int b] = some (.int (a + b)) := rfl
@[simp] theorem op_sub_int (a b : Int) : opD .sub [.int a, .int b] = some (.int (a - b)) := rfl
@[simp] theorem op_neg_int (a : Int) : opD .neg [.int a] = some (.int (-a)) := rfl
@[simp] theorem op_len_lst (f : Bool) (l : List D) : opD .len [.lst f l] = some (.int l.length) := rfl
@[simp] theorem op_len_tup (l : List D) : opD .len [.tup l] = some (.int l.length) := rfl
@[simp] theorem op_len_str (l : List Nat) : opD .len [.str l] = some (.int l.length) := rfl
@[simp] theorem op_abs_int (a : Int) : opD .abs [.int a] = some (.int (if a < 0 then -a else a)) := rfl
@[simp] theorem op_max_int (a b : Int) : opD .max2 [.int a, .int b] = some (.int (if b > a then b else a)) := rfl
@[simp] theorem op_min_int (a b : Int) : opD .min2 [.int a, .int b] = some (.int (if b < a then b else a)) := rfl
@[simp] theorem op_int_int (a : Int) : opD .toInt [.int a] = some (.int a) := rfl
@[simp] theorem op_int_bl (b : Bool) : opD .toInt [.bl b] = some (.int (if b then 1 else 0)) := rfl
@[simp] theorem op_isI (ks : List Nat) (d : D) : opD (.isI ks) [d] = (isD ks d).map .bl := rfl
@[simp] theorem op_cmp (c : Cmp) (a b : D) : opD (.cmp c) [a, b] = (cmpD c a b).map .bl := by cases a <;> rfl
@[simp] theorem op_all (f : Bool) (l : List D) : opD .all_ [.lst f l] = (allB l).map fun bs => .bl (bs.all id) := rfl
@[simp] theorem op_any (f : Bool) (l : List D) : opD .any_ [.lst f l] = (allB l).map fun bs => .bl (bs.any id) := rfl
@[simp] theorem op_sum (f : Bool) (l : List D) : opD .sumL [.lst f l] = (allI l).map fun ns => .int ns.sum := rfl
@[simp] theorem op_mul_int (a b : Int) : opD .mul [.int a, .int b] = if mulOk a b then some (.int (a * b)) else none := rfl
@[simp] theorem op_mod_int (a b : Int) : opD .mod [.int a, .int b] = if 0 < b then some (.int (a % b)) else none := rfl
theorem op_div_int (a b : Int) : opD .div [.int a, .int b] = if decide (0 < b) && decide (b.natAbs < 2 ^ 9000) then some (.int (a / b)) else none := rfl
@[simp] theorem op_pow_int (a b : Int) : opD .pow [.int a, .int b] = if decide (0 ≤ b) && (decide (b ≤ 1000) && decide (a.natAbs < 2 ^ 64)) then some (.int (a ^ b.toNat)) else none := rfl
@[simp] theorem op_add_str (a b : List Nat) : opD .add [.str a, .str b] = if a.length + b.length ≤ 16777216 then some (.str (a ++ b)) else none := rfl
@[simp] theorem op_str_int (a : Int) : opD .toStr [.int a] = if digOk a.natAbs then some (.str (strI a)) else none := rfl
@[simp] theorem cmp_lt (a b : Int) : cmpD .lt (.int a) (.int b) = some (decide (a < b)) := rfl
@[simp] theorem cmp_le (a b : Int) : cmpD .le (.int a) (.int b) = some (decide (a ≤ b)) := rfl
@[simp] theorem cmp_gt (a b : Int) : cmpD .gt (.int a) (.int b) = some (decide (b < a)) := rfl
@[simp] theorem cmp_ge (a b : Int) : cmpD .ge (.int a) (.int b) = some (decide (b ≤ a)) := rfl
@[simp] theorem cmp_eq (a b : D) : cmpD .eq a b = if plain 60 a && plain 60 b then some (same a b) else none := by cases a <;> rfl
@[simp] theorem cmp_ne (a b : D) : cmpD .ne a b = if plain 60 a && plain 60 b then some (!same a b) else none := by cases a <;> rfl
def isNon : D → Bool
  | .non => true
  | _ => false
@[simp] theorem isNon_non : isNon .non = true := rfl
@[simp] theorem isNon_int (i : Int) : isNon (.int i) = false := rfl
@[simp] theorem isNon_bl (i : Bool) : isNon (.bl i) = false := rfl
@[simp] theorem isNon_str (i : List Nat) : isNon (.str i) = false := rfl
@[simp] theorem isNon_tup (i : List D) : isNon (.tup i) = false := rfl
@[simp] theorem isNon_lst (f : Bool) (i : List D) : isNon (.lst f i) = false := rfl
@[simp] theorem cmp_isN (a : D) : cmpD .isN a .non = some (isNon a) := by cases a <;> rfl
@[simp] theorem cmp_notN (a : D) : cmpD .notN a .non = some (!isNon a) := by cases a <;> rfl
@[simp] theorem isD_non (ks : List Nat) : isD ks .non = some false := rfl
@[simp] theorem isD_bl (ks : List Nat) (b : Bool) : isD ks (.bl b) = some (ks.any fun k => k == 0 || k == 1) := rfl
@[simp] theorem isD_int (ks : List Nat) (b : Int) : isD ks (.int b) = some (ks.any fun k => k == 1) := rfl
@[simp] theorem isD_str (ks : List Nat) (b : List Nat) : isD ks (.str b) = some (ks.any fun k => k == 2) := rfl
@[simp] theorem isD_tup (ks : List Nat) (b : List D) : isD ks (.tup b) = some (ks.any fun k => k == 3) := rfl
@[simp] theorem isD_lst (ks : List Nat) (f : Bool) (b : List D) : isD ks (.lst f b) = some (ks.any fun k => k == 4) := rfl
@[simp] theorem plain_non (n : Nat) : plain n .non = true := by cases n <;> rfl
@[simp] theorem plain_bl (n : Nat) (b : Bool) : plain n (.bl b) = true := by cases n <;> rfl
@[simp] theorem plain_int (n : Nat) (b : Int) : plain n (.int b) = true := by cases n <;> rfl
@[simp] theorem plain_str (n : Nat) (b : List Nat) : plain n (.str b) = true := by cases n <;> rfl
@[simp] theorem plain_tup (n : Nat) (l : List D) : plain (n + 1) (.tup l) = plainL n l := rfl
@[simp] theorem plain_lst (n : Nat) (f : Bool) (l : List D) : plain (n + 1) (.lst f l) = plainL n l := rfl
@[simp] theorem plain60_tup (l : List D) : plain 60 (.tup l) = plainL 59 l := rfl
@[simp] theorem plain60_lst (f : Bool) (l : List D) : plain 60 (.lst f l) = plainL 59 l := rfl
@[simp] theorem plain59_tup (l : List D) : plain 59 (.tup l) = plainL 58 l := rfl
@[simp] theorem plain59_lst (f : Bool) (l : List D) : plain 59 (.lst f l) = plainL 58 l := rfl
@[simp] theorem plain58_tup (l : List D) : plain 58 (.tup l) = plainL 57 l := rfl
@[simp] theorem plain58_lst (f : Bool) (l : List D) : plain 58 (.lst f l) = plainL 57 l := rfl
@[simp] theorem plainL_nil (n : Nat) : plainL n [] = true := by cases n <;> rfl
@[simp] theorem plainL_cons (n : Nat) (d : D) (l : List D) : plainL n (d :: l) = (plain n d && plainL n l) := by cases n <;> rfl
@[simp] theorem same_int (a b : Int) : same (.int a) (.int b) = (a == b) := rfl
@[simp] theorem same_bl (a b : Bool) : same (.bl a) (.bl b) = (a == b) := rfl
@[simp] theorem same_str (a b : List Nat) : same (.str a) (.str b) = (a == b) := rfl
@[simp] theorem same_non : same .non .non = true := rfl
@[simp] theorem same_tup (a b : List D) : same (.tup a) (.tup b) = sameL a b := rfl
@[simp] theorem same_lst (f g : Bool) (a b : List D) : same (.lst f a) (.lst g b) = sameL a b := rfl
@[simp] theorem same_non_int (b : Int) : same .non (.int b) = false := rfl
@[simp] theorem same_int_non (b : Int) : same (.int b) .non = false := rfl
@[simp] theorem same_non_tup (b : List D) : same .non (.tup b) = false := rfl
@[simp] theorem same_tup_non (b : List D) : same (.tup b) .non = false := rfl
@[simp] theorem same_non_str (b : List Nat) : same .non (.str b) = false := rfl
@[simp] theorem same_str_non (b : List Nat) : same (.str b) .non = false := rfl
@[simp] theorem sameL_nil : sameL [] [] = true := rfl
@[simp] theorem sameL_cons (a b : D) (l m : List D) : sameL (a :: l) (b :: m) = (same a b && sameL l m) := rfl
@[simp] theorem sameL_nc (b : D) (m : List D) : sameL [] (b :: m) = false := rfl
@[simp] theorem sameL_cn (b : D) (m : List D) : sameL (b :: m) [] = false := rfl
@[simp] theorem allB_nil : allB [] = some [] := rfl
@[simp] theorem allB_cons (b : Bool) (l : List D) : allB (.bl b :: l) = (allB l).map (b :: ·) := rfl
@[simp] theorem allB_map (l : List Bool) : allB (l.map .bl) = some l := by
  induction l with
  | nil => rfl
  | cons b l ih => rw [List.map_cons, allB_cons, ih]; rfl
@[simp] theorem seqD_lst (f : Bool) (l : List D) : seqD (.lst f l) = some l := rfl
@[simp] theorem seqD_tup (l : List D) : seqD (.tup l) = some l := rfl
@[simp] theorem rootE_var (i : Nat) : rootE (.var i) = some i := rfl
@[simp] theorem rootE_mv (i : Nat) : rootE (.mv i) = none := rfl
@[simp] theorem rootE_idx (p i : E) : rootE (.idx p i) = rootE p := rfl
@[simp] theorem rootE_call (f : Nat) (es : List E) : rootE (.call f es) = none := rfl
@[simp] theorem rootE_callP (f : Nat) (es : List E) : rootE (.callP f es) = none := rfl
@[simp] theorem rootE_lst (es : List E) : rootE (.lst es) = none := rfl
@[simp] theorem rootE_tup (es : List E) : rootE (.tup es) = none := rfl
@[simp] theorem rootE_cat (a b : E) : rootE (.cat a b) = none := rfl
@[simp] theorem rootE_slHi (a b : E) : rootE (.slHi a b) = none := rfl
@[simp] theorem rootE_slLo (a b : E) : rootE (.slLo a b) = none := rfl
@[simp] theorem rootE_slc (a b c : E) : rootE (.slc a b c) = none := rfl
@[simp] theorem rootE_lit (d : D) : rootE (.lit d) = none := rfl
@[simp] theorem rootE_glb (d : D) : rootE (.glb d) = none := rfl
@[simp] theorem rootE_op (o : Op) (es : List E) : rootE (.op o es) = none := rfl
@[simp] theorem rootE_met (o : Op) (a b : E) : rootE (.met o a b) = none := rfl
@[simp] theorem rootE_split (a b : E) : rootE (.splitE a b) = none := rfl
@[simp] theorem rootE_seqOf (k : Bool) (a : E) : rootE (.seqOf k a) = none := rfl
@[simp] theorem rootE_ite (a b c : E) : rootE (.ite a b c) = none := rfl
@[simp] theorem rootE_comp (elt : E) (t : Tgt) (own : List Nat) (it : It) (cs : List E) : rootE (.comp elt t own it cs) = none := rfl
@[simp] theorem idxD_tup (l : List D) (i : Int) : idxD (.tup l) (.int i) = atD l i := rfl
@[simp] theorem idxD_str (l : List Nat) (i : Int) : idxD (.str l) (.int i) = (atD l i).map fun c => .str [c] := rfl
@[simp] theorem idxD_lst (f : Bool) (l : List D) (i : Int) : idxD (.lst f l) (.int i) = atD l i := rfl
theorem atD_nat {α : Type} (l : List α) (i : Nat) : atD l (i : Int) = l[i]? := by
  unfold atD ixD
  by_cases h : i < l.length
  · rw [if_pos (by omega), if_pos (by omega)]; simp
  · rw [if_pos (by omega), if_neg (by omega), List.getElem?_eq_none (by omega)]; rfl
@[simp] theorem atD_0 {α : Type} (a : α) (l : List α) : atD (a :: l) 0 = some a := atD_nat (a :: l) 0
@[simp] theorem atD_1 {α : Type} (a b : α) (l : List α) : atD (a :: b :: l) 1 = some b := atD_nat (a :: b :: l) 1
@[simp] theorem atD_2 {α : Type} (a b c : α) (l : List α) : atD (a :: b :: c :: l) 2 = some c := atD_nat (a :: b :: c :: l) 2
@[simp] theorem op_int_str (s : List Nat) : opD .toInt [.str s] = if s.all isDig && (decide (s ≠ []) && decide (s.length ≤ 640)) then some (.int (digV s)) else none := rfl
@[simp] theorem op_strip (a b : List Nat) : opD .strip [.str a, .str b] = some (.str (stripL b a)) := rfl
@[simp] theorem op_join (t : List Nat) (f : Bool) (l : List D) : opD .join [.str t, .lst f l] = (allS l).bind fun ys => if (ys.map (·.length)).sum + ys.length * t.length ≤ 16777216 then some (.str (joinS t ys)) else none := rfl
@[simp] theorem allS_nil : allS [] = some [] := rfl
@[simp] theorem allS_cons (s : List Nat) (l : List D) : allS (.str s :: l) = (allS l).map (s :: ·) := rfl
@[simp] theorem allS_map (l : List (List Nat)) : allS (l.map .str) = some l := by
  induction l with
  | nil => rfl
  | cons b l ih => rw [List.map_cons, allS_cons, ih]; rfl
@[simp] theorem op_find (s : List Nat) (c : Nat) : opD .find [.str s, .str [c]] = some (.int (findC c s)) := rfl
@[simp] theorem op_count (s : List Nat) (c : Nat) : opD .count [.str s, .str [c]] = some (.int (s.count c)) := rfl
@[simp] theorem op_isE (all yes : List Nat) (d : D) : opD (.isE all yes) [d] = (isEx all yes d).map .bl := by cases d <;> rfl
@[simp] theorem isEx_exc (all yes : List Nat) (k : Nat) (l : List D) : isEx all yes (.exc k l) = if all.contains k && l.isEmpty then some (yes.contains k) else none := rfl
@[simp] theorem isEx_non (all yes : List Nat) : isEx all yes .non = some false := rfl
@[simp] theorem cold_exc (k : Nat) (l : List D) : cold (.exc k l) = true := rfl
@[simp] theorem frz_exc (k : Nat) (l : List D) : frz (.exc k l) = .exc k l := rfl
@[simp] theorem isNon_exc (k : Nat) (l : List D) : isNon (.exc k l) = false := rfl
@[simp] theorem mem_str (c : Nat) (z : List Nat) : cmpD .mem (.str [c]) (.str z) = some (decide (c ∈ z)) := rfl
@[simp] theorem nmem_str (c : Nat) (z : List Nat) : cmpD .nmem (.str [c]) (.str z) = some (!decide (c ∈ z)) := rfl
/-! ### terms -/
section
variable (cl : Nat → List D → ROut)
@[simp] theorem ev_lit (d : D) (b : Bool) (g : Env) : ev cl (.lit d) b g = .ok (d, g) := by rw [ev]
@[simp] theorem ev_glb (d : D) (b : Bool) (g : Env) : ev cl (.glb d) b g = .ok (d, g) := by rw [ev]
/-- a slot read -/
def varR (o : Option (Option D)) (i : Nat) (b : Bool) (g : Env) : Out (D × Env) := match o with
  | some (some d) => if b || cold d then .ok (d, g) else .ok (frz d, g.set i (some (frz d)))
  | _ => .bad
@[simp] theorem varR_some (d : D) (i : Nat) (b : Bool) (g : Env) : varR (some (some d)) i b g = if b || cold d then .ok (d, g) else .ok (frz d, g.set i (some (frz d))) := rfl
@[simp] theorem ev_var (i : Nat) (b : Bool) (g : Env) : ev cl (.var i) b g = varR g[i]? i b g := by rw [ev]; rfl
def mvR (o : Option (Option D)) (i : Nat) (g : Env) : Out (D × Env) := match o with
  | some (some d) => .ok (d, g.set i none)
  | _ => .bad
@[simp] theorem mvR_some (d : D) (i : Nat) (g : Env) : mvR (some (some d)) i g = .ok (d, g.set i none) := rfl
@[simp] theorem ev_mv (i : Nat) (b : Bool) (g : Env) : ev cl (.mv i) b g = mvR g[i]? i g := by rw [ev]; rfl
@[simp] theorem ev_op (o : Op) (es : List E) (b : Bool) (g : Env) : ev cl (.op o es) b g = (evs cl es true g).bind fun r => (Out.of (opD o r.1)).bind fun d => .ok (d, r.2) := by rw [ev]
def notR (d : D) (g : Env) : Out (D × Env) := match d with
  | .bl b => .ok (.bl (!b), g)
  | _ => .bad
@[simp] theorem notR_bl (b : Bool) (g : Env) : notR (.bl b) g = .ok (.bl (!b), g) := rfl
@[simp] theorem ev_not (a : E) (b : Bool) (g : Env) : ev cl (.notE a) b g = (ev cl a false g).bind fun r => notR r.1 r.2 := by rw [ev]; rfl
@[simp] theorem ev_and (es : List E) (b : Bool) (g : Env) : ev cl (.andE es) b g = evAnd cl es g := by rw [ev]
@[simp] theorem ev_or (es : List E) (b : Bool) (g : Env) : ev cl (.orE es) b g = evOr cl es g := by rw [ev]
/-- on a truth value -/
def onB {α : Type} (bad : α) (d : D) (x y : α) : α := match d with
  | .bl true => x
  | .bl false => y
  | _ => bad
@[simp] theorem onB_true {α : Type} (bad x y : α) : onB bad (.bl true) x y = x := rfl
@[simp] theorem onB_false {α : Type} (bad x y : α) : onB bad (.bl false) x y = y := rfl
theorem onB_bl {α : Type} (bad x y : α) (b : Bool) : onB bad (.bl b) x y = if b then x else y := by cases b <;> rfl
@[simp] theorem ev_ite (c a a' : E) (b : Bool) (g : Env) : ev cl (.ite c a a') b g = (ev cl c false g).bind fun r => onB .bad r.1 (ev cl a false r.2) (ev cl a' false r.2) := by
  rw [ev]
  congr 1
@[simp] theorem evAnd_one (e : E) (g : Env) : evAnd cl [e] g = ev cl e false g := by
  rw [evAnd]
  cases ev cl e false g <;> rfl
@[simp] theorem evAnd_cons (e e' : E) (es : List E) (g : Env) : evAnd cl (e :: e' :: es) g = (ev cl e false g).bind fun r => onB .bad r.1 (evAnd cl (e' :: es) r.2) (.ok (.bl false, r.2)) := by
  rw [evAnd]
  congr 1
  funext r
  obtain ⟨d, g1⟩ := r
  cases d with
  | bl b => cases b <;> rfl
  | _ => rfl
@[simp] theorem evOr_one (e : E) (g : Env) : evOr cl [e] g = ev cl e false g := by
  rw [evOr]
  cases ev cl e false g <;> rfl
@[simp] theorem evOr_cons (e e' : E) (es : List E) (g : Env) : evOr cl (e :: e' :: es) g = (ev cl e false g).bind fun r => onB .bad r.1 (.ok (.bl true, r.2)) (evOr cl (e' :: es) r.2) := by
  rw [evOr]
  congr 1
  funext r
  obtain ⟨d, g1⟩ := r
  cases d with
  | bl b => cases b <;> rfl
  | _ => rfl
def onO {α : Type} (bad : α) (o : Option Bool) (x y : α) : α := match o with
  | some true => x
  | some false => y
  | none => bad
@[simp] theorem onO_true {α : Type} (bad x y : α) : onO bad (some true) x y = x := rfl
@[simp] theorem onO_false {α : Type} (bad x y : α) : onO bad (some false) x y = y := rfl
theorem onO_some {α : Type} (bad x y : α) (b : Bool) : onO bad (some b) x y = if b then x else y := by cases b <;> rfl
def blR (o : Option Bool) (g : Env) : Out (D × Env) := match o with
  | some r => .ok (.bl r, g)
  | none => .bad
@[simp] theorem blR_some (r : Bool) (g : Env) : blR (some r) g = .ok (.bl r, g) := rfl
@[simp] theorem ev_chain (o o' : Cmp) (a b c : E) (bb : Bool) (g : Env) : ev cl (.chain o o' a b c) bb g = (ev cl a true g).bind fun r => (ev cl b true r.2).bind fun s => onO .bad (cmpD o r.1 s.1) ((ev cl c true s.2).bind fun t => blR (cmpD o' s.1 t.1) t.2) (.ok (.bl false, s.2)) := by
  rw [ev]
  rfl
def idxP (o : Option D) (ro : Option Nat) (b : Bool) (g : Env) : Out (D × Env) := match o with
  | some d => if cold d then .ok (d, g) else (match ro with
    | some r => if hotS g r then (if b then .ok (d, g) else .ok (frz d, frzS g r)) else .bad
    | none => .ok (d, g))
  | none => .bad
theorem idxP_cold (d : D) (ro : Option Nat) (b : Bool) (g : Env) (h : cold d = true) : idxP (some d) ro b g = .ok (d, g) := if_pos h
@[simp] theorem idxP_int (i : Int) (ro : Option Nat) (b : Bool) (g : Env) : idxP (some (.int i)) ro b g = .ok (.int i, g) := rfl
@[simp] theorem idxP_str (i : List Nat) (ro : Option Nat) (b : Bool) (g : Env) : idxP (some (.str i)) ro b g = .ok (.str i, g) := rfl
@[simp] theorem idxP_bl (i : Bool) (ro : Option Nat) (b : Bool) (g : Env) : idxP (some (.bl i)) ro b g = .ok (.bl i, g) := rfl
@[simp] theorem idxP_non (ro : Option Nat) (b : Bool) (g : Env) : idxP (some .non) ro b g = .ok (.non, g) := rfl
@[simp] theorem idxP_tup (l : List D) (ro : Option Nat) (b : Bool) (g : Env) : idxP (some (.tup l)) ro b g = if coldL l then .ok (.tup l, g) else idxP (some (.tup l)) ro b g := by
  by_cases h : coldL l = true
  · rw [if_pos h]; exact idxP_cold _ _ _ _ h
  · rw [if_neg h]
@[simp] theorem ev_idx' (p i : E) (b : Bool) (g : Env) : ev cl (.idx p i) b g = (ev cl p (rootE p).isSome g).bind fun r => (ev cl i true r.2).bind fun s => idxP (idxD r.1 s.1) (rootE p) b s.2 := by
  rw [ev]
  rfl
@[simp] theorem ev_tup (es : List E) (b : Bool) (g : Env) : ev cl (.tup es) b g = (evs cl es false g).bind fun r => .ok (.tup r.1, r.2) := by rw [ev]
@[simp] theorem ev_lst (es : List E) (b : Bool) (g : Env) : ev cl (.lst es) b g = (evs cl es false g).bind fun r => .ok (.lst true r.1, r.2) := by rw [ev]
def catR (ra rb : Bool) (x y : D) (g : Env) : Out (D × Env) := match x, y with
  | .lst _ l, .lst _ m => if fitsL (l ++ m) && ((ra || coldL l) && (rb || coldL m)) then .ok (.lst true (l ++ m), g) else .bad
  | _, _ => .bad
@[simp] theorem catR_lst (ra rb f f' : Bool) (l m : List D) (g : Env) : catR ra rb (.lst f l) (.lst f' m) g = if fitsL (l ++ m) && ((ra || coldL l) && (rb || coldL m)) then .ok (.lst true (l ++ m), g) else .bad := rfl
@[simp] theorem ev_cat (a a' : E) (b : Bool) (g : Env) : ev cl (.cat a a') b g = (ev cl a (rootE a).isSome g).bind fun r => (ev cl a' (rootE a').isSome r.2).bind fun s => catR (rootE a).isNone (rootE a').isNone r.1 s.1 s.2 := by
  rw [ev]
  rfl
def intR {α : Type} (d : D) (f : Int → Out α) : Out α := match d with
  | .int i => f i
  | _ => .bad
@[simp] theorem intR_int {α : Type} (i : Int) (f : Int → Out α) : intR (.int i) f = f i := rfl
@[simp] theorem sliceR_lst (f : Bool) (l : List D) (lo hi : Option Int) (g : Env) : sliceR (.lst f l) lo hi g = if coldL l then .ok (.lst true (cutL l lo hi), g) else .bad := rfl
@[simp] theorem sliceR_str (s : List Nat) (lo hi : Option Int) (g : Env) : sliceR (.str s) lo hi g = .ok (.str (cutL s lo hi), g) := rfl
@[simp] theorem ev_slHi (p h : E) (b : Bool) (g : Env) : ev cl (.slHi p h) b g = (ev cl p true g).bind fun r => (ev cl h false r.2).bind fun s => intR s.1 fun j => sliceR r.1 none (some j) s.2 := by
  rw [ev]
  rfl
@[simp] theorem ev_slLo (p h : E) (b : Bool) (g : Env) : ev cl (.slLo p h) b g = (ev cl p true g).bind fun r => (ev cl h false r.2).bind fun s => intR s.1 fun j => sliceR r.1 (some j) none s.2 := by
  rw [ev]
  rfl
@[simp] theorem ev_slc (p lo hi : E) (b : Bool) (g : Env) : ev cl (.slc p lo hi) b g = (ev cl p true g).bind fun r => (ev cl lo false r.2).bind fun s => intR s.1 fun i => (ev cl hi false s.2).bind fun t => intR t.1 fun j => sliceR r.1 (some i) (some j) t.2 := by
  rw [ev]
  rfl
def callR (o : ROut) (g : Env) : Out (D × Env) := match o with
  | .ok d [] => .ok (d, g)
  | .exc k l => .exc k l g
  | _ => .bad
@[simp] theorem callR_ok (d : D) (g : Env) : callR (.ok d []) g = .ok (d, g) := rfl
@[simp] theorem callR_exc (k : Nat) (l : List D) (g : Env) : callR (.exc k l) g = .exc k l g := rfl
@[simp] theorem ev_call (f : Nat) (es : List E) (b : Bool) (g : Env) : ev cl (.call f es) b g = (evs cl es false g).bind fun r => callR (cl f (frzL r.1)) r.2 := by
  rw [ev]
  rfl
def callPR (o : ROut) (g : Env) : Out (D × Env) := match o with
  | .ok d [] => if flat d then .ok (d, g) else .bad
  | .exc k l => .exc k l g
  | _ => .bad
@[simp] theorem callPR_ok (d : D) (g : Env) : callPR (.ok d []) g = if flat d then .ok (d, g) else .bad := rfl
@[simp] theorem callPR_exc (k : Nat) (l : List D) (g : Env) : callPR (.exc k l) g = .exc k l g := rfl
@[simp] theorem ev_callP (f : Nat) (es : List E) (b : Bool) (g : Env) : ev cl (.callP f es) b g = (evs cl es true g).bind fun r => callPR (cl f (frzL r.1)) r.2 := by
  rw [ev]
  rfl
def compR (o : Out (List D × Env)) (l : List D) (own h : List Nat) (g1 : Env) : Out (D × Env) := match o with
  | .ok (xs, g2) => if fitsL l then .ok (.lst true xs, wipeS (backS g1 h (wipeS g2 own)) own) else .bad
  | _ => .bad
@[simp] theorem compR_ok (xs l : List D) (own h : List Nat) (g1 g2 : Env) : compR (.ok (xs, g2)) l own h g1 = if fitsL l then .ok (.lst true xs, wipeS (backS g1 h (wipeS g2 own)) own) else .bad := rfl
@[simp] theorem ev_comp (elt : E) (t : Tgt) (own : List Nat) (it : It) (cs : List E) (b : Bool) (g : Env) : ev cl (.comp elt t own it cs) b g = (evIt cl it g).bind fun r => compR (compL t own (fun g => evT cl cs g) (fun g => ev cl elt false g) r.1 (wipeS (wipeS r.2.1 r.2.2) own)) r.1 own r.2.2 r.2.1 := by
  rw [ev]
  rfl
def strR {α : Type} (d : D) (f : List Nat → Out α) : Out α := match d with
  | .str s => f s
  | _ => .bad
@[simp] theorem strR_str {α : Type} (s : List Nat) (f : List Nat → Out α) : strR (.str s) f = f s := rfl
@[simp] theorem ev_met (o : Op) (a a' : E) (b : Bool) (g : Env) : ev cl (.met o a a') b g = (ev cl a true g).bind fun r => strR r.1 fun s => (ev cl a' true r.2).bind fun t => (Out.of (opD o [.str s, t.1])).bind fun d => .ok (d, t.2) := by
  rw [ev]
  rfl
@[simp] theorem ev_split (a a' : E) (b : Bool) (g : Env) : ev cl (.splitE a a') b g = (ev cl a true g).bind fun r => strR r.1 fun s => (ev cl a' true r.2).bind fun t => strR t.1 fun u => if decide (u ≠ []) && (u.all (fun c => decide (c < 256)) && decide (s.length + 2 ≤ 16777216)) then .ok (.lst true ((splL u 0 [] s).map .str), t.2) else .bad := by
  rw [ev]
  rfl
def seqR' (k r : Bool) (o : Option (List D)) (g : Env) : Out (D × Env) := match o with
  | some l => if r || coldL l then .ok (if k then .tup l else .lst true l, g) else .bad
  | none => .bad
@[simp] theorem seqR'_some (k r : Bool) (l : List D) (g : Env) : seqR' k r (some l) g = if r || coldL l then .ok (if k then .tup l else .lst true l, g) else .bad := rfl
@[simp] theorem ev_seqOf (k : Bool) (a : E) (b : Bool) (g : Env) : ev cl (.seqOf k a) b g = (ev cl a (rootE a).isSome g).bind fun r => seqR' k (rootE a).isNone (seqD r.1) r.2 := by
  rw [ev]
  rfl
@[simp] theorem evT_nil (g : Env) : evT cl [] g = .ok (true, g) := by rw [evT]
def boolR (d : D) (g : Env) : Out (Bool × Env) := match d with
  | .bl b => .ok (b, g)
  | _ => .bad
@[simp] theorem boolR_bl (b : Bool) (g : Env) : boolR (.bl b) g = .ok (b, g) := rfl
@[simp] theorem evT_one (c : E) (g : Env) : evT cl [c] g = (ev cl c false g).bind fun r => boolR r.1 r.2 := by
  rw [evT]
  rfl
@[simp] theorem evs_nil (b : Bool) (g : Env) : evs cl [] b g = .ok ([], g) := by rw [evs]
@[simp] theorem evs_cons (e : E) (es : List E) (b : Bool) (g : Env) : evs cl (e :: es) b g = (ev cl e b g).bind fun r => (evs cl es b r.2).bind fun s => .ok (r.1 :: s.1, s.2) := by rw [evs]
/-! ### iterables -/
def ofR (ro : Option Nat) (d : D) (g : Env) : Out (List D × Env × List Nat) := match d with
  | .str s => .ok (s.map fun c => .str [c], g, [])
  | .lst f l => Out.of (holdIt ro (.lst f l) l g)
  | .tup l => Out.of (holdIt ro (.tup l) l g)
  | _ => .bad
@[simp] theorem ofR_str (ro : Option Nat) (s : List Nat) (g : Env) : ofR ro (.str s) g = .ok (s.map fun c => .str [c], g, []) := rfl
@[simp] theorem ofR_lst (ro : Option Nat) (f : Bool) (l : List D) (g : Env) : ofR ro (.lst f l) g = Out.of (holdIt ro (.lst f l) l g) := rfl
@[simp] theorem ofR_tup (ro : Option Nat) (l : List D) (g : Env) : ofR ro (.tup l) g = Out.of (holdIt ro (.tup l) l g) := rfl
@[simp] theorem ev_it_of (e : E) (g : Env) : evIt cl (.of e) g = (ev cl e (rootE e).isSome g).bind fun r => ofR (rootE e) r.1 r.2 := by
  rw [evIt]
  rfl
@[simp] theorem ev_it_rng1 (a : E) (g : Env) : evIt cl (.rng1 a) g = (ev cl a false g).bind fun r => intR r.1 fun n => if small62 n then .ok (rngL 0 n.toNat, r.2, []) else .bad := by
  rw [evIt]
  rfl
def rng2R (x y : D) (g : Env) : Out (List D × Env × List Nat) := match x, y with
  | .int i, .int j => if small62 i && small62 j then .ok (rngL i (j - i).toNat, g, []) else .bad
  | _, _ => .bad
@[simp] theorem rng2R_int (i j : Int) (g : Env) : rng2R (.int i) (.int j) g = if small62 i && small62 j then .ok (rngL i (j - i).toNat, g, []) else .bad := rfl
@[simp] theorem ev_it_rng2 (a b : E) (g : Env) : evIt cl (.rng2 a b) g = (ev cl a false g).bind fun r => (ev cl b false r.2).bind fun s => rng2R r.1 s.1 s.2 := by
  rw [evIt]
  rfl
def rng3R (x y z : D) (g : Env) : Out (List D × Env × List Nat) := match x, y, z with
  | .int i, .int j, .int k => if small62 i && small62 j && (decide (k ≠ 0) && decide (k.natAbs < 2 ^ 30)) then .ok (rngC i k (rngN i j k), g, []) else .bad
  | _, _, _ => .bad
@[simp] theorem rng3R_int (i j k : Int) (g : Env) : rng3R (.int i) (.int j) (.int k) g = if small62 i && small62 j && (decide (k ≠ 0) && decide (k.natAbs < 2 ^ 30)) then .ok (rngC i k (rngN i j k), g, []) else .bad := rfl
@[simp] theorem ev_it_rng3 (a b c : E) (g : Env) : evIt cl (.rng3 a b c) g = (ev cl a false g).bind fun r => (ev cl b false r.2).bind fun s => (ev cl c false s.2).bind fun t => rng3R r.1 s.1 t.1 t.2 := by
  rw [evIt]
  rfl
def lstR {α : Type} (d : D) (f : Bool → List D → Out α) : Out α := match d with
  | .lst b l => f b l
  | _ => .bad
@[simp] theorem lstR_lst {α : Type} (b : Bool) (l : List D) (f : Bool → List D → Out α) : lstR (.lst b l) f = f b l := rfl
@[simp] theorem ev_it_enum (e : E) (g : Env) : evIt cl (.enum e) g = (ev cl e (rootE e).isSome g).bind fun r => lstR r.1 fun f l => (Out.of (holdIt (rootE e) (.lst f l) l r.2)).bind fun s => .ok (enumL 0 s.1, s.2.1, s.2.2) := by
  rw [evIt]
  rfl
@[simp] theorem ev_it_rev (e : E) (g : Env) : evIt cl (.rev e) g = (ev cl e (rootE e).isSome g).bind fun r => lstR r.1 fun f l => (Out.of (holdIt (rootE e) (.lst f l) l r.2)).bind fun s => .ok (s.1.reverse, s.2.1, s.2.2) := by
  rw [evIt]
  rfl
def zipR (x y : D) (g : Env) : Out (List D × Env × List Nat) := match x, y with
  | .lst _ l, .lst _ m => .ok (zipL (frzL l) (frzL m), g, [])
  | .tup l, .tup m => .ok (zipL (frzL l) (frzL m), g, [])
  | _, _ => .bad
@[simp] theorem zipR_lst (f f' : Bool) (l m : List D) (g : Env) : zipR (.lst f l) (.lst f' m) g = .ok (zipL (frzL l) (frzL m), g, []) := rfl
@[simp] theorem zipR_tup (l m : List D) (g : Env) : zipR (.tup l) (.tup m) g = .ok (zipL (frzL l) (frzL m), g, []) := rfl
@[simp] theorem ev_it_zip (a b : E) (g : Env) : evIt cl (.zip a b) g = (ev cl a false g).bind fun r => (ev cl b false r.2).bind fun s => zipR r.1 s.1 s.2 := by
  rw [evIt]
  rfl
@[simp] theorem holdIt_none (d : D) (l : List D) (g : Env) : holdIt none d l g = some (frzL l, g, []) := rfl
theorem holdIt_cold (r : Nat) (d : D) (l : List D) (g : Env) (h : cold d = true) : holdIt (some r) d l g = some (l, g, []) := if_pos h
@[simp] theorem holdIt_lst (r : Nat) (l : List D) (g : Env) : holdIt (some r) (.lst false l) l g = some (l, g, []) := rfl
@[simp] theorem holdIt_hot (r : Nat) (l : List D) (g : Env) : holdIt (some r) (.lst true l) l g = if hotS g r then (if coldL l then some (l, g, [r]) else some (frzL l, frzS g r, [])) else none := rfl
/-! ### statements -/
variable (w : Nat)
@[simp] theorem evSs_nil (g : Env) : evSs cl w [] g = .next g := by rw [evSs]
def seqR (o : SOut) (f : Env → SOut) : SOut := match o with
  | .next g => f g
  | o => o
@[simp] theorem seqR_next (g : Env) (f : Env → SOut) : seqR (.next g) f = f g := rfl
@[simp] theorem seqR_ret (d : D) (g : Env) (f : Env → SOut) : seqR (.ret d g) f = .ret d g := rfl
@[simp] theorem seqR_brk (g : Env) (f : Env → SOut) : seqR (.brk g) f = .brk g := rfl
@[simp] theorem seqR_cont (g : Env) (f : Env → SOut) : seqR (.cont g) f = .cont g := rfl
@[simp] theorem seqR_exc (k : Nat) (l : List D) (g : Env) (f : Env → SOut) : seqR (.exc k l g) f = .exc k l g := rfl
@[simp] theorem evSs_cons (s : S) (r : List S) (g : Env) : evSs cl w (s :: r) g = seqR (evS cl w s g) fun g => evSs cl w r g := by
  rw [evSs]
  rfl
@[simp] theorem ev_s_set (i : Nat) (e : E) (g : Env) : evS cl w (.set i e) g = SOut.ofE (ev cl e false g) fun r => .next (r.2.set i (some r.1)) := by rw [evS]
def asgR (o : Option Env) (f : Env → SOut) : SOut := match o with
  | some g => f g
  | none => .bad
@[simp] theorem asgR_some (g : Env) (f : Env → SOut) : asgR (some g) f = f g := rfl
@[simp] theorem ev_s_unp (t : Tgt) (e : E) (g : Env) : evS cl w (.unp t e) g = SOut.ofE (ev cl e false g) fun r => asgR (asg t r.1 r.2) .next := by
  rw [evS]
  rfl
@[simp] theorem ev_s_par (i j : Nat) (a b : E) (g : Env) : evS cl w (.par i j a b) g = SOut.ofE (ev cl a false g) fun r => SOut.ofE (ev cl b false r.2) fun s => .next ((s.2.set i (some r.1)).set j (some s.1)) := by rw [evS]
def appR (o : Option (Option D)) (f : List D → SOut) : SOut := match o with
  | some (some (.lst true l)) => f l
  | _ => .bad
@[simp] theorem appR_some (l : List D) (f : List D → SOut) : appR (some (some (.lst true l))) f = f l := rfl
@[simp] theorem ev_s_app (i : Nat) (e : E) (g : Env) : evS cl w (.app i e) g = appR g[i]? fun _ => SOut.ofE (ev cl e false g) fun r => appR r.2[i]? fun l => if fitsL (l ++ [r.1]) then .next (r.2.set i (some (.lst true (l ++ [r.1])))) else .bad := by
  rw [evS]
  rfl
@[simp] theorem ev_s_ite (c : E) (a b : List S) (g : Env) : evS cl w (.ite c a b) g = SOut.ofE (ev cl c false g) fun r => onB .bad r.1 (evSs cl w a r.2) (evSs cl w b r.2) := by
  rw [evS]
  rfl
@[simp] theorem ev_s_whl (c : E) (b : List S) (g : Env) : evS cl w (.whl c b) g = whlL (fun g => ev cl c false g) (fun g => evSs cl w b g) w g := by rw [evS]
@[simp] theorem ev_s_for (t : Tgt) (it : It) (b : List S) (g : Env) : evS cl w (.for_ t it b) g = SOut.ofE (evIt cl it g) fun r => if r.2.2.all fun i => !(tgtS t ++ asgSs b).contains i then (forL t (fun g => evSs cl w b g) r.1 (wipeS r.2.1 r.2.2)).unh r.2.1 r.2.2 else .bad := by rw [evS]
@[simp] theorem ev_s_ret (e : E) (g : Env) : evS cl w (.ret e) g = SOut.ofE (ev cl e false g) fun r => .ret r.1 r.2 := by rw [evS]
@[simp] theorem ev_s_retN (g : Env) : evS cl w .retN g = .ret .non g := by rw [evS]
@[simp] theorem ev_s_brk (g : Env) : evS cl w .brk g = .brk g := by rw [evS]
@[simp] theorem ev_s_cont (g : Env) : evS cl w .cont g = .cont g := by rw [evS]
@[simp] theorem ev_s_pass (g : Env) : evS cl w .pass g = .next g := by rw [evS]
@[simp] theorem ev_s_raise (k : Nat) (g : Env) : evS cl w (.raiseC k) g = .exc k [] g := by rw [evS]
def tryR (i j : Nat) (all yes : List Nat) : SOut → SOut
  | .exc k l g1 => if all.contains k then (if yes.contains k then .next ((g1.set j (some (.exc k l))).set i none) else .exc k l g1) else .bad
  | o => o
@[simp] theorem tryR_next (i j : Nat) (all yes : List Nat) (g : Env) : tryR i j all yes (.next g) = .next g := rfl
@[simp] theorem tryR_exc (i j : Nat) (all yes : List Nat) (k : Nat) (l : List D) (g : Env) : tryR i j all yes (.exc k l g) = if all.contains k then (if yes.contains k then .next ((g.set j (some (.exc k l))).set i none) else .exc k l g) else .bad := rfl
@[simp] theorem ev_s_try (i j : Nat) (all yes : List Nat) (b : List S) (g : Env) : evS cl w (.tryK i j all yes b) g = tryR i j all yes (evSs cl w b g) := by
  rw [evS]
  cases evSs cl w b g <;> rfl
@[simp] theorem unh_next (g0 g : Env) (h : List Nat) : SOut.unh g0 h (.next g) = .next (backS g0 h g) := rfl
@[simp] theorem unh_ret (g0 g : Env) (h : List Nat) (d : D) : SOut.unh g0 h (.ret d g) = .ret d g := rfl
end
@[simp] theorem wipeS_nil (g : Env) : wipeS g [] = g := rfl
@[simp] theorem wipeS_cons (g : Env) (i : Nat) (r : List Nat) : wipeS g (i :: r) = (wipeS g r).set i none := rfl
@[simp] theorem backS_nil (g0 g : Env) : backS g0 [] g = g := rfl
def optJ (o : Option (Option D)) : Option D := match o with
  | some x => x
  | none => none
@[simp] theorem optJ_some (x : Option D) : optJ (some x) = x := rfl
@[simp] theorem backS_cons (g0 g : Env) (i : Nat) (r : List Nat) : backS g0 (i :: r) g = (backS g0 r g).set i (optJ g0[i]?) := rfl
@[simp] theorem asg_nm (i : Nat) (d : D) (g : Env) : asg (.nm i) d g = some (g.set i (some d)) := rfl
@[simp] theorem asg_tp (ts : List Tgt) (ds : List D) (g : Env) : asg (.tp ts) (.tup ds) g = asgL ts ds g := rfl
@[simp] theorem asgL_nil (g : Env) : asgL [] [] g = some g := rfl
@[simp] theorem asgL_cons (t : Tgt) (ts : List Tgt) (d : D) (ds : List D) (g : Env) : asgL (t :: ts) (d :: ds) g = (asg t d g).bind fun g' => asgL ts ds g' := by
  rw [asgL]
  cases asg t d g <;> rfl
@[simp] theorem finish_0 (d : D) (g : Env) : finish 0 d g = .ok d [] := rfl
/-- a def's end -/
def endR (F : Fn) (o : SOut) : ROut := match o with
  | .next g => finish F.io .non g
  | .ret d g => finish F.io d g
  | .exc k l _ => .exc k l
  | _ => .bad
@[simp] theorem endR_ret (F : Fn) (d : D) (g : Env) : endR F (.ret d g) = finish F.io d g := rfl
@[simp] theorem endR_exc (F : Fn) (k : Nat) (l : List D) (g : Env) : endR F (.exc k l g) = .exc k l := rfl
@[simp] theorem endR_next (F : Fn) (g : Env) : endR F (.next g) = finish F.io .non g := rfl
theorem run_eq (w : Nat) (fs : List Fn) (n f : Nat) (ds : List D) (F : Fn) (h : fs[f]? = some F) (l : ds.length = F.par) : run w fs (n + 1) f ds = endR F (evSs (run w fs n) w F.body (ds.map some ++ List.replicate (F.slots - F.par) none)) := by
  rw [run, h]
  exact if_pos l
/-! ### loops -/
/-- one turn -/
def turn (t : Tgt) (f : Env → SOut) (d : D) (g : Env) : SOut := asgR (asg t d g) f
@[simp] theorem turn_eq (t : Tgt) (f : Env → SOut) (d : D) (g : Env) : turn t f d g = asgR (asg t d g) f := rfl
theorem forL_nil (t : Tgt) (f : Env → SOut) (g : Env) : forL t f [] g = .next g := rfl
theorem forL_cons (t : Tgt) (f : Env → SOut) (d : D) (r : List D) (g : Env) : forL t f (d :: r) g = (match asg t d g with
    | none => .bad
    | some g1 => match f g1 with
      | .next g2 => forL t f r g2
      | .cont g2 => forL t f r g2
      | .brk g2 => .next g2
      | o => o) := rfl
theorem forL_step {t : Tgt} {f : Env → SOut} {d : D} {r : List D} {g g' : Env} (h : turn t f d g = .next g' ∨ turn t f d g = .cont g') : forL t f (d :: r) g = forL t f r g' := by
  unfold turn at h
  rw [forL_cons]
  cases e : asg t d g with
  | none => rw [e] at h; rcases h with h | h <;> cases h
  | some g1 =>
    rw [e] at h
    have h : f g1 = .next g' ∨ f g1 = .cont g' := h
    rcases h with h | h <;> simp only [h]
theorem forL_ret {t : Tgt} {f : Env → SOut} {d x : D} {r : List D} {g g' : Env} (h : turn t f d g = .ret x g') : forL t f (d :: r) g = .ret x g' := by
  unfold turn at h
  rw [forL_cons]
  cases e : asg t d g with
  | none => rw [e] at h; cases h
  | some g1 =>
    rw [e] at h
    have h : f g1 = .ret x g' := h
    simp only [h]
theorem forL_brk {t : Tgt} {f : Env → SOut} {d : D} {r : List D} {g g' : Env} (h : turn t f d g = .brk g') : forL t f (d :: r) g = .next g' := by
  unfold turn at h
  rw [forL_cons]
  cases e : asg t d g with
  | none => rw [e] at h; cases h
  | some g1 =>
    rw [e] at h
    have h : f g1 = .brk g' := h
    simp only [h]
/-- every turn goes on -/
theorem forL_all {t : Tgt} {f : Env → SOut} (P : Env → Prop) : ∀ {l : List D} {g : Env}, P g → (∀ d ∈ l, ∀ g, P g → ∃ g', (turn t f d g = .next g' ∨ turn t f d g = .cont g') ∧ P g') → ∃ g', forL t f l g = .next g' ∧ P g'
  | [], g, h, _ => ⟨g, rfl, h⟩
  | d :: l, g, h, k => by
    obtain ⟨g', e, h'⟩ := k d List.mem_cons_self g h
    rw [forL_step e]
    exact forL_all P h' fun d hd => k d (List.mem_cons_of_mem _ hd)
/-- the same, by the count of turns -/
theorem forL_inv {t : Tgt} {f : Env → SOut} {l : List D} (P : Nat → Env → Prop) {g : Env} (h : P 0 g) (k : ∀ i d g, l[i]? = some d → P i g → ∃ g', (turn t f d g = .next g' ∨ turn t f d g = .cont g') ∧ P (i + 1) g') : ∃ g', forL t f l g = .next g' ∧ P l.length g' := by
  have go : ∀ (m : List D) (j : Nat) (g : Env), j + m.length = l.length → (∀ i, m[i]? = l[j + i]?) → P j g → ∃ g', forL t f m g = .next g' ∧ P l.length g' := by
    intro m
    induction m with
    | nil =>
      intro j g e _ p
      exact ⟨g, rfl, by have : j = l.length := by simpa using e
                        rw [← this]; exact p⟩
    | cons d m ih =>
      intro j g e q p
      have q0 := q 0
      simp at q0
      obtain ⟨g', e', p'⟩ := k j d g q0.symm p
      rw [forL_step e']
      refine ih (j + 1) g' (by simp at e; omega) (fun i => ?_) p'
      have := q (i + 1)
      simp at this
      rw [this]
      congr 1
      omega
  exact go l 0 g (by simp) (by intro i; simp) h
/-- a comprehension whose turns are told one by one -/
theorem compL_all {t : Tgt} {own : List Nat} {c : Env → Out (Bool × Env)} {f : Env → Out (D × Env)} (g : Env) (v : D → D) : ∀ {l : List D}, (∀ d ∈ l, ∃ g1 g2 g3, asg t d g = some g1 ∧ c g1 = .ok (true, g2) ∧ f g2 = .ok (v d, g3) ∧ wipeS g3 own = g) → compL t own c f l g = .ok (l.map v, g)
  | [], _ => rfl
  | d :: l, k => by
    obtain ⟨g1, g2, g3, e1, e2, e3, e4⟩ := k d List.mem_cons_self
    unfold compL
    rw [e1]
    simp only [e2, e3, e4]
    rw [compL_all g v fun d hd => k d (List.mem_cons_of_mem _ hd)]
    rfl
/-! ### bounds -/
theorem mulOk_l {a b : Int} (h : a.natAbs < 2 ^ 64) : mulOk a b = true := by unfold mulOk; rw [decide_eq_true h]; rfl
theorem mulOk_r {a b : Int} (h : b.natAbs < 2 ^ 64) : mulOk a b = true := by unfold mulOk; rw [decide_eq_true h]; simp
theorem div_ok {a b : Int} (h : 0 < b) (h2 : b.natAbs < 2 ^ 64) : opD .div [.int a, .int b] = some (.int (a / b)) := by
  rw [op_div_int, decide_eq_true h, decide_eq_true (Nat.lt_of_lt_of_le h2 (Nat.pow_le_pow_right (by decide) (by decide)))]
  rfl
theorem coldL_ints (ns : List Int) : coldL (ns.map D.int) = true := by
  induction ns with
  | nil => rfl
  | cons n ns ih => simp [ih]
theorem frzL_ints (ns : List Int) : frzL (ns.map D.int) = ns.map D.int := by
  induction ns with
  | nil => rfl
  | cons n ns ih => simp [ih]
theorem cutL_map {α β : Type} (f : α → β) (l : List α) (lo hi : Option Int) : cutL (l.map f) lo hi = (cutL l lo hi).map f := by
  unfold cutL
  rw [List.length_map, List.map_take, List.map_drop]
theorem cutL_hi {α : Type} (l : List α) (k : Nat) : cutL l none (some (k : Int)) = l.take k := by
  have e : cutI l.length l.length (some (k : Int)) = min k l.length := by
    show (if (k : Int) < 0 then ((k : Int) + (l.length : Int)).toNat else min (k : Int).toNat l.length) = _
    rw [if_neg (by omega)]
    simp
  unfold cutL
  rw [e]
  show (l.drop 0).take (min k l.length - 0) = _
  rw [List.drop_zero, Nat.sub_zero]
  by_cases h : k ≤ l.length
  · rw [Nat.min_eq_left h]
  · rw [Nat.min_eq_right (by omega), List.take_of_length_le (Nat.le_refl _), List.take_of_length_le (by omega)]
theorem enumL_at : ∀ (k : Nat) (l : List D) (i : Nat) {d : D}, (enumL k l)[i]? = some d → ∃ x, l[i]? = some x ∧ d = .tup [.int ((k + i : Nat) : Int), x]
  | _, [], i, _, h => by simp [enumL] at h
  | k, a :: l, 0, d, h => by
    simp [enumL] at h
    exact ⟨a, rfl, by rw [← h]; rfl⟩
  | k, a :: l, i + 1, d, h => by
    obtain ⟨x, h1, h2⟩ := enumL_at (k + 1) l i (d := d) h
    refine ⟨x, h1, ?_⟩
    rw [h2]
    congr 3
    omega
theorem rngL_at : ∀ (lo : Int) (n i : Nat) {d : D}, (rngL lo n)[i]? = some d → i < n ∧ d = .int (lo + i)
  | _, 0, i, _, h => by simp [rngL] at h
  | lo, n + 1, 0, d, h => by
    simp [rngL] at h
    exact ⟨by omega, by rw [← h]; simp⟩
  | lo, n + 1, i + 1, d, h => by
    obtain ⟨h1, h2⟩ := rngL_at (lo + 1) n i (d := d) h
    refine ⟨by omega, ?_⟩
    rw [h2]
    congr 1
    omega
/-! ### while -/
theorem whlL_go {c : Env → Out (D × Env)} {f : Env → SOut} {n : Nat} {g g1 g2 : Env} (h : c g = .ok (.bl true, g1)) (h2 : f g1 = .next g2 ∨ f g1 = .cont g2) : whlL c f (n + 1) g = whlL c f n g2 := by
  unfold whlL
  rw [h]
  rcases h2 with h2 | h2 <;> simp only [h2] <;> (cases n <;> rfl)
theorem whlL_end {c : Env → Out (D × Env)} {f : Env → SOut} {n : Nat} {g g1 : Env} (h : c g = .ok (.bl false, g1)) : whlL c f (n + 1) g = .next g1 := by
  unfold whlL
  rw [h]
/-- the loop that finds the greatest common part -/
theorem gcd_whl {c : Env → Out (D × Env)} {f : Env → SOut} (st : Nat → Nat → Env → Prop) (h0 : ∀ a g, st a 0 g → c g = .ok (.bl false, g)) (h1 : ∀ a b g, 0 < b → st a b g → c g = .ok (.bl true, g) ∧ ∃ g', f g = .next g' ∧ st b (a % b) g') :
    ∀ (k a b : Nat) (g : Env) (m : Nat), b < 2 ^ k → st a b g → ∃ g', whlL c f (m + 2 * k + 1) g = .next g' ∧ st (Nat.gcd a b) 0 g' := by
  intro k
  induction k with
  | zero =>
    intro a b g m hb s
    have : b = 0 := by simpa using hb
    subst this
    rw [Nat.gcd_zero_right]
    exact ⟨g, whlL_end (h0 a g s), s⟩
  | succ k ih =>
    intro a b g m hb s
    by_cases e : b = 0
    · subst e
      rw [Nat.gcd_zero_right]
      exact ⟨g, whlL_end (h0 a g s), s⟩
    · obtain ⟨c1, g1, f1, s1⟩ := h1 a b g (by omega) s
      have e1 : m + 2 * (k + 1) + 1 = (m + 2 * k + 2) + 1 := by omega
      rw [e1, whlL_go c1 (.inl f1)]
      have gg : Nat.gcd a b = Nat.gcd b (a % b) := by rw [Nat.gcd_comm a b, Nat.gcd_rec b a, Nat.gcd_comm]
      by_cases e2 : a % b = 0
      · rw [e2] at s1
        rw [gg, e2, Nat.gcd_zero_right]
        exact ⟨g1, whlL_end (h0 b g1 s1), s1⟩
      · obtain ⟨c2, g2, f2, s2⟩ := h1 b (a % b) g1 (by omega) s1
        rw [show m + 2 * k + 2 = (m + 2 * k + 1) + 1 by omega, whlL_go c2 (.inl f2)]
        have lt : a % b < b := Nat.mod_lt _ (by omega)
        have sm : b % (a % b) < 2 ^ k := by
          have q1 : b % (a % b) < a % b := Nat.mod_lt _ (by omega)
          have q2 : b % (a % b) + (a % b) * (b / (a % b)) = b := Nat.mod_add_div _ _
          have q3 : 1 ≤ b / (a % b) := (Nat.one_le_div_iff (by omega)).mpr (by omega)
          have q4 : a % b ≤ (a % b) * (b / (a % b)) := Nat.le_mul_of_pos_right _ q3
          have q5 : 2 ^ (k + 1) = 2 * 2 ^ k := by rw [Nat.pow_succ]; omega
          omega
        obtain ⟨g', e3, s3⟩ := ih (a % b) (b % (a % b)) g2 m sm s2
        refine ⟨g', e3, ?_⟩
        have gg2 : Nat.gcd b (a % b) = Nat.gcd (a % b) (b % (a % b)) := by rw [Nat.gcd_comm b (a % b), Nat.gcd_rec (a % b) b, Nat.gcd_comm]
        rw [gg, gg2]
        exact s3
/-! ### numbers without a sign -/
theorem div_nat {a b : Nat} (h : 0 < b) (h2 : b < 2 ^ 9000) : opD .div [.int a, .int b] = some (.int ((a / b : Nat) : Int)) := by
  rw [op_div_int, decide_eq_true (show (0 : Int) < (b : Int) by omega), decide_eq_true (show (b : Int).natAbs < 2 ^ 9000 by rw [Int.natAbs_natCast]; exact h2)]
  rfl
theorem mulOk_nat {a b : Nat} {i j : Nat} (h : a < 2 ^ i) (h2 : b < 2 ^ j) (hi : i ≤ 400000) (hj : j ≤ 400000) : mulOk a b = true := by
  unfold mulOk
  rw [decide_eq_true (show (a : Int).natAbs < 2 ^ 400000 by rw [Int.natAbs_natCast]; exact Nat.lt_of_lt_of_le h (Nat.pow_le_pow_right (by decide) hi)),
    decide_eq_true (show (b : Int).natAbs < 2 ^ 400000 by rw [Int.natAbs_natCast]; exact Nat.lt_of_lt_of_le h2 (Nat.pow_le_pow_right (by decide) hj))]
  simp
theorem mod_nat {a b : Nat} (h : 0 < b) : opD .mod [.int a, .int b] = some (.int ((a % b : Nat) : Int)) := by
  rw [op_mod_int, if_pos (show (0 : Int) < (b : Int) by omega)]
  rfl
end Mp
end
section
/-! Mp txt: texts, numbers' words, cut texts. -/
namespace Mp
/-! ### slices, items from the end -/
theorem cutL_lo {α : Type} (l : List α) (k : Nat) : cutL l (some (k : Int)) none = l.drop k := by
  have e : cutI l.length 0 (some (k : Int)) = min k l.length := by
    show (if (k : Int) < 0 then ((k : Int) + (l.length : Int)).toNat else min (k : Int).toNat l.length) = _
    rw [if_neg (by omega)]
    simp
  have e2 : cutI l.length l.length none = l.length := rfl
  unfold cutL
  rw [e, e2]
  have e3 : (l.drop (min k l.length)).take (l.length - min k l.length) = l.drop (min k l.length) := List.take_of_length_le (by simp)
  rw [e3]
  by_cases h : k ≤ l.length
  · rw [Nat.min_eq_left h]
  · have e4 : min k l.length = l.length := by omega
    have e5 : l.drop k = [] := List.drop_eq_nil_of_le (by omega)
    rw [e4, e5, List.drop_length]
theorem cutL_neg {α : Type} (l : List α) : cutL l none (some (-1)) = l.dropLast := by
  have e : cutI l.length l.length (some (-1)) = l.length - 1 := by
    show (if (-1 : Int) < 0 then ((-1 : Int) + (l.length : Int)).toNat else min (-1 : Int).toNat l.length) = _
    rw [if_pos (by decide)]
    omega
  unfold cutL
  rw [e]
  show (l.drop 0).take (l.length - 1 - 0) = _
  rw [List.drop_zero, Nat.sub_zero, List.dropLast_eq_take]
theorem atD_neg {α : Type} (l : List α) : atD l (-1) = l.getLast? := by
  unfold atD ixD
  rw [if_neg (by decide)]
  cases l with
  | nil => rfl
  | cons a l =>
    rw [if_pos (by simp; omega), List.getLast?_eq_getElem?]
    show (a :: l)[((-1 : Int) + ((a :: l).length : Int)).toNat]? = _
    congr 1
    simp
    omega
theorem cutL_hi1 {α : Type} (l : List α) : cutL l none (some 1) = l.take 1 := cutL_hi l 1
theorem cutL_lo1 {α : Type} (l : List α) : cutL l (some 1) none = l.tail := by
  rw [← List.drop_one]
  exact cutL_lo l 1
/-! ### a text's signs -/
theorem dropW_nil {p : Nat → Bool} : ∀ {l : List Nat}, l.dropWhile p = [] ↔ l.all p = true
  | [] => by simp
  | c :: l => by
    by_cases h : p c = true
    · rw [List.dropWhile_cons_of_pos h, dropW_nil (l := l)]; simp [h]
    · rw [List.dropWhile_cons_of_neg h]; simp [h]
theorem dropW_head {p : Nat → Bool} : ∀ {l : List Nat} {c : Nat} {r : List Nat}, l.dropWhile p = c :: r → p c = false
  | [], _, _, h => by cases h
  | d :: l, c, r, h => by
    by_cases hd : p d = true
    · rw [List.dropWhile_cons_of_pos hd] at h
      exact dropW_head h
    · rw [List.dropWhile_cons_of_neg hd] at h
      cases h
      simpa using hd
theorem strip_nil (b a : List Nat) : stripL b a = [] ↔ (a.all fun c => b.contains c) = true := by
  unfold stripL
  rw [List.reverse_eq_nil_iff, dropW_nil]
  constructor
  · intro h
    rw [← dropW_nil]
    cases e : a.dropWhile fun c => b.contains c with
    | nil => rfl
    | cons c r =>
      have := dropW_head e
      rw [e] at h
      rw [List.all_eq_true] at h
      have := h c (by simp)
      simp_all
  · intro h
    rw [dropW_nil.mpr h]
    rfl
theorem fig_dig (c : Nat) : [48, 49, 50, 51, 52, 53, 54, 55, 56, 57].contains c = isDig c := by
  rw [Bool.eq_iff_iff]
  simp [isDig]
  omega
theorem strip_fig (a : List Nat) : stripL [48, 49, 50, 51, 52, 53, 54, 55, 56, 57] a = [] ↔ a.all isDig = true := by
  rw [strip_nil]
  have : (fun c => [48, 49, 50, 51, 52, 53, 54, 55, 56, 57].contains c) = isDig := funext fig_dig
  rw [this]
theorem mem_fig (c : Nat) : decide (c ∈ [48, 49, 50, 51, 52, 53, 54, 55, 56, 57]) = isDig c := by
  rw [← fig_dig, List.contains_eq_mem]
/-! ### numbers' words -/
/-- the number that a word of at most k signs tells -/
def numO (w : List Nat) (k : Nat) : Option Nat :=
  if (decide (w ≠ []) && decide (w.length ≤ k)) && (w.all isDig && (decide (w.head? ≠ some 48) || decide (w = [48]))) then some (digV w) else none
/-- with a sign -/
def sgnO (s : List Nat) (k : Nat) : Option Int :=
  if s.take 1 = [45] then (numO s.tail k).bind fun n => if n = 0 then none else some (-(n : Int)) else (numO s k).bind fun n => some (n : Int)
def optN : Option Nat → D
  | none => .non
  | some n => .int n
def optI : Option Int → D
  | none => .non
  | some i => .int i
theorem digV_from : ∀ (s : List Nat) (a : Nat), s.foldl (fun a c => a * 10 + (c - 48)) a = a * 10 ^ s.length + digV s
  | [], a => by simp [digV]
  | c :: s, a => by
    unfold digV
    rw [List.foldl_cons, List.foldl_cons, digV_from s, digV_from s (0 * 10 + (c - 48)), List.length_cons, Nat.pow_succ]
    grind
theorem digV_cons (c : Nat) (s : List Nat) : digV (c :: s) = (c - 48) * 10 ^ s.length + digV s := by
  show s.foldl _ (0 * 10 + (c - 48)) = _
  rw [digV_from, Nat.zero_mul, Nat.zero_add]
theorem digV_lt : ∀ (s : List Nat), s.all isDig = true → digV s < 10 ^ s.length
  | [], _ => by simp [digV]
  | c :: s, h => by
    simp only [List.all_cons, Bool.and_eq_true, isDig, decide_eq_true_eq] at h
    have ih := digV_lt s h.2
    rw [digV_cons, List.length_cons, Nat.pow_succ]
    have : (c - 48) * 10 ^ s.length ≤ 9 * 10 ^ s.length := Nat.mul_le_mul_right _ (by omega)
    omega
theorem numO_some {w : List Nat} {k n : Nat} (h : numO w k = some n) : w ≠ [] ∧ w.length ≤ k ∧ w.all isDig = true ∧ (w.head? = some 48 → w = [48]) ∧ digV w = n := by
  unfold numO at h
  split at h
  · rename_i c
    simp only [Bool.and_eq_true, Bool.or_eq_true, decide_eq_true_eq] at c
    cases h
    refine ⟨c.1.1, c.1.2, c.2.1, fun e => ?_, rfl⟩
    rcases c.2.2 with h | h
    · exact absurd e h
    · exact h
  · cases h
theorem numO_of {w : List Nat} {k : Nat} (h1 : w ≠ []) (h2 : w.length ≤ k) (h3 : w.all isDig = true) (h4 : w.head? = some 48 → w = [48]) : numO w k = some (digV w) := by
  unfold numO
  rw [if_pos]
  simp only [Bool.and_eq_true, Bool.or_eq_true, decide_eq_true_eq]
  refine ⟨⟨h1, h2⟩, h3, ?_⟩
  by_cases e : w.head? = some 48
  · exact .inr (h4 e)
  · exact .inl e
theorem numO_lt {w : List Nat} {k n : Nat} (h : numO w k = some n) : n < 10 ^ k := by
  obtain ⟨_, h2, h3, _, h5⟩ := numO_some h
  rw [← h5]
  exact Nat.lt_of_lt_of_le (digV_lt w h3) (Nat.pow_le_pow_right (by decide) h2)
theorem numO_zero {w : List Nat} {k : Nat} (h : numO w k = some 0) : w = [48] := by
  obtain ⟨h1, _, h3, h4, h5⟩ := numO_some h
  cases w with
  | nil => exact absurd rfl h1
  | cons c r =>
    by_cases e : c = 48
    · subst e
      exact h4 rfl
    · simp only [List.all_cons, Bool.and_eq_true, isDig, decide_eq_true_eq] at h3
      rw [digV_cons] at h5
      have : 0 < (c - 48) * 10 ^ r.length := Nat.mul_pos (by omega) (Nat.pow_pos (by decide))
      omega
theorem numO_dig {w : List Nat} {k n : Nat} (h : numO w k = some n) {c : Nat} (m : c ∈ w) : 48 ≤ c ∧ c ≤ 57 := by
  obtain ⟨_, _, h3, _, _⟩ := numO_some h
  have := List.all_eq_true.mp h3 c m
  simpa [isDig] using this
theorem sgnO_nat {s : List Nat} {k : Nat} (h : s.take 1 ≠ [45]) : sgnO s k = (numO s k).bind fun n => some (n : Int) := if_neg h
theorem sgnO_bd {s : List Nat} {k : Nat} {i : Int} (h : sgnO s k = some i) : i.natAbs < 10 ^ k := by
  unfold sgnO at h
  split at h
  · obtain ⟨n, h1, h2⟩ := Option.bind_eq_some_iff.mp h
    split at h2
    · cases h2
    · cases h2
      have := numO_lt h1
      omega
  · obtain ⟨n, h1, h2⟩ := Option.bind_eq_some_iff.mp h
    cases h2
    have := numO_lt h1
    omega
/-! ### figures -/
theorem strI_nat (n : Nat) : strI (n : Int) = (Nat.toDigits 10 n).map Char.toNat := by
  unfold strI
  have : toString (n : Int) = n.repr := rfl
  rw [this, Nat.toList_repr]
theorem strI_neg (n : Nat) (h : 0 < n) : strI (-(n : Int)) = 45 :: strI (n : Int) := by
  rw [strI_nat]
  unfold strI
  cases n with
  | zero => omega
  | succ m =>
    have : toString (-((m + 1 : Nat) : Int)) = "-" ++ (m + 1).repr := rfl
    rw [this]
    simp
theorem dig_all (n : Nat) : (strI (n : Int)).all isDig = true := by
  rw [strI_nat, List.all_eq_true]
  intro c hc
  obtain ⟨x, hx, rfl⟩ := List.mem_map.mp hc
  have := Nat.isDigit_of_mem_toDigits (b := 10) (by decide) (by decide) hx
  simp only [Char.isDigit, ge_iff_le, Bool.and_eq_true, decide_eq_true_eq] at this
  obtain ⟨h1, h2⟩ := this
  have h1 : 48 ≤ x.val.toNat := h1
  have h2 : x.val.toNat ≤ 57 := h2
  unfold isDig
  show (decide (48 ≤ x.val.toNat) && decide (x.val.toNat ≤ 57)) = true
  rw [decide_eq_true h1, decide_eq_true h2]
  rfl
theorem digV_strI (n : Nat) : digV (strI (n : Int)) = n := by
  rw [strI_nat]
  have e : ∀ (l : List Char) (a : Nat), (l.map Char.toNat).foldl (fun a c => a * 10 + (c - 48)) a = Nat.ofDigitChars 10 l a := by
    intro l
    induction l with
    | nil => intro a; simp
    | cons c l ih =>
      intro a
      rw [List.map_cons, List.foldl_cons, ih, Nat.ofDigitChars_cons]
      congr 1
      rw [Nat.mul_comm]
      rfl
  show (((Nat.toDigits 10 n).map Char.toNat).foldl (fun a c => a * 10 + (c - 48)) 0) = n
  rw [e, Nat.ofDigitChars_ten_toDigits]
theorem strI_ne (n : Nat) : strI (n : Int) ≠ [] := by
  rw [strI_nat]
  intro h
  exact Nat.toDigits_ne_nil (List.map_eq_nil_iff.mp h)
theorem strI_len {n k : Nat} (h0 : 0 < k) : (strI (n : Int)).length ≤ k ↔ n < 10 ^ k := by
  rw [strI_nat, List.length_map]
  exact Nat.length_toDigits_le_iff (by decide) h0
theorem strI_head {n : Nat} (h : (strI (n : Int)).head? = some 48) : strI (n : Int) = [48] := by
  cases e : strI (n : Int) with
  | nil => exact absurd e (strI_ne n)
  | cons c r =>
    rw [e] at h
    cases h
    cases r with
    | nil => rfl
    | cons d r =>
      have v := digV_strI n
      have a := dig_all n
      rw [e] at v a
      rw [digV_cons, Nat.sub_self, Nat.zero_mul, Nat.zero_add] at v
      have lt := digV_lt (d :: r) (by simp only [List.all_cons, Bool.and_eq_true] at a ⊢; exact a.2)
      rw [v] at lt
      have := (strI_len (n := n) (k := (d :: r).length) (by simp)).mpr lt
      rw [e] at this
      simp at this
      omega
theorem numO_strI {n k : Nat} (h0 : 0 < k) (h : n < 10 ^ k) : numO (strI (n : Int)) k = some n := by
  rw [numO_of (strI_ne n) ((strI_len h0).mpr h) (dig_all n) strI_head, digV_strI]
theorem strI_dig {n c : Nat} (h : c ∈ strI (n : Int)) : 48 ≤ c ∧ c ≤ 57 := by
  have := List.all_eq_true.mp (dig_all n) c h
  simpa [isDig] using this
theorem strI_sgn {i : Int} {c : Nat} (h : c ∈ strI i) : c = 45 ∨ (48 ≤ c ∧ c ≤ 57) := by
  by_cases hi : 0 ≤ i
  · obtain ⟨n, rfl⟩ := Int.eq_ofNat_of_zero_le hi
    exact .inr (strI_dig h)
  · obtain ⟨n, hn⟩ : ∃ n : Nat, i = -(n : Int) := ⟨i.natAbs, by omega⟩
    subst hn
    rw [strI_neg n (by omega)] at h
    rcases List.mem_cons.mp h with h | h
    · exact .inl h
    · exact .inr (strI_dig h)
theorem sgnO_strI {i : Int} {k : Nat} (h0 : 0 < k) (h : i.natAbs < 10 ^ k) : sgnO (strI i) k = some i := by
  by_cases hi : 0 ≤ i
  · obtain ⟨n, rfl⟩ := Int.eq_ofNat_of_zero_le hi
    rw [sgnO_nat, numO_strI h0 (by omega)]
    · rfl
    · intro e
      have : 45 ∈ strI (n : Int) := List.mem_of_mem_take (i := 1) (by rw [e]; simp)
      have := strI_dig this
      omega
  · obtain ⟨n, hn⟩ : ∃ n : Nat, i = -(n : Int) := ⟨i.natAbs, by omega⟩
    subst hn
    unfold sgnO
    rw [strI_neg n (by omega), if_pos (show List.take 1 (45 :: strI (n : Int)) = [45] from rfl)]
    show (numO (strI (n : Int)) k).bind _ = _
    rw [numO_strI h0 (by omega)]
    show (if n = 0 then none else some (-(n : Int))) = _
    rw [if_neg (by omega)]
theorem strI_len_le {i : Int} {k : Nat} (h0 : 0 < k) (h : i.natAbs < 10 ^ k) : (strI i).length ≤ k + 1 := by
  by_cases hi : 0 ≤ i
  · obtain ⟨n, rfl⟩ := Int.eq_ofNat_of_zero_le hi
    have := (strI_len (n := n) h0).mpr (by omega)
    omega
  · obtain ⟨n, hn⟩ : ∃ n : Nat, i = -(n : Int) := ⟨i.natAbs, by omega⟩
    subst hn
    rw [strI_neg n (by omega)]
    have := (strI_len (n := n) h0).mpr (by omega)
    simp
    omega
/-! ### a text cut at a sign -/
theorem spl_nil (x : Nat) (acc : List Nat) : splL [x] 0 acc [] = [acc] := rfl
theorem spl_at (x : Nat) (acc r : List Nat) : splL [x] 0 acc (x :: r) = acc :: splL [x] 0 [] r := by
  show (if preL [x] (x :: r) = true then acc :: splL [x] 0 [] r else _) = _
  rw [if_pos (by simp [preL])]
theorem spl_off {x c : Nat} (acc r : List Nat) (h : c ≠ x) : splL [x] 0 acc (c :: r) = splL [x] 0 (acc ++ [c]) r := by
  show (if preL [x] (c :: r) = true then _ else splL [x] 0 (acc ++ [c]) r) = _
  rw [if_neg (by simp [preL, h])]
theorem spl_ne (x : Nat) : ∀ (s acc : List Nat), splL [x] 0 acc s ≠ []
  | [], acc => by rw [spl_nil]; simp
  | c :: s, acc => by
    by_cases h : c = x
    · subst h; rw [spl_at]; simp
    · rw [spl_off _ _ h]; exact spl_ne x s _
theorem spl_all {x : Nat} : ∀ (s acc : List Nat), x ∉ s → splL [x] 0 acc s = [acc ++ s]
  | [], acc, _ => by rw [spl_nil, List.append_nil]
  | c :: s, acc, h => by
    rw [spl_off _ _ (by intro e; exact h (by rw [e]; simp)), spl_all s _ (fun m => h (List.mem_cons_of_mem _ m))]
    simp
theorem spl_cut {x : Nat} : ∀ (s r acc : List Nat), x ∉ s → splL [x] 0 acc (s ++ x :: r) = (acc ++ s) :: splL [x] 0 [] r
  | [], r, acc, _ => by rw [List.nil_append, spl_at, List.append_nil]
  | c :: s, r, acc, h => by
    rw [List.cons_append, spl_off _ _ (by intro e; exact h (by rw [e]; simp)), spl_cut s r _ (fun m => h (List.mem_cons_of_mem _ m))]
    simp
theorem spl_mem {x : Nat} : ∀ (s acc : List Nat) {w : List Nat} {c : Nat}, w ∈ splL [x] 0 acc s → c ∈ w → c ∈ acc ∨ c ∈ s
  | [], acc, w, c, h, m => by
    rw [spl_nil] at h
    rw [List.mem_singleton.mp h] at m
    exact .inl m
  | d :: s, acc, w, c, h, m => by
    by_cases e : d = x
    · subst e
      rw [spl_at] at h
      rcases List.mem_cons.mp h with h | h
      · subst h; exact .inl m
      · rcases spl_mem s [] h m with k | k
        · cases k
        · exact .inr (List.mem_cons_of_mem _ k)
    · rw [spl_off _ _ e] at h
      rcases spl_mem s _ h m with k | k
      · rcases List.mem_append.mp k with k | k
        · exact .inl k
        · rw [List.mem_singleton.mp k]; exact .inr List.mem_cons_self
      · exact .inr (List.mem_cons_of_mem _ k)
theorem spl_has {x c : Nat} (hc : c ≠ x) : ∀ (s acc : List Nat), (c ∈ acc ∨ c ∈ s) → ∃ w ∈ splL [x] 0 acc s, c ∈ w
  | [], acc, h => by
    rcases h with h | h
    · exact ⟨acc, by rw [spl_nil]; simp, h⟩
    · cases h
  | d :: s, acc, h => by
    by_cases e : d = x
    · subst e
      rw [spl_at]
      rcases h with h | h
      · exact ⟨acc, by simp, h⟩
      · rcases List.mem_cons.mp h with h | h
        · exact absurd h hc
        · obtain ⟨w, h1, h2⟩ := spl_has hc s [] (.inr h)
          exact ⟨w, List.mem_cons_of_mem _ h1, h2⟩
    · rw [spl_off _ _ e]
      refine spl_has hc s _ ?_
      rcases h with h | h
      · exact .inl (List.mem_append_left _ h)
      · rcases List.mem_cons.mp h with h | h
        · subst h; exact .inl (by simp)
        · exact .inr h
theorem spl_len {x : Nat} : ∀ (s acc : List Nat) {w : List Nat}, w ∈ splL [x] 0 acc s → w.length ≤ acc.length + s.length
  | [], acc, w, h => by
    rw [spl_nil] at h
    rw [List.mem_singleton.mp h]
    simp
  | d :: s, acc, w, h => by
    by_cases e : d = x
    · subst e
      rw [spl_at] at h
      rcases List.mem_cons.mp h with h | h
      · subst h; simp
      · have := spl_len s [] h
        simp at this ⊢
        omega
    · rw [spl_off _ _ e] at h
      have := spl_len s _ h
      simp at this ⊢
      omega
/-! ### loops that end early -/
theorem forL_scan {t : Tgt} {f : Env → SOut} (P : Env → Prop) (p : D → Bool) (x : D) : ∀ {l : List D} {g : Env}, P g → (∀ d ∈ l, ∀ g, P g → if p d = true then ∃ g', (turn t f d g = .next g' ∨ turn t f d g = .cont g') ∧ P g' else ∃ g', turn t f d g = .ret x g') →
    if l.all p = true then ∃ g', forL t f l g = .next g' ∧ P g' else ∃ g', forL t f l g = .ret x g'
  | [], g, h, _ => by
    rw [if_pos (by rfl)]
    exact ⟨g, rfl, h⟩
  | d :: l, g, h, k => by
    have k0 := k d List.mem_cons_self g h
    by_cases e : p d = true
    · rw [if_pos e] at k0
      obtain ⟨g', e', h'⟩ := k0
      have ih := forL_scan (t := t) (f := f) P p x h' fun d hd => k d (List.mem_cons_of_mem _ hd)
      rw [List.all_cons, e, Bool.true_and, forL_step e']
      exact ih
    · rw [if_neg e] at k0
      obtain ⟨g', e'⟩ := k0
      rw [if_neg (by rw [List.all_cons]; simp [e])]
      exact ⟨g', forL_ret e'⟩
end Mp
namespace Mp
theorem spl_count {x : Nat} : ∀ (s acc : List Nat), (splL [x] 0 acc s).length ≤ s.length + 1
  | [], acc => by rw [spl_nil]; simp
  | d :: s, acc => by
    by_cases e : d = x
    · subst e
      rw [spl_at]
      have := spl_count (x := d) s []
      simp
      omega
    · rw [spl_off _ _ e]
      have := spl_count (x := x) s (acc ++ [d])
      simp
      omega
theorem compL_map {α : Type} {t : Tgt} {own : List Nat} {c : Env → Out (Bool × Env)} {f : Env → Out (D × Env)} (g : Env) (u v : α → D) : ∀ {xs : List α}, (∀ x ∈ xs, ∃ g1 g2 g3, asg t (u x) g = some g1 ∧ c g1 = .ok (true, g2) ∧ f g2 = .ok (v x, g3) ∧ wipeS g3 own = g) → compL t own c f (xs.map u) g = .ok (xs.map v, g)
  | [], _ => rfl
  | d :: l, k => by
    obtain ⟨g1, g2, g3, e1, e2, e3, e4⟩ := k d List.mem_cons_self
    rw [List.map_cons]
    unfold compL
    rw [e1]
    simp only [e2, e3, e4]
    rw [compL_map g u v fun d hd => k d (List.mem_cons_of_mem _ hd)]
    rfl
theorem coldL_strs (ns : List (List Nat)) : coldL (ns.map D.str) = true := by
  induction ns with
  | nil => rfl
  | cons n ns ih => simp [ih]
theorem frzL_strs (ns : List (List Nat)) : frzL (ns.map D.str) = ns.map D.str := by
  induction ns with
  | nil => rfl
  | cons n ns ih => simp [ih]
theorem flat_optN (o : Option Nat) : flat (optN o) = true := by cases o <;> rfl
theorem flat_optI (o : Option Int) : flat (optI o) = true := by cases o <;> rfl
theorem cold_optN (o : Option Nat) : cold (optN o) = true := by cases o <;> rfl
theorem cold_optI (o : Option Int) : cold (optI o) = true := by cases o <;> rfl
theorem coldL_optN {α : Type} (f : α → Option Nat) (l : List α) : coldL (l.map fun a => optN (f a)) = true := by
  induction l with
  | nil => rfl
  | cons n ns ih => simp [ih, cold_optN]
theorem coldL_optI {α : Type} (f : α → Option Int) (l : List α) : coldL (l.map fun a => optI (f a)) = true := by
  induction l with
  | nil => rfl
  | cons n ns ih => simp [ih, cold_optI]
@[simp] theorem mem_lst (d : D) (f : Bool) (l : List D) : cmpD .mem d (.lst f l) = if scal d && l.all scal then some (l.any fun e => same e d) else none := by
  cases d <;> first
    | rfl
    | (rename_i s
       cases s with
       | nil => rfl
       | cons c r => cases r <;> rfl)
@[simp] theorem scal_non : scal .non = true := rfl
@[simp] theorem scal_int (i : Int) : scal (.int i) = true := rfl
@[simp] theorem scal_str (i : List Nat) : scal (.str i) = true := rfl
@[simp] theorem scal_bl (i : Bool) : scal (.bl i) = true := rfl
end Mp
namespace Mp
theorem dig_pow {n k : Nat} (h : n < 2 ^ k) (hk : k ≤ 12900) : digOk n = true := by
  unfold digOk
  refine decide_eq_true (Nat.lt_of_lt_of_le h (Nat.le_trans (Nat.pow_le_pow_right (by decide) hk) ?_))
  have e : (2 : Nat) ^ 12900 = (2 ^ 3) ^ 4300 := by rw [← Nat.pow_mul]
  rw [e]
  exact Nat.pow_le_pow_left (by decide) 4300
theorem log_ok {i : Int} (h : i.natAbs < 2 ^ 64) : digOk i.natAbs = true := dig_pow h (by decide)
theorem str_int {i : Int} (h : i.natAbs < 2 ^ 64) : opD .toStr [.int i] = some (.str (strI i)) := by
  rw [op_str_int, if_pos (log_ok h)]
theorem strI_le {i : Int} (h : i.natAbs < 2 ^ 64) : (strI i).length ≤ 21 := strI_len_le (k := 20) (by decide) (by omega)
end Mp
namespace Mp
theorem evSs_append (cl : Nat → List D → ROut) (w : Nat) : ∀ (a b : List S) (g : Env), evSs cl w (a ++ b) g = seqR (evSs cl w a g) fun g => evSs cl w b g
  | [], b, g => by rw [evSs_nil]; rfl
  | s :: a, b, g => by
    rw [List.cons_append, evSs_cons, evSs_cons]
    cases evS cl w s g with
    | next g1 => exact evSs_append cl w a b g1
    | _ => rfl
theorem evSs_split (cl : Nat → List D → ROut) (w k : Nat) (l : List S) (g : Env) : evSs cl w l g = seqR (evSs cl w (l.take k) g) fun g => evSs cl w (l.drop k) g := by
  rw [← evSs_append, List.take_append_drop]
@[simp] theorem plainL_strs (n : Nat) (l : List (List Nat)) : plainL n (l.map D.str) = true := by
  induction l with
  | nil => simp
  | cons a l ih => simp [ih]
theorem all_scal_optN {α : Type} (f : α → Option Nat) (l : List α) : (l.map fun a => optN (f a)).all scal = true := by
  induction l with
  | nil => rfl
  | cons n ns ih => rw [List.map_cons, List.all_cons, ih]; cases f n <;> rfl
theorem all_scal_optI {α : Type} (f : α → Option Int) (l : List α) : (l.map fun a => optI (f a)).all scal = true := by
  induction l with
  | nil => rfl
  | cons n ns ih => rw [List.map_cons, List.all_cons, ih]; cases f n <;> rfl
theorem splitOk (s : List Nat) (x : Nat) (h : x < 256) (hs : s.length ≤ 16777214) : (decide ([x] ≠ []) && ([x].all (fun c => decide (c < 256)) && decide (s.length + 2 ≤ 16777216))) = true := by
  simp [h]
  omega
end Mp
namespace Mp
theorem at_strs {us : List (List Nat)} {q : Nat} (h : q < us.length) : ∃ u ∈ us, atD (us.map D.str) (q : Int) = some (.str u) := by
  refine ⟨us[q], List.getElem_mem h, ?_⟩
  rw [atD_nat, List.getElem?_map, List.getElem?_eq_getElem h]
  rfl
theorem add_str {x y z : List Nat} (e : x ++ y = z) (h : z.length ≤ 16777216) : opD .add [.str x, .str y] = some (.str z) := by
  subst e
  rw [op_add_str, if_pos]
  simpa using h
theorem mod_to {m k : Int} (h : 0 < k) : ∃ a : Nat, m % k = (a : Int) ∧ (a : Int) < k := by
  have h1 := Int.emod_nonneg m (show k ≠ 0 by omega)
  have h2 := Int.emod_lt_of_pos m h
  exact ⟨(m % k).toNat, by omega, by omega⟩
end Mp
namespace Mp
theorem compL_ex {α : Type} {t : Tgt} {own : List Nat} {c : Env → Out (Bool × Env)} {f : Env → Out (D × Env)} (g : Env) (v : α → D) (P : α → Prop) : ∀ {l : List D}, (∀ d ∈ l, ∃ x g1 g2 g3, P x ∧ asg t d g = some g1 ∧ c g1 = .ok (true, g2) ∧ f g2 = .ok (v x, g3) ∧ wipeS g3 own = g) → ∃ xs : List α, (∀ x ∈ xs, P x) ∧ xs.length = l.length ∧ compL t own c f l g = .ok (xs.map v, g)
  | [], _ => ⟨[], by simp, rfl, rfl⟩
  | d :: l, k => by
    obtain ⟨x, g1, g2, g3, p, e1, e2, e3, e4⟩ := k d List.mem_cons_self
    obtain ⟨xs, p', h', e'⟩ := compL_ex g v P (t := t) (own := own) (c := c) (f := f) fun d hd => k d (List.mem_cons_of_mem _ hd)
    refine ⟨x :: xs, ?_, by simp [h'], ?_⟩
    · intro y hy
      rcases List.mem_cons.mp hy with h | h
      · subst h; exact p
      · exact p' y h
    · unfold compL
      rw [e1]
      simp only [e2, e3, e4]
      rw [e']
      rfl
theorem coldL_map {α : Type} (v : α → D) (h : ∀ x, cold (v x) = true) (l : List α) : coldL (l.map v) = true := by
  induction l with
  | nil => rfl
  | cons n ns ih => simp [ih, h]
theorem frzL_map {α : Type} (v : α → D) (h : ∀ x, frz (v x) = v x) (l : List α) : frzL (l.map v) = l.map v := by
  induction l with
  | nil => rfl
  | cons n ns ih => simp [ih, h]
end Mp
end
set_option maxHeartbeats 0
namespace K01
open Mp
open PySem (Str)
/-! ### the small forms -/
/-- number_of -/
def z0 : List Str × Fn := (["word", "most"], ⟨2, 2, 0, [.ite (.orE [.notE (.chain .le .le (.lit (.int 1)) (.op .len [.var 0]) (.var 1)), .op (.cmp .ne) [.met .strip (.var 0) (.glb (.str [48, 49, 50, 51, 52, 53, 54, 55, 56, 57])), .lit (.str [])]]) [.ret (.lit .non)] [], .ite (.andE [.op (.cmp .eq) [.idx (.var 0) (.lit (.int 0)), .lit (.str [48])], .op (.cmp .ne) [.var 0, .lit (.str [48])]]) [.ret (.lit .non)] [], .ret (.op .toInt [.var 0])]⟩)
def z1_b0c : E := .op (.cmp .ne) [.var 1, .lit (.int 0)]
def z1_b0 : List S := [.set 2 (.op .mod [.var 0, .var 1]), .set 0 (.mv 1), .set 1 (.mv 2)]
/-- shared -/
def z1 : List Str × Fn := (["one", "other", "rest"], ⟨2, 3, 0, [.whl z1_b0c z1_b0, .ret (.mv 0)]⟩)
/-- made_length -/
def z2 : List Str × Fn := (["top", "bottom", "part"], ⟨2, 3, 0, [.set 2 (.call 1 [.var 0, .var 1]), .ret (.tup [.op .div [.var 0, .var 2], .op .div [.var 1, .var 2]])]⟩)
/-- length_text -/
def z3 : List Str × Fn := (["one"], ⟨1, 1, 0, [.ite (.op (.cmp .eq) [.idx (.var 0) (.lit (.int 1)), .lit (.int 1)]) [.ret (.op .toStr [.idx (.var 0) (.lit (.int 0))])] [], .ret (.op .add [.op .add [.op .toStr [.idx (.var 0) (.lit (.int 0))], .lit (.str [47])], .op .toStr [.idx (.var 0) (.lit (.int 1))]])]⟩)
def z4_e0 : E := .call 0 [.mv 3, .lit (.int 4)]
/-- length_or_none -/
def z4 : List Str × Fn := (["text", "words", "numbers", "word"], ⟨1, 4, 0, [.set 1 (.splitE (.var 0) (.lit (.str [47]))), .set 2 (.comp z4_e0 (.nm 3) [3] (.of (.var 1)) []), .ite (.orE [.op (.cmp .gt) [.op .len [.var 1], .lit (.int 2)], .op (.cmp .mem) [.lit .non, .var 2]]) [.ret (.lit .non)] [], .ite (.op (.cmp .eq) [.op .len [.var 1], .lit (.int 1)]) [.ret (.tup [.idx (.var 2) (.lit (.int 0)), .lit (.int 1)])] [], .ite (.op (.cmp .eq) [.idx (.var 2) (.lit (.int 1)), .lit (.int 0)]) [.ret (.lit .non)] [], .ret (.call 2 [.idx (.var 2) (.lit (.int 0)), .idx (.var 2) (.lit (.int 1))])]⟩)
/-- read_length -/
def z5 : List Str × Fn := (["text", "found"], ⟨1, 2, 0, [.set 1 (.call 4 [.mv 0]), .ite (.op (.cmp .isN) [.var 1, .lit .non]) [.raiseC 0] [], .ret (.mv 1)]⟩)
/-- _law_cell_at -/
def z6 : List Str × Fn := (["_law_script", "_law_k"], ⟨2, 2, 0, [.ite (.op (.cmp .lt) [.var 1, .op .len [.var 0]]) [.ret (.idx (.var 0) (.var 1))] [], .ret (.lit (.int 0))]⟩)
/-- _law_mixed -/
def z7 : List Str × Fn := (["_law_cell", "_law_k"], ⟨2, 2, 0, [.ret (.op .mod [.op .mul [.op .mul [.op .add [.op .mod [.var 0, .lit (.int 2305843009213693951)], .lit (.int 1)], .op .add [.op .mul [.var 1, .var 1], .lit (.int 48271)]], .lit (.int 40692)], .lit (.int 2147483399)])]⟩)
def z8_b0c : E := .op (.cmp .gt) [.var 3, .lit (.int 0)]
def z8_b0 : List S := [.par 2 3 (.var 3) (.op .mod [.var 2, .var 3])]
/-- _law_lowest -/
def z8 : List Str × Fn := (["_law_top", "_law_bottom", "_law_one", "_law_other"], ⟨2, 4, 0, [.par 2 3 (.var 0) (.var 1), .whl z8_b0c z8_b0, .ret (.tup [.op .div [.var 0, .var 2], .op .div [.var 1, .var 2]])]⟩)
def z9_b0 : List S := [.ite (.orE [.notE (.op (.isI [1]) [.var 3]), .op (.isI [0]) [.var 3]]) [.ret (.lit (.bl false))] []]
/-- _law_is_length -/
def z9 : List Str × Fn := (["_law_found", "_law_top", "_law_bottom", "_law_part"], ⟨3, 4, 0, [.ite (.orE [.notE (.op (.isI [3]) [.var 0]), .op (.cmp .ne) [.op .len [.var 0], .lit (.int 2)]]) [.ret (.lit (.bl false))] [], .for_ (.nm 3) (.of (.var 0)) z9_b0, .ret (.op (.cmp .eq) [.var 0, .call 8 [.mv 1, .mv 2]])]⟩)
/-- _law_sign_by -/
def z10 : List Str × Fn := (["_law_m", "_law_some"], ⟨1, 2, 0, [.set 1 (.lit (.str [32, 33, 34, 35, 36, 38, 39, 40, 41, 42, 43, 44, 45, 46, 47, 48, 49, 50, 51, 52, 53, 54, 55, 56, 57, 58, 59, 60, 61, 62, 63, 64, 65, 66, 67, 68, 69, 70, 71, 72, 73, 74, 75, 76, 77, 78, 79, 80, 81, 82, 83, 84, 85, 86, 87, 88, 89, 90, 91, 92, 93, 94, 95, 96, 97, 98, 99, 100, 101, 102, 103, 104, 105, 106, 107, 108, 109, 110, 111, 112, 113, 114, 115, 116, 117, 118, 119, 120, 121, 122, 123, 124, 125, 126, 10])), .ret (.idx (.var 1) (.op .mod [.var 0, .op .len [.var 1]]))]⟩)
/-- _law_figures_by -/
def z11 : List Str × Fn := (["_law_m"], ⟨1, 1, 0, [.ret (.op .toStr [.op .mod [.op .div [.var 0, .lit (.int 8)], .idx (.lst [.lit (.int 10), .lit (.int 100), .lit (.int 1000), .lit (.int 10000), .lit (.int 100000), .lit (.int 9), .lit (.int 32), .lit (.int 64)]) (.op .mod [.var 0, .lit (.int 8)])]])]⟩)
/-- _law_text_by -/
def z12 : List Str × Fn := (["_law_first", "_law_second", "_law_m", "_law_n", "_law_text", "_law_at", "_law_sign"], ⟨2, 7, 0, [.set 2 (.call 7 [.mv 0, .lit (.int 1)]), .set 3 (.call 7 [.mv 1, .lit (.int 2)]), .set 4 (.call 11 [.op .div [.var 2, .lit (.int 12)]]), .ite (.op (.cmp .gt) [.op .mod [.var 2, .lit (.int 3)], .lit (.int 0)]) [.set 4 (.op .add [.op .add [.var 4, .lit (.str [47])], .call 11 [.var 3]])] [], .set 5 (.op .mod [.op .div [.var 3, .lit (.int 64)], .op .add [.op .len [.var 4], .lit (.int 1)]]), .set 6 (.call 10 [.op .div [.var 2, .lit (.int 900)]]), .ite (.op (.cmp .eq) [.op .mod [.op .div [.var 2, .lit (.int 3)], .lit (.int 4)], .lit (.int 0)]) [.ret (.op .add [.op .add [.slHi (.var 4) (.var 5), .var 6], .slLo (.var 4) (.mv 5)])] [], .ite (.op (.cmp .eq) [.op .mod [.op .div [.var 2, .lit (.int 3)], .lit (.int 4)], .lit (.int 1)]) [.ret (.op .add [.op .add [.slHi (.var 4) (.var 5), .idx (.lst [.lit (.str []), .mv 6, .lit (.str [48]), .lit (.str [47])]) (.op .mod [.op .div [.var 3, .lit (.int 700)], .lit (.int 4)])], .slLo (.var 4) (.op .add [.var 5, .lit (.int 1)])])] [], .ret (.mv 4)]⟩)
def z13_b0 : List S := [.ite (.op (.cmp .nmem) [.var 1, .lit (.str [48, 49, 50, 51, 52, 53, 54, 55, 56, 57])]) [.ret (.lit (.bl false))] []]
/-- _law_figures -/
def z13 : List Str × Fn := (["_law_text", "_law_sign"], ⟨1, 2, 0, [.for_ (.nm 1) (.of (.var 0)) z13_b0, .ret (.andE [.chain .lt .lt (.lit (.int 0)) (.op .len [.var 0]) (.lit (.int 5)), .orE [.op (.cmp .ne) [.idx (.var 0) (.lit (.int 0)), .lit (.str [48])], .op (.cmp .eq) [.var 0, .lit (.str [48])]]])]⟩)
/-- _law_due -/
def z14 : List Str × Fn := (["_law_text", "_law_at"], ⟨1, 2, 0, [.ite (.op (.cmp .gt) [.met .count (.var 0) (.lit (.str [47])), .lit (.int 1)]) [.ret (.lit .non)] [], .set 1 (.met .find (.var 0) (.lit (.str [47]))), .ite (.op (.cmp .lt) [.var 1, .lit (.int 0)]) [.ret (.ite (.call 13 [.var 0]) (.tup [.op .toInt [.var 0], .lit (.int 1)]) (.lit .non))] [], .ite (.orE [.notE (.call 13 [.slHi (.var 0) (.var 1)]), .notE (.call 13 [.slLo (.var 0) (.op .add [.var 1, .lit (.int 1)])]), .op (.cmp .eq) [.slLo (.var 0) (.op .add [.var 1, .lit (.int 1)]), .lit (.str [48])]]) [.ret (.lit .non)] [], .ret (.tup [.op .toInt [.slHi (.var 0) (.var 1)], .op .toInt [.slLo (.var 0) (.op .add [.var 1, .lit (.int 1)])]])]⟩)
/-- _law_right -/
def z15 : List Str × Fn := (["_law_text", "_law_due_here", "_law_found", "_law_caught", "_law_top", "_law_bottom", "_law_written_so", "e"], ⟨1, 8, 0, [.set 1 (.call 14 [.var 0]), .set 2 (.lit .non), .set 3 (.lit .non), .tryK 7 3 [0, 1, 2, 3, 4, 5] [0, 1, 2, 3, 4, 5] [.set 2 (.call 5 [.var 0])], .ite (.op (.cmp .isN) [.var 1, .lit .non]) [.ite (.orE [.notE (.op (.isE [0, 1, 2, 3, 4, 5] [0]) [.var 3]), .notE (.op (.isE [0, 1, 2, 3, 4, 5] [0, 1, 2, 3, 4, 5]) [.var 3])]) [.ret (.lit (.bl false))] [], .ret (.notE (.op (.isE [0, 1, 2, 3, 4, 5] [5, 1, 4, 2, 3]) [.var 3]))] [], .ite (.orE [.op (.cmp .notN) [.var 3, .lit .non], .notE (.call 9 [.var 2, .idx (.var 1) (.lit (.int 0)), .idx (.var 1) (.lit (.int 1))])]) [.ret (.lit (.bl false))] [], .unp (.tp [.nm 4, .nm 5]) (.call 8 [.idx (.var 1) (.lit (.int 0)), .idx (.var 1) (.lit (.int 1))]), .set 6 (.call 3 [.mv 2]), .ret (.andE [.op (.isI [2]) [.var 6], .op (.cmp .eq) [.var 6, .op .add [.op .toStr [.var 4], .idx (.lst [.op .add [.lit (.str [47]), .op .toStr [.var 5]], .lit (.str [])]) (.op .toInt [.op (.cmp .eq) [.var 5, .lit (.int 1)]])]]])]⟩)
def z16_b0 : List S := [.ite (.notE (.call 15 [.call 12 [.op .add [.call 6 [.var 0, .op .mul [.lit (.int 2), .var 1]], .var 1], .op .add [.call 6 [.var 0, .op .add [.op .mul [.lit (.int 2), .var 1], .lit (.int 1)]], .op .mul [.lit (.int 3), .var 1]]]])) [.ret (.lit (.bl false))] []]
/-- law -/
def z16 : List Str × Fn := (["_law_script", "_law_k"], ⟨1, 2, 0, [.for_ (.nm 1) (.rng1 (.op .add [.lit (.int 1), .op .div [.op .len [.slHi (.var 0) (.lit (.int 40))], .lit (.int 2)]])) z16_b0, .ret (.lit (.bl true))]⟩)
def zs : List (List Str × Fn) := [z0, z1, z2, z3, z4, z5, z6, z7, z8, z9, z10, z11, z12, z13, z14, z15, z16]
def glbs : List (Str × List Nat) := [("FIGURES", [48, 49, 50, 51, 52, 53, 54, 55, 56, 57])]
def free : List Str := ["bool", "int", "isinstance", "len", "range", "str", "tuple"]
def fs : List Fn := zs.map (·.2)
/-! ### lengths -/
def low (t b : Nat) : Nat × Nat := (t / Nat.gcd t b, b / Nat.gcd t b)
def pD (p : Nat × Nat) : D := .tup [.int p.1, .int p.2]
theorem sha (n a b : Nat) (h : b < 2 ^ 9000) : Mp.run 1000000 fs (n + 1) 1 [.int a, .int b] = .ok (.int (Nat.gcd a b)) [] := by
  rw [run_eq 1000000 fs n 1 _ z1.2 rfl rfl]
  obtain ⟨g', e, x, rfl⟩ := gcd_whl (c := fun g => ev (Mp.run 1000000 fs n) z1_b0c false g) (f := fun g => evSs (Mp.run 1000000 fs n) 1000000 z1_b0 g)
    (fun a b g => ∃ x, g = [some (.int a), some (.int b), x]) (by rintro a g ⟨x, rfl⟩; simp [z1_b0c])
    (by
      rintro a b g hb ⟨x, rfl⟩
      have hb' : ¬ (b : Int) = 0 := by omega
      have e : opD .mod [.int a, .int b] = some (.int ((a % b : Nat) : Int)) := mod_nat hb
      refine ⟨by simp [z1_b0c, hb'] <;> omega, [some (.int b), some (.int ((a % b : Nat) : Int)), none], ?_, none, rfl⟩
      simp only [z1_b0, evSs_cons, ev_s_set, ev_op, evs_cons, evs_nil, ev_var, ev_mv, List.getElem?_cons_succ, List.getElem?_cons_zero, varR_some, Bool.true_or, if_true, bind_ok, e, of_some, ofE_ok, List.set_cons_succ, List.set_cons_zero, seqR_next, mvR_some, evSs_nil])
    9000 a b [some (.int a), some (.int b), none] 981999 h ⟨none, rfl⟩
  simp only [Nat.reduceMul, Nat.reduceAdd] at e
  simp [z1, e]
theorem low_pos {t b : Nat} (h : 0 < b) : 0 < Nat.gcd t b ∧ Nat.gcd t b ≤ b := ⟨Nat.gcd_pos_of_pos_right _ h, Nat.gcd_le_right _ h⟩
theorem low_snd1 {t b : Nat} (h : 0 < b) : 0 < (low t b).2 ∧ (low t b).2 ≤ b ∧ (low t b).1 ≤ t := by
  obtain ⟨g1, g2⟩ := low_pos (t := t) h
  exact ⟨Nat.div_pos g2 g1, Nat.div_le_self _ _, Nat.div_le_self _ _⟩
theorem md (n t b : Nat) (h0 : 0 < b) (h : b < 2 ^ 9000) : Mp.run 1000000 fs (n + 2) 2 [.int t, .int b] = .ok (pD (low t b)) [] := by
  rw [run_eq 1000000 fs (n + 1) 2 _ z2.2 rfl rfl]
  obtain ⟨g1, g2⟩ := low_pos (t := t) h0
  have e1 := div_nat (a := t) g1 (Nat.lt_of_le_of_lt g2 h)
  have e2 := div_nat (a := b) g1 (Nat.lt_of_le_of_lt g2 h)
  simp [z2, sha n t b h, e1, e2, pD, low]
theorem lo (n t b : Nat) (h0 : 0 < b) (h : b < 2 ^ 9000) : Mp.run 1000000 fs (n + 1) 8 [.int t, .int b] = .ok (pD (low t b)) [] := by
  rw [run_eq 1000000 fs n 8 _ z8.2 rfl rfl]
  obtain ⟨g1, g2⟩ := low_pos (t := t) h0
  have e1 := div_nat (a := t) g1 (Nat.lt_of_le_of_lt g2 h)
  have e2 := div_nat (a := b) g1 (Nat.lt_of_le_of_lt g2 h)
  obtain ⟨g', e, rfl⟩ := gcd_whl (c := fun g => ev (Mp.run 1000000 fs n) z8_b0c false g) (f := fun g => evSs (Mp.run 1000000 fs n) 1000000 z8_b0 g)
    (fun x y g => g = [some (.int t), some (.int b), some (.int x), some (.int y)]) (by rintro x g rfl; simp [z8_b0c])
    (by
      rintro x y g hb rfl
      have e : opD .mod [.int x, .int y] = some (.int ((x % y : Nat) : Int)) := mod_nat hb
      refine ⟨by simp [z8_b0c]; omega, _, ?_, rfl⟩
      simp only [z8_b0, evSs_cons, ev_s_par, ev_op, evs_cons, evs_nil, ev_var, List.getElem?_cons_succ, List.getElem?_cons_zero, varR_some, Bool.true_or, Bool.false_or, cold_int, if_true, bind_ok, e, of_some, ofE_ok, List.set_cons_succ, List.set_cons_zero, seqR_next, evSs_nil])
    9000 t b [some (.int t), some (.int b), some (.int t), some (.int b)] 981999 h rfl
  simp only [Nat.reduceMul, Nat.reduceAdd] at e
  simp [z8, e, e1, e2, pD, low]
theorem pow_le' {a i j : Nat} (h : a < 2 ^ i) (hij : i ≤ j) : a < 2 ^ j := Nat.lt_of_lt_of_le h (Nat.pow_le_pow_right (by decide) hij)
theorem il (n t b : Nat) (p : Nat × Nat) (h0 : 0 < b) (h : b < 2 ^ 9000) : Mp.run 1000000 fs (n + 2) 9 [pD p, .int t, .int b] = .ok (.bl (same (pD p) (pD (low t b)))) [] := by
  rw [run_eq 1000000 fs (n + 1) 9 _ z9.2 rfl rfl]
  have e := lo n t b h0 h
  simp [z9, pD, forL, z9_b0, holdIt_cold] at e ⊢
  simp [e]
def mixed (c k : Int) : Int := (c % 2305843009213693951 + 1) * (k * k + 48271) * 40692 % 2147483399
theorem mx (w n : Nat) (c k : Int) (h0 : 0 ≤ k) (h1 : k ≤ 1000) : Mp.run w fs (n + 1) 7 [.int c, .int k] = .ok (.int (mixed c k)) [] := by
  rw [run_eq w fs n 7 _ z7.2 rfl rfl]
  have m1 : mulOk k k = true := mulOk_l (by omega)
  have m2 : mulOk (c % 2305843009213693951 + 1) (k * k + 48271) = true := mulOk_l (by omega)
  have m3 : mulOk ((c % 2305843009213693951 + 1) * (k * k + 48271)) 40692 = true := mulOk_r (by decide)
  simp [z7, m1, m2, m3, mixed]
theorem ca (w n : Nat) (ns : List Int) (k : Nat) : ∃ c, Mp.run w fs (n + 1) 6 [.lst false (ns.map D.int), .int k] = .ok (.int c) [] := by
  rw [run_eq w fs n 6 _ z6.2 rfl rfl]
  by_cases h : k < ns.length
  · refine ⟨ns[k], ?_⟩
    have e : atD (ns.map D.int) (k : Int) = some (.int ns[k]) := by rw [atD_nat, List.getElem?_map, List.getElem?_eq_getElem h]; rfl
    simp [z6, e, h]
  · exact ⟨0, by simp [z6, h]⟩
/-! ### numbers' words -/
theorem num (w n : Nat) (s : List Nat) (k : Nat) (hk : k ≤ 640) : Mp.run w fs (n + 1) 0 [.str s, .int k] = .ok (optN (numO s k)) [] := by
  rw [run_eq w fs n 0 _ z0.2 rfl rfl]
  cases s with
  | nil => simp [z0, numO, optN]
  | cons c r =>
    by_cases h1 : r.length + 1 ≤ k
    · have g1 : (1 : Int) ≤ (r.length : Int) + 1 := by omega
      have g2 : (r.length : Int) + 1 ≤ (k : Int) := by omega
      by_cases h2 : (c :: r).all isDig = true
      · have e := (strip_fig (c :: r)).mpr h2
        have h2' := h2
        rw [List.all_cons] at h2'
        have h6 : r.length + 1 ≤ 640 := by omega
        by_cases h3 : c = 48
        · subst h3
          cases r with
          | nil =>
            have h1 : 1 ≤ k := h1
            have g3 : (1 : Int) ≤ (k : Int) := by omega
            simp [z0, numO, optN, e, isDig, digV, h1, g3]
          | cons d q => 
            simp only [List.length_cons, Int.natCast_add, Int.natCast_one, Int.cast_ofNat_Int] at g1 g2
            simp [z0, numO, optN, g1, g2, e]
        · have : numO (c :: r) k = some (digV (c :: r)) := numO_of (by simp) (by simpa using h1) h2 (by intro e; simp at e; exact absurd e h3)
          rw [this]
          have h7 : (c == 48) = false := by simpa using h3
          simp [z0, optN, g1, g2, e, h7, h2', h6]
      · have e : ¬ stripL [48, 49, 50, 51, 52, 53, 54, 55, 56, 57] (c :: r) = [] := fun e => h2 ((strip_fig (c :: r)).mp e)
        have h2' := h2
        rw [List.all_cons] at h2'
        have e' : (stripL [48, 49, 50, 51, 52, 53, 54, 55, 56, 57] (c :: r)).isEmpty = false := by simpa using e
        simp [z0, numO, optN, g1, g2, e', h2']
    · have g1 : ¬ (r.length : Int) + 1 ≤ (k : Int) := by omega
      have g2 : (1 : Int) ≤ (r.length : Int) + 1 := by omega
      simp [z0, numO, optN, g1, g2, h1]
/-! ### a length's text -/
/-- the length that a text tells -/
def lenW : List (List Nat) → Option (Nat × Nat)
  | [a] => (numO a 4).bind fun n => some (n, 1)
  | [a, b] => (numO a 4).bind fun x => (numO b 4).bind fun y => if y = 0 then none else some (low x y)
  | _ => none
def lenO (t : List Nat) : Option (Nat × Nat) := lenW (splL [47] 0 [] t)
def optP : Option (Nat × Nat) → D
  | none => .non
  | some p => pD p
theorem lno (n : Nat) (t : List Nat) (ht : t.length ≤ 1000000) : Mp.run 1000000 fs (n + 3) 4 [.str t] = .ok (optP (lenO t)) [] := by
  rw [run_eq 1000000 fs (n + 2) 4 _ z4.2 rfl rfl]
  unfold lenO
  have ct := spl_count (x := 47) t []
  have hc := compL_map (t := .nm 3) (own := [3]) (c := fun g => .ok (true, g)) (f := fun g => ev (Mp.run 1000000 fs (n + 2)) z4_e0 false g) [some (.str t), none, none, none] D.str (fun a => optN (numO a 4)) (xs := splL [47] 0 [] t) (by
    intro a _
    have e := num 1000000 (n + 1) a 4 (by decide)
    have e : Mp.run 1000000 fs (n + 2) 0 [.str a, .int 4] = .ok (optN (numO a 4)) [] := e
    exact ⟨[some (.str t), none, none, some (.str a)], [some (.str t), none, none, some (.str a)], [some (.str t), none, none, none], rfl, rfl, by simp [z4_e0, e], rfl⟩)
  have t2 : t.length ≤ 16777214 := by omega
  have cs := coldL_strs (splL [47] 0 [] t)
  have fl : fitsL ((splL [47] 0 [] t).map D.str) = true := by unfold fitsL; simp; omega
  have hn := spl_ne 47 t []
  obtain ⟨ws, hw⟩ : ∃ ws, splL [47] 0 [] t = ws := ⟨_, rfl⟩
  rw [hw] at hc cs fl hn ct
  rw [hw]
  match ws with
  | [] => exact absurd rfl hn
  | [a] =>
    simp only [List.map_cons, List.map_nil] at hc cs fl
    cases oa : numO a 4 <;> simp only [oa, optN] at hc <;> simp [z4, t2, hw, hotS, cs, fl, hc, lenW, oa, optP, pD]
  | [a, b] =>
    simp only [List.map_cons, List.map_nil] at hc cs fl
    cases oa : numO a 4 with
    | none => cases ob : numO b 4 <;> simp only [oa, ob, optN] at hc <;> simp [z4, t2, hw, hotS, cs, fl, hc, lenW, oa, optP, pD]
    | some x =>
      cases ob : numO b 4 with
      | none => simp only [oa, ob, optN] at hc; simp [z4, t2, hw, hotS, cs, fl, hc, lenW, oa, ob, optP, pD]
      | some y =>
        have lt := numO_lt ob
        simp only [oa, ob, optN] at hc
        by_cases y0 : y = 0
        · subst y0
          simp [z4, t2, hw, hotS, cs, fl, hc, lenW, oa, ob, optP, pD]
        · have e := md n x y (by omega) (pow_le' (i := 14) (by omega) (by decide))
          have y1 : ((y : Int) == 0) = false := beq_false_of_ne (by omega)
          simp [z4, t2, hw, hotS, cs, fl, hc, lenW, oa, ob, y0, y1, optP, e]
  | a :: b :: c :: r =>
    simp only [List.map_cons, List.map_nil] at hc cs fl
    have g : (2 : Int) < (r.length : Int) + 1 + 1 + 1 := by omega
    simp [z4, t2, hw, hotS, cs, fl, hc, lenW, optP, g]
def lenT (p : Nat × Nat) : List Nat := if p.2 = 1 then strI p.1 else strI p.1 ++ 47 :: strI p.2
theorem lenT_len (p : Nat × Nat) (hp : p.1 < 2 ^ 64) (hq : p.2 < 2 ^ 64) : (lenT p).length ≤ 43 := by
  have lp := strI_le (i := p.1) (by omega)
  have lq := strI_le (i := p.2) (by omega)
  unfold lenT
  split
  · omega
  · simp; omega
theorem ltx (n : Nat) (p : Nat × Nat) (hp : p.1 < 2 ^ 64) (hq : p.2 < 2 ^ 64) : Mp.run 1000000 fs (n + 1) 3 [pD p] = .ok (.str (lenT p)) [] := by
  rw [run_eq 1000000 fs n 3 _ z3.2 rfl rfl]
  have lp := strI_le (i := p.1) (by omega)
  have lq := strI_le (i := p.2) (by omega)
  have s1 := log_ok (i := p.1) (by omega)
  have s2 := log_ok (i := p.2) (by omega)
  rw [Int.natAbs_natCast] at s1 s2
  unfold lenT
  by_cases q1 : p.2 = 1
  · simp [z3, pD, q1, s1]
  · have q2 : ((p.2 : Int) == 1) = false := beq_false_of_ne (by omega)
    have l1 : (strI (p.1 : Int)).length ≤ 16777215 := by omega
    have l2 : (strI (p.1 : Int)).length + 1 + (strI (p.2 : Int)).length ≤ 16777216 := by omega
    simp [z3, pD, q1, q2, s1, s2, l1, l2]
theorem low_one (x : Nat) : low x 1 = (x, 1) := by
  unfold low
  rw [Nat.gcd_one_right, Nat.div_one, Nat.div_one]
/-- what the law asks: the length's parts as they stand -/
def dueW : List (List Nat) → Option (Nat × Nat)
  | [a] => (numO a 4).bind fun n => some (n, 1)
  | [a, b] => (numO a 4).bind fun x => (numO b 4).bind fun y => if y = 0 then none else some (x, y)
  | _ => none
def dueO (t : List Nat) : Option (Nat × Nat) := dueW (splL [47] 0 [] t)
theorem lenO_due (t : List Nat) : lenO t = (dueO t).map fun p => low p.1 p.2 := by
  unfold lenO dueO
  match splL [47] 0 [] t with
  | [] => rfl
  | [a] =>
    show (numO a 4).bind (fun n => some (n, 1)) = ((numO a 4).bind fun n => some (n, 1)).map fun p => low p.1 p.2
    cases numO a 4 with
    | none => rfl
    | some n => show some (n, 1) = some (low n 1); rw [low_one]
  | [a, b] =>
    show ((numO a 4).bind fun x => (numO b 4).bind fun y => if y = 0 then none else some (low x y)) = ((numO a 4).bind fun x => (numO b 4).bind fun y => if y = 0 then none else some (x, y)).map fun p => low p.1 p.2
    cases numO a 4 with
    | none => rfl
    | some x =>
      cases numO b 4 with
      | none => rfl
      | some y =>
        show (if y = 0 then none else some (low x y)) = (if y = 0 then none else some (x, y)).map fun p => low p.1 p.2
        by_cases y0 : y = 0
        · rw [if_pos y0, if_pos y0]; rfl
        · rw [if_neg y0, if_neg y0]; rfl
  | a :: b :: c :: r => rfl
theorem due_bd {t : List Nat} {p : Nat × Nat} (h : dueO t = some p) : p.1 < 10 ^ 4 ∧ 0 < p.2 ∧ p.2 < 10 ^ 4 := by
  unfold dueO at h
  match splL [47] 0 [] t, h with
  | [a], h =>
    obtain ⟨n, h1, h2⟩ := Option.bind_eq_some_iff.mp h
    cases h2
    exact ⟨numO_lt h1, Nat.one_pos, (by decide : 1 < 10 ^ 4)⟩
  | [a, b], h =>
    obtain ⟨x, h1, h2⟩ := Option.bind_eq_some_iff.mp h
    obtain ⟨y, h3, h4⟩ := Option.bind_eq_some_iff.mp h2
    split at h4
    · cases h4
    · cases h4
      exact ⟨numO_lt h1, by show 0 < y; omega, numO_lt h3⟩
/-! ### the law's own reading -/
theorem fgs (w n : Nat) (t : List Nat) : Mp.run w fs (n + 1) 13 [.str t] = .ok (.bl (numO t 4).isSome) [] := by
  rw [run_eq w fs n 13 _ z13.2 rfl rfl]
  have sc := forL_scan (t := .nm 1) (f := fun g => evSs (Mp.run w fs n) w z13_b0 g) (fun g => ∃ x, g = [some (.str t), x])
    (fun d => match d with
      | .str [c] => isDig c
      | _ => false) (.bl false) (l := t.map fun c => .str [c]) (g := [some (.str t), none]) ⟨none, rfl⟩ (by
    intro d hd g hg
    obtain ⟨c, hc, rfl⟩ := List.mem_map.mp hd
    obtain ⟨x, rfl⟩ := hg
    have m := mem_fig c
    cases dc : isDig c with
    | true =>
      rw [dc] at m
      rw [if_pos (by simpa using dc)]
      exact ⟨[some (.str t), some (.str [c])], .inl (by simp only [turn_eq, asg_nm, asgR_some]; simp [z13_b0, nmem_str, -List.mem_cons, m]), _, rfl⟩
    | false =>
      rw [dc] at m
      rw [if_neg (by simpa using dc)]
      exact ⟨[some (.str t), some (.str [c])], by simp only [turn_eq, asg_nm, asgR_some]; simp [z13_b0, nmem_str, -List.mem_cons, m]⟩)
  have al : (t.map fun c => D.str [c]).all (fun d => match d with
      | .str [c] => isDig c
      | _ => false) = t.all isDig := by
    rw [List.all_map]
    rfl
  rw [al] at sc
  by_cases h : t.all isDig = true
  · rw [if_pos h] at sc
    obtain ⟨g', e, x, rfl⟩ := sc
    cases t with
    | nil =>
      simp only [List.map_nil] at e
      simp [z13, e, numO]
    | cons c r =>
      simp only [List.map_cons] at e
      have g0 : (0 : Int) < (r.length : Int) + 1 := by omega
      by_cases h1 : r.length + 1 ≤ 4
      · have g1 : (r.length : Int) + 1 < 5 := by omega
        by_cases h3 : c = 48
        · subst h3
          cases r with
          | nil =>
            simp only [List.map_nil] at e
            simp [z13, e, numO, isDig]
          | cons d q =>
            simp only [List.length_cons, Int.natCast_add, Int.natCast_one, Int.cast_ofNat_Int] at g1 g0
            simp only [List.map_cons] at e
            simp [z13, e, numO, g1, g0]
        · have : numO (c :: r) 4 = some (digV (c :: r)) := numO_of (by simp) (by simpa using h1) h (by intro e; simp at e; exact absurd e h3)
          have h7 : (c == 48) = false := by simpa using h3
          simp [z13, e, this, g1, g0, h7]
      · have g1 : ¬ (r.length : Int) + 1 < 5 := by omega
        simp [z13, e, numO, g1, g0, h1]
  · rw [if_neg h] at sc
    obtain ⟨g', e⟩ := sc
    have nn : numO t 4 = none := by
      unfold numO
      rw [if_neg]
      simp [h]
    simp [z13, e, nn]
theorem find_off {s : List Nat} (h : 47 ∉ s) : findC 47 s = -1 := by
  unfold findC
  have : s.findIdx? (fun x => x == 47) = none := by
    rw [List.findIdx?_eq_none_iff]
    intro x hx
    have : x ≠ 47 := fun e => h (by rw [← e]; exact hx)
    simpa using this
  rw [this]
theorem find_at {a r : List Nat} (h : 47 ∉ a) : findC 47 (a ++ 47 :: r) = (a.length : Int) := by
  unfold findC
  have : (a ++ 47 :: r).findIdx? (fun x => x == 47) = some a.length := by
    rw [List.findIdx?_eq_some_iff_getElem]
    refine ⟨by simp, by simp, fun j hj => ?_⟩
    rw [List.getElem_append_left hj]
    have : a[j] ≠ 47 := fun e => h (by rw [← e]; exact List.getElem_mem hj)
    simpa using this
  rw [this]
theorem cut_at : ∀ {s : List Nat}, 47 ∈ s → ∃ a r, s = a ++ 47 :: r ∧ 47 ∉ a
  | [], h => by cases h
  | c :: s, h => by
    by_cases e : c = 47
    · exact ⟨[], s, by rw [e]; rfl, by simp⟩
    · have : 47 ∈ s := by
        rcases List.mem_cons.mp h with q | q
        · exact absurd q.symm e
        · exact q
      obtain ⟨a, r, e1, e2⟩ := cut_at this
      refine ⟨c :: a, r, by rw [e1]; rfl, fun z => ?_⟩
      rcases List.mem_cons.mp z with q | q
      · exact e q.symm
      · exact e2 q
theorem ldue (w n : Nat) (t : List Nat) : Mp.run w fs (n + 2) 14 [.str t] = .ok (match dueO t with
    | none => .non
    | some p => .tup [.int p.1, .int p.2]) [] := by
  rw [run_eq w fs (n + 1) 14 _ z14.2 rfl rfl]
  unfold dueO
  by_cases h : 47 ∈ t
  · obtain ⟨a, r, rfl, ha⟩ := cut_at h
    rw [spl_cut a r [] ha, List.nil_append]
    have f := find_at (r := r) ha
    have ca : a.count 47 = 0 := List.count_eq_zero.mpr ha
    have cn : (a ++ 47 :: r).count 47 = r.count 47 + 1 := by simp [ca]
    by_cases hr : 47 ∈ r
    · obtain ⟨b, q, rfl, hb⟩ := cut_at hr
      rw [spl_cut b q [] hb, List.nil_append]
      have c1 : (1 : Int) < (((a ++ 47 :: (b ++ 47 :: q)).count 47 : Nat) : Int) := by
        have : (b ++ 47 :: q).count 47 = q.count 47 + 1 := by simp [List.count_eq_zero.mpr hb]
        rw [cn, this]
        omega
      have dw : dueW (a :: b :: splL [47] 0 [] q) = none := by
        cases e : splL [47] 0 [] q with
        | nil => exact absurd e (spl_ne 47 q [])
        | cons _ _ => rfl
      rw [dw]
      generalize (a ++ 47 :: (b ++ 47 :: q)) = T at *
      simp [z14, c1]
    · rw [spl_all r [] hr, List.nil_append]
      have c1 : ¬ (1 : Int) < (((a ++ 47 :: r).count 47 : Nat) : Int) := by
        rw [cn, List.count_eq_zero.mpr hr]
        decide
      have t1 : cutL (a ++ 47 :: r) none (some (a.length : Int)) = a := by rw [cutL_hi]; simp
      have t2 : cutL (a ++ 47 :: r) (some ((a.length : Int) + 1)) none = r := by
        have := cutL_lo (a ++ 47 :: r) (a.length + 1)
        rw [show (((a.length + 1 : Nat)) : Int) = (a.length : Int) + 1 by simp] at this
        rw [this]
        simp
      have f1 := fgs w n a
      have f2 := fgs w n r
      have nz : ¬ (a.length : Int) < 0 := by omega
      generalize (a ++ 47 :: r) = T at *
      show _ = ROut.ok (match (numO a 4).bind fun x => (numO r 4).bind fun y => if y = 0 then none else some (x, y) with
        | none => .non
        | some p => .tup [.int p.1, .int p.2]) []
      cases oa : numO a 4 with
      | none => rw [oa] at f1; simp [z14, c1, f, nz, t1, f1]
      | some x =>
        obtain ⟨a1, a2, a3, a4, a5⟩ := numO_some oa
        have a6 : a.length ≤ 640 := by omega
        rw [oa] at f1
        cases ob : numO r 4 with
        | none => rw [ob] at f2; simp [z14, c1, f, nz, t1, t2, f1, f2]
        | some y =>
          obtain ⟨b1, b2, b3, b4, b5⟩ := numO_some ob
          have b6 : r.length ≤ 640 := by omega
          rw [ob] at f2
          by_cases y0 : y = 0
          · subst y0
            have r0 : (r == [48]) = true := by rw [numO_zero ob]; rfl
            simp [z14, c1, f, nz, t1, t2, f1, f2, r0]
          · have r0 : (r == [48]) = false := beq_false_of_ne fun e => y0 (by rw [← b5, e]; rfl)
            simp [z14, c1, f, nz, t1, t2, f1, f2, r0, a1, a3, a5, a6, b1, b3, b5, b6, y0]
  · rw [spl_all t [] h, List.nil_append]
    have f := find_off h
    have c1 : ¬ (1 : Int) < ((t.count 47 : Nat) : Int) := by
      rw [List.count_eq_zero.mpr h]
      decide
    have f1 := fgs w n t
    have dw : dueW [t] = (numO t 4).bind fun n => some (n, 1) := rfl
    rw [dw]
    cases oa : numO t 4 with
    | none => rw [oa] at f1; simp [z14, c1, f, f1]
    | some x =>
      obtain ⟨a1, a2, a3, a4, a5⟩ := numO_some oa
      have a6 : t.length ≤ 640 := by omega
      rw [oa] at f1
      simp [z14, c1, f, f1, a1, a3, a5, a6]
theorem rdl (n : Nat) (t : List Nat) (ht : t.length ≤ 1000000) : Mp.run 1000000 fs (n + 4) 5 [.str t] = (match lenO t with
    | none => .exc 0 []
    | some p => .ok (pD p) []) := by
  rw [run_eq 1000000 fs (n + 3) 5 _ z5.2 rfl rfl]
  have e := lno n t ht
  cases o : lenO t with
  | none =>
    rw [o] at e
    simp only [optP] at e
    simp [z5, e]
  | some p =>
    rw [o] at e
    simp only [optP, pD] at e
    simp [z5, e, pD]
theorem same_pD (p : Nat × Nat) : same (pD p) (pD p) = true := by
  unfold pD
  simp
theorem rt (n : Nat) (t : List Nat) (ht : t.length ≤ 1000000) : Mp.run 1000000 fs (n + 5) 15 [.str t] = .ok (.bl true) [] := by
  rw [run_eq 1000000 fs (n + 4) 15 _ z15.2 rfl rfl]
  have e1 := ldue 1000000 (n + 2) t
  have e2 := rdl n t ht
  rw [lenO_due] at e2
  cases o : dueO t with
  | none =>
    rw [o] at e1 e2
    simp only [Option.map_none] at e1 e2
    simp [z15, e1, e2]
  | some p =>
    obtain ⟨b1, b2, b3⟩ := due_bd o
    rw [o] at e1 e2
    simp only [Option.map_some] at e1 e2
    have q4 : ∀ {x : Nat}, x < 10 ^ 4 → x < 2 ^ 9000 := fun h => pow_le' (i := 14) (by omega) (by decide)
    have i1 := il (n + 2) p.1 p.2 (low p.1 p.2) b2 (q4 b3)
    rw [same_pD] at i1
    have e3 := lo (n + 3) p.1 p.2 b2 (q4 b3)
    have sn := low_snd1 (t := p.1) b2
    generalize low p.1 p.2 = q at *
    have q1 : q.1 < 2 ^ 64 := by omega
    have q2 : q.2 < 2 ^ 64 := by omega
    have e4 := ltx (n + 3) q q1 q2
    have lp := strI_le (i := q.1) (by rw [Int.natAbs_natCast]; assumption)
    have lq := strI_le (i := q.2) (by rw [Int.natAbs_natCast]; assumption)
    have s1 := str_int (i := q.1) (by rw [Int.natAbs_natCast]; assumption)
    have s2 := str_int (i := q.2) (by rw [Int.natAbs_natCast]; assumption)
    have a1 : opD .add [.str [47], .str (strI q.2)] = some (.str (47 :: strI q.2)) := add_str rfl (by simp; omega)
    have a2 : opD .add [.str (strI q.1), .str []] = some (.str (strI q.1)) := add_str (by simp) (by omega)
    have a3 : opD .add [.str (strI q.1), .str (47 :: strI q.2)] = some (.str (strI q.1 ++ 47 :: strI q.2)) := add_str rfl (by simp; omega)
    unfold lenT at e4
    simp only [pD] at e2 e3 e4 i1
    by_cases c : q.2 = 1
    · have c2 : ((q.2 : Int) == 1) = true := by rw [c]; rfl
      rw [if_pos c] at e4
      simp [z15, e1, e2, e3, e4, i1, c2, s1, s2, a1, a2, -op_add_str, -op_str_int]
    · have c2 : ((q.2 : Int) == 1) = false := beq_false_of_ne (fun h => c (Int.ofNat.inj h))
      rw [if_neg c] at e4
      simp [z15, e1, e2, e3, e4, i1, c2, s1, s2, a1, a3, -op_add_str, -op_str_int]
theorem fgb (w n : Nat) (m : Int) : ∃ k : Nat, k < 10 ^ 6 ∧ Mp.run w fs (n + 1) 11 [.int m] = .ok (.str (strI (k : Int))) [] := by
  rw [run_eq w fs n 11 _ z11.2 rfl rfl]
  have d1 : opD .div [.int m, .int 8] = some (.int (m / 8)) := div_ok (by decide) (by decide)
  obtain ⟨j, hj, lj⟩ := mod_to (m := m) (k := 8) (by decide)
  obtain ⟨y, hy, y0, y1⟩ : ∃ y : Nat, atD [D.int 10, D.int 100, D.int 1000, D.int 10000, D.int 100000, D.int 9, D.int 32, D.int 64] (j : Int) = some (.int y) ∧ 0 < y ∧ y ≤ 100000 := by
    have : j = 0 ∨ j = 1 ∨ j = 2 ∨ j = 3 ∨ j = 4 ∨ j = 5 ∨ j = 6 ∨ j = 7 := by omega
    rcases this with h | h | h | h | h | h | h | h <;> subst h
    · exact ⟨10, rfl, by decide, by decide⟩
    · exact ⟨100, rfl, by decide, by decide⟩
    · exact ⟨1000, rfl, by decide, by decide⟩
    · exact ⟨10000, rfl, by decide, by decide⟩
    · exact ⟨100000, rfl, by decide, by decide⟩
    · exact ⟨9, rfl, by decide, by decide⟩
    · exact ⟨32, rfl, by decide, by decide⟩
    · exact ⟨64, rfl, by decide, by decide⟩
  obtain ⟨t, ht, lt⟩ := mod_to (m := m / 8) (k := (y : Int)) (by omega)
  have s := str_int (i := (t : Int)) (by rw [Int.natAbs_natCast]; exact Nat.lt_of_lt_of_le (show t < 2 ^ 17 by omega) (by decide))
  exact ⟨t, by omega, by simp [z11, d1, hj, hy, y0, ht, s, -op_str_int]⟩
theorem sgb (w n : Nat) (m : Int) : ∃ c : Nat, Mp.run w fs (n + 1) 10 [.int m] = .ok (.str [c]) [] := by
  rw [run_eq w fs n 10 _ z10.2 rfl rfl]
  obtain ⟨j, hj, lj⟩ := mod_to (m := m) (k := 95) (by decide)
  obtain ⟨c, hc⟩ : ∃ c, atD [32, 33, 34, 35, 36, 38, 39, 40, 41, 42, 43, 44, 45, 46, 47, 48, 49, 50, 51, 52, 53, 54, 55, 56, 57, 58, 59, 60, 61, 62, 63, 64, 65, 66, 67, 68, 69, 70, 71, 72, 73, 74, 75, 76, 77, 78, 79, 80, 81, 82, 83, 84, 85, 86, 87, 88, 89, 90, 91, 92, 93, 94, 95, 96, 97, 98, 99, 100, 101, 102, 103, 104, 105, 106, 107, 108, 109, 110, 111, 112, 113, 114, 115, 116, 117, 118, 119, 120, 121, 122, 123, 124, 125, 126, 10] (j : Int) = some c := by
    rw [atD_nat]
    exact ⟨_, List.getElem?_eq_getElem (by simp; omega)⟩
  exact ⟨c, by simp [z10, hj, hc]⟩
/-- a sign put in, put otherwise, or none -/
theorem tby_end (n : Nat) (m q : Int) (T : List Nat) (hT : T.length ≤ 100) : ∃ t g, t.length ≤ 1000000 ∧ evSs (Mp.run 1000000 fs (n + 2)) 1000000 (z12.2.body.drop 4) [none, none, some (.int m), some (.int q), some (.str T), none, none] = .ret (.str t) g := by
  have d1 : opD .div [.int q, .int 64] = some (.int (q / 64)) := div_ok (by decide) (by decide)
  have d2 : opD .div [.int m, .int 900] = some (.int (m / 900)) := div_ok (by decide) (by decide)
  have d3 : opD .div [.int m, .int 3] = some (.int (m / 3)) := div_ok (by decide) (by decide)
  have d4 : opD .div [.int q, .int 700] = some (.int (q / 700)) := div_ok (by decide) (by decide)
  obtain ⟨c, ec⟩ := sgb 1000000 (n + 1) (m / 900)
  have pk : (0 : Int) < (T.length : Int) + 1 := by omega
  obtain ⟨a, ha, la⟩ := mod_to (m := q / 64) (k := (T.length : Int) + 1) pk
  have c1 := cutL_hi T a
  have c2 := cutL_lo T a
  have c3 : cutL T (some ((a : Int) + 1)) none = T.drop (a + 1) := cutL_lo T (a + 1)
  have lt : (T.take a).length ≤ T.length := List.length_take_le' _ _
  have ld : (T.drop a).length ≤ T.length := by rw [List.length_drop]; omega
  have ld' : (T.drop (a + 1)).length ≤ T.length := by rw [List.length_drop]; omega
  by_cases r0 : m / 3 % 4 = 0
  · have a1 : opD .add [.str (T.take a), .str [c]] = some (.str (T.take a ++ [c])) := add_str rfl (by simp; omega)
    have a2 : opD .add [.str (T.take a ++ [c]), .str (T.drop a)] = some (.str (T.take a ++ c :: T.drop a)) := add_str (by simp) (by simp; omega)
    refine ⟨T.take a ++ c :: T.drop a, [none, none, some (.int m), some (.int q), some (.str T), none, some (.str [c])], by simp; omega, ?_⟩
    generalize T.take a = x1 at *
    generalize T.drop a = x2 at *
    simp [z12, d1, d2, d3, ha, pk, ec, r0, c1, c2, a1, a2, -op_add_str]
  · have r0' := beq_false_of_ne r0
    by_cases r1 : m / 3 % 4 = 1
    · obtain ⟨j, hj, lj⟩ := mod_to (m := q / 700) (k := 4) (by decide)
      obtain ⟨u, mu, eu⟩ := at_strs (us := [[], [c], [48], [47]]) (q := j) (by simp; omega)
      have lu : u.length ≤ 1 := by
        simp only [List.mem_cons, List.not_mem_nil, or_false] at mu
        rcases mu with h | h | h | h <;> subst h <;> simp
      simp only [List.map_cons, List.map_nil] at eu
      have a1 : opD .add [.str (T.take a), .str u] = some (.str (T.take a ++ u)) := add_str rfl (by simp; omega)
      have a2 : opD .add [.str (T.take a ++ u), .str (T.drop (a + 1))] = some (.str (T.take a ++ u ++ T.drop (a + 1))) := add_str rfl (by simp; omega)
      refine ⟨T.take a ++ u ++ T.drop (a + 1), [none, none, some (.int m), some (.int q), some (.str T), some (.int a), none], by simp; omega, ?_⟩
      generalize T.take a = x1 at *
      generalize T.drop (a + 1) = x2 at *
      generalize x1 ++ u = x3 at *
      generalize x3 ++ x2 = x4 at *
      simp [z12, d1, d2, d3, d4, ha, pk, ec, r0', r1, hj, eu, c1, c3, a1, a2, -op_add_str]
    · have r1' := beq_false_of_ne r1
      refine ⟨T, [none, none, some (.int m), some (.int q), none, some (.int a), some (.str [c])], by omega, ?_⟩
      simp [z12, d1, d2, d3, ha, pk, ec, r0', r1']
theorem tby (n : Nat) (x y : Int) : ∃ t, t.length ≤ 1000000 ∧ Mp.run 1000000 fs (n + 3) 12 [.int x, .int y] = .ok (.str t) [] := by
  rw [run_eq 1000000 fs (n + 2) 12 _ z12.2 rfl rfl]
  have e1 := mx 1000000 (n + 1) x 1 (by decide) (by decide)
  have e2 := mx 1000000 (n + 1) y 2 (by decide) (by decide)
  generalize mixed x 1 = m at e1
  generalize mixed y 2 = q at e2
  have d1 : opD .div [.int m, .int 12] = some (.int (m / 12)) := div_ok (by decide) (by decide)
  obtain ⟨k1, l1, f1⟩ := fgb 1000000 (n + 1) (m / 12)
  obtain ⟨k2, l2, f2⟩ := fgb 1000000 (n + 1) q
  have s1 := (strI_len (n := k1) (k := 6) (by decide)).mpr l1
  have s2 := (strI_len (n := k2) (k := 6) (by decide)).mpr l2
  rw [evSs_split _ _ 4]
  by_cases r : m % 3 > 0
  · have a1 : opD .add [.str (strI k1), .str [47]] = some (.str (strI k1 ++ [47])) := add_str rfl (by simp; omega)
    have a2 : opD .add [.str (strI k1 ++ [47]), .str (strI k2)] = some (.str (strI k1 ++ 47 :: strI k2)) := add_str (by simp) (by simp; omega)
    have lT : (strI k1 ++ 47 :: strI k2).length ≤ 100 := by simp; omega
    generalize strI k1 ++ 47 :: strI k2 = T at *
    have st : evSs (Mp.run 1000000 fs (n + 2)) 1000000 (z12.2.body.take 4) [some (.int x), some (.int y), none, none, none, none, none] = .next [none, none, some (.int m), some (.int q), some (.str T), none, none] := by
      have r' : (0 : Int) < m % 3 := r
      simp [z12, e1, e2, d1, f1, f2, r', a1, a2, -op_add_str]
    obtain ⟨t, g, ht, e⟩ := tby_end n m q T lT
    refine ⟨t, ht, ?_⟩
    show endR _ (seqR (evSs _ _ _ [some (.int x), some (.int y), none, none, none, none, none]) _) = _
    rw [st, seqR_next, e]
    rfl
  · have st : evSs (Mp.run 1000000 fs (n + 2)) 1000000 (z12.2.body.take 4) [some (.int x), some (.int y), none, none, none, none, none] = .next [none, none, some (.int m), some (.int q), some (.str (strI k1)), none, none] := by
      have r' : ¬ (0 : Int) < m % 3 := r
      simp [z12, e1, e2, d1, f1, r']
    obtain ⟨t, g, ht, e⟩ := tby_end n m q (strI k1) (by omega)
    refine ⟨t, ht, ?_⟩
    show endR _ (seqR (evSs _ _ _ [some (.int x), some (.int y), none, none, none, none, none]) _) = _
    rw [st, seqR_next, e]
    rfl
theorem turns (n : Nat) (ns : List Int) (m : Nat) (hm : m ≤ 40) (g : Env) (hg : ∃ x, g = [some (.lst false (ns.map D.int)), x]) : ∃ g', forL (.nm 1) (fun g => evSs (Mp.run 1000000 fs (n + 7)) 1000000 z16_b0 g) (rngL 0 m) g = .next g' := by
  obtain ⟨g', e, _⟩ := forL_all (t := .nm 1) (f := fun g => evSs (Mp.run 1000000 fs (n + 7)) 1000000 z16_b0 g) (fun g => ∃ x, g = [some (.lst false (ns.map D.int)), x]) (l := rngL 0 m) hg (by
    intro d hd g hg
    obtain ⟨k, hk⟩ := List.getElem?_of_mem hd
    obtain ⟨lk, rfl⟩ := rngL_at _ _ _ hk
    have zk : (0 : Int) + (k : Int) = (k : Int) := by omega
    rw [zk]
    obtain ⟨x, rfl⟩ := hg
    obtain ⟨c1, e1⟩ := ca 1000000 (n + 6) ns (2 * k)
    obtain ⟨c2, e2⟩ := ca 1000000 (n + 6) ns (2 * k + 1)
    have e1 : Mp.run 1000000 fs (n + 7) 6 [.lst false (ns.map D.int), .int (2 * (k : Int))] = .ok (.int c1) [] := by
      rw [← e1]
      simp
    have e2 : Mp.run 1000000 fs (n + 7) 6 [.lst false (ns.map D.int), .int (2 * (k : Int) + 1)] = .ok (.int c2) [] := by
      rw [← e2]
      simp
    obtain ⟨t, ht, e3⟩ := tby (n + 4) (c1 + k) (c2 + 3 * k)
    have e4 := rt (n + 2) t ht
    have m1 : mulOk 2 k = true := mulOk_l (by decide)
    have m2 : mulOk 3 k = true := mulOk_l (by decide)
    exact ⟨[some (.lst false (ns.map D.int)), some (.int k)], .inl (by simp [z16_b0, e1, e2, e3, e4, m1, m2, frzL_ints]), _, rfl⟩)
  exact ⟨g', e⟩
theorem holds (ns : List Int) (hl : ns.length ≤ 63) : Mp.run 1000000 fs 40 16 [.lst false (ns.map D.int)] = .ok (.bl true) [] := by
  rw [run_eq 1000000 fs 39 16 _ z16.2 rfl rfl]
  have cu : cutL (ns.map D.int) none (some 40) = (ns.map D.int).take 40 := cutL_hi (ns.map D.int) 40
  have ln : ((ns.map D.int).take 40).length ≤ 40 := List.length_take_le _ _
  generalize hT : (ns.map D.int).take 40 = T at *
  have d1 : opD .div [.int (T.length : Int), .int 2] = some (.int ((T.length : Int) / 2)) := div_ok (by decide) (by decide)
  have sm : small62 (1 + (T.length : Int) / 2) = true := by unfold small62; simp; omega
  have tn : (1 + (T.length : Int) / 2).toNat = 1 + T.length / 2 := by omega
  obtain ⟨g', e4⟩ := turns 32 ns (1 + T.length / 2) (by omega) [some (.lst false (ns.map D.int)), none] ⟨none, rfl⟩
  rw [← tn] at e4
  simp only [Nat.reduceAdd] at e4
  simp [z16, coldL_ints, cu, d1, sm]
  rw [e4]
  simp
/-! ### the head -/
open PySem PySem.Spec PyProof.Rows L2 Mp
def defD : Stmt → Option He.DefD
  | .FunctionDef n a b _ _ _ sc _ _ _ => some ⟨(n, none), n, n, a, b, sc, [], []⟩
  | _ => none
def tb : Tbl := ⟨[0, 1, 2, 3, 4, 5], [0, 2, 3, 4], [("BadDeed", true, [5]), ("BadScore", true, [1]), ("NoBar", true, [4]), ("NoPlayer", true, [2]), ("NoStaff", true, [3]), ("ValueError", false, [0, 1, 2, 3, 4, 5]), ("NoLength", true, [0]), ("ScoreError", true, [0, 1, 2, 3, 4, 5])]⟩
noncomputable def fn : List He.DefD := PySem.Challenge.pw_partsmith_k01_lengths_read_and_written.main.body.filterMap defD
noncomputable def fa : List He.Fa := faOf fn free glbs
noncomputable abbrev R : PySem.W.OpenRow := PySem.W.OpenLaw.row PySem.Challenge.rw_partsmith_k01_lengths_read_and_written
noncomputable abbrev hk : PySem.W.Hook := Mp.hookM 4 tb fa fn
noncomputable def ob (s : PySem.W.SharedT) : Bool × He.AlD := Mp.obsM 4 tb fa fn (HandSHeadRun.getT s)
theorem ob_eq (s : PySem.W.SharedT) : ob s = hk.obs s.abs := Mp.obsM_eq (HandSHeadRun.getT_eq s)
def loose : List Str := ["ScoreError", "NoLength", "BadScore", "NoPlayer", "NoStaff", "NoBar", "BadDeed", "FIGURES", "number_of", "shared", "made_length", "length_text", "length_or_none", "read_length", "_law_cell_at", "_law_mixed", "_law_lowest", "_law_is_length", "_law_sign_by", "_law_figures_by", "_law_text_by", "_law_figures", "_law_due", "_law_right"]
theorem run (w : World) : HandSHeadRun.RunEq R (PySem.W.view R.prog [28]) hk ob 60000 loose w := by
  intro os
  kernel_rfl
theorem defs_b : fn.all defB = true := by kernel_rfl
theorem len_b : fn.length = zs.length := by kernel_rfl
theorem chk_b (cl : Nat → List D → ROut) (lev : Nat) : (dfsOf fn zs).all (dfOk tb ((dfsOf fn zs).map (·.name)) free glbs cl lev) = true := by kernel_rfl
theorem law_b : ((dfsOf fn zs)[16]?.map fun d => (d.name, d.F.par, d.N.take 1)) = some (("law" : Str), 1, [("_law_script" : Str)]) := by kernel_rfl
end K01
open PySem PySem.W PySem.Calls PyProof.Rows
theorem PySem.Challenge.cw_partsmith_k01_lengths_read_and_written_holds : PySem.Challenge.rw_partsmith_k01_lengths_read_and_written.Holds := by
  w_on; o_law
  refine HandSHeadRun.head_any (r := OpenLaw.row PySem.Challenge.rw_partsmith_k01_lengths_read_and_written) (q := view (OpenLaw.row PySem.Challenge.rw_partsmith_k01_lengths_read_and_written).prog [28]) (H := K01.hk) (ob := K01.ob) (M := 60000) (loose := K01.loose)
    (d := HandSHeadRun.topDef (OpenLaw.row PySem.Challenge.rw_partsmith_k01_lengths_read_and_written).prog 28) (kwd := []) K01.ob_eq
    (by kernel_rfl) (fun s => by kernel_rfl) K01.run (by kernel_rfl) (by kernel_rfl) (by kernel_rfl) (by rfl) (by first | assumption | decide +kernel) (by decide +kernel) ⟨rfl, rfl, rfl, rfl, rfl, by decide +kernel⟩ ?hw ?hc
  case hw => w_witness2
  case hc =>
    refine L2.walk_ofE (l := PySem.Challenge.rw_partsmith_k01_lengths_read_and_written) (n := 63) (k := 40) (x := "_law_script") (CX := L2.CX0) rfl (by decide) (by kernel_rfl) ⟨rfl, by decide, by decide⟩ ?F (fun _ _ _ _ z => z)
    intro w mg fa h Y G hmg0
    obtain ⟨K, KX, c, dg, xb⟩ := Y
    have hmg : mg ("law" : PySem.Str) = some (.ref fa) := by
      have e : (HandSHeadRun.topDef (OpenLaw.row PySem.Challenge.rw_partsmith_k01_lengths_read_and_written).prog 28).name = ("law" : PySem.Str) := by kernel_rfl
      rw [← e]
      exact hmg0
    obtain ⟨fd, hb, hF⟩ := Mp.law_facts (P := (PySem.Challenge.rw_partsmith_k01_lengths_read_and_written).prog) (w := w) K01.tb K01.fn K01.zs K01.free K01.glbs 1000000 40 16 "law" "_law_script" K01.defs_b K01.len_b K01.chk_b K01.law_b dg xb KX G c hmg
    exact ⟨K, fd, (fun vs H Q _ => Mp.spOf K (Mp.XRk K) 1 (Mp.run 1000000 K01.fs 40 16) vs H Q fun _ _ _ => False), KX, hb, fun H a ns hl _ hS => Mp.law_sp (K01.holds ns hl) hS (Nat.le_trans hl (by decide)), fun base _ _ => hF base⟩
