import PyProof.Rows.All
import Wide.All
import OpenK.AllK
import Wide.FinOn
import KE.KStateDown
import HandS.ForExc
import HandS.ForMost
import HandS.Walk
import HandS.IsInst
import HandS.StrMore
import HandS.Deep
import HandS.Style
import HandS.Defaults
import HandS.Zip
import HandS.Rev
import HandS.SetFor
import HandS.RaiseMore
import HandS.TupAny
import HandS.TupMul
import HandS.TupLe
import KE.KIndexOf
import KE.KSortedM
import HandS.Replace
import HandS.CallLocal
import HandS.Star
import HandS.Codes
import KE.GoesEnum
import HandS.Conv
import KE.KMathG
import KE.KRevIter
import HandS.Gcd
import HandS.Head0
import HandS.Head1
import HandS.Head2
import HandS.Head3
import HandS.HeadEnd
import HandS.HeadHook1
import HandS.HeadHook2
import PySem.Challenge.RW_lotoverlaps_k75_whole_pictures_of_fixed
set_option Elab.async false
set_option linter.all false
set_option maxRecDepth 100000
/-! A small language with plain values: what a def of the text computes, without heap, addresses, tokens. -/
namespace PL

/-- a plain value: a text is its code points; frz a list that nobody changes any more, scr the script, lst a list in the store, by its number -/
inductive D where
  | non | bl (b : Bool) | int (i : Int) | str (s : List Nat)
  | tup (ds : List D) | frz (ds : List D) | scr (ds : List D) | lst (id : Nat) | fn (k : Nat)
/-- what stands in the store: a list; a list that a loop walks; a list that nobody changes any more -/
inductive Obj where
  | lst (ds : List D) | lck (ds : List D) | fz (ds : List D)
def Obj.its : Obj → List D
  | .lst ds => ds
  | .lck ds => ds
  | .fz ds => ds
abbrev Sto := List Obj
abbrev Env := List (Option D)
inductive R (α : Type) where
  | ok (a : α) (st : Sto)
  | exn (c : Nat) (d : D) (st : Sto)
  | bad
def R.bind {α β : Type} (r : R α) (f : α → Sto → R β) : R β := match r with
  | .ok a st => f a st
  | .exn c d st => .exn c d st
  | .bad => .bad

inductive Op where
  | add | sub | mul | fdiv | mod | pow | shl | shr | band | bor | bxor
  deriving DecidableEq
inductive Cm where
  | eq | ne | lt | le | gt | ge | is | isn | mem | nmem
  deriving DecidableEq
inductive Ty where
  | int | str | bool | list | tuple
  deriving DecidableEq
/-- built-in functions -/
inductive Bl where
  | len | sum | all | any | int | abs | min2 | max2 | divmod | tuple | list | sorted | minL | maxL
  deriving DecidableEq
/-- methods -/
inductive Mt where
  | append | pop | popAt | index | count | join | bitlen
  deriving DecidableEq

/-- imported functions -/
inductive Im where
  | comb | gcd
  deriving DecidableEq
mutual
inductive E where
  | non | bl (b : Bool) | int (i : Int) | str (s : List Nat)
  | var (i : Nat) | glb (k : Nat) | fnv (k : Nat)
  | bin (o : Op) (a b : E) | neg (a : E) | not (a : E) | and (a b : E) | or (a b : E)
  | cmp (o : Cm) (a b : E) | chn (o p : Cm) (a b c : E) | ife (c a b : E)
  | call (f : Nat) (as : Es) | callk (f : Nat) (as ks : Es) (pm : List Nat) | callv (i : Nat) (as : Es)
  | blt (b : Bl) (as : Es) | isi (a : E) (t : Ty) | mth (m : Mt) (o : E) (as : Es)
  | idx (a b : E) | slc (a : E) (lo hi : Oe)
  | tup (as : Es) | list (as : Es)
  | comp (own : List Nat) (elt : E) (tg : Tg) (it : It) (c : Oe)
  | tidx (as : Es) (e : E)
  | imp (f : Im) (as : Es) | thaw (a : E) | frz (a : E) | tups (zs : Zs) | lsts (zs : Zs)
  | comp2 (own own1 : List Nat) (elt : E) (tg : Tg) (it : It) (c : Oe) (tg1 : Tg) (it1 : It) (c1 : Oe)
  | rgv (tp : Bool) (lo : Oe) (b : E)
inductive Es where
  | nil | cons (e : E) (es : Es)
/-- a display's parts, some of them starred -/
inductive Zs where
  | nil | cons (e : E) (zs : Zs) | star (e : E) (zs : Zs)
inductive Oe where
  | none | some (e : E)
inductive It where
  | val (e : E) | rng1 (a : E) | rng2 (a b : E) | rng3 (a b : E) (c : Int) | enum (e : E) | zip (a b : E) | perm (a : E)
inductive Tg where
  | var (i : Nat) | idx (a b : E) | tup (ts : Tgs)
inductive Tgs where
  | nil | cons (t : Tg) (ts : Tgs)
end
mutual
inductive S where
  | asg (t : Tg) (e : E) | par (is : List Nat) (es : Es) | ifs (c : E) (a b : Ss) | whl (c : E) (b : Ss) | fr (t : Tg) (it : It) (b : Ss)
  | ret (e : E) | retn | exp (e : E) | pas | brk | cnt | nev
inductive Ss where
  | nil | cons (s : S) (ss : Ss)
end
def tgLen : Tgs → Nat
  | .nil => 0
  | .cons _ ts => tgLen ts + 1
/-- a def: how many parameters, how many names, the body -/
structure Fd where
  ps : Nat
  nl : Nat
  body : Ss
/-- behind a statement -/
inductive Fl where
  | nx (env : Env) | rt (d : D) | bk (env : Env) | ct (env : Env)

/-! ### values -/
def b2i (b : Bool) : Int := if b then 1 else 0
mutual
/-- == of data -/
def dEq : D → D → Bool
  | .non, e => (match e with | .non => true | _ => false)
  | .bl a, e => (match e with | .bl b => a == b | .int j => b2i a == j | _ => false)
  | .int i, e => (match e with | .int j => i == j | .bl b => i == b2i b | _ => false)
  | .str x, e => (match e with | .str y => x == y | _ => false)
  | .tup xs, e => (match e with | .tup ys => dEqs xs ys | _ => false)
  | .frz xs, e => (match e with | .frz ys => dEqs xs ys | _ => false)
  | .scr _, _ => false
  | .lst _, _ => false
  | .fn _, _ => false
def dEqs : List D → List D → Bool
  | [], e => (match e with | [] => true | _ :: _ => false)
  | x :: xs, e => (match e with | [] => false | y :: ys => dEq x y && dEqs xs ys)
end
/-- data, so many levels deep at most -/
def dOk : Nat → D → Bool
  | 0, d => (match d with | .non => true | .bl _ => true | .int _ => true | .str s => s.all (· < 0x110000) | _ => false)
  | k + 1, d => (match d with | .non => true | .bl _ => true | .int _ => true | .str s => s.all (· < 0x110000) | .tup ds => ds.all (dOk k) | .frz ds => ds.all (dOk k) | _ => false)
mutual
/-- all lists of the store that a value names are older than number n -/
def refsLt (n : Nat) : D → Bool
  | .tup ds => refsLts n ds
  | .frz ds => refsLts n ds
  | .scr ds => refsLts n ds
  | .lst i => Nat.blt i n
  | _ => true
def refsLts (n : Nat) : List D → Bool
  | [] => true
  | d :: ds => refsLt n d && refsLts n ds
end
/-- a list's items -/
def lv (st : Sto) : D → Option (List D)
  | .frz ds => some ds
  | .scr ds => some ds
  | .lst i => (match st[i]? with | some o => some o.its | none => none)
  | _ => none
/-- a list's or a tuple's items -/
def sv (st : Sto) : D → Option (List D)
  | .tup ds => some ds
  | d => lv st d
/-- a list of the store as it stands -/
def top (st : Sto) : D → D
  | .lst i => (match lv st (.lst i) with | some ds => .frz ds | none => .lst i)
  | d => d
/-- ints | bools | texts alone -/
def intsOf : List D → Option (List Int)
  | [] => some []
  | .int i :: r => (intsOf r).map (i :: ·)
  | _ :: _ => none
def blsOf : List D → Option (List Bool)
  | [] => some []
  | .bl b :: r => (blsOf r).map (b :: ·)
  | _ :: _ => none
def strsOf : List D → Option (List (List Nat))
  | [] => some []
  | .str s :: r => (strsOf r).map (s :: ·)
  | _ :: _ => none
def isInst (t : Ty) : D → Option Bool
  | .non => some false
  | .bl _ => some (match t with | .int => true | .bool => true | _ => false)
  | .int _ => some (match t with | .int => true | _ => false)
  | .str _ => some (match t with | .str => true | _ => false)
  | .tup _ => some (match t with | .tuple => true | _ => false)
  | .frz _ => some (match t with | .list => true | _ => false)
  | .lst _ => some (match t with | .list => true | _ => false)
  | _ => none
/-- an item by its index, from the end too -/
def ixN (n : Nat) (i : Int) : Option Nat := if 0 ≤ i then (if i < n then some i.toNat else none) else if -(n : Int) ≤ i then some (i + n).toNat else none
def atI {α : Type} (xs : List α) (i : Int) : Option α := (ixN xs.length i).bind fun j => xs[j]?
def sIx (n d : Nat) : Option Int → Nat
  | none => d
  | some v => if v < 0 then (v + (n : Int)).toNat else min v.toNat n
def cut {α : Type} (xs : List α) (lo hi : Option Int) : List α := (xs.drop (sIx xs.length 0 lo)).take (sIx xs.length xs.length hi - sIx xs.length 0 lo)
def szOk (n : Nat) : Bool := Nat.ble n 16777216
def szLt (n : Nat) : Bool := Nat.blt n 16777216
def small (i : Int) : Bool := decide (-(2 ^ 64) < i) && decide (i < 2 ^ 64)

/-- x[i], x[lo:hi] -/
def ixD (st : Sto) (x : D) (i : Int) : Option D := match x with
  | .str s => if szOk s.length then (atI s i).map fun c => .str [c] else none
  | x => (sv st x).bind fun ds => atI ds i
def slD (st : Sto) (x : D) (lo hi : Option Int) : Option D := match x with
  | .str s => if szOk s.length then some (.str (cut s lo hi)) else none
  | .tup ds => some (.tup (cut ds lo hi))
  | x => (lv st x).map fun ds => .frz (cut ds lo hi)

/-! ### operators -/
def iop : Op → Int → Int → Option Int
  | .add, i, j => some (i + j)
  | .sub, i, j => some (i - j)
  | .mul, i, j => if small i || small j then some (i * j) else none
  | .fdiv, i, j => if decide (0 < j) && decide (j < 1073741824) then some (i / j) else none
  | .mod, i, j => if 0 < j then some (i % j) else none
  | .pow, i, j => if decide (0 ≤ j) && (decide (j ≤ 1000000) && decide (i.natAbs < 2 ^ 64)) then some (i ^ j.toNat) else none
  | .shl, i, j => if decide (0 ≤ j) && (decide (j ≤ 1000000) && decide (i.natAbs < 2 ^ 64)) then some (i * 2 ^ j.toNat) else none
  | .shr, i, j => if 0 ≤ j then some (i / 2 ^ j.toNat) else none
  | .band, i, j => some (PySem.Builtin.bitAnd i j)
  | .bor, i, j => some (PySem.Builtin.bitOr i j)
  | .bxor, i, j => some (PySem.Builtin.bitXor i j)
def rep (xs : List D) (k : Int) : Option D := if decide (-(2 ^ 63) ≤ k) && (decide (k < 2 ^ 63) && szOk (xs.length * k.toNat)) then some (.frz (List.replicate k.toNat xs).flatten) else none
def bop (st : Sto) (o : Op) (x y : D) : Option D := match x, y with
  | .int i, .int j => (iop o i j).map .int
  | .str a, .str b => (match o with | .add => if szOk (a.length + b.length) then some (.str (a ++ b)) else none | _ => none)
  | .tup a, .tup b => (match o with | .add => if szOk (a.length + b.length) then some (.tup (a ++ b)) else none | _ => none)
  | .frz a, .frz b => (match o with | .add => if szOk (a.length + b.length) then some (.frz (a ++ b)) else none | _ => none)
  | .frz a, .lst j => (match o, lv st (.lst j) with | .add, some b => if szOk (a.length + b.length) then some (.frz (a ++ b)) else none | _, _ => none)
  | .lst i, .frz b => (match o, lv st (.lst i) with | .add, some a => if szOk (a.length + b.length) then some (.frz (a ++ b)) else none | _, _ => none)
  | .lst i, .lst j => (match o, lv st (.lst i), lv st (.lst j) with | .add, some a, some b => if szOk (a.length + b.length) then some (.frz (a ++ b)) else none | _, _, _ => none)
  | .frz a, .int k => (match o with | .mul => rep a k | _ => none)
  | .lst i, .int k => (match o, lv st (.lst i) with | .mul, some a => rep a k | _, _ => none)
  | _, _ => none
def lexLt : List Int → List Int → Bool
  | [], [] => false
  | [], _ :: _ => true
  | _ :: _, [] => false
  | x :: xs, y :: ys => if x = y then lexLt xs ys else decide (x < y)
def isNon : D → Bool
  | .non => true
  | _ => false
def cis (x y : D) : Option Bool := match y with
  | .non => some (isNon x)
  | .bl b => (match x with | .bl a => some (a == b) | _ => none)
  | _ => none
def cin (st : Sto) (x y : D) : Option Bool := match y with
  | .str s => (match x with | .str [c] => some (decide (c ∈ s)) | _ => none)
  | y => (match sv st y with | some ds => if dOk 40 (top st x) && ds.all (dOk 40) then some (ds.any fun e => dEq e (top st x)) else none | none => none)
def clt (x y : D) : Option Bool := match x, y with
  | .int i, .int j => some (decide (i < j))
  | .str a, .str b => some (decide (a < b))
  | .tup a, .tup b => (match intsOf a, intsOf b with | some a, some b => some (lexLt a b) | _, _ => none)
  | _, _ => none
def cop (st : Sto) (o : Cm) (x y : D) : Option Bool := match o with
  | .eq => if dOk 40 (top st x) && dOk 40 (top st y) then some (dEq (top st x) (top st y)) else none
  | .ne => if dOk 40 (top st x) && dOk 40 (top st y) then some (!dEq (top st x) (top st y)) else none
  | .lt => clt x y
  | .gt => (match x, y with | .int i, .int j => some (decide (j < i)) | _, _ => none)
  | .le => (match x, y with | .int i, .int j => some (decide (i ≤ j)) | _, _ => none)
  | .ge => (match x, y with | .int i, .int j => some (decide (j ≤ i)) | _, _ => none)
  | .is => cis x y
  | .isn => (cis x y).map (!·)
  | .mem => cin st x y
  | .nmem => (cin st x y).map (!·)

/-! ### built-in functions, methods -/
def lenD (st : Sto) : D → Option Int
  | .str s => if szOk s.length then some s.length else none
  | d => (sv st d).map fun ds => (ds.length : Int)
def isort (xs : List Int) : List Int := xs.mergeSort (fun a b => decide (a ≤ b))
/-- the greatest, the least -/
def maxI : List Int → Option Int
  | [] => none
  | x :: xs => some (xs.foldl (fun a b => if a < b then b else a) x)
def minI : List Int → Option Int
  | [] => none
  | x :: xs => some (xs.foldl (fun a b => if b < a then b else a) x)
def bcall (st : Sto) (b : Bl) (as : List D) : Option D := match b, as with
  | .len, [d] => (lenD st d).map .int
  | .sum, [d] => ((sv st d).bind intsOf).map fun ns => .int ns.sum
  | .all, [d] => ((lv st d).bind blsOf).map fun bs => .bl (bs.all id)
  | .any, [d] => ((lv st d).bind blsOf).map fun bs => .bl (bs.any id)
  | .int, [.int i] => some (.int i)
  | .int, [.bl b] => some (.int (b2i b))
  | .abs, [.int i] => some (.int (if i < 0 then -i else i))
  | .min2, [.int i, .int j] => some (.int (if j < i then j else i))
  | .max2, [.int i, .int j] => some (.int (if j > i then j else i))
  | .maxL, [d] => (((sv st d).bind intsOf).bind maxI).map .int
  | .minL, [d] => (((sv st d).bind intsOf).bind minI).map .int
  | .divmod, [.int i, .int j] => if decide (0 < j) && decide (j < 1073741824) then some (.tup [.int (i / j), .int (i % j)]) else none
  | .tuple, [d] => (sv st d).map .tup
  | .list, [d] => (sv st d).map .frz
  | .sorted, [d] => ((lv st d).bind intsOf).bind fun ns => if Nat.blt ns.length 64 then some (.frz ((isort ns).map .int)) else none
  | _, _ => none
def bitLen (i : Int) : Int := if i = 0 then 0 else ((i.natAbs.log2 + 1 : Nat) : Int)
def joinL (sep : List Nat) : List (List Nat) → List Nat
  | [] => []
  | [x] => x
  | x :: y :: r => x ++ (sep ++ joinL sep (y :: r))
/-- the method fits the receiver's kind -/
def mOk (m : Mt) (x : D) : Bool := match m, x with
  | .append, .lst _ => true
  | .pop, .lst _ => true
  | .popAt, .lst _ => true
  | .index, .str _ => true
  | .count, .lst _ => true
  | .count, .frz _ => true
  | .join, .str _ => true
  | .bitlen, .int _ => true
  | _, _ => false
def idxOf (c : Nat) : List Nat → Option Nat
  | [] => none
  | y :: ys => if y = c then some 0 else (idxOf c ys).map (· + 1)
/-- a method: its value and the store behind it -/
def mcall (st : Sto) (m : Mt) (o : D) (as : List D) : R D := match m, o, as with
  | .append, .lst i, [d] => (match st[i]? with
    | some (.lst ds) => if szLt ds.length && refsLt i d then .ok .non (st.set i (.lst (ds ++ [d]))) else .bad
    | _ => .bad)
  | .pop, .lst i, [] => (match st[i]? with
    | some (.lst ds) => (match ds[ds.length - 1]? with | some d => .ok d (st.set i (.lst ds.dropLast)) | none => .bad)
    | _ => .bad)
  | .popAt, .lst i, [.int k] => (match st[i]? with
    | some (.lst ds) => if decide (-(2 ^ 63) ≤ k) && decide (k < 2 ^ 63) then (match ixN ds.length k with
      | some j => (match ds[j]? with | some d => .ok d (st.set i (.lst (ds.eraseIdx j))) | none => .bad)
      | none => .bad) else .bad
    | _ => .bad)
  | .index, .str s, [.str [c]] => (match idxOf c s with | some j => .ok (.int (j : Nat)) st | none => .bad)
  | .count, o, [.int k] => (match (lv st o).bind intsOf with | some ns => .ok (.int (ns.count k : Nat)) st | none => .bad)
  | .join, .str s, [d] => (match (sv st d).bind strsOf with | some ps => if szOk ((ps.map List.length).sum + ps.length * s.length) then .ok (.str (joinL s ps)) st else .bad | none => .bad)
  | .bitlen, .int i, [] => .ok (.int (bitLen i)) st
  | _, _, _ => .bad

/-! ### what is imported -/
def combV (n k : Nat) : Int := if k > n then 0 else PySem.Builtin.Math.fallingProduct n (min k (n - k)) / PySem.Builtin.Math.fallingProduct ((min k (n - k) : Nat) : Int) (min k (n - k))
def imcall (f : Im) (as : List D) : Option D := match f, as with
  | .comb, [.int n, .int k] => if decide (0 ≤ n) && (decide (n < 33) && (decide (0 ≤ k) && decide (k < 33))) then some (.int (combV n.toNat k.toNat)) else none
  | .gcd, [.int a, .int b] => some (.int (Nat.gcd a.natAbs b.natAbs : Nat))
  | _, _ => none
/-- the step, as the library has it -/
def nextP (n : Nat) : Nat → List Nat → List Nat → Option (List Nat × List Nat)
  | 0, _, _ => none
  | i + 1, ix, cy => if (cy.getD i 0 - 1 == 0) = true then nextP n i (ix.take i ++ ix.drop (i + 1) ++ [ix.getD i 0]) (cy.set i (n - i))
    else some ((ix.set i (ix.getD (n - (cy.getD i 0 - 1)) 0)).set (n - (cy.getD i 0 - 1)) (ix.getD i 0), cy.set i (cy.getD i 0 - 1))
def permStart (n : Nat) : List Nat := List.range n ++ (List.range n).map fun i => n - i
def permRun (n : Nat) : Nat → List Nat → List (List Nat)
  | 0, _ => []
  | k + 1, ns => ns :: (match nextP n n (ns.take n) (ns.drop n) with
    | some (ix, cy) => permRun n k (ix ++ cy)
    | none => [])
/-- all states of the walk -/
def permSs (n : Nat) : List (List Nat) := permRun n 30 (permStart n)
def permL (n : Nat) : List (List Nat) := (permSs n).map fun ns => ns.take n
def permD (n : Nat) : List D := (permL n).map fun l => .tup (l.map fun (i : Nat) => .int (i : Nat))
/-! ### loops -/
def rngOk (i : Int) : Bool := decide (-(2 ^ 62) ≤ i) && decide (i < 2 ^ 62)
def rngD (lo : Int) (n : Nat) : List D := (List.range n).map fun k => .int (lo + (k : Nat))
def rngC (lo c : Int) (n : Nat) : List D := (List.range n).map fun k => .int (lo + (k : Nat) * c)
def enumD (ds : List D) : List D := (ds.zipIdx).map fun p => .tup [.int (p.2 : Nat), p.1]
def zipD (xs ys : List D) : List D := (xs.zip ys).map fun p => .tup [p.1, p.2]
/-- what a loop over a value walks, and the list that is locked meanwhile -/
def walk (st : Sto) : D → Option (List D × List Nat)
  | .tup ds => some (ds, [])
  | .frz ds => some (ds, [])
  | .scr ds => some (ds, [])
  | .str s => some (s.map fun c => .str [c], [])
  | .lst i => (match st[i]? with | some (.lst ds) => some (ds, [i]) | some (.lck ds) => some (ds, []) | some (.fz ds) => some (ds, []) | none => none)
  | _ => none
def lockO : Obj → Obj
  | .lst ds => .lck ds
  | o => o
def unlockO : Obj → Obj
  | .lck ds => .lst ds
  | o => o
def lock (st : Sto) : List Nat → Sto
  | [] => st
  | i :: r => lock (st.modify i lockO) r
def unlock (st : Sto) : List Nat → Sto
  | [] => st
  | i :: r => unlock (st.modify i unlockO) r
/-- where nothing may be raised -/
def R.noX {α : Type} : R α → R α
  | .ok a st => .ok a st
  | _ => .bad
def R.unl {α : Type} (ids : List Nat) : R α → R α
  | .ok a st => .ok a (unlock st ids)
  | .exn c d st => .exn c d (unlock st ids)
  | .bad => .bad
def compL (f : D → Sto → R (Option D)) : List D → Sto → R (List D)
  | [], st => .ok [] st
  | x :: xs, st => (f x st).bind fun o st1 => match o with
    | none => compL f xs st1
    | some y => (compL f xs st1).bind fun ys st2 => .ok (y :: ys) st2
/-- rows, one behind another -/
def compLL (f : D → Sto → R (List D)) : List D → Sto → R (List D)
  | [], st => .ok [] st
  | x :: xs, st => (f x st).bind fun ys st1 => (compLL f xs st1).bind fun zs st2 => .ok (ys ++ zs) st2
def forL (f : D → Env → Sto → R Fl) : List D → Env → Sto → R Fl
  | [], env, st => .ok (.nx env) st
  | x :: xs, env, st => (f x env st).bind fun fl st1 => match fl with
    | .nx env1 => forL f xs env1 st1
    | .ct env1 => forL f xs env1 st1
    | .bk env1 => .ok (.nx env1) st1
    | .rt d => .ok (.rt d) st1
def whlL (c : Env → Sto → R Bool) (f : Env → Sto → R Fl) : Nat → Env → Sto → R Fl
  | 0, _, _ => .bad
  | n + 1, env, st => (c env st).bind fun b st0 => if b then (f env st0).bind fun fl st1 => match fl with
    | .nx env1 => whlL c f n env1 st1
    | .ct env1 => whlL c f n env1 st1
    | .bk env1 => .ok (.nx env1) st1
    | .rt d => .ok (.rt d) st1 else .ok (.nx env) st0
def wipe (env : Env) : List Nat → Env
  | [] => env
  | i :: r => (wipe env r).set i none
def oD {α : Type} (o : Option α) (st : Sto) : R α := match o with
  | some d => .ok d st
  | none => .bad
def tru (d : D) (st : Sto) : R Bool := match d with
  | .bl b => .ok b st
  | _ => .bad
def toI (d : D) (st : Sto) : R Int := match d with
  | .int i => .ok i st
  | _ => .bad
/-- a value into a new place of the store -/
def thawD (d : D) (st : Sto) : R D := match d with
  | .frz ds => .ok (.lst st.length) (st ++ [.lst ds])
  | _ => .bad
/-- a list of the store, no longer changed -/
def frzD (d : D) (st : Sto) : R D := match d with
  | .lst i => (match st[i]? with
    | some (.lst ds) => .ok (.frz ds) (st.set i (.fz ds))
    | _ => .bad)
  | .frz ds => .ok (.frz ds) st
  | _ => .bad
/-- behind a call: the callee's own lists go, where its value names none -/
def back (n : Nat) (d : D) (st : Sto) : R D := if st.length = n then .ok d st else if refsLt n d then .ok d (st.take n) else .ok d st
def asgs (is : List Nat) (ds : List D) (env : Env) : Env := match is, ds with
  | i :: is, d :: ds => asgs is ds (env.set i (some d))
  | _, _ => env

section
variable (C : Nat → List D → Sto → R D) (G : Nat → D) (W : Nat)
mutual
def ev : E → Env → Sto → R D
  | .non, _, st => .ok .non st
  | .bl b, _, st => .ok (.bl b) st
  | .int i, _, st => .ok (.int i) st
  | .str s, _, st => .ok (.str s) st
  | .var i, env, st => (match env[i]? with | some (some d) => .ok d st | _ => .bad)
  | .glb k, _, st => .ok (G k) st
  | .fnv k, _, st => .ok (.fn k) st
  | .bin o a b, env, st => (ev a env st).bind fun x s1 => (ev b env s1).bind fun y s2 => oD (bop s2 o x y) s2
  | .neg a, env, st => (ev a env st).bind fun x s1 => (toI x s1).bind fun i s2 => .ok (.int (-i)) s2
  | .not a, env, st => (ev a env st).bind fun x s1 => (tru x s1).bind fun b s2 => .ok (.bl (!b)) s2
  | .and a b, env, st => (ev a env st).bind fun x s1 => (tru x s1).bind fun c s2 => if c then ev b env s2 else .ok (.bl false) s2
  | .or a b, env, st => (ev a env st).bind fun x s1 => (tru x s1).bind fun c s2 => if c then .ok (.bl true) s2 else ev b env s2
  | .cmp o a b, env, st => (ev a env st).bind fun x s1 => (ev b env s1).bind fun y s2 => (oD (cop s2 o x y) s2).bind fun c s3 => .ok (.bl c) s3
  | .chn o p a b c, env, st => (ev a env st).bind fun x s1 => (ev b env s1).bind fun y s2 => (oD (cop s2 o x y) s2).bind fun q s3 =>
      if q then (ev c env s3).bind fun z s4 => (oD (cop s4 p y z) s4).bind fun r s5 => .ok (.bl r) s5 else .ok (.bl false) s3
  | .ife c a b, env, st => (ev c env st).bind fun x s1 => (tru x s1).bind fun q s2 => if q then ev a env s2 else ev b env s2
  | .call f as, env, st => (evs as env st).bind fun ds s1 => C f ds s1
  | .callk f as ks pm, env, st => (evs as env st).bind fun ds s1 => (evs ks env s1).bind fun es s2 => C f (pm.map fun j => (ds ++ es).getD j .non) s2
  | .callv i as, env, st => (match env[i]? with | some (some (.fn f)) => (evs as env st).noX.bind fun ds s1 => C f ds s1 | _ => .bad)
  | .blt b as, env, st => (evs as env st).bind fun ds s1 => oD (bcall s1 b ds) s1
  | .isi a t, env, st => (ev a env st).bind fun x s1 => oD ((isInst t x).map .bl) s1
  | .mth m o as, env, st => (ev o env st).bind fun x s1 => if mOk m x then (evs as env s1).bind fun ds s2 => mcall s2 m x ds else .bad
  | .idx a b, env, st => (ev a env st).bind fun x s1 => (ev b env s1).bind fun y s2 => (toI y s2).bind fun i s3 => oD (ixD s3 x i) s3
  | .slc a lo hi, env, st => (ev a env st).bind fun x s1 => (evo lo env s1).bind fun l s2 => (evo hi env s2).bind fun h s3 => oD (slD s3 x l h) s3
  | .tup as, env, st => (evs as env st).bind fun ds s1 => if szOk ds.length then .ok (.tup ds) s1 else .bad
  | .list as, env, st => (evs as env st).bind fun ds s1 => if szOk ds.length then .ok (.frz ds) s1 else .bad
  | .comp own elt tg it c, env, st => (evi it env st).bind fun p s1 =>
      if szOk p.1.length then ((compL (fun x s2 => (evt tg x (wipe env own) s2).bind fun env2 s3 => (evc c env2 s3).bind fun b s4 =>
        if b then (ev elt env2 s4).bind fun y s5 => .ok (some y) s5 else .ok none s4) p.1 (lock s1 p.2)).noX.unl p.2).bind fun ds s6 => .ok (.frz ds) s6 else .bad
  | .tidx as e, env, st => (evs as env st).bind fun ds s1 => (ev e env s1).bind fun y s2 => (toI y s2).bind fun k s3 => (match intsOf ds with
      | some ns => if decide (k ∈ ns) && szOk ns.length then .ok (.int (ns.idxOf k : Nat)) s3 else .bad
      | none => .bad)
  | .imp f as, env, st => (evs as env st).bind fun ds s1 => oD (imcall f ds) s1
  | .thaw a, env, st => (ev a env st).bind fun x s1 => thawD x s1
  | .frz a, env, st => (ev a env st).bind fun x s1 => frzD x s1
  | .tups zs, env, st => (evz zs env st).bind fun ds s1 => if szOk ds.length then .ok (.tup ds) s1 else .bad
  | .lsts zs, env, st => (evz zs env st).bind fun ds s1 => if szOk ds.length then .ok (.frz ds) s1 else .bad
  | .comp2 own own1 elt tg it c tg1 it1 c1, env, st => (evi it env st).bind fun p s1 => ((compLL (fun x s2 => (evt tg x (wipe env own) s2).bind fun env2 s3 => (evc c env2 s3).bind fun b s4 =>
      if b then (evi it1 env2 s4).bind fun p1 s5 => (compL (fun y s6 => (evt tg1 y (wipe env2 own1) s6).bind fun env3 s7 => (evc c1 env3 s7).bind fun b1 s8 =>
        if b1 then (ev elt env3 s8).bind fun z s9 => .ok (some z) s9 else .ok none s8) p1.1 (lock s5 p1.2)).unl p1.2 else .ok [] s4) p.1 (lock s1 p.2)).noX.unl p.2).bind fun ds s6 => if szOk ds.length then .ok (.frz ds) s6 else .bad
  | .rgv tp lo b, env, st => (evo lo env st).bind fun l s1 => (ev b env s1).bind fun y s2 => (toI y s2).bind fun j s3 => if rngOk (l.getD 0) && (rngOk j && szOk (j - l.getD 0).toNat) then .ok (if tp then .tup (rngD (l.getD 0) (j - l.getD 0).toNat) else .frz (rngD (l.getD 0) (j - l.getD 0).toNat)) s3 else .bad
def evs : Es → Env → Sto → R (List D)
  | .nil, _, st => .ok [] st
  | .cons e es, env, st => (ev e env st).bind fun x s1 => (evs es env s1).bind fun xs s2 => .ok (x :: xs) s2
def evz : Zs → Env → Sto → R (List D)
  | .nil, _, st => .ok [] st
  | .cons e zs, env, st => (ev e env st).bind fun x s1 => (evz zs env s1).bind fun xs s2 => .ok (x :: xs) s2
  | .star e zs, env, st => (ev e env st).bind fun x s1 => (oD (sv s1 x) s1).bind fun ds s2 => (evz zs env s2).bind fun xs s3 => .ok (ds ++ xs) s3
/-- a part of a slice -/
def evo : Oe → Env → Sto → R (Option Int)
  | .none, _, st => .ok none st
  | .some e, env, st => (ev e env st).bind fun x s1 => (toI x s1).bind fun i s2 => .ok (some i) s2
/-- a comprehension's test -/
def evc : Oe → Env → Sto → R Bool
  | .none, _, st => .ok true st
  | .some e, env, st => (ev e env st).bind fun x s1 => tru x s1
/-- what a loop walks -/
def evi : It → Env → Sto → R (List D × List Nat)
  | .val e, env, st => (ev e env st).bind fun x s1 => oD (walk s1 x) s1
  | .rng1 a, env, st => (ev a env st).bind fun x s1 => (toI x s1).bind fun i s2 => if rngOk i then .ok (rngD 0 i.toNat, []) s2 else .bad
  | .rng2 a b, env, st => (ev a env st).bind fun x s1 => (ev b env s1).bind fun y s2 => (toI x s2).bind fun i s3 => (toI y s3).bind fun j s4 =>
      if rngOk i && rngOk j then .ok (rngD i (j - i).toNat, []) s4 else .bad
  | .rng3 a b c, env, st => (ev a env st).bind fun x s1 => (ev b env s1).bind fun y s2 => (toI x s2).bind fun i s3 => (toI y s3).bind fun j s4 =>
      if rngOk i && (rngOk j && decide (c = -1)) then .ok (rngC i (-1) (i - j).toNat, []) s4 else .bad
  | .enum e, env, st => (ev e env st).bind fun x s1 => (oD (walk s1 x) s1).bind fun p s2 => .ok (enumD p.1, p.2) s2
  | .zip a b, env, st => (ev a env st).bind fun x s1 => (ev b env s1).bind fun y s2 => (oD (walk s2 x) s2).bind fun p s3 => (oD (walk (lock s3 p.2) y) s3).bind fun q s4 => .ok (zipD p.1 q.1, p.2 ++ q.2) s4
  | .perm a, env, st => (ev a env st).bind fun x s1 => (toI x s1).bind fun i s2 => if decide (1 ≤ i) && decide (i ≤ 4) then .ok (permD i.toNat, []) s2 else .bad
/-- a value to a target -/
def evt : Tg → D → Env → Sto → R Env
  | .var i, d, env, st => if i < env.length then .ok (env.set i (some d)) st else .bad
  | .idx a b, d, env, st => (ev a env st).bind fun x s1 => (ev b env s1).bind fun y s2 => (toI y s2).bind fun k s3 => (match x with
      | .lst i => (match s3[i]? with
        | some (.lst ds) => if refsLt i d then (match ixN ds.length k with | some j => .ok env (s3.set i (.lst (ds.set j d))) | none => .bad) else .bad
        | _ => .bad)
      | _ => .bad)
  | .tup ts, d, env, st => (match d with
      | .tup ds => if ds.length = tgLen ts then evts ts ds env st else .bad
      | _ => .bad)
def evts : Tgs → List D → Env → Sto → R Env
  | .nil, ds, env, st => (match ds with | [] => .ok env st | _ => .bad)
  | .cons t ts, ds, env, st => (match ds with | d :: r => (evt t d env st).bind fun env1 s1 => evts ts r env1 s1 | [] => .bad)
end
mutual
def ex : S → Env → Sto → R Fl
  | .asg t e, env, st => (ev C G e env st).bind fun x s1 => (evt C G t x env s1).bind fun env1 s2 => .ok (.nx env1) s2
  | .par is es, env, st => (evs C G es env st).bind fun ds s1 => if ds.length = is.length then .ok (.nx (asgs is ds env)) s1 else .bad
  | .ifs c a b, env, st => (ev C G c env st).bind fun x s1 => (tru x s1).bind fun q s2 => if q then exs a env s2 else exs b env s2
  | .whl c b, env, st => whlL (fun env st => (ev C G c env st).bind fun x s1 => tru x s1) (fun env st => exs b env st) W env st
  | .fr t it b, env, st => (evi C G it env st).bind fun p s1 => (forL (fun x env s2 => (evt C G t x env s2).bind fun env2 s3 => exs b env2 s3) p.1 env (lock s1 p.2)).unl p.2
  | .ret e, env, st => (ev C G e env st).bind fun x s1 => .ok (.rt x) s1
  | .retn, _, st => .ok (.rt .non) st
  | .exp e, env, st => (ev C G e env st).bind fun _ s1 => .ok (.nx env) s1
  | .pas, env, st => .ok (.nx env) st
  | .brk, env, st => .ok (.bk env) st
  | .cnt, env, st => .ok (.ct env) st
  | .nev, _, _ => .bad
def exs : Ss → Env → Sto → R Fl
  | .nil, env, st => .ok (.nx env) st
  | .cons s ss, env, st => (ex s env st).bind fun fl s1 => match fl with
    | .nx env1 => exs ss env1 s1
    | fl => .ok fl s1
end
end
def fin (n : Nat) (r : R Fl) : R D := r.bind fun fl st => match fl with
  | .rt d => back n d st
  | .nx _ => back n .non st
  | _ => .bad
/-- a call, so many calls deep at most -/
def call (T : Nat → Option Fd) (G : Nat → D) (W : Nat) : Nat → Nat → List D → Sto → R D
  | 0, _, _, _ => .bad
  | n + 1, f, as, st => match T f with
    | none => .bad
    | some F => if as.length = F.ps then fin st.length (exs (call T G W n) G W F.body (as.map some ++ List.replicate (F.nl - F.ps) none) st) else .bad
end PL

set_option Elab.async false
set_option linter.all false
set_option maxRecDepth 100000
/-! How plain values lie in the abstract heap. -/
namespace PL
open PySem PySem.Spec PyProof.Rows L2

def Obj.isFz : Obj → Bool
  | .fz _ => true
  | _ => false
/-- a tuple, a list of the module's own -/
def StT (K : PySem.W.Frag) (a : Addr) (xs : List V) : Prop := ∃ (o : PySem.Obj) (its : Array Value) (n : Nat), K.lookup a = some o ∧ o.cls = .type "tuple" ∧ o.data = .seq its n ∧ its.size ≤ sizeLine ∧ Vals xs its.toList
def StL (K : PySem.W.Frag) (a : Addr) (xs : List V) : Prop := ∃ (o : PySem.Obj) (its : Array Value) (n : Nat), K.lookup a = some o ∧ o.cls = .type "list" ∧ o.dict = none ∧ o.data = .seq its n ∧ its.size ≤ sizeLine ∧ Vals xs its.toList
mutual
inductive RD (K : PySem.W.Frag) (fa : Nat → Addr) (H : Hp) (m : Addr → Prop) (β ρ : List Addr) (n : Nat) : D → V → Prop
  | non : RD K fa H m β ρ n .non .non
  | bl (b : Bool) : RD K fa H m β ρ n (.bl b) (.bl b)
  | int (i : Int) : RD K fa H m β ρ n (.int i) (.int i)
  | str (s : List Nat) : RD K fa H m β ρ n (.str s) (.str ⟨s.toArray⟩)
  | tupH {ds : List D} {a : Addr} {vs : List V} : Rd H a (.tup vs) → ¬ m a → a ∉ β → RDs K fa H m β ρ n ds vs → RD K fa H m β ρ n (.tup ds) (.ref a)
  | tupK {ds : List D} {a : Addr} {vs : List V} : StT K a vs → RDs K fa H m β ρ n ds vs → RD K fa H m β ρ n (.tup ds) (.ref a)
  | frz {ds : List D} {a : Addr} {vs : List V} : H a = some (.lst vs) → ¬ m a → a ∉ β → RDs K fa H m β ρ n ds vs → RD K fa H m β ρ n (.frz ds) (.ref a)
  | scrH {ds : List D} {a : Addr} {vs : List V} : Rd H a (.lst vs) → ¬ m a → a ∉ β → RDs K fa H m β ρ n ds vs → RD K fa H m β ρ n (.scr ds) (.ref a)
  | scrK {ds : List D} {a : Addr} {vs : List V} : StL K a vs → RDs K fa H m β ρ n ds vs → RD K fa H m β ρ n (.scr ds) (.ref a)
  | lst {i : Nat} {a : Addr} : i < n → ρ[i]? = some a → RD K fa H m β ρ n (.lst i) (.ref a)
  | fn (k : Nat) : RD K fa H m β ρ n (.fn k) (.ref (fa k))
inductive RDs (K : PySem.W.Frag) (fa : Nat → Addr) (H : Hp) (m : Addr → Prop) (β ρ : List Addr) (n : Nat) : List D → List V → Prop
  | nil : RDs K fa H m β ρ n [] []
  | cons {d : D} {ds : List D} {v : V} {vs : List V} : RD K fa H m β ρ n d v → RDs K fa H m β ρ n ds vs → RDs K fa H m β ρ n (d :: ds) (v :: vs)
end
section
variable {K : PySem.W.Frag} {fa : Nat → Addr} {H H' : Hp} {m m' : Addr → Prop} {β β' ρ ρ' : List Addr} {n n' : Nat}
theorem Rd.out {a : Addr} {u : HO} (h : Rd H a u) (h3 : a ∉ β) (hβ : ∀ b ∈ β', b ∈ β ∨ H b = none) : a ∉ β' := fun q => by
  rcases hβ a q with z | z
  · exact h3 z
  · rcases h with h | ⟨o, h⟩ <;> (rw [h] at z; cases z)
theorem Rd.keepP {a : Addr} {u : HO} (k : ∀ a o, H a = some o → ¬ m a → H' a = some o ∧ ¬ m' a) (h : Rd H a u) (hm : ¬ m a) : Rd H' a u ∧ ¬ m' a := by
  rcases h with h | ⟨o, h⟩
  · exact ⟨.inl (k a _ h hm).1, (k a _ h hm).2⟩
  · exact ⟨.inr ⟨o, (k a _ h hm).1⟩, (k a _ h hm).2⟩
mutual
theorem RD.mono (k : ∀ a o, H a = some o → ¬ m a → H' a = some o ∧ ¬ m' a) (hρ : ∀ (i : Nat) (a : Addr), ρ[i]? = some a → ρ'[i]? = some a) (hβ : ∀ b ∈ β', b ∈ β ∨ H b = none) (hn : n ≤ n') :
    ∀ {d : D} {v : V}, RD K fa H m β ρ n d v → RD K fa H' m' β' ρ' n' d v
  | _, _, .non => .non
  | _, _, .bl b => .bl b
  | _, _, .int i => .int i
  | _, _, .str s => .str s
  | _, _, .tupH h1 h2 h3 h4 => .tupH (Rd.keepP k h1 h2).1 (Rd.keepP k h1 h2).2 (Rd.out h1 h3 hβ) (RDs.mono k hρ hβ hn h4)
  | _, _, .tupK h1 h4 => .tupK h1 (RDs.mono k hρ hβ hn h4)
  | _, _, .frz h1 h2 h3 h4 => .frz (k _ _ h1 h2).1 (k _ _ h1 h2).2 (Rd.out (.inl h1) h3 hβ) (RDs.mono k hρ hβ hn h4)
  | _, _, .scrH h1 h2 h3 h4 => .scrH (Rd.keepP k h1 h2).1 (Rd.keepP k h1 h2).2 (Rd.out h1 h3 hβ) (RDs.mono k hρ hβ hn h4)
  | _, _, .scrK h1 h4 => .scrK h1 (RDs.mono k hρ hβ hn h4)
  | _, _, .lst h1 h2 => .lst (Nat.lt_of_lt_of_le h1 hn) (hρ _ _ h2)
  | _, _, .fn k => .fn k
theorem RDs.mono (k : ∀ a o, H a = some o → ¬ m a → H' a = some o ∧ ¬ m' a) (hρ : ∀ (i : Nat) (a : Addr), ρ[i]? = some a → ρ'[i]? = some a) (hβ : ∀ b ∈ β', b ∈ β ∨ H b = none) (hn : n ≤ n') :
    ∀ {ds : List D} {vs : List V}, RDs K fa H m β ρ n ds vs → RDs K fa H' m' β' ρ' n' ds vs
  | _, _, .nil => .nil
  | _, _, .cons h t => .cons (RD.mono k hρ hβ hn h) (RDs.mono k hρ hβ hn t)
end
mutual
/-- a value that was read while p was busy does not name p -/
theorem RD.busyMu {p : Addr} : ∀ {d : D} {v : V}, RD K fa H m (p :: β) ρ n d v → RD K fa H (fun b => m b ∨ b = p) β ρ n d v
  | _, _, .non => .non
  | _, _, .bl b => .bl b
  | _, _, .int i => .int i
  | _, _, .str s => .str s
  | _, _, .tupH h1 h2 h3 h4 => .tupH h1 (fun z => z.elim h2 fun e => h3 (e ▸ List.mem_cons_self)) (fun z => h3 (List.mem_cons_of_mem _ z)) (RDs.busyMu h4)
  | _, _, .tupK h1 h4 => .tupK h1 (RDs.busyMu h4)
  | _, _, .frz h1 h2 h3 h4 => .frz h1 (fun z => z.elim h2 fun e => h3 (e ▸ List.mem_cons_self)) (fun z => h3 (List.mem_cons_of_mem _ z)) (RDs.busyMu h4)
  | _, _, .scrH h1 h2 h3 h4 => .scrH h1 (fun z => z.elim h2 fun e => h3 (e ▸ List.mem_cons_self)) (fun z => h3 (List.mem_cons_of_mem _ z)) (RDs.busyMu h4)
  | _, _, .scrK h1 h4 => .scrK h1 (RDs.busyMu h4)
  | _, _, .lst h1 h2 => .lst h1 h2
  | _, _, .fn k => .fn k
theorem RDs.busyMu {p : Addr} : ∀ {ds : List D} {vs : List V}, RDs K fa H m (p :: β) ρ n ds vs → RDs K fa H (fun b => m b ∨ b = p) β ρ n ds vs
  | _, _, .nil => .nil
  | _, _, .cons h t => .cons (RD.busyMu h) (RDs.busyMu t)
end
mutual
/-- a value that names only lists older than number j -/
theorem RD.older {j : Nat} : ∀ {d : D} {v : V}, RD K fa H m β ρ n d v → refsLt j d = true → RD K fa H m β ρ j d v
  | _, _, .non, _ => .non
  | _, _, .bl b, _ => .bl b
  | _, _, .int i, _ => .int i
  | _, _, .str s, _ => .str s
  | _, _, .tupH h1 h2 h3 h4, q => .tupH h1 h2 h3 (RDs.older h4 (by simpa [refsLt] using q))
  | _, _, .tupK h1 h4, q => .tupK h1 (RDs.older h4 (by simpa [refsLt] using q))
  | _, _, .frz h1 h2 h3 h4, q => .frz h1 h2 h3 (RDs.older h4 (by simpa [refsLt] using q))
  | _, _, .scrH h1 h2 h3 h4, q => .scrH h1 h2 h3 (RDs.older h4 (by simpa [refsLt] using q))
  | _, _, .scrK h1 h4, q => .scrK h1 (RDs.older h4 (by simpa [refsLt] using q))
  | _, _, .lst h1 h2, q => .lst (by simpa [refsLt] using q) h2
  | _, _, .fn k, _ => .fn k
theorem RDs.older {j : Nat} : ∀ {ds : List D} {vs : List V}, RDs K fa H m β ρ n ds vs → refsLts j ds = true → RDs K fa H m β ρ j ds vs
  | _, _, .nil, _ => .nil
  | _, _, .cons h t, q => .cons (RD.older h (by simp [refsLts] at q; exact q.1)) (RDs.older t (by simp [refsLts] at q; exact q.2))
end
theorem RDs.length : ∀ {ds : List D} {vs : List V}, RDs K fa H m β ρ n ds vs → ds.length = vs.length
  | _, _, .nil => rfl
  | _, _, .cons _ t => congrArg (· + 1) (RDs.length t)
theorem RDs.get : ∀ {ds : List D} {vs : List V} {i : Nat} {d : D}, RDs K fa H m β ρ n ds vs → ds[i]? = some d → ∃ v, vs[i]? = some v ∧ RD K fa H m β ρ n d v
  | _, _, _, _, .nil, e => by simp at e
  | _, _, 0, _, .cons h _, e => by simp at e; subst e; exact ⟨_, rfl, h⟩
  | _, _, i + 1, d, .cons _ t, e => by
    obtain ⟨v, h1, h2⟩ := RDs.get (i := i) (d := d) t (by simpa using e)
    exact ⟨v, by simpa using h1, h2⟩
theorem RDs.getV : ∀ {ds : List D} {vs : List V} {i : Nat} {v : V}, RDs K fa H m β ρ n ds vs → vs[i]? = some v → ∃ d, ds[i]? = some d ∧ RD K fa H m β ρ n d v
  | _, _, _, _, .nil, e => by simp at e
  | _, _, 0, _, .cons h _, e => by simp at e; subst e; exact ⟨_, rfl, h⟩
  | _, _, i + 1, v, .cons _ t, e => by
    obtain ⟨d, h1, h2⟩ := RDs.getV (i := i) (v := v) t (by simpa using e)
    exact ⟨d, by simpa using h1, h2⟩
theorem RDs.append : ∀ {ds es : List D} {vs ws : List V}, RDs K fa H m β ρ n ds vs → RDs K fa H m β ρ n es ws → RDs K fa H m β ρ n (ds ++ es) (vs ++ ws)
  | _, _, _, _, .nil, s => s
  | _, _, _, _, .cons h t, s => .cons h (RDs.append t s)
theorem RDs.take : ∀ {ds : List D} {vs : List V} (k : Nat), RDs K fa H m β ρ n ds vs → RDs K fa H m β ρ n (ds.take k) (vs.take k)
  | _, _, 0, _ => .nil
  | _, _, _ + 1, .nil => .nil
  | _, _, k + 1, .cons h t => .cons h (RDs.take k t)
theorem RDs.drop : ∀ {ds : List D} {vs : List V} (k : Nat), RDs K fa H m β ρ n ds vs → RDs K fa H m β ρ n (ds.drop k) (vs.drop k)
  | _, _, 0, s => s
  | _, _, _ + 1, .nil => .nil
  | _, _, k + 1, .cons _ t => RDs.drop k t
theorem RDs.set {d : D} {v : V} (h : RD K fa H m β ρ n d v) : ∀ {ds : List D} {vs : List V} (i : Nat), RDs K fa H m β ρ n ds vs → RDs K fa H m β ρ n (ds.set i d) (vs.set i v)
  | _, _, _, .nil => .nil
  | _, _, 0, .cons _ t => .cons h t
  | _, _, i + 1, .cons g t => .cons g (RDs.set h i t)
theorem RDs.erase : ∀ {ds : List D} {vs : List V} (i : Nat), RDs K fa H m β ρ n ds vs → RDs K fa H m β ρ n (ds.eraseIdx i) (vs.eraseIdx i)
  | _, _, _, .nil => .nil
  | _, _, 0, .cons _ t => t
  | _, _, i + 1, .cons g t => .cons g (RDs.erase i t)
theorem RDs.dropLast {ds : List D} {vs : List V} (h : RDs K fa H m β ρ n ds vs) : RDs K fa H m β ρ n ds.dropLast vs.dropLast := by
  rw [List.dropLast_eq_take, List.dropLast_eq_take, h.length]
  exact h.take _
theorem RDs.rep {ds : List D} {vs : List V} (h : RDs K fa H m β ρ n ds vs) : ∀ k : Nat, RDs K fa H m β ρ n (List.replicate k ds).flatten (List.replicate k vs).flatten
  | 0 => .nil
  | k + 1 => by
    rw [List.replicate_succ, List.replicate_succ, List.flatten_cons, List.flatten_cons]
    exact h.append (RDs.rep h k)
theorem RDs.ints : ∀ {ds : List D} {vs : List V} {ns : List Int}, RDs K fa H m β ρ n ds vs → intsOf ds = some ns → vs = ns.map V.int
  | _, _, ns, .nil, e => by
    cases e
    rfl
  | _, _, ns, .cons (d := d) h t, e => by
    cases d with
    | int i =>
      simp only [intsOf] at e
      obtain ⟨r, e1, rfl⟩ := Option.map_eq_some_iff.mp e
      cases h
      rw [RDs.ints t e1]
      rfl
    | _ => simp [intsOf] at e
theorem RDs.bls : ∀ {ds : List D} {vs : List V} {ns : List Bool}, RDs K fa H m β ρ n ds vs → blsOf ds = some ns → vs = ns.map V.bl
  | _, _, ns, .nil, e => by
    cases e
    rfl
  | _, _, ns, .cons (d := d) h t, e => by
    cases d with
    | bl i =>
      simp only [blsOf] at e
      obtain ⟨r, e1, rfl⟩ := Option.map_eq_some_iff.mp e
      cases h
      rw [RDs.bls t e1]
      rfl
    | _ => simp [blsOf] at e
theorem RDs.strs : ∀ {ds : List D} {vs : List V} {ns : List (List Nat)}, RDs K fa H m β ρ n ds vs → strsOf ds = some ns → vs = (ns.map fun s => (⟨s.toArray⟩ : Str)).map V.str
  | _, _, ns, .nil, e => by
    cases e
    rfl
  | _, _, ns, .cons (d := d) h t, e => by
    cases d with
    | str i =>
      simp only [strsOf] at e
      obtain ⟨r, e1, rfl⟩ := Option.map_eq_some_iff.mp e
      cases h
      rw [RDs.strs t e1]
      rfl
    | _ => simp [strsOf] at e
theorem rds_ints : ∀ (ns : List Int), RDs K fa H m β ρ n (ns.map D.int) (ns.map V.int)
  | [] => .nil
  | i :: r => .cons (.int i) (rds_ints r)
end

/-! ### the store -/
/-- what may still be changed -/
def Mu (ρ : List Addr) (st : Sto) (a : Addr) : Prop := ∃ (i : Nat) (o : Obj), ρ[i]? = some a ∧ st[i]? = some o ∧ o.isFz = false
structure RS (K : PySem.W.Frag) (fa : Nat → Addr) (β ρ : List Addr) (st : Sto) (H : Hp) : Prop where
  nd : ∀ (i j : Nat) (a : Addr), ρ[i]? = some a → ρ[j]? = some a → i = j
  len : ρ.length = st.length
  obj : ∀ (i : Nat) (o : Obj), st[i]? = some o → ∃ a vs, ρ[i]? = some a ∧ H a = some (.lst vs) ∧ RDs K fa H (Mu ρ st) β ρ i o.its vs
  busy : ∀ b ∈ β, (∃ o, H b = some o) ∧ b ∉ ρ
structure Stp (ρ : List Addr) (st : Sto) (H : Hp) (ρ' : List Addr) (st' : Sto) (H' : Hp) : Prop where
  pre : ∃ t, ρ' = ρ ++ t
  le : st.length ≤ st'.length
  keep : ∀ a o, H a = some o → ¬ Mu ρ st a → H' a = some o ∧ ¬ Mu ρ' st' a
  lck : ∀ (i : Nat) (ds : List D), st[i]? = some (.lck ds) → st'[i]? = some (.lck ds)
section
variable {K : PySem.W.Frag} {fa : Nat → Addr} {H H1 H2 : Hp} {β ρ ρ1 ρ2 : List Addr} {st s1 s2 : Sto} {n : Nat}
theorem Stp.refl : Stp ρ st H ρ st H := ⟨⟨[], by simp⟩, Nat.le_refl _, fun _ _ h m => ⟨h, m⟩, fun _ _ h => h⟩
theorem Stp.trans (a : Stp ρ st H ρ1 s1 H1) (b : Stp ρ1 s1 H1 ρ2 s2 H2) : Stp ρ st H ρ2 s2 H2 := by
  refine ⟨?_, Nat.le_trans a.le b.le, fun p o h m => ?_, fun i ds h => b.lck i ds (a.lck i ds h)⟩
  · obtain ⟨t, rfl⟩ := a.pre
    obtain ⟨u, rfl⟩ := b.pre
    exact ⟨t ++ u, by simp⟩
  · obtain ⟨h1, m1⟩ := a.keep p o h m
    exact b.keep p o h1 m1
theorem Stp.at (a : Stp ρ st H ρ1 s1 H1) : ∀ (i : Nat) (p : Addr), ρ[i]? = some p → ρ1[i]? = some p := fun i p h => by
  obtain ⟨t, rfl⟩ := a.pre
  rw [List.getElem?_append_left (List.getElem?_eq_some_iff.mp h).1]
  exact h
theorem RD.stp {d : D} {v : V} (a : Stp ρ st H ρ1 s1 H1) (h : RD K fa H (Mu ρ st) β ρ st.length d v) : RD K fa H1 (Mu ρ1 s1) β ρ1 s1.length d v :=
  h.mono a.keep a.at (fun _ q => .inl q) a.le
theorem RDs.stp {ds : List D} {vs : List V} (a : Stp ρ st H ρ1 s1 H1) (h : RDs K fa H (Mu ρ st) β ρ st.length ds vs) : RDs K fa H1 (Mu ρ1 s1) β ρ1 s1.length ds vs :=
  h.mono a.keep a.at (fun _ q => .inl q) a.le
/-- what is new is not changed by what was there -/
theorem RS.fresh (S : RS K fa β ρ st H) {p : Addr} (h : H p = none) : p ∉ ρ ∧ p ∉ β ∧ ¬ Mu ρ st p := by
  have h1 : p ∉ ρ := fun q => by
    obtain ⟨i, hi⟩ := List.mem_iff_getElem?.mp q
    have hl : i < st.length := by rw [← S.len]; exact (List.getElem?_eq_some_iff.mp hi).1
    obtain ⟨a, vs, e1, e2, _⟩ := S.obj i _ (List.getElem?_eq_getElem hl)
    rw [hi] at e1
    cases e1
    rw [h] at e2
    cases e2
  refine ⟨h1, fun q => ?_, fun ⟨i, _, e, _⟩ => h1 (List.mem_iff_getElem?.mpr ⟨i, e⟩)⟩
  obtain ⟨⟨o, e⟩, _⟩ := S.busy p q
  rw [h] at e
  cases e
/-- a new object, not in the store -/
theorem RS.lay (S : RS K fa β ρ st H) {p : Addr} {o : HO} (h : H p = none) : RS K fa β ρ st (upd H p o) ∧ Stp ρ st H ρ st (upd H p o) := by
  have k : ∀ a u, H a = some u → ¬ Mu ρ st a → upd H p o a = some u ∧ ¬ Mu ρ st a := fun a u e m => by
    refine ⟨?_, m⟩
    rw [upd_ne (ne_of_none e h)]
    exact e
  refine ⟨⟨S.nd, S.len, fun i u e => ?_, fun b hb => ?_⟩, ⟨⟨[], by simp⟩, Nat.le_refl _, k, fun _ _ h => h⟩⟩
  · obtain ⟨a, vs, e1, e2, e3⟩ := S.obj i u e
    exact ⟨a, vs, e1, by rw [upd_ne (ne_of_none e2 h)]; exact e2, e3.mono k (fun _ _ h => h) (fun _ q => .inl q) (Nat.le_refl _)⟩
  · obtain ⟨⟨u, e⟩, nb⟩ := S.busy b hb
    exact ⟨⟨u, by rw [upd_ne (ne_of_none e h)]; exact e⟩, nb⟩
theorem its_get {i : Nat} {o : Obj} (h : st[i]? = some o) : i < st.length := (List.getElem?_eq_some_iff.mp h).1
end
end PL

set_option Elab.async false
set_option linter.all false
set_option maxRecDepth 100000
set_option maxHeartbeats 1000000
/-! The operators on plain values, over the layer's rules. -/
namespace PL
open PySem PySem.Spec PyProof.Rows L2

section
variable (K : PySem.W.Frag) (fa : Nat → Addr)
/-- what is wanted of a value, of values, of an answer, behind an evaluation -/
def Post (β ρ : List Addr) (st : Sto) (H : Hp) (d : D) (st' : Sto) (Q : VK) : Prop :=
  ∀ v H' ρ', Stp ρ st H ρ' st' H' → RS K fa β ρ' st' H' → RD K fa H' (Mu ρ' st') β ρ' st'.length d v → Q v H'
def PostS (β ρ : List Addr) (st : Sto) (H : Hp) (ds : List D) (st' : Sto) (Q : List V → Hp → Prop) : Prop :=
  ∀ vs H' ρ', Stp ρ st H ρ' st' H' → RS K fa β ρ' st' H' → RDs K fa H' (Mu ρ' st') β ρ' st'.length ds vs → Q vs H'
def PostB (β ρ : List Addr) (st : Sto) (H : Hp) (b : Bool) (st' : Sto) (Q : Bool → Hp → Prop) : Prop :=
  ∀ H' ρ', Stp ρ st H ρ' st' H' → RS K fa β ρ' st' H' → Q b H'
end
section
variable {K : PySem.W.Frag} {fa : Nat → Addr} {H H' : Hp} {β ρ ρ' : List Addr} {st st' : Sto} {d : D} {ds : List D} {v : V} {vs : List V} {Q : VK} {p : Addr}
theorem Post.here (h : Post K fa β ρ st H d st Q) (S : RS K fa β ρ st H) (r : RD K fa H (Mu ρ st) β ρ st.length d v) : Q v H := h v H ρ .refl S r
theorem Post.after {ρ1 : List Addr} {s1 s2 : Sto} {H1 : Hp} (h : Post K fa β ρ st H d s2 Q) (a : Stp ρ st H ρ1 s1 H1) : Post K fa β ρ1 s1 H1 d s2 Q := fun v H' ρ' b S r => h v H' ρ' (a.trans b) S r
/-- a new tuple, a new list -/
theorem lay_tup (S : RS K fa β ρ st H) (h : H p = none) (r : RDs K fa H (Mu ρ st) β ρ st.length ds vs) : RD K fa (upd H p (.tup vs)) (Mu ρ st) β ρ st.length (.tup ds) (.ref p) :=
  .tupH (.inl upd_same) (S.fresh h).2.2 (S.fresh h).2.1 (r.stp (S.lay h).2)
theorem lay_frz (S : RS K fa β ρ st H) (h : H p = none) (r : RDs K fa H (Mu ρ st) β ρ st.length ds vs) : RD K fa (upd H p (.lst vs)) (Mu ρ st) β ρ st.length (.frz ds) (.ref p) :=
  .frz upd_same (S.fresh h).2.2 (S.fresh h).2.1 (r.stp (S.lay h).2)
theorem Post.tup (h : Post K fa β ρ st H (.tup ds) st Q) (S : RS K fa β ρ st H) (r : RDs K fa H (Mu ρ st) β ρ st.length ds vs) (hp : H p = none) : Q (.ref p) (upd H p (.tup vs)) :=
  h _ _ _ (S.lay hp).2 (S.lay hp).1 (lay_tup S hp r)
theorem Post.frz (h : Post K fa β ρ st H (.frz ds) st Q) (S : RS K fa β ρ st H) (r : RDs K fa H (Mu ρ st) β ρ st.length ds vs) (hp : H p = none) : Q (.ref p) (upd H p (.lst vs)) :=
  h _ _ _ (S.lay hp).2 (S.lay hp).1 (lay_frz S hp r)
/-- reading -/
theorem rd_tup (r : RD K fa H (Mu ρ st) β ρ st.length (.tup ds) v) : ∃ a vs, v = .ref a ∧ SqT K H a vs ∧ RDs K fa H (Mu ρ st) β ρ st.length ds vs := by
  cases r with
  | tupH h1 _ _ h4 => exact ⟨_, _, rfl, .inl h1, h4⟩
  | tupK h1 h4 => exact ⟨_, _, rfl, .inr h1, h4⟩
theorem rs_at (S : RS K fa β ρ st H) {i : Nat} {o : Obj} (h : st[i]? = some o) : ∃ a vs, ρ[i]? = some a ∧ H a = some (.lst vs) ∧ RDs K fa H (Mu ρ st) β ρ st.length o.its vs := by
  obtain ⟨a, vs, e1, e2, e3⟩ := S.obj i o h
  exact ⟨a, vs, e1, e2, e3.mono (fun _ _ x y => ⟨x, y⟩) (fun _ _ x => x) (fun _ x => .inl x) (Nat.le_of_lt (its_get h))⟩
theorem rd_lv (S : RS K fa β ρ st H) (r : RD K fa H (Mu ρ st) β ρ st.length d v) (h : lv st d = some ds) : ∃ a vs, v = .ref a ∧ SqL K H a vs ∧ RDs K fa H (Mu ρ st) β ρ st.length ds vs := by
  cases r with
  | frz h1 _ _ h4 =>
    cases h
    exact ⟨_, _, rfl, .inl (.inl h1), h4⟩
  | scrH h1 _ _ h4 =>
    cases h
    exact ⟨_, _, rfl, .inl h1, h4⟩
  | scrK h1 h4 =>
    cases h
    exact ⟨_, _, rfl, .inr h1, h4⟩
  | lst h1 h2 =>
    simp only [lv] at h
    split at h
    · rename_i o ho
      cases h
      obtain ⟨a, vs, e1, e2, e3⟩ := rs_at S ho
      rw [h2] at e1
      cases e1
      exact ⟨_, _, rfl, .inl (.inl e2), e3⟩
    · cases h
  | _ => cases h
/-- .. a list that is read as it stands -/
theorem rd_lh (S : RS K fa β ρ st H) (r : RD K fa H (Mu ρ st) β ρ st.length d v) (h : lv st d = some ds) (hn : ∀ ds, d ≠ .scr ds) : ∃ a vs, v = .ref a ∧ H a = some (.lst vs) ∧ RDs K fa H (Mu ρ st) β ρ st.length ds vs := by
  cases r with
  | frz h1 _ _ h4 =>
    cases h
    exact ⟨_, _, rfl, h1, h4⟩
  | scrH h1 _ _ h4 => exact absurd rfl (hn _)
  | scrK h1 h4 => exact absurd rfl (hn _)
  | lst h1 h2 =>
    simp only [lv] at h
    split at h
    · rename_i o ho
      cases h
      obtain ⟨a, vs, e1, e2, e3⟩ := rs_at S ho
      rw [h2] at e1
      cases e1
      exact ⟨_, _, rfl, e2, e3⟩
    · cases h
  | _ => cases h
theorem rd_sv (S : RS K fa β ρ st H) (r : RD K fa H (Mu ρ st) β ρ st.length d v) (h : sv st d = some ds) : ∃ a vs, v = .ref a ∧ (SqL K H a vs ∨ SqT K H a vs) ∧ RDs K fa H (Mu ρ st) β ρ st.length ds vs := by
  by_cases ht : ∃ es, d = .tup es
  · obtain ⟨es, rfl⟩ := ht
    cases h
    obtain ⟨a, vs, e, q, r'⟩ := rd_tup r
    exact ⟨a, vs, e, .inr q, r'⟩
  · have h' : lv st d = some ds := by
      cases d with
      | tup es => exact absurd ⟨es, rfl⟩ ht
      | _ => exact h
    obtain ⟨a, vs, e, q, r'⟩ := rd_lv S r h'
    exact ⟨a, vs, e, .inl q, r'⟩
theorem szOk_le {n : Nat} (h : szOk n = true) : n ≤ sizeLine := by
  have h1 : n ≤ 16777216 := Nat.le_of_ble_eq_true h
  rw [sizeLine_eq]
  exact h1
theorem szLt_lt {n : Nat} (h : szLt n = true) : n < sizeLine := by
  have h1 : n < 16777216 := by simpa [szLt] using h
  rw [sizeLine_eq]
  exact h1
theorem str_len (s : List Nat) : (⟨s.toArray⟩ : Str).length = s.length := by simp [Str.length]
end

/-! ### two-place operators -/
def opOf : Op → Operator
  | .add => .Add | .sub => .Sub | .mul => .Mult | .fdiv => .FloorDiv | .mod => .Mod | .pow => .Pow | .shl => .LShift | .shr => .RShift | .band => .BitAnd | .bor => .BitOr | .bxor => .BitXor
def rBop (K : PySem.W.Frag) (fa : Nat → Addr) (o : Op) : R2 := fun x y H Q => ∃ β ρ st dx dy d, RS K fa β ρ st H ∧ RD K fa H (Mu ρ st) β ρ st.length dx x ∧ RD K fa H (Mu ρ st) β ρ st.length dy y ∧ bop st o dx dy = some d ∧ Post K fa β ρ st H d st Q
section
variable {X : Cx} {fa : Nat → Addr}
theorem small_ok {i j : Int} (h : (small i || small j) = true) : CMul i j := by
  rcases Bool.or_eq_true_iff.mp h with h | h
  · left
    simp only [small, Bool.and_eq_true, decide_eq_true_eq] at h
    exact h
  · right
    simp only [small, Bool.and_eq_true, decide_eq_true_eq] at h
    exact h
theorem op_iop (o : Op) : OpR X (binaryOp (opOf o)) (fun x y H Q => ∃ i j k, x = .int i ∧ y = .int j ∧ iop o i j = some k ∧ Q (.int k) H) := by
  intro pins s σ H x y v u Q I rx ry h
  obtain ⟨i, j, k, rfl, rfl, hk, q⟩ := h
  cases o with
  | add => cases hk; exact op_add pins s σ H _ _ v u Q I rx ry ⟨i, j, rfl, rfl, q⟩
  | sub => cases hk; exact op_sub pins s σ H _ _ v u Q I rx ry ⟨i, j, rfl, rfl, q⟩
  | mul =>
    simp only [iop] at hk
    split at hk
    · cases hk
      exact op_mul pins s σ H _ _ v u Q I rx ry ⟨i, j, rfl, rfl, small_ok (by assumption), q⟩
    · cases hk
  | fdiv =>
    simp only [iop] at hk
    split at hk
    · rename_i c
      simp only [Bool.and_eq_true, decide_eq_true_eq] at c
      cases hk
      exact op_fdiv pins s σ H _ _ v u Q I rx ry ⟨i, j, rfl, rfl, c, q⟩
    · cases hk
  | mod =>
    simp only [iop] at hk
    split at hk
    · cases hk
      exact op_mod pins s σ H _ _ v u Q I rx ry ⟨i, j, rfl, rfl, by assumption, q⟩
    · cases hk
  | pow =>
    simp only [iop] at hk
    split at hk
    · rename_i c
      simp only [Bool.and_eq_true, decide_eq_true_eq] at c
      cases hk
      exact op_pow pins s σ H _ _ v u Q I rx ry ⟨i, j, rfl, rfl, c, q⟩
    · cases hk
  | shl =>
    simp only [iop] at hk
    split at hk
    · rename_i c
      simp only [Bool.and_eq_true, decide_eq_true_eq] at c
      cases hk
      exact op_shl pins s σ H _ _ v u Q I rx ry ⟨i, j, rfl, rfl, c, q⟩
    · cases hk
  | shr =>
    simp only [iop] at hk
    split at hk
    · cases hk
      exact op_shr pins s σ H _ _ v u Q I rx ry ⟨i, j, rfl, rfl, by assumption, q⟩
    · cases hk
  | band => cases hk; exact op_and pins s σ H _ _ v u Q I rx ry ⟨i, j, rfl, rfl, q⟩
  | bor => cases hk; exact op_or pins s σ H _ _ v u Q I rx ry ⟨i, j, rfl, rfl, q⟩
  | bxor => cases hk; exact op_xor pins s σ H _ _ v u Q I rx ry ⟨i, j, rfl, rfl, q⟩
theorem op_catD {a b : D} {xs ys : List D} {st : Sto} {β ρ : List Addr} {H : Hp} {x y : V} {Q : VK} {pins : List (Addr × PySem.Obj)} {s : Shared} {σ : L2.St} {v u : Value} (I : Inv X pins σ H s) (rx : RelV x v) (ry : RelV y u)
    (S : RS X.K fa β ρ st H) (ra : RD X.K fa H (Mu ρ st) β ρ st.length a x) (rb : RD X.K fa H (Mu ρ st) β ρ st.length b y) (ha : lv st a = some xs) (hb : lv st b = some ys) (na : ∀ ds, a ≠ .scr ds) (nb : ∀ ds, b ≠ .scr ds)
    (hz : szOk (xs.length + ys.length) = true) (q : Post X.K fa β ρ st H (.frz (xs ++ ys)) st Q) : wpAny (model X.prog X.w) X.A (binaryOp .Add v u) (EP X pins σ Q) X.xe s := by
  obtain ⟨p1, vs, rfl, h1, r1⟩ := rd_lh S ra ha na
  obtain ⟨p2, ws, rfl, h2, r2⟩ := rd_lh S rb hb nb
  exact op_cat pins s σ H _ _ v u Q I rx ry ⟨p1, p2, vs, ws, rfl, rfl, h1, h2, by rw [← r1.length, ← r2.length]; exact szOk_le hz, fun p hp => q.frz S (r1.append r2) hp⟩
theorem op_repD {a d : D} {xs : List D} {k : Int} {st : Sto} {β ρ : List Addr} {H : Hp} {x y : V} {Q : VK} {pins : List (Addr × PySem.Obj)} {s : Shared} {σ : L2.St} {v u : Value} (I : Inv X pins σ H s) (rx : RelV x v) (ry : RelV y u)
    (S : RS X.K fa β ρ st H) (ra : RD X.K fa H (Mu ρ st) β ρ st.length a x) (rb : RD X.K fa H (Mu ρ st) β ρ st.length (.int k) y) (ha : lv st a = some xs) (na : ∀ ds, a ≠ .scr ds)
    (hd : rep xs k = some d) (q : Post X.K fa β ρ st H d st Q) : wpAny (model X.prog X.w) X.A (binaryOp .Mult v u) (EP X pins σ Q) X.xe s := by
  obtain ⟨p1, vs, rfl, h1, r1⟩ := rd_lh S ra ha na
  cases rb
  unfold rep at hd
  split at hd
  · rename_i c
    simp only [Bool.and_eq_true, decide_eq_true_eq] at c
    cases hd
    exact op_rep pins s σ H _ _ v u Q I rx ry ⟨p1, k, vs, rfl, rfl, h1, c.1, c.2.1, by rw [← r1.length]; exact szOk_le c.2.2, fun p hp => q.frz S (r1.rep _) hp⟩
  · cases hd
theorem op_bop (o : Op) : OpR X (binaryOp (opOf o)) (rBop X.K fa o) := by
  intro pins s σ H x y v u Q I rx ry h
  obtain ⟨β, ρ, st, dx, dy, d, S, ra, rb, hd, q⟩ := h
  unfold bop at hd
  split at hd
  · -- ints
    obtain ⟨k, hk, rfl⟩ := Option.map_eq_some_iff.mp hd
    cases ra
    cases rb
    exact op_iop o pins s σ H _ _ v u Q I rx ry ⟨_, _, k, rfl, rfl, hk, q.here S (.int k)⟩
  · -- texts
    split at hd
    · split at hd
      · rename_i c
        cases hd
        cases ra
        cases rb
        refine op_add_str pins s σ H _ _ v u Q I rx ry ⟨_, _, rfl, rfl, by rw [str_len, str_len]; exact szOk_le c, ?_⟩
        rename_i a b _
        have e2 : ((⟨a.toArray⟩ : Str) ++ (⟨b.toArray⟩ : Str)) = (⟨(a ++ b).toArray⟩ : Str) := by
          show Str.append _ _ = _
          simp [Str.append]
        rw [e2]
        exact q.here S (.str _)
      · cases hd
    · cases hd
  · -- tuples
    split at hd
    · split at hd
      · rename_i c
        cases hd
        obtain ⟨p1, vs, rfl, h1, r1⟩ := rd_tup ra
        obtain ⟨p2, ws, rfl, h2, r2⟩ := rd_tup rb
        refine op_catA pins s σ H _ _ v u Q I rx ry ⟨p1, p2, vs, ws, rfl, rfl, h1, h2, by rw [← r1.length, ← r2.length]; exact szOk_le c, fun e => ?_, fun _ e => ?_, fun _ _ p hp => q.tup S (r1.append r2) hp⟩
        · subst e
          cases r1
          exact q.here S rb
        · subst e
          cases r2
          have z := q
          rw [List.append_nil] at z
          exact z.here S ra
      · cases hd
    · cases hd
  · split at hd
    · split at hd
      · cases hd
        exact op_catD I rx ry S ra rb rfl rfl (by intro ds z; cases z) (by intro ds z; cases z) (by assumption) q
      · cases hd
    · cases hd
  · split at hd
    · split at hd
      · cases hd
        exact op_catD I rx ry S ra rb rfl (by assumption) (by intro ds z; cases z) (by intro ds z; cases z) (by assumption) q
      · cases hd
    · cases hd
  · split at hd
    · split at hd
      · cases hd
        exact op_catD I rx ry S ra rb (by assumption) rfl (by intro ds z; cases z) (by intro ds z; cases z) (by assumption) q
      · cases hd
    · cases hd
  · split at hd
    · split at hd
      · cases hd
        exact op_catD I rx ry S ra rb (by assumption) (by assumption) (by intro ds z; cases z) (by intro ds z; cases z) (by assumption) q
      · cases hd
    · cases hd
  · split at hd
    · exact op_repD I rx ry S ra rb rfl (by intro ds z; cases z) hd q
    · cases hd
  · split at hd
    · exact op_repD I rx ry S ra rb (by assumption) (by intro ds z; cases z) hd q
    · cases hd
  · cases hd
end
end PL

set_option Elab.async false
set_option linter.all false
set_option maxRecDepth 100000
set_option maxHeartbeats 1000000
/-! Comparisons, isinstance. -/
namespace PL
open PySem PySem.Spec PyProof.Rows L2
mutual
/-- as the library's data -/
def py : D → PyData
  | .non => .none
  | .bl b => .bool b
  | .int i => .int i
  | .str s => .str ⟨s.toArray⟩
  | .tup ds => .tuple (pys ds)
  | .frz ds => .list (pys ds)
  | .scr _ => .none
  | .lst _ => .none
  | .fn _ => .none
def pys : List D → List PyData
  | [] => []
  | d :: ds => py d :: pys ds
end
theorem pys_map : ∀ ds : List D, pys ds = ds.map py
  | [] => rfl
  | d :: ds => by rw [pys, pys_map ds, List.map_cons]
theorem dOk_tup {k : Nat} {ds : List D} (h : dOk (k + 1) (.tup ds) = true) : ∀ d ∈ ds, dOk k d = true := by
  simp only [dOk, List.all_eq_true] at h
  exact h
theorem dOk_frz {k : Nat} {ds : List D} (h : dOk (k + 1) (.frz ds) = true) : ∀ d ∈ ds, dOk k d = true := by
  simp only [dOk, List.all_eq_true] at h
  exact h
theorem str_eq {x y : List Nat} : ((⟨x.toArray⟩ : Str) == ⟨y.toArray⟩) = (x == y) := by
  rw [Bool.eq_iff_iff]
  simp
mutual
theorem dEq_py : ∀ (d : D) (k k' : Nat) (e : D), dOk k d = true → dOk k' e = true → dEq d e = PyData.eqv (py d) (py e)
  | .non, k, k', e, _, he => by
    cases e <;> first
      | rfl
      | (cases k' <;> simp [dOk] at he)
  | .bl b, k, k', e, _, he => by
    cases e <;> first
      | rfl
      | (cases k' <;> simp [dOk] at he)
  | .int i, k, k', e, _, he => by
    cases e <;> first
      | rfl
      | (cases k' <;> simp [dOk] at he)
  | .str s, k, k', e, _, he => by
    cases e <;> first
      | rfl
      | (cases k' <;> simp [dOk] at he; done)
      | (simp only [dEq, py, PyData.eqv]; exact str_eq.symm)
  | .tup ds, k, k', e, hd, he => by
    cases e with
    | tup es =>
      cases k with
      | zero => simp [dOk] at hd
      | succ k =>
        cases k' with
        | zero => simp [dOk] at he
        | succ k' =>
          simp only [dEq, py, PyData.eqv]
          exact dEqs_py ds k k' es (dOk_tup hd) (dOk_tup he)
    | scr _ => cases k' <;> simp [dOk] at he
    | lst _ => cases k' <;> simp [dOk] at he
    | fn _ => cases k' <;> simp [dOk] at he
    | _ => rfl
  | .frz ds, k, k', e, hd, he => by
    cases e with
    | frz es =>
      cases k with
      | zero => simp [dOk] at hd
      | succ k =>
        cases k' with
        | zero => simp [dOk] at he
        | succ k' =>
          simp only [dEq, py, PyData.eqv]
          exact dEqs_py ds k k' es (dOk_frz hd) (dOk_frz he)
    | scr _ => cases k' <;> simp [dOk] at he
    | lst _ => cases k' <;> simp [dOk] at he
    | fn _ => cases k' <;> simp [dOk] at he
    | _ => rfl
  | .scr _, k, _, _, hd, _ => by cases k <;> simp [dOk] at hd
  | .lst _, k, _, _, hd, _ => by cases k <;> simp [dOk] at hd
  | .fn _, k, _, _, hd, _ => by cases k <;> simp [dOk] at hd
theorem dEqs_py : ∀ (ds : List D) (k k' : Nat) (es : List D), (∀ d ∈ ds, dOk k d = true) → (∀ e ∈ es, dOk k' e = true) → dEqs ds es = PyData.eqvAll (pys ds) (pys es)
  | [], _, _, es, _, _ => by cases es <;> rfl
  | d :: ds, k, k', es, hd, he => by
    cases es with
    | nil => rfl
    | cons e es =>
      simp only [dEqs, pys, PyData.eqvAll]
      rw [dEq_py d k k' e (hd d List.mem_cons_self) (he e List.mem_cons_self), dEqs_py ds k k' es (fun x hx => hd x (List.mem_cons_of_mem _ hx)) (fun x hx => he x (List.mem_cons_of_mem _ hx))]
end
mutual
theorem py_ok : ∀ (d : D) (k : Nat), dOk k d = true → (py d).canLay0 = true ∧ (py d).depth ≤ k
  | .non, k, _ => ⟨by simp [py, PyData.canLay0], by simp [py, PyData.depth]⟩
  | .bl b, k, _ => ⟨by simp [py, PyData.canLay0], by simp [py, PyData.depth]⟩
  | .int i, k, _ => ⟨by simp [py, PyData.canLay0], by simp [py, PyData.depth]⟩
  | .str s, k, h => by
    refine ⟨?_, by simp [py, PyData.depth]⟩
    have h2 : s.all (· < 0x110000) = true := by cases k <;> exact h
    simp only [py, PyData.canLay0, PyData.strOk]
    simpa using h2
  | .tup ds, k, h => by
    cases k with
    | zero => simp [dOk] at h
    | succ k =>
      have q := pys_ok ds k (dOk_tup h)
      simp only [py, PyData.canLay0, PyData.depth]
      exact ⟨q.1, by omega⟩
  | .frz ds, k, h => by
    cases k with
    | zero => simp [dOk] at h
    | succ k =>
      have q := pys_ok ds k (dOk_frz h)
      simp only [py, PyData.canLay0, PyData.depth]
      exact ⟨q.1, by omega⟩
  | .scr _, k, hd => by cases k <;> simp [dOk] at hd
  | .lst _, k, hd => by cases k <;> simp [dOk] at hd
  | .fn _, k, hd => by cases k <;> simp [dOk] at hd
theorem pys_ok : ∀ (ds : List D) (k : Nat), (∀ d ∈ ds, dOk k d = true) → PyData.canLayAll0 (pys ds) = true ∧ PyData.depthAll (pys ds) ≤ k
  | [], k, _ => ⟨by simp [pys, PyData.canLayAll0], by simp [pys, PyData.depthAll]⟩
  | d :: ds, k, h => by
    have q1 := py_ok d k (h d List.mem_cons_self)
    have q2 := pys_ok ds k fun x hx => h x (List.mem_cons_of_mem _ hx)
    simp only [pys, PyData.canLayAll0, PyData.depthAll]
    refine ⟨by rw [q1.1, q2.1]; rfl, by omega⟩
end

section
variable {K : PySem.W.Frag} {fa : Nat → Addr} {H : Hp} {m : Addr → Prop} {β ρ : List Addr} {n : Nat}
mutual
theorem rd_dp : ∀ {d : D} {v : V} (k : Nat), RD K fa H m β ρ n d v → dOk k d = true → Dp K H v (py d)
  | _, _, _, .non, _ => .non
  | _, _, _, .bl b, _ => .bl b
  | _, _, _, .int i, _ => .int i
  | _, _, _, .str s, _ => .str _
  | _, _, 0, .tupH _ _ _ _, h => by simp [dOk] at h
  | _, _, k + 1, .tupH h1 _ _ h4, h => .tup (.inl h1) (rds_dp k h4 (dOk_tup h))
  | _, _, 0, .tupK _ _, h => by simp [dOk] at h
  | _, _, k + 1, .tupK h1 h4, h => .tup (.inr h1) (rds_dp k h4 (dOk_tup h))
  | _, _, 0, .frz _ _ _ _, h => by simp [dOk] at h
  | _, _, k + 1, .frz h1 _ _ h4, h => .lst (.inl (.inl h1)) (rds_dp k h4 (dOk_frz h))
  | _, _, k, .scrH _ _ _ _, h => by cases k <;> simp [dOk] at h
  | _, _, k, .scrK _ _, h => by cases k <;> simp [dOk] at h
  | _, _, k, .lst _ _, h => by cases k <;> simp [dOk] at h
  | _, _, k, .fn _, h => by cases k <;> simp [dOk] at h
theorem rds_dp : ∀ {ds : List D} {vs : List V} (k : Nat), RDs K fa H m β ρ n ds vs → (∀ d ∈ ds, dOk k d = true) → DpAll K H vs (pys ds)
  | _, _, _, .nil, _ => .nil
  | _, _, k, .cons h t, q => .cons (rd_dp k h (q _ List.mem_cons_self)) (rds_dp k t fun x hx => q x (List.mem_cons_of_mem _ hx))
end
end
theorem shaped_py {d : D} {k : Nat} (h : dOk k d = true) (hk : k ≤ 64) : SeqAt.shaped (py d) = true := by
  obtain ⟨h1, h2⟩ := py_ok d k h
  unfold SeqAt.shaped
  rw [h1, decide_eq_true (Nat.le_trans h2 hk)]
  rfl
section
variable {K : PySem.W.Frag} {fa : Nat → Addr} {H : Hp} {β ρ : List Addr} {st : Sto} {d : D} {v : V}
theorem top_dp (S : RS K fa β ρ st H) (r : RD K fa H (Mu ρ st) β ρ st.length d v) {k : Nat} (h : dOk k (top st d) = true) : Dp K H v (py (top st d)) := by
  by_cases hl : ∃ i, d = .lst i
  · obtain ⟨i, rfl⟩ := hl
    cases e : lv st (.lst i) with
    | none =>
      have et : top st (.lst i) = .lst i := by
        show (match lv st (.lst i) with | some ds => D.frz ds | none => D.lst i) = _
        rw [e]
      rw [et] at h
      cases k <;> simp [dOk] at h
    | some ds =>
      have et : top st (.lst i) = .frz ds := by
        show (match lv st (.lst i) with | some ds => D.frz ds | none => D.lst i) = _
        rw [e]
      rw [et] at h ⊢
      obtain ⟨a, vs, rfl, h1, h2⟩ := rd_lh S r e (by intro ds z; cases z)
      cases k with
      | zero => simp [dOk] at h
      | succ k => exact .lst (.inl (.inl h1)) (rds_dp k h2 (dOk_frz h))
  · have et : top st d = d := by
      cases d with
      | lst i => exact absurd ⟨i, rfl⟩ hl
      | _ => rfl
    rw [et] at h ⊢
    exact rd_dp k r h
end
/-! ### the comparisons -/
def cmOf : Cm → CmpOp
  | .eq => .Eq | .ne => .NotEq | .lt => .Lt | .le => .LtE | .gt => .Gt | .ge => .GtE | .is => .Is | .isn => .IsNot | .mem => .In | .nmem => .NotIn
def rCop (K : PySem.W.Frag) (fa : Nat → Addr) (o : Cm) : R2 := fun x y H Q => ∃ β ρ st dx dy c, RS K fa β ρ st H ∧ RD K fa H (Mu ρ st) β ρ st.length dx x ∧ RD K fa H (Mu ρ st) β ρ st.length dy y ∧ cop st o dx dy = some c ∧ Q (.bl c) H
section
variable {X : Cx} {fa : Nat → Addr}
theorem rd_int {K : PySem.W.Frag} {fa : Nat → Addr} {H : Hp} {m : Addr → Prop} {β ρ : List Addr} {n : Nat} {i : Int} {v : V} (r : RD K fa H m β ρ n (.int i) v) : v = .int i := by
  cases r
  rfl
theorem lex_eq : ∀ a b : List Int, lexLt a b = HT.lexLt a b
  | [], [] => rfl
  | [], _ :: _ => rfl
  | _ :: _, [] => rfl
  | x :: xs, y :: ys => by
    rw [HT.lexLt_cons, lexLt, lex_eq xs ys]
/-- the items' answers where they are data -/
theorem ans_at {H : Hp} {d : D} {ds : List D} {x : V} {vs : List V} {m : Addr → Prop} {β ρ : List Addr} {n : Nat} {pins : List (Addr × PySem.Obj)} {s : Shared} {σ : L2.St} {v : Value} {its : List Value} (hu : X.A.units + 65 < cLine)
    (I : Inv X pins σ H s) (rx : RelV x v) (hd : Dp X.K H x (py d)) (ok : dOk 40 d = true) (hr : RDs X.K fa H m β ρ n ds vs) (rv : Vals vs its) (oks : ∀ e ∈ ds, dOk 40 e = true) :
    ∃ f : Value → Bool, (∀ u, u ∈ its.toArray → SeqAt.EqAt X.A.in1 s u v (f u)) ∧ its.toArray.any f = ds.any fun e => dEq e d := by
  have da := rds_dp 40 hr oks
  obtain ⟨as, hra⟩ := Dp.readsAll I _ _ _ da rv
  obtain ⟨bs, hrd⟩ := Dp.reads I _ _ _ hd rx
  have hl := (pys_ok ds 40 oks)
  have hl2 := py_ok d 40 ok
  refine ⟨fun u => PyData.eqv (SeqAt.readOf s.heap u) (py d), SeqAt.items_eqAt (vs := its.toArray) (show ReadsAll s.heap its.toArray.toList (pys ds) as from hra) hrd hl.1 hl2.1 ?_, ?_⟩
  · show X.A.units + 1 + min (PyData.depthAll (pys ds)) (py d).depth < cLine
    omega
  · have hmap : its.map (SeqAt.readOf s.heap) = pys ds := SeqAt.readsAll_map _ its as hl.1 hra
    have e1 : its.toArray.any (fun u => PyData.eqv (SeqAt.readOf s.heap u) (py d)) = (its.map (SeqAt.readOf s.heap)).any fun z => PyData.eqv z (py d) := by
      rw [List.any_map, List.any_toArray]
      rfl
    rw [e1, hmap, pys_map, List.any_map]
    have key : ∀ (es : List D), (∀ e ∈ es, dOk 40 e = true) → es.any ((fun z => PyData.eqv z (py d)) ∘ py) = es.any fun e => dEq e d := by
      intro es
      induction es with
      | nil => intro _; rfl
      | cons e es ih =>
        intro h
        rw [List.any_cons, List.any_cons, ih (fun x hx => h x (List.mem_cons_of_mem _ hx)), dEq_py e 40 40 d (h e List.mem_cons_self) ok]
        rfl
    exact key ds oks
def ng (o : Cm) (c : Bool) : Bool := match o with
  | .isn => !c
  | .nmem => !c
  | _ => c
theorem cis_ok {o : Cm} (ho : o = .is ∨ o = .isn) {pins : List (Addr × PySem.Obj)} {s : Shared} {σ : L2.St} {H : Hp} {x y : V} {v u : Value} {Q : VK} {m : Addr → Prop} {β ρ : List Addr} {n : Nat} {dx dy : D} {c : Bool} (I : Inv X pins σ H s) (rx : RelV x v) (ry : RelV y u)
    (ra : RD X.K fa H m β ρ n dx x) (rb : RD X.K fa H m β ρ n dy y) (h : cis dx dy = some c) (q : Q (.bl (ng o c)) H) : wpAny (model X.prog X.w) X.A (compareOp (cmOf o) v u) (EP X pins σ Q) X.xe s := by
  have hn : decide (x = V.non) = isNon dx := by cases ra <;> rfl
  cases rb with
  | non =>
    rcases ho with rfl | rfl
    · have e : isNon dx = c := Option.some.inj h
      exact op_isN pins s σ H _ _ v u Q I rx ry ⟨rfl, by rw [hn, e]; exact q⟩
    · have e : isNon dx = c := Option.some.inj h
      exact op_notN pins s σ H _ _ v u Q I rx ry ⟨rfl, by rw [hn, e]; exact q⟩
  | bl b =>
    cases ra with
    | bl a =>
      rcases ho with rfl | rfl
      · have e : (a == b) = c := Option.some.inj h
        exact op_isBl pins s σ H _ _ v u Q I rx ry ⟨a, b, rfl, rfl, by rw [← Bool.beq_eq_decide_eq, e]; exact q⟩
      · have e : (a == b) = c := Option.some.inj h
        exact op_notBl pins s σ H _ _ v u Q I rx ry ⟨a, b, rfl, rfl, by rw [← Bool.beq_eq_decide_eq, e]; exact q⟩
    | _ => rcases ho with rfl | rfl <;> cases h
  | _ => rcases ho with rfl | rfl <;> cases h
theorem cin_ok {o : Cm} (ho : o = .mem ∨ o = .nmem) (hu : X.A.units + 65 < cLine) {pins : List (Addr × PySem.Obj)} {s : Shared} {σ : L2.St} {H : Hp} {x y : V} {v u : Value} {Q : VK} {β ρ : List Addr} {st : Sto} {dx dy : D} {c : Bool} (I : Inv X pins σ H s) (rx : RelV x v) (ry : RelV y u)
    (S : RS X.K fa β ρ st H) (ra : RD X.K fa H (Mu ρ st) β ρ st.length dx x) (rb : RD X.K fa H (Mu ρ st) β ρ st.length dy y) (he : cin st dx dy = some c) (q : Q (.bl (ng o c)) H) :
    wpAny (model X.prog X.w) X.A (compareOp (cmOf o) v u) (EP X pins σ Q) X.xe s := by
  unfold cin at he
  split at he
  · -- a text
    split at he
    · cases he
      cases ra
      cases rb
      rcases ho with rfl | rfl
      · exact op_in_sign pins s σ H _ _ v u Q I rx ry ⟨_, _, rfl, rfl, q⟩
      · exact op_notIn_sign pins s σ H _ _ v u Q I rx ry ⟨_, _, rfl, rfl, q⟩
    · cases he
  · -- a list, a tuple
    split at he
    · rename_i ds hs
      split at he
      · rename_i ok
        rw [Bool.and_eq_true, List.all_eq_true] at ok
        cases he
        have hd := top_dp S ra ok.1
        obtain ⟨a, vs, rfl, hq, hr⟩ := rd_sv S rb hs
        cases ry
        rcases hq with hq | hq
        · obtain ⟨its, rv, pl, hz⟩ := I.list hq
          obtain ⟨f, hf, e⟩ := ans_at hu I rx hd ok.1 hr rv ok.2
          rcases ho with rfl | rfl
          · refine SeqAt.in_listAt f pl.isList hf ⟨.bl _, H, I, rfl, ?_⟩
            rw [e]
            exact q
          · refine SeqAt.notIn_listAt f pl.isList hf ⟨.bl _, H, I, rfl, ?_⟩
            rw [e]
            exact q
        · obtain ⟨its, rv, pl, hz⟩ := I.tuple hq
          obtain ⟨f, hf, e⟩ := ans_at hu I rx hd ok.1 hr rv ok.2
          rcases ho with rfl | rfl
          · refine SeqAt.in_tupleAt f pl hf ⟨.bl _, H, I, rfl, ?_⟩
            rw [e]
            exact q
          · refine SeqAt.notIn_tupleAt f pl hf ⟨.bl _, H, I, rfl, ?_⟩
            rw [e]
            exact q
      · cases he
    · cases he
theorem op_cop (o : Cm) (hu : X.A.units + 65 < cLine) : OpR X (compareOp (cmOf o)) (rCop X.K fa o) := by
  intro pins s σ H x y v u Q I rx ry h
  obtain ⟨β, ρ, st, dx, dy, c, S, ra, rb, hc, q⟩ := h
  cases o with
  | eq =>
    simp only [cop] at hc
    split at hc
    · rename_i ok
      rw [Bool.and_eq_true] at ok
      cases hc
      refine op_eqD (by omega) pins s σ H x y v u Q I rx ry ⟨_, _, top_dp S ra ok.1, top_dp S rb ok.2, shaped_py ok.1 (by decide), shaped_py ok.2 (by decide), ?_⟩
      rw [← dEq_py _ 40 40 _ ok.1 ok.2]
      exact q
    · cases hc
  | ne =>
    simp only [cop] at hc
    split at hc
    · rename_i ok
      rw [Bool.and_eq_true] at ok
      cases hc
      refine op_neD (by omega) pins s σ H x y v u Q I rx ry ⟨_, _, top_dp S ra ok.1, top_dp S rb ok.2, shaped_py ok.1 (by decide), shaped_py ok.2 (by decide), ?_⟩
      rw [← dEq_py _ 40 40 _ ok.1 ok.2]
      exact q
    · cases hc
  | lt =>
    simp only [cop] at hc
    unfold clt at hc
    split at hc
    · cases hc
      cases ra
      cases rb
      exact op_lt pins s σ H _ _ v u Q I rx ry ⟨_, _, rfl, rfl, q⟩
    · cases hc
      cases ra
      cases rb
      exact op_lt_str pins s σ H _ _ v u Q I rx ry ⟨_, _, rfl, rfl, q⟩
    · split at hc
      · rename_i a' b' e1 e2
        cases hc
        obtain ⟨p1, vs, rfl, h1, r1⟩ := rd_tup ra
        obtain ⟨p2, ws, rfl, h2, r2⟩ := rd_tup rb
        have w1 := r1.ints e1
        have w2 := r2.ints e2
        subst w1 w2
        exact op_ltT (by omega) pins s σ H _ _ v u Q I rx ry ⟨p1, p2, _, _, rfl, rfl, h1, h2, by rw [← lex_eq]; exact q⟩
      · cases hc
    · cases hc
  | gt =>
    simp only [cop] at hc
    split at hc
    · cases hc
      cases ra
      cases rb
      exact op_gt pins s σ H _ _ v u Q I rx ry ⟨_, _, rfl, rfl, q⟩
    · cases hc
  | le =>
    simp only [cop] at hc
    split at hc
    · cases hc
      cases ra
      cases rb
      exact op_le pins s σ H _ _ v u Q I rx ry ⟨_, _, rfl, rfl, q⟩
    · cases hc
  | ge =>
    simp only [cop] at hc
    split at hc
    · cases hc
      cases ra
      cases rb
      exact op_ge pins s σ H _ _ v u Q I rx ry ⟨_, _, rfl, rfl, q⟩
    · cases hc
  | is => exact cis_ok (.inl rfl) I rx ry ra rb hc q
  | isn =>
    obtain ⟨e, h1, rfl⟩ := Option.map_eq_some_iff.mp hc
    exact cis_ok (.inr rfl) I rx ry ra rb h1 q
  | mem => exact cin_ok (.inl rfl) hu I rx ry S ra rb hc q
  | nmem =>
    obtain ⟨e, h1, rfl⟩ := Option.map_eq_some_iff.mp hc
    exact cin_ok (.inr rfl) hu I rx ry S ra rb h1 q
/-! ### isinstance -/
def tyN : Ty → String
  | .int => "int" | .str => "str" | .bool => "bool" | .list => "list" | .tuple => "tuple"
theorem isi_ok {t : Ty} {pins : List (Addr × PySem.Obj)} {s : Shared} {σ : L2.St} {H : Hp} {x : V} {us : List Value} {Q : VK} {β ρ : List Addr} {st : Sto} {d : D} {c : Bool} (I : Inv X pins σ H s) (S : RS X.K fa β ρ st H)
    (ra : RD X.K fa H (Mu ρ st) β ρ st.length d x) (rv : Vals [x, .ty (tyN t)] us) (h : isInst t d = some c) (q : Q (.bl c) H) : wpAny (model X.prog X.w) X.A (PySem.call (.builtin "isinstance") us) (EP X pins σ Q) X.xe s := by
  have go : ∀ (T : String), TyX X.K H x (.type T) → kitB T (tyN t) = some c → wpAny (model X.prog X.w) X.A (PySem.call (.builtin "isinstance") us) (EP X pins σ Q) X.xe s := fun T hT hk =>
    call_isi pins s σ H _ us Q I rv ⟨x, _, _, _, c, rfl, .ty _, hT, kit_ty hk, q⟩
  cases ra with
  | non => cases t <;> cases h <;> exact go "NoneType" (.base .non) (by decide +kernel)
  | bl b => cases t <;> cases h <;> exact go "bool" (.base (.bl b)) (by decide +kernel)
  | int i => cases t <;> cases h <;> exact go "int" (.base (.int i)) (by decide +kernel)
  | str z => cases t <;> cases h <;> exact go "str" (.base (.str _)) (by decide +kernel)
  | tupH h1 _ _ _ =>
    rcases h1 with h1 | ⟨o, h1⟩
    · cases t <;> cases h <;> exact go "tuple" (.base (.tup h1)) (by decide +kernel)
    · cases t <;> cases h <;> exact go "tuple" (.fTuple h1) (by decide +kernel)
  | tupK h1 _ =>
    obtain ⟨o, its, n, h2, h3, _⟩ := h1
    cases t <;> cases h <;> exact go "tuple" (.kTuple h2 h3) (by decide +kernel)
  | frz h1 _ _ _ => cases t <;> cases h <;> exact go "list" (.base (.lst h1)) (by decide +kernel)
  | scrH _ _ _ _ => cases h
  | scrK _ _ => cases h
  | lst h1 h2 =>
    obtain ⟨a, vs, e1, e2, e3⟩ := rs_at S (List.getElem?_eq_getElem h1)
    rw [h2] at e1
    cases e1
    cases t <;> cases h <;> exact go "list" (.base (.lst e2)) (by decide +kernel)
  | fn k => cases h
end
end PL

set_option Elab.async false
set_option linter.all false
set_option maxRecDepth 100000
set_option maxHeartbeats 1000000
/-! Built-in functions and methods. -/
namespace PL
open PySem PySem.Spec PyProof.Rows L2
section
variable {X : Cx} {fa : Nat → Addr}
/-! ### sum of a tuple -/
theorem preSum_take (ns : List Int) : ∀ n, preSum (fun i => ns.getD i 0) n = (ns.take n).sum
  | 0 => by simp [preSum]
  | n + 1 => by
    have e : preSum (fun i => ns.getD i 0) (n + 1) = preSum (fun i => ns.getD i 0) n + ns.getD n 0 := rfl
    rw [e, preSum_take ns n]
    by_cases h : n < ns.length
    · rw [List.take_succ_eq_append_getElem h, List.sum_append]
      simp [List.getD_eq_getElem?_getD, List.getElem?_eq_getElem h]
    · rw [List.take_of_length_le (by omega), List.take_of_length_le (by omega)]
      simp [List.getD_eq_getElem?_getD, List.getElem?_eq_none (show ns.length ≤ n by omega)]
theorem ints_at : ∀ {us : List Value} {ns : List Int} {i : Nat} {v : Value}, IntsAre us ns → us[i]? = some v → ∃ t, v = .int (ns.getD i 0) t
  | _, _, _, _, .nil, h => by simp at h
  | _, _, 0, v, .cons a t _, h => by
    simp at h
    exact ⟨_, by rw [← h]; rfl⟩
  | _, _, i + 1, v, .cons a t r, h => by
    obtain ⟨u, e⟩ := ints_at (i := i) (v := v) r (by simpa using h)
    exact ⟨u, by rw [e]; rfl⟩
theorem cr_sumT (hc : X.calm = true) : CallR X (.builtin "sum") (fun vs H Q => ∃ (a : Addr) (ns : List Int), vs = [V.ref a] ∧ SqT X.K H a (ns.map V.int) ∧ Q (.int ns.sum) H) := by
  intro pins s σ H vs us Q I r h
  obtain ⟨a, ns, rfl, hs, q⟩ := h
  obtain ⟨its, rv, ht, _⟩ := I.tuple hs
  rw [Vals.ref1 r]
  have hi := rv.ints
  have hT : s.heap.IsTuple a its.toArray := ht
  have hlt : a < s.heap.objs.size := ht.lt
  refine call_sum_walkG (wpAny_pyIter_tuple hT ?_)
  have I1 : Inv X pins σ H { s with heap := s.heap.push { cls := .type "tuple_iterator", data := .fields #[.ref a, .int 0 0] } } := I.kept (t' := s.toks) fun b o e => Heap.get?_push_of_some _ e
  refine ⟨_, _, _, _, _, _, fun i => ns.getD i 0, rfl, Walks.tuple (A := X.A.in1) (I.ok.hd hc) s.heap.objs.size a (Nat.ne_of_lt hlt) its.toArray, ⟨⟨_, Heap.get?_push_size _ rfl, rfl, rfl⟩, ?_⟩, fun b hb => ?_, fun i v hv => ints_at hi (by simpa using hv), fun h' tk t' hk => ?_⟩
  · obtain ⟨o, e, r⟩ := hT
    exact ⟨o, Heap.get?_push_of_some _ e, r⟩
  · rw [Heap.size_push]
    rcases List.mem_cons.mp hb with e | hb
    · rw [e]; exact Nat.lt_succ_self _
    · rcases List.mem_cons.mp hb with e | hb
      · rw [e]; exact Nat.lt_succ_of_lt hlt
      · cases hb
  · have e : preSum (fun i => ns.getD i 0) its.toArray.size = ns.sum := by
      rw [preSum_take, List.size_toArray, hi.length, List.take_length]
    rw [e]
    refine ⟨.int ns.sum, H, I.kept (h' := h') (t' := tk) fun b o eo => hk b o (fun hm => ?_) (Heap.get?_push_of_some _ eo), ⟨_, rfl⟩, q⟩
    rcases List.mem_cons.mp hm with e1 | hm
    · rw [e1] at eo
      exact absurd (Heap.lt_size eo) (Nat.lt_irrefl _)
    · cases hm
theorem maxI_mem : ∀ (xs : List Int) (x : Int), xs.foldl (fun a b => if a < b then b else a) x ∈ x :: xs ∧ ∀ y ∈ x :: xs, y ≤ xs.foldl (fun a b => if a < b then b else a) x
  | [], x => ⟨by simp, by simp⟩
  | b :: xs, x => by
    obtain ⟨h1, h2⟩ := maxI_mem xs (if x < b then b else x)
    rw [List.foldl_cons]
    refine ⟨?_, fun y hy => ?_⟩
    · rcases List.mem_cons.mp h1 with e | h
      · rw [e]
        split <;> simp
      · simp [h]
    · have h0 := h2 _ (List.mem_cons_self ..)
      generalize hG : List.foldl _ _ xs = G at h0 h2 ⊢
      rcases List.mem_cons.mp hy with rfl | hy
      · split at h0 <;> omega
      · rcases List.mem_cons.mp hy with rfl | hy
        · split at h0 <;> omega
        · exact h2 y (List.mem_cons_of_mem _ hy)
theorem minI_mem : ∀ (xs : List Int) (x : Int), xs.foldl (fun a b => if b < a then b else a) x ∈ x :: xs ∧ ∀ y ∈ x :: xs, xs.foldl (fun a b => if b < a then b else a) x ≤ y
  | [], x => ⟨by simp, by simp⟩
  | b :: xs, x => by
    obtain ⟨h1, h2⟩ := minI_mem xs (if b < x then b else x)
    rw [List.foldl_cons]
    refine ⟨?_, fun y hy => ?_⟩
    · rcases List.mem_cons.mp h1 with e | h
      · rw [e]
        split <;> simp
      · simp [h]
    · have h0 := h2 _ (List.mem_cons_self ..)
      generalize hG : List.foldl _ _ xs = G at h0 h2 ⊢
      rcases List.mem_cons.mp hy with rfl | hy
      · split at h0 <;> omega
      · rcases List.mem_cons.mp hy with rfl | hy
        · split at h0 <;> omega
        · exact h2 y (List.mem_cons_of_mem _ hy)
theorem maxI_some {ns : List Int} {m : Int} (h : maxI ns = some m) : 0 < ns.length ∧ ∀ M, M ∈ ns → (∀ y, y ∈ ns → y ≤ M) → M = m := by
  cases ns with
  | nil => cases h
  | cons x xs =>
    cases h
    obtain ⟨h1, h2⟩ := maxI_mem xs x
    exact ⟨by simp, fun M hM hy => Int.le_antisymm (h2 M hM) (hy _ h1)⟩
theorem minI_some {ns : List Int} {m : Int} (h : minI ns = some m) : 0 < ns.length ∧ ∀ M, M ∈ ns → (∀ y, y ∈ ns → M ≤ y) → M = m := by
  cases ns with
  | nil => cases h
  | cons x xs =>
    cases h
    obtain ⟨h1, h2⟩ := minI_mem xs x
    exact ⟨by simp, fun M hM hy => Int.le_antisymm (hy _ h1) (h2 M hM)⟩
theorem cr_maxT (hc : X.calm = true) : CallR X (.builtin "max") (fun vs H Q => ∃ (a : Addr) (ns : List Int), vs = [V.ref a] ∧ SqT X.K H a (ns.map V.int) ∧ 0 < ns.length ∧ ∀ m, m ∈ ns → (∀ y, y ∈ ns → y ≤ m) → Q (.int m) H) := by
  intro pins s σ H vs us Q I r h
  obtain ⟨a, ns, rfl, hs, hne, q⟩ := h
  obtain ⟨its, rv, ht, _⟩ := I.tuple hs
  rw [Vals.ref1 r]
  have hi := rv.ints
  have hT : s.heap.IsTuple a its.toArray := ht
  have hlt : a < s.heap.objs.size := ht.lt
  refine call_max_walk (wpAny_pyIter_tuple hT ?_)
  have I1 : Inv X pins σ H { s with heap := s.heap.push { cls := .type "tuple_iterator", data := .fields #[.ref a, .int 0 0] } } := I.kept (t' := s.toks) fun b o e => Heap.get?_push_of_some _ e
  refine ⟨_, _, _, _, _, _, _, rfl, Walks.tuple (A := X.A.in1) (I.ok.hd hc) s.heap.objs.size a (Nat.ne_of_lt hlt) its.toArray, ⟨⟨_, Heap.get?_push_size _ rfl, rfl, rfl⟩, ?_⟩, fun b hb => ?_, by rw [List.size_toArray, hi.length]; exact hne, CmpOf.ints_gt (fun i => ns.getD i 0) (fun i v hv => ints_at hi (by simpa using hv)), fun v h' tk hP hk => ?_⟩
  · obtain ⟨o, e, r⟩ := hT
    exact ⟨o, Heap.get?_push_of_some _ e, r⟩
  · rw [Heap.size_push]
    rcases List.mem_cons.mp hb with e | hb
    · rw [e]; exact Nat.lt_succ_self _
    · rcases List.mem_cons.mp hb with e | hb
      · rw [e]; exact Nat.lt_succ_of_lt hlt
      · cases hb
  · obtain ⟨h1, h2⟩ := argBest_gt (fun i => ns.getD i 0) (its.toArray.size - 1)
    generalize argBest (fun i j => decide (ns.getD i 0 > ns.getD j 0)) (its.toArray.size - 1) = k at hP h1 h2
    obtain ⟨t, rfl⟩ := ints_at (i := k) hi (by simpa using hP)
    have hsz : its.toArray.size = ns.length := by rw [List.size_toArray, hi.length]
    refine ⟨.int _, H, I.kept (h' := h') (t' := tk) fun b o eo => hk b o (fun hm => ?_) (Heap.get?_push_of_some _ eo), ⟨_, rfl⟩, q _ ?_ fun y hy => ?_⟩
    · rcases List.mem_cons.mp hm with e1 | hm
      · rw [e1] at eo
        exact absurd (Heap.lt_size eo) (Nat.lt_irrefl _)
      · cases hm
    · exact PySem.getD_mem (by omega)
    · obtain ⟨j, hj, rfl⟩ := mem_getD hy
      exact h2 j (by omega)
theorem cr_minT (hc : X.calm = true) : CallR X (.builtin "min") (fun vs H Q => ∃ (a : Addr) (ns : List Int), vs = [V.ref a] ∧ SqT X.K H a (ns.map V.int) ∧ 0 < ns.length ∧ ∀ m, m ∈ ns → (∀ y, y ∈ ns → m ≤ y) → Q (.int m) H) := by
  intro pins s σ H vs us Q I r h
  obtain ⟨a, ns, rfl, hs, hne, q⟩ := h
  obtain ⟨its, rv, ht, _⟩ := I.tuple hs
  rw [Vals.ref1 r]
  have hi := rv.ints
  have hT : s.heap.IsTuple a its.toArray := ht
  have hlt : a < s.heap.objs.size := ht.lt
  refine call_min_walk (wpAny_pyIter_tuple hT ?_)
  have I1 : Inv X pins σ H { s with heap := s.heap.push { cls := .type "tuple_iterator", data := .fields #[.ref a, .int 0 0] } } := I.kept (t' := s.toks) fun b o e => Heap.get?_push_of_some _ e
  refine ⟨_, _, _, _, _, _, _, rfl, Walks.tuple (A := X.A.in1) (I.ok.hd hc) s.heap.objs.size a (Nat.ne_of_lt hlt) its.toArray, ⟨⟨_, Heap.get?_push_size _ rfl, rfl, rfl⟩, ?_⟩, fun b hb => ?_, by rw [List.size_toArray, hi.length]; exact hne, CmpOf.ints_lt (fun i => ns.getD i 0) (fun i v hv => ints_at hi (by simpa using hv)), fun v h' tk hP hk => ?_⟩
  · obtain ⟨o, e, r⟩ := hT
    exact ⟨o, Heap.get?_push_of_some _ e, r⟩
  · rw [Heap.size_push]
    rcases List.mem_cons.mp hb with e | hb
    · rw [e]; exact Nat.lt_succ_self _
    · rcases List.mem_cons.mp hb with e | hb
      · rw [e]; exact Nat.lt_succ_of_lt hlt
      · cases hb
  · obtain ⟨h1, h2⟩ := argBest_lt (fun i => ns.getD i 0) (its.toArray.size - 1)
    generalize argBest (fun i j => decide (ns.getD i 0 < ns.getD j 0)) (its.toArray.size - 1) = k at hP h1 h2
    obtain ⟨t, rfl⟩ := ints_at (i := k) hi (by simpa using hP)
    have hsz : its.toArray.size = ns.length := by rw [List.size_toArray, hi.length]
    refine ⟨.int _, H, I.kept (h' := h') (t' := tk) fun b o eo => hk b o (fun hm => ?_) (Heap.get?_push_of_some _ eo), ⟨_, rfl⟩, q _ ?_ fun y hy => ?_⟩
    · rcases List.mem_cons.mp hm with e1 | hm
      · rw [e1] at eo
        exact absurd (Heap.lt_size eo) (Nat.lt_irrefl _)
      · cases hm
    · exact PySem.getD_mem (by omega)
    · obtain ⟨j, hj, rfl⟩ := mem_getD hy
      exact h2 j (by omega)
/-! ### built-in functions by values -/
def blV : Bl → Value
  | .len => .builtin "len" | .sum => .builtin "sum" | .all => .builtin "all" | .any => .builtin "any" | .int => .type "int" | .abs => .builtin "abs" | .min2 => .builtin "min" | .max2 => .builtin "max"
  | .minL => .builtin "min" | .maxL => .builtin "max" | .divmod => .builtin "divmod" | .tuple => .type "tuple" | .list => .type "list" | .sorted => .builtin "sorted"
def rBl (K : PySem.W.Frag) (fa : Nat → Addr) (b : Bl) : List V → Hp → VK → Prop := fun vs H Q => ∃ β ρ st ds d, RS K fa β ρ st H ∧ RDs K fa H (Mu ρ st) β ρ st.length ds vs ∧ bcall st b ds = some d ∧ Post K fa β ρ st H d st Q
theorem sorted_eq (ns ns' : List Int) (h1 : ns'.Perm ns) (h2 : ns'.Pairwise (· ≤ ·)) : ns' = isort ns := by
  have p : (isort ns).Perm ns := List.mergeSort_perm _ _
  have s : (isort ns).Pairwise (· ≤ ·) := by
    have q := List.pairwise_mergeSort (le := fun (a b : Int) => decide (a ≤ b)) (fun a b c h1 h2 => by simp at *; omega) (fun a b => by simp; omega) ns
    exact q.imp fun h => by simpa using h
  exact PySem.W.ksm_same (h1.trans p.symm) h2 s
theorem call_bl (hc : X.calm = true) (b : Bl) : CallR X (blV b) (rBl X.K fa b) := by
  intro pins s σ H xs us Q I r h
  obtain ⟨β, ρ, st, ds, d, S, rs, hd, q⟩ := h
  unfold bcall at hd
  split at hd
  · -- len
    obtain ⟨k, hk, rfl⟩ := Option.map_eq_some_iff.mp hd
    cases rs with
    | cons r1 r2 =>
      cases r2
      rename_i x
      unfold lenD at hk
      split at hk
      · split at hk
        · rename_i c
          cases hk
          cases r1
          exact call_len_str pins s σ H _ us Q I r ⟨_, rfl, by rw [str_len]; exact szOk_le c, by rw [str_len]; exact q.here S (.int _)⟩
        · cases hk
      · obtain ⟨es, he, rfl⟩ := Option.map_eq_some_iff.mp hk
        obtain ⟨a, vs, rfl, hq, hr⟩ := rd_sv S r1 he
        refine call_len_seq pins s σ H _ us Q I r ⟨a, vs, rfl, hq, ?_⟩
        rw [← hr.length]
        exact q.here S (.int _)
  · -- sum
    obtain ⟨ns, hk, rfl⟩ := Option.map_eq_some_iff.mp hd
    obtain ⟨es, he, hi⟩ := Option.bind_eq_some_iff.mp hk
    cases rs with
    | cons r1 r2 =>
      cases r2
      obtain ⟨a, vs, rfl, hq, hr⟩ := rd_sv S r1 he
      have e := hr.ints hi
      subst e
      rcases hq with hq | hq
      · exact cr_sum hc pins s σ H _ us Q I r ⟨a, ns, rfl, hq, q.here S (.int _)⟩
      · exact cr_sumT hc pins s σ H _ us Q I r ⟨a, ns, rfl, hq, q.here S (.int _)⟩
  · -- all
    obtain ⟨ns, hk, rfl⟩ := Option.map_eq_some_iff.mp hd
    obtain ⟨es, he, hi⟩ := Option.bind_eq_some_iff.mp hk
    cases rs with
    | cons r1 r2 =>
      cases r2
      obtain ⟨a, vs, rfl, hq, hr⟩ := rd_lv S r1 he
      have e := hr.bls hi
      subst e
      exact cr_all hc pins s σ H _ us Q I r ⟨a, ns, rfl, hq, q.here S (.bl _)⟩
  · -- any
    obtain ⟨ns, hk, rfl⟩ := Option.map_eq_some_iff.mp hd
    obtain ⟨es, he, hi⟩ := Option.bind_eq_some_iff.mp hk
    cases rs with
    | cons r1 r2 =>
      cases r2
      obtain ⟨a, vs, rfl, hq, hr⟩ := rd_lv S r1 he
      have e := hr.bls hi
      subst e
      exact cr_any hc pins s σ H _ us Q I r ⟨a, ns, rfl, hq, q.here S (.bl _)⟩
  · -- int of an int
    cases hd
    cases rs with
    | cons r1 r2 =>
      cases r2
      cases r1
      exact call_int1 pins s σ H _ us Q I r (.inl ⟨_, rfl, q.here S (.int _)⟩)
  · cases hd
    cases rs with
    | cons r1 r2 =>
      cases r2
      cases r1
      exact call_int1 pins s σ H _ us Q I r (.inr ⟨_, rfl, q.here S (.int _)⟩)
  · -- abs
    cases hd
    cases rs with
    | cons r1 r2 =>
      cases r2
      cases r1
      exact call_abs pins s σ H _ us Q I r ⟨_, rfl, q.here S (.int _)⟩
  · cases hd
    cases rs with
    | cons r1 r2 =>
      cases r2 with
      | cons r2 r3 =>
        cases r3
        cases r1
        cases r2
        exact call_min2 hc pins s σ H _ us Q I r ⟨_, _, rfl, q.here S (.int _)⟩
  · cases hd
    cases rs with
    | cons r1 r2 =>
      cases r2 with
      | cons r2 r3 =>
        cases r3
        cases r1
        cases r2
        exact call_max2 hc pins s σ H _ us Q I r ⟨_, _, rfl, q.here S (.int _)⟩
  · -- max, min of a row
    obtain ⟨m, hk, rfl⟩ := Option.map_eq_some_iff.mp hd
    obtain ⟨ns, hk, hm⟩ := Option.bind_eq_some_iff.mp hk
    obtain ⟨es, he, hi⟩ := Option.bind_eq_some_iff.mp hk
    obtain ⟨hne, hu⟩ := maxI_some hm
    cases rs with
    | cons r1 r2 =>
      cases r2
      obtain ⟨a, vs, rfl, hq, hr⟩ := rd_sv S r1 he
      have e := hr.ints hi
      subst e
      rcases hq with hq | hq
      · exact cr_max hc pins s σ H _ us Q I r ⟨a, ns, rfl, hq, hne, fun M h1 h2 => by rw [hu M h1 h2]; exact q.here S (.int _)⟩
      · exact cr_maxT hc pins s σ H _ us Q I r ⟨a, ns, rfl, hq, hne, fun M h1 h2 => by rw [hu M h1 h2]; exact q.here S (.int _)⟩
  · obtain ⟨m, hk, rfl⟩ := Option.map_eq_some_iff.mp hd
    obtain ⟨ns, hk, hm⟩ := Option.bind_eq_some_iff.mp hk
    obtain ⟨es, he, hi⟩ := Option.bind_eq_some_iff.mp hk
    obtain ⟨hne, hu⟩ := minI_some hm
    cases rs with
    | cons r1 r2 =>
      cases r2
      obtain ⟨a, vs, rfl, hq, hr⟩ := rd_sv S r1 he
      have e := hr.ints hi
      subst e
      rcases hq with hq | hq
      · exact cr_min hc pins s σ H _ us Q I r ⟨a, ns, rfl, hq, hne, fun M h1 h2 => by rw [hu M h1 h2]; exact q.here S (.int _)⟩
      · exact cr_minT hc pins s σ H _ us Q I r ⟨a, ns, rfl, hq, hne, fun M h1 h2 => by rw [hu M h1 h2]; exact q.here S (.int _)⟩
  · -- divmod
    split at hd
    · rename_i c
      simp only [Bool.and_eq_true, decide_eq_true_eq] at c
      cases hd
      cases rs with
      | cons r1 r2 =>
        cases r2 with
        | cons r2 r3 =>
          cases r3
          cases r1
          cases r2
          exact call_divmod pins s σ H _ us Q I r ⟨_, _, rfl, c, fun p hp => q.tup S (.cons (.int _) (.cons (.int _) .nil)) hp⟩
    · cases hd
  · -- tuple
    obtain ⟨es, he, rfl⟩ := Option.map_eq_some_iff.mp hd
    cases rs with
    | cons r1 r2 =>
      cases r2
      obtain ⟨a, vs, rfl, hq, hr⟩ := rd_sv S r1 he
      rcases hq with hq | hq
      · exact call_tuple_of pins s σ H _ us Q I r ⟨a, vs, rfl, .inl ⟨hq, fun p hp => q.tup S hr hp⟩⟩
      · refine call_tuple_of pins s σ H _ us Q I r ⟨a, vs, rfl, .inr ⟨hq, ?_⟩⟩
        rename_i x
        by_cases ht : ∃ es', x = D.tup es'
        · obtain ⟨es', rfl⟩ := ht
          cases he
          exact q.here S r1
        · -- a list is no tuple
          have h' : lv st x = some es := by
            cases x with
            | tup es => exact absurd ⟨es, rfl⟩ ht
            | _ => exact he
          obtain ⟨a2, vs2, e2, hq2, hr2⟩ := rd_lv S r1 h'
          cases e2
          obtain ⟨its, rv, ⟨o, n, ho, hcl, _⟩, _⟩ := I.list hq2
          obtain ⟨its', rv', ⟨o', ho', hcl', _⟩, _⟩ := I.tuple hq
          rw [ho] at ho'
          cases ho'
          rw [hcl] at hcl'
          exact absurd hcl' (by decide)
  · -- list
    obtain ⟨es, he, rfl⟩ := Option.map_eq_some_iff.mp hd
    cases rs with
    | cons r1 r2 =>
      cases r2
      obtain ⟨a, vs, rfl, hq, hr⟩ := rd_sv S r1 he
      exact call_list_of pins s σ H _ us Q I r ⟨a, vs, rfl, hq, fun p hp => q.frz S hr hp⟩
  · -- sorted
    obtain ⟨ns, hk, hd⟩ := Option.bind_eq_some_iff.mp hd
    obtain ⟨es, he, hi⟩ := Option.bind_eq_some_iff.mp hk
    split at hd
    · rename_i c
      cases hd
      cases rs with
      | cons r1 r2 =>
        cases r2
        obtain ⟨a, vs, rfl, hq, hr⟩ := rd_lv S r1 he
        have e := hr.ints hi
        subst e
        refine cr_sorted pins s σ H _ us Q I r ⟨a, ns, rfl, hq, by simpa using c, fun ns' p h1 h2 hp => ?_⟩
        rw [sorted_eq ns ns' h1 h2]
        exact q.frz S (rds_ints _) hp
    · cases hd
  · cases hd
end
end PL

set_option Elab.async false
set_option linter.all false
set_option maxRecDepth 100000
set_option maxHeartbeats 1000000
/-! Expressions: each construct, over its parts. -/
namespace PL
open PySem PySem.Spec PyProof.Rows L2

/-- a result: a value, or something raised -/
def RP {α : Type} (r : R α) (P : α → Sto → Prop) (X : Nat → D → Sto → Prop) : Prop := match r with
  | .ok a s => P a s
  | .exn c d s => X c d s
  | .bad => False
theorem RP.bind {α β : Type} {r : R α} {f : α → Sto → R β} {P : β → Sto → Prop} {X : Nat → D → Sto → Prop} (h : RP (r.bind f) P X) : RP r (fun a s => RP (f a s) P X) X := by
  cases r <;> exact h
theorem RP.imp {α : Type} {r : R α} {P P' : α → Sto → Prop} {X X' : Nat → D → Sto → Prop} (h : RP r P X) (k : ∀ a s, P a s → P' a s) (kx : ∀ c d s, X c d s → X' c d s) : RP r P' X' := by
  cases r with
  | ok a s => exact k a s h
  | exn c d s => exact kx c d s h
  | bad => exact h
theorem RP.oD {α : Type} {o : Option α} {st : Sto} {P : α → Sto → Prop} {X : Nat → D → Sto → Prop} (h : RP (oD o st) P X) : ∃ a, o = some a ∧ P a st := by
  cases o with
  | none => exact h.elim
  | some a => exact ⟨a, rfl, h⟩
theorem RP.tru {d : D} {st : Sto} {P : Bool → Sto → Prop} {X : Nat → D → Sto → Prop} (h : RP (tru d st) P X) : ∃ b, d = .bl b ∧ P b st := by
  cases d with
  | bl x => exact ⟨x, rfl, h⟩
  | _ => exact h.elim
theorem RP.toI {d : D} {st : Sto} {P : Int → Sto → Prop} {X : Nat → D → Sto → Prop} (h : RP (toI d st) P X) : ∃ b, d = .int b ∧ P b st := by
  cases d with
  | int x => exact ⟨x, rfl, h⟩
  | _ => exact h.elim

structure RE (K : PySem.W.Frag) (fa : Nat → Addr) (β ρ : List Addr) (env : PL.Env) (st : Sto) (σ : L2.St) (H : Hp) : Prop where
  len : env.length = σ.length
  get : ∀ (i : Nat) (d : D), env[i]? = some (some d) → ∃ v, σ[i]? = some (some v) ∧ RD K fa H (Mu ρ st) β ρ st.length d v
section
variable {K : PySem.W.Frag} {fa : Nat → Addr} {H H1 : Hp} {β ρ ρ1 : List Addr} {env : PL.Env} {st s1 : Sto} {σ : L2.St}
theorem RE.stp (e : RE K fa β ρ env st σ H) (a : Stp ρ st H ρ1 s1 H1) : RE K fa β ρ1 env s1 σ H1 := ⟨e.len, fun i d h => by
  obtain ⟨v, h1, r⟩ := e.get i d h
  exact ⟨v, h1, r.stp a⟩⟩
theorem RE.set (e : RE K fa β ρ env st σ H) {i : Nat} {d : D} {v : V} (r : RD K fa H (Mu ρ st) β ρ st.length d v) : RE K fa β ρ (env.set i (some d)) st (σ.set i (some v)) H := by
  refine ⟨by simpa using e.len, fun j c h => ?_⟩
  by_cases hj : i = j
  · subst hj
    have hi : i < env.length := by
      have := (List.getElem?_eq_some_iff.mp h).1
      simpa using this
    rw [List.getElem?_set_self hi] at h
    cases h
    exact ⟨v, by rw [List.getElem?_set_self (by rw [← e.len]; exact hi)], r⟩
  · rw [List.getElem?_set_ne hj] at h
    obtain ⟨w, h1, r1⟩ := e.get j c h
    exact ⟨w, by rw [List.getElem?_set_ne hj]; exact h1, r1⟩
theorem wipe_get : ∀ {vs : List Nat} {env : PL.Env} {i : Nat} {d : D}, (PL.wipe env vs)[i]? = some (some d) → env[i]? = some (some d) ∧ i ∉ vs
  | [], _, _, _, h => ⟨h, by simp⟩
  | v :: vs, env, i, d, h => by
    unfold PL.wipe at h
    by_cases hi : v = i
    · subst hi
      by_cases hv : v < (PL.wipe env vs).length
      · rw [List.getElem?_set_self hv] at h; cases h
      · rw [List.getElem?_eq_none (by simpa using hv)] at h; cases h
    · rw [List.getElem?_set_ne hi] at h
      obtain ⟨h1, h2⟩ := wipe_get h
      exact ⟨h1, by simp only [List.mem_cons, not_or]; exact ⟨fun e => hi e.symm, h2⟩⟩
theorem wipe_len : ∀ (vs : List Nat) (env : PL.Env), (PL.wipe env vs).length = env.length
  | [], _ => rfl
  | v :: vs, env => by unfold PL.wipe; rw [List.length_set, wipe_len vs]
theorem wipe_keep : ∀ {vs : List Nat} {σ : L2.St} {i : Nat}, i ∉ vs → (L2.wipe σ vs)[i]? = σ[i]?
  | [], _, _, _ => rfl
  | v :: vs, σ, i, h => by
    unfold L2.wipe
    rw [List.getElem?_set_ne (fun e => h (by simp [e]))]
    exact wipe_keep fun q => h (List.mem_cons_of_mem _ q)
theorem RE.wipe (e : RE K fa β ρ env st σ H) (vs : List Nat) : RE K fa β ρ (PL.wipe env vs) st (L2.wipe σ vs) H := by
  refine ⟨by rw [wipe_len, wipe_length]; exact e.len, fun i d h => ?_⟩
  obtain ⟨h1, h2⟩ := wipe_get h
  obtain ⟨v, q, r⟩ := e.get i d h1
  exact ⟨v, by rw [wipe_keep h2]; exact q, r⟩
/-- a list of the store written -/
theorem RS.put (S : RS K fa β ρ st H) {i : Nat} {a : Addr} {ds ds' : List D} {vs' : List V} (hi : st[i]? = some (.lst ds)) (ha : ρ[i]? = some a) (r : RDs K fa H (Mu ρ st) β ρ i ds' vs') :
    RS K fa β ρ (st.set i (.lst ds')) (upd H a (.lst vs')) ∧ Stp ρ st H ρ (st.set i (.lst ds')) (upd H a (.lst vs')) := by
  have hlt : i < st.length := its_get hi
  have mu : ∀ b, Mu ρ (st.set i (.lst ds')) b → Mu ρ st b := fun b ⟨j, o, h1, h2, h3⟩ => by
    by_cases hj : i = j
    · subst hj
      exact ⟨i, _, h1, hi, rfl⟩
    · rw [List.getElem?_set_ne hj] at h2
      exact ⟨j, o, h1, h2, h3⟩
  have k : ∀ b o, H b = some o → ¬ Mu ρ st b → upd H a (.lst vs') b = some o ∧ ¬ Mu ρ (st.set i (.lst ds')) b := fun b o h m => by
    refine ⟨?_, fun q => m (mu b q)⟩
    have ne : b ≠ a := fun e => m (by rw [e]; exact ⟨i, _, ha, hi, rfl⟩)
    rw [upd_ne ne]
    exact h
  refine ⟨⟨S.nd, by rw [List.length_set]; exact S.len, fun j o h => ?_, fun b hb => ?_⟩, ⟨⟨[], by simp⟩, by rw [List.length_set]; exact Nat.le_refl _, k, fun j es h => ?_⟩⟩
  · by_cases hj : i = j
    · subst hj
      rw [List.getElem?_set_self hlt] at h
      cases h
      exact ⟨a, vs', ha, upd_same, r.mono k (fun _ _ x => x) (fun _ x => .inl x) (Nat.le_refl _)⟩
    · rw [List.getElem?_set_ne hj] at h
      obtain ⟨b, vs, e1, e2, e3⟩ := S.obj j o h
      have ne : b ≠ a := fun e => hj (S.nd i j a ha (by rw [← e]; exact e1))
      exact ⟨b, vs, e1, by rw [upd_ne ne]; exact e2, e3.mono k (fun _ _ x => x) (fun _ x => .inl x) (Nat.le_refl _)⟩
  · obtain ⟨⟨o, e⟩, nb⟩ := S.busy b hb
    have ne : b ≠ a := fun q => nb (by rw [q]; exact List.mem_iff_getElem?.mpr ⟨i, ha⟩)
    exact ⟨⟨o, by rw [upd_ne ne]; exact e⟩, nb⟩
  · have ne : i ≠ j := fun e => by
      subst e
      rw [hi] at h
      cases h
    rw [List.getElem?_set_ne ne]
    exact h
/-- a new list into the store -/
theorem RS.push (S : RS K fa β ρ st H) {p : Addr} {ds : List D} {vs : List V} (hp : H p = none) (r : RDs K fa H (Mu ρ st) β ρ st.length ds vs) :
    RS K fa β (ρ ++ [p]) (st ++ [.lst ds]) (upd H p (.lst vs)) ∧ Stp ρ st H (ρ ++ [p]) (st ++ [.lst ds]) (upd H p (.lst vs)) := by
  obtain ⟨f1, f2, f3⟩ := S.fresh hp
  have old : ∀ (j : Nat) (b : Addr), ρ[j]? = some b → (ρ ++ [p])[j]? = some b := fun j b h => by
    rw [List.getElem?_append_left (List.getElem?_eq_some_iff.mp h).1]
    exact h
  have back : ∀ (j : Nat) (b : Addr), (ρ ++ [p])[j]? = some b → ρ[j]? = some b ∨ (j = ρ.length ∧ b = p) := fun j b h => by
    by_cases hj : j < ρ.length
    · rw [List.getElem?_append_left hj] at h
      exact .inl h
    · rw [List.getElem?_append_right (by omega)] at h
      have hj2 : j - ρ.length = 0 := by
        have := (List.getElem?_eq_some_iff.mp h).1
        simp at this
        omega
      rw [hj2] at h
      simp at h
      exact .inr ⟨by omega, h.symm⟩
  have mu : ∀ b, Mu (ρ ++ [p]) (st ++ [.lst ds]) b → Mu ρ st b ∨ b = p := fun b ⟨j, o, h1, h2, h3⟩ => by
    rcases back j b h1 with q | ⟨_, q⟩
    · left
      have hl : j < st.length := by rw [← S.len]; exact (List.getElem?_eq_some_iff.mp q).1
      rw [List.getElem?_append_left hl] at h2
      exact ⟨j, o, q, h2, h3⟩
    · exact .inr q
  have k : ∀ b o, H b = some o → ¬ Mu ρ st b → upd H p (.lst vs) b = some o ∧ ¬ Mu (ρ ++ [p]) (st ++ [.lst ds]) b := fun b o h m => by
    have ne : b ≠ p := ne_of_none h hp
    refine ⟨by rw [upd_ne ne]; exact h, fun q => ?_⟩
    rcases mu b q with q | q
    · exact m q
    · exact ne q
  refine ⟨⟨fun i j b h1 h2 => ?_, by simp [S.len], fun j o h => ?_, fun b hb => ?_⟩, ⟨⟨[p], rfl⟩, by simp, k, fun j es h => ?_⟩⟩
  · rcases back i b h1 with q1 | ⟨q1, e1⟩
    · rcases back j b h2 with q2 | ⟨q2, e2⟩
      · exact S.nd i j b q1 q2
      · exact absurd (List.mem_iff_getElem?.mpr ⟨i, by rw [← e2]; exact q1⟩) f1
    · rcases back j b h2 with q2 | ⟨q2, e2⟩
      · exact absurd (List.mem_iff_getElem?.mpr ⟨j, by rw [← e1]; exact q2⟩) f1
      · omega
  · by_cases hj : j < st.length
    · rw [List.getElem?_append_left hj] at h
      obtain ⟨b, ws, e1, e2, e3⟩ := S.obj j o h
      exact ⟨b, ws, old j b e1, by rw [upd_ne (ne_of_none e2 hp)]; exact e2, e3.mono k old (fun _ x => .inl x) (Nat.le_refl _)⟩
    · rw [List.getElem?_append_right (by omega)] at h
      have hj2 : j - st.length = 0 := by
        have := (List.getElem?_eq_some_iff.mp h).1
        simp at this
        omega
      rw [hj2] at h
      simp at h
      subst h
      have ej : j = st.length := by omega
      subst ej
      exact ⟨p, vs, by rw [← S.len]; simp, upd_same, r.mono k old (fun _ x => .inl x) (Nat.le_refl _)⟩
  · obtain ⟨⟨o, e⟩, nb⟩ := S.busy b hb
    refine ⟨⟨o, by rw [upd_ne (ne_of_none e hp)]; exact e⟩, fun q => ?_⟩
    rcases List.mem_append.mp q with q | q
    · exact nb q
    · rw [List.mem_singleton.mp q, hp] at e
      cases e
  · rw [List.getElem?_append_left (its_get h)]
    exact h
/-- a list of the store that is no longer changed -/
theorem RS.freeze (S : RS K fa β ρ st H) {i : Nat} {ds : List D} (hi : st[i]? = some (.lst ds)) : RS K fa β ρ (st.set i (.fz ds)) H ∧ Stp ρ st H ρ (st.set i (.fz ds)) H := by
  have hlt : i < st.length := its_get hi
  have mu : ∀ b, Mu ρ (st.set i (.fz ds)) b → Mu ρ st b := fun b ⟨j, o, h1, h2, h3⟩ => by
    by_cases hj : i = j
    · subst hj
      exact ⟨i, _, h1, hi, rfl⟩
    · rw [List.getElem?_set_ne hj] at h2
      exact ⟨j, o, h1, h2, h3⟩
  have k : ∀ b o, H b = some o → ¬ Mu ρ st b → H b = some o ∧ ¬ Mu ρ (st.set i (.fz ds)) b := fun b o h m => ⟨h, fun q => m (mu b q)⟩
  refine ⟨⟨S.nd, by rw [List.length_set]; exact S.len, fun j o h => ?_, S.busy⟩, ⟨⟨[], by simp⟩, by rw [List.length_set]; exact Nat.le_refl _, k, fun j es h => ?_⟩⟩
  · by_cases hj : i = j
    · subst hj
      rw [List.getElem?_set_self hlt] at h
      cases h
      obtain ⟨b, vs, e1, e2, e3⟩ := S.obj i _ hi
      exact ⟨b, vs, e1, e2, e3.mono k (fun _ _ x => x) (fun _ x => .inl x) (Nat.le_refl _)⟩
    · rw [List.getElem?_set_ne hj] at h
      obtain ⟨b, vs, e1, e2, e3⟩ := S.obj j o h
      exact ⟨b, vs, e1, e2, e3.mono k (fun _ _ x => x) (fun _ x => .inl x) (Nat.le_refl _)⟩
  · have ne : i ≠ j := fun e => by
      subst e
      rw [hi] at h
      cases h
    rw [List.getElem?_set_ne ne]
    exact h
end

/-! ### readings -/
theorem _root_.L2.PE.w {X : Cx} {e : Expr} {t t' : TE} (h : PE X e t) (k : ∀ σ H Q, t' σ H Q → t σ H Q) : PE X e t' := ⟨fun pins s σ H Q I q => h.run pins s σ H Q I (k σ H Q q)⟩
theorem _root_.L2.PT.w {X : Cx} {e : Expr} {t t' : TT} (h : PT X e t) (k : ∀ σ H Q, t' σ H Q → t σ H Q) : PT X e t' := ⟨fun pins s σ H Q I q => h.run pins s σ H Q I (k σ H Q q)⟩
theorem _root_.L2.PW.w {X : Cx} {e : Expr} {t t' : TT} (h : PW X e t) (k : ∀ σ H Q, t' σ H Q → t σ H Q) : PW X e t' := ⟨fun wh pins s σ H Q I q => h.run wh pins s σ H Q I (k σ H Q q)⟩
theorem _root_.L2.PA.w {X : Cx} {e : List Expr} {t t' : TA} (h : PA X e t) (k : ∀ σ H Q, t' σ H Q → t σ H Q) : PA X e t' := ⟨fun p pins s σ H Q I q => h.run p pins s σ H Q I (k σ H Q q)⟩
theorem _root_.L2.PK.w {X : Cx} {e : List Keyword} {t t' : TA} (h : PK X e t) (k : ∀ σ H Q, t' σ H Q → t σ H Q) : PK X e t' := ⟨fun p pins s σ H Q I q => h.run p pins s σ H Q I (k σ H Q q)⟩
theorem _root_.L2.PO.w {X : Cx} {e : Option Expr} {t t' : TO} (h : PO X e t) (k : ∀ σ H Q, t' σ H Q → t σ H Q) : PO X e t' := by
  refine ⟨?_⟩
  intros
  exact h.run _ _ _ _ _ (by assumption) (k _ _ _ (by assumption))
theorem _root_.L2.PE.or {X : Cx} {e : Expr} {t t' : TE} (h : PE X e t) (h' : PE X e t') : PE X e (fun σ H Q => t σ H Q ∨ t' σ H Q) := ⟨fun pins s σ H Q I q => q.elim (h.run pins s σ H Q I) (h'.run pins s σ H Q I)⟩
theorem _root_.L2.PI.w {X : Cx} {tg e : Expr} {t t' : TI} (h : PI X tg e t) (k : ∀ σ H Q, t' σ H Q → t σ H Q) : PI X tg e t' := ⟨fun pins s σ H Q I q => h.run pins s σ H Q I (k σ H Q q)⟩
theorem _root_.L2.PS.w {X : Cx} {e : Stmt} {t t' : TS} (h : PS X e t) (k : ∀ D σ H, t' D σ H → t D σ H) : PS X e t' := ⟨fun pins s σ H D I q => h.run pins s σ H D I (k D σ H q)⟩
theorem _root_.L2.PSs.w {X : Cx} {e : List Stmt} {t t' : TS} (h : PSs X e t) (k : ∀ D σ H, t' D σ H → t D σ H) : PSs X e t' := ⟨fun pins s σ H D I q => h.run pins s σ H D I (k D σ H q)⟩
theorem _root_.L2.PG.w {X : Cx} {e : Expr} {t t' : TG} (h : PG X e t) (k : ∀ v σ H Q, t' v σ H Q → t v σ H Q) : PG X e t' := ⟨fun pins s σ H v u Q I r q => h.run pins s σ H v u Q I r (k v σ H Q q)⟩
/-- what a reading leans on: where the defs and own exceptions' classes stand, the exceptions' field, the calls, the constants, what is wished of an exception -/
structure Qm where
  fa : Nat → Addr
  ca : Nat → Addr
  xn : Nat → Str
  C : Nat → List D → Sto → R D
  G : Nat → D
  W : Nat
  XE : XK
section
variable (K : PySem.W.Frag) (q : Qm)
def PostX (β ρ : List Addr) (st : Sto) (H : Hp) : Nat → D → Sto → Prop := fun c d st' =>
  ∀ v H' ρ' dx, Stp ρ st H ρ' st' H' → RS K q.fa β ρ' st' H' → RD K q.fa H' (Mu ρ' st') β ρ' st'.length d v → H' dx = some (.xd [(q.xn c, v)]) → q.XE (.ref (q.ca c)) (some dx) H'
def tW (e : E) : TE := fun σ H Q => ∃ β ρ env st, RE K q.fa β ρ env st σ H ∧ RS K q.fa β ρ st H ∧ RP (ev q.C q.G e env st) (fun d st' => Post K q.fa β ρ st H d st' Q) (PostX K q β ρ st H)
def tWs (es : Es) : TA := fun σ H Q => ∃ β ρ env st, RE K q.fa β ρ env st σ H ∧ RS K q.fa β ρ st H ∧ RP (evs q.C q.G es env st) (fun ds st' => PostS K q.fa β ρ st H ds st' Q) (PostX K q β ρ st H)
/-- as a test -/
def tWT (e : E) : TT := fun σ H Q => ∃ β ρ env st, RE K q.fa β ρ env st σ H ∧ RS K q.fa β ρ st H ∧ RP ((ev q.C q.G e env st).bind fun x s1 => tru x s1) (fun b st' => PostB K q.fa β ρ st H b st' Q) (PostX K q β ρ st H)
def tWo (e : Oe) : TO := fun σ H Q => ∃ β ρ env st, RE K q.fa β ρ env st σ H ∧ RS K q.fa β ρ st H ∧ RP (evo q.C q.G e env st) (fun o st' => ∀ H' ρ', Stp ρ st H ρ' st' H' → RS K q.fa β ρ' st' H' → Q o H') (PostX K q β ρ st H)
def tWc (e : Oe) : TT := fun σ H Q => ∃ β ρ env st, RE K q.fa β ρ env st σ H ∧ RS K q.fa β ρ st H ∧ RP (evc q.C q.G e env st) (fun b st' => PostB K q.fa β ρ st H b st' Q) (PostX K q β ρ st H)
end
section
variable {K : PySem.W.Frag} {fa : Nat → Addr} {H H1 : Hp} {β ρ ρ1 : List Addr} {st s1 : Sto} {q : Qm}
theorem PostX.after {c : Nat} {d : D} {st' : Sto} (h : PostX K q β ρ st H c d st') (a : Stp ρ st H ρ1 s1 H1) : PostX K q β ρ1 s1 H1 c d st' := fun v H' ρ' dx b S r e => h v H' ρ' dx (a.trans b) S r e
theorem PostS.after {ds : List D} {s2 : Sto} {Q : List V → Hp → Prop} (h : PostS K fa β ρ st H ds s2 Q) (a : Stp ρ st H ρ1 s1 H1) : PostS K fa β ρ1 s1 H1 ds s2 Q := fun v H' ρ' b S r => h v H' ρ' (a.trans b) S r
theorem PostB.after {b : Bool} {s2 : Sto} {Q : Bool → Hp → Prop} (h : PostB K fa β ρ st H b s2 Q) (a : Stp ρ st H ρ1 s1 H1) : PostB K fa β ρ1 s1 H1 b s2 Q := fun H' ρ' c S => h H' ρ' (a.trans c) S
theorem PostB.here {b : Bool} {Q : Bool → Hp → Prop} (h : PostB K fa β ρ st H b st Q) (S : RS K fa β ρ st H) : Q b H := h H ρ .refl S
/-- a result wished for from here on -/
theorem RP.aft {r : R D} {Q : VK} (h : RP r (fun d st' => Post K q.fa β ρ st H d st' Q) (PostX K q β ρ st H)) (a : Stp ρ st H ρ1 s1 H1) : RP r (fun d st' => Post K q.fa β ρ1 s1 H1 d st' Q) (PostX K q β ρ1 s1 H1) :=
  h.imp (fun _ _ g => g.after a) fun _ _ _ g => g.after a
theorem RP.aftB {r : R Bool} {Q : Bool → Hp → Prop} (h : RP r (fun d st' => PostB K q.fa β ρ st H d st' Q) (PostX K q β ρ st H)) (a : Stp ρ st H ρ1 s1 H1) : RP r (fun d st' => PostB K q.fa β ρ1 s1 H1 d st' Q) (PostX K q β ρ1 s1 H1) :=
  h.imp (fun _ _ g => g.after a) fun _ _ _ g => g.after a
theorem RP.aftX {α : Type} {r : R α} {P : α → Sto → Prop} (h : RP r P (PostX K q β ρ st H)) (a : Stp ρ st H ρ1 s1 H1) : RP r P (PostX K q β ρ1 s1 H1) := h.imp (fun _ _ g => g) fun _ _ _ g => g.after a
end
section
variable {X : Cx} {q : Qm} {a b c : E} {pa pb pc pe : Expr} {pos : Pos}

/-! ### names, constants -/
theorem s_non {j} : PE X (.Constant .none j pos) (tW X.K q .non) := pe_non.w fun σ H Q ⟨β, ρ, env, st, e, S, h⟩ => Post.here h S .non
theorem s_bl {j v} : PE X (.Constant (.bool v) j pos) (tW X.K q (.bl v)) := pe_bl.w fun σ H Q ⟨β, ρ, env, st, e, S, h⟩ => Post.here h S (.bl v)
theorem s_int {j i} : PE X (.Constant (.int i) j pos) (tW X.K q (.int i)) := pe_int.w fun σ H Q ⟨β, ρ, env, st, e, S, h⟩ => Post.here h S (.int i)
theorem s_str {j} {x : Str} {z : List Nat} (hz : x = ⟨z.toArray⟩) : PE X (.Constant (.str x) j pos) (tW X.K q (.str z)) := pe_str.w fun σ H Q ⟨β, ρ, env, st, e, S, h⟩ => by
  subst hz
  exact Post.here h S (.str z)
theorem s_var {i : Nat} {x : Str} (hN : X.N[i]? = some x) (hv : Vis X.env.scope x) (hd : (x == ("__debug__" : Str)) = false) (hcd : (x == ("__classdict__" : Str)) = false) : PE X (.Name x pos) (tW X.K q (.var i)) :=
  (pe_var hN hv hd hcd).w fun σ H Q ⟨β, ρ, env, st, e, S, h⟩ => by
    simp only [ev] at h
    split at h
    · rename_i d' hd'
      obtain ⟨v, h1, r⟩ := e.get i _ hd'
      exact ⟨v, h1, Post.here h S r⟩
    · exact h.elim
theorem s_glb {k : Nat} {x : Str} {u : Value} {v : V} (hg : Gl X x) (hm : X.mg x = some u) (hr : RelV v u) (hd : (x == ("__debug__" : Str)) = false) (hv : ∀ H m β ρ n, RD X.K q.fa H m β ρ n (q.G k) v) : PE X (.Name x pos) (tW X.K q (.glb k)) :=
  (pe_glob hg hm hr hd).w fun σ H Q ⟨β, ρ, env, st, e, S, h⟩ => Post.here h S (hv _ _ _ _ _)
theorem s_fnv {k : Nat} {x : Str} (hg : Gl X x) (hm : X.mg x = some (.ref (q.fa k))) (hd : (x == ("__debug__" : Str)) = false) : PE X (.Name x pos) (tW X.K q (.fnv k)) :=
  (pe_glob (v := .ref (q.fa k)) hg hm rfl hd).w fun σ H Q ⟨β, ρ, env, st, e, S, h⟩ => Post.here h S (.fn k)

/-! ### operators -/
theorem s_bin (o : Op) (ha : PE X pa (tW X.K q a)) (hb : PE X pb (tW X.K q b)) : PE X (.BinOp pa (opOf o) pb pos) (tW X.K q (.bin o a b)) :=
  (pe_op (op_bop (fa := q.fa) o) ha hb).w fun σ H Q ⟨β, ρ, env, st, e, S, h⟩ => by
    simp only [ev] at h
    refine ⟨β, ρ, env, st, e, S, h.bind.imp (fun x s1 h1 v1 H1 ρ1 a1 S1 r1 => ?_) fun _ _ _ g => g⟩
    refine ⟨β, ρ1, env, s1, e.stp a1, S1, (h1.bind.aftX a1).imp (fun y s2 h2 v2 H2 ρ2 a2 S2 r2 => ?_) fun _ _ _ g => g⟩
    obtain ⟨d, h3, h4⟩ := h2.oD
    exact ⟨β, ρ2, s2, x, y, d, S2, r1.stp a2, r2, h3, Post.after h4 (a1.trans a2)⟩
theorem s_neg (ha : PE X pa (tW X.K q a)) : PE X (.UnaryOp .USub pa pos) (tW X.K q (.neg a)) :=
  (pe_un un_neg ha).w fun σ H Q ⟨β, ρ, env, st, e, S, h⟩ => by
    simp only [ev] at h
    refine ⟨β, ρ, env, st, e, S, h.bind.imp (fun x s1 h1 v1 H1 ρ1 a1 S1 r1 => ?_) fun _ _ _ g => g⟩
    obtain ⟨i, rfl, h2⟩ := h1.bind.toI
    cases r1
    exact ⟨i, rfl, (Post.after h2 a1).here S1 (.int _)⟩
theorem rd_bl {K : PySem.W.Frag} {fa : Nat → Addr} {H : Hp} {m : Addr → Prop} {β ρ : List Addr} {n : Nat} {k : Bool} {v : V} (r : RD K fa H m β ρ n (.bl k) v) : v = .bl k := by
  cases r
  rfl
/-- a value as a test -/
theorem t_val (ha : PE X pe (tW X.K q a)) (hp : ∀ whole, isTrue pe X.env whole = (do let v ← whole; standAt pe.pos; holding [v] (truthy v))) : PT X pe (tWT X.K q a) :=
  (pt_val ha hp).w fun σ H Q ⟨β, ρ, env, st, e, S, h⟩ => ⟨β, ρ, env, st, e, S, h.bind.imp (fun x s1 h1 v1 H1 ρ1 a1 S1 r1 => by
    obtain ⟨k, rfl, h2⟩ := h1.tru
    exact ⟨k, rd_bl r1, h2 H1 ρ1 a1 S1⟩) fun _ _ _ g => g⟩
theorem s_not (ha : PT X pa (tWT X.K q a)) (ha' : PE X pa (tW X.K q a)) : PE X (.UnaryOp .Not pa pos) (tW X.K q (.not a)) ∧ PT X (.UnaryOp .Not pa pos) (tWT X.K q (.not a)) := by
  refine ⟨(pe_not ha').w fun σ H Q ⟨β, ρ, env, st, e, S, h⟩ => ?_, (pt_not ha).w fun σ H Q ⟨β, ρ, env, st, e, S, h⟩ => ?_⟩
  · simp only [ev] at h
    refine ⟨β, ρ, env, st, e, S, h.bind.imp (fun x s1 h1 v1 H1 ρ1 a1 S1 r1 => ?_) fun _ _ _ g => g⟩
    obtain ⟨k, rfl, h2⟩ := h1.bind.tru
    exact ⟨k, rd_bl r1, (Post.after h2 a1).here S1 (.bl _)⟩
  · simp only [ev] at h
    have h' : RP (ev q.C q.G a env st) (fun x s1 => RP (tru x s1) (fun b st' => PostB X.K q.fa β ρ st H (!b) st' Q) (PostX X.K q β ρ st H)) (PostX X.K q β ρ st H) := h.bind.bind.imp (fun x s1 h1 => by
      obtain ⟨k, rfl, h2⟩ := h1.bind.tru
      exact h2) fun _ _ _ g => g
    refine ⟨β, ρ, env, st, e, S, ?_⟩
    cases hv : ev q.C q.G a env st with
    | ok x s1 =>
      rw [hv] at h'
      exact h'
    | exn c d s1 =>
      rw [hv] at h'
      exact h'
    | bad =>
      rw [hv] at h'
      exact h'
theorem cm_mark (o : Cm) (h : ∀ es k p, pb ≠ .Set es k p) : behindInMarks (cmOf o) pb = false := by
  cases pb <;> first
    | rfl
    | exact absurd rfl (h _ _ _)
theorem s_cmp (o : Cm) (hu : X.A.units + 65 < cLine) (hs : ∀ es k p, pb ≠ .Set es k p) (ha : PE X pa (tW X.K q a)) (hb : PE X pb (tW X.K q b)) :
    PE X (.Compare pa [cmOf o] [pb] pos) (tW X.K q (.cmp o a b)) ∧ PT X (.Compare pa [cmOf o] [pb] pos) (tWT X.K q (.cmp o a b)) := by
  refine ⟨(pe_cmpR (op_cop (fa := q.fa) o hu) ha hb (cm_mark o hs)).w fun σ H Q ⟨β, ρ, env, st, e, S, h⟩ => ?_, (pt_cmpR (op_cop (fa := q.fa) o hu) ha hb (cm_mark o hs)).w fun σ H Q ⟨β, ρ, env, st, e, S, h⟩ => ?_⟩
  · simp only [ev] at h
    refine ⟨β, ρ, env, st, e, S, h.bind.imp (fun x s1 h1 v1 H1 ρ1 a1 S1 r1 => ?_) fun _ _ _ g => g⟩
    refine ⟨β, ρ1, env, s1, e.stp a1, S1, (h1.bind.aftX a1).imp (fun y s2 h2 v2 H2 ρ2 a2 S2 r2 => ?_) fun _ _ _ g => g⟩
    obtain ⟨k, h3, h4⟩ := h2.bind.oD
    exact ⟨β, ρ2, s2, x, y, k, S2, r1.stp a2, r2, h3, (Post.after h4 (a1.trans a2)).here S2 (.bl _)⟩
  · simp only [ev] at h
    refine ⟨β, ρ, env, st, e, S, h.bind.bind.imp (fun x s1 h1 v1 H1 ρ1 a1 S1 r1 => ?_) fun _ _ _ g => g⟩
    refine ⟨β, ρ1, env, s1, e.stp a1, S1, (h1.bind.aftX a1).imp (fun y s2 h2 v2 H2 ρ2 a2 S2 r2 => ?_) fun _ _ _ g => g⟩
    obtain ⟨k, h3, h4⟩ := h2.bind.oD
    exact ⟨β, ρ2, s2, x, y, k, S2, r1.stp a2, r2, h3, k, rfl, (PostB.after h4 (a1.trans a2)).here S2⟩
theorem cm_marks (o p : Cm) (h : ∀ es k p, pc ≠ .Set es k p) : lastMarks [cmOf o, cmOf p] [pb, pc] = false := by
  show lastMarks [cmOf p] [pc] = false
  exact cm_mark p h
theorem s_chn (o p : Cm) (hu : X.A.units + 65 < cLine) (hs : ∀ es k p, pc ≠ .Set es k p) (ha : PE X pa (tW X.K q a)) (hb : PE X pb (tW X.K q b)) (hc : PE X pc (tW X.K q c)) :
    PE X (.Compare pa [cmOf o, cmOf p] [pb, pc] pos) (tW X.K q (.chn o p a b c)) ∧ PT X (.Compare pa [cmOf o, cmOf p] [pb, pc] pos) (tWT X.K q (.chn o p a b c)) := by
  refine ⟨(pe_chain (op_cop (fa := q.fa) o hu) (op_cop (fa := q.fa) p hu) ha hb hc (cm_marks o p hs)).w fun σ H Q ⟨β, ρ, env, st, e, S, h⟩ => ?_, (pt_chain (op_cop (fa := q.fa) o hu) (op_cop (fa := q.fa) p hu) ha hb hc (cm_marks o p hs)).w fun σ H Q ⟨β, ρ, env, st, e, S, h⟩ => ?_⟩
  · simp only [ev] at h
    refine ⟨β, ρ, env, st, e, S, h.bind.imp (fun x s1 h1 v1 H1 ρ1 a1 S1 r1 => ?_) fun _ _ _ g => g⟩
    refine ⟨β, ρ1, env, s1, e.stp a1, S1, (h1.bind.aftX a1).imp (fun y s2 h2 v2 H2 ρ2 a2 S2 r2 => ?_) fun _ _ _ g => g⟩
    obtain ⟨k, h3, h4⟩ := h2.bind.oD
    refine ⟨β, ρ2, s2, x, y, k, S2, r1.stp a2, r2, h3, k, rfl, ?_⟩
    cases k with
    | true =>
      rw [if_pos rfl] at h4 ⊢
      refine ⟨β, ρ2, env, s2, (e.stp a1).stp a2, S2, (h4.bind.aftX (a1.trans a2)).imp (fun z s3 h5 v3 H3 ρ3 a3 S3 r3 => ?_) fun _ _ _ g => g⟩
      obtain ⟨k2, h6, h7⟩ := h5.bind.oD
      exact ⟨β, ρ3, s3, y, z, k2, S3, r2.stp a3, r3, h6, (Post.after h7 ((a1.trans a2).trans a3)).here S3 (.bl _)⟩
    | false =>
      rw [if_neg Bool.false_ne_true] at h4 ⊢
      exact (Post.after h4 (a1.trans a2)).here S2 (.bl _)
  · simp only [ev] at h
    refine ⟨β, ρ, env, st, e, S, h.bind.bind.imp (fun x s1 h1 v1 H1 ρ1 a1 S1 r1 => ?_) fun _ _ _ g => g⟩
    refine ⟨β, ρ1, env, s1, e.stp a1, S1, (h1.bind.aftX a1).imp (fun y s2 h2 v2 H2 ρ2 a2 S2 r2 => ?_) fun _ _ _ g => g⟩
    obtain ⟨k, h3, h4⟩ := h2.bind.oD
    refine ⟨β, ρ2, s2, x, y, k, S2, r1.stp a2, r2, h3, k, rfl, ?_⟩
    cases k with
    | true =>
      rw [if_pos rfl] at h4 ⊢
      refine ⟨β, ρ2, env, s2, (e.stp a1).stp a2, S2, (h4.bind.aftX (a1.trans a2)).imp (fun z s3 h5 v3 H3 ρ3 a3 S3 r3 => ?_) fun _ _ _ g => g⟩
      obtain ⟨k2, h6, h7⟩ := h5.bind.oD
      exact ⟨β, ρ3, s3, y, z, k2, S3, r2.stp a3, r3, h6, k2, rfl, (PostB.after h7 ((a1.trans a2).trans a3)).here S3⟩
    | false =>
      rw [if_neg Bool.false_ne_true] at h4 ⊢
      exact ⟨false, rfl, (PostB.after h4 (a1.trans a2)).here S2⟩
theorem s_ife (hc : PT X pc (tWT X.K q c)) (ha : PE X pa (tW X.K q a)) (hb : PE X pb (tW X.K q b)) : PE X (.IfExp pc pa pb pos) (tW X.K q (.ife c a b)) :=
  (pe_ifExp hc ha hb).w fun σ H Q ⟨β, ρ, env, st, e, S, h⟩ => by
    simp only [ev] at h
    have h' : RP ((ev q.C q.G c env st).bind fun x s1 => tru x s1) (fun k s1 => RP (if k = true then ev q.C q.G a env s1 else ev q.C q.G b env s1) (fun d st' => Post X.K q.fa β ρ st H d st' Q) (PostX X.K q β ρ st H)) (PostX X.K q β ρ st H) := by
      cases hv : ev q.C q.G c env st with
      | ok x s1 =>
        rw [hv] at h
        have h2 : RP ((tru x s1).bind _) _ _ := h
        exact h2.bind
      | exn c d s1 =>
        rw [hv] at h
        exact h
      | bad =>
        rw [hv] at h
        exact h
    refine ⟨β, ρ, env, st, e, S, h'.imp (fun k s1 h1 H1 ρ1 a1 S1 => ?_) fun _ _ _ g => g⟩
    cases k with
    | true =>
      rw [if_pos rfl] at h1 ⊢
      exact ⟨β, ρ1, env, s1, e.stp a1, S1, h1.aft a1⟩
    | false =>
      rw [if_neg Bool.false_ne_true] at h1 ⊢
      exact ⟨β, ρ1, env, s1, e.stp a1, S1, h1.aft a1⟩
/-! and, or -/
theorem w_and {σ H Q} (h : tW X.K q (.and a b) σ H Q) : tAndV (tW X.K q a) (tW X.K q b) σ H Q := by
  obtain ⟨β, ρ, env, st, e, S, h⟩ := h
  simp only [ev] at h
  refine ⟨β, ρ, env, st, e, S, h.bind.imp (fun x s1 h1 v1 H1 ρ1 a1 S1 r1 => ?_) fun _ _ _ g => g⟩
  obtain ⟨k, rfl, h2⟩ := h1.bind.tru
  refine ⟨k, rd_bl r1, ?_⟩
  cases k with
  | true =>
    rw [if_pos rfl] at h2 ⊢
    exact ⟨β, ρ1, env, s1, e.stp a1, S1, h2.aft a1⟩
  | false =>
    rw [if_neg Bool.false_ne_true] at h2 ⊢
    exact (Post.after h2 a1).here S1 (.bl _)
theorem w_or {σ H Q} (h : tW X.K q (.or a b) σ H Q) : tOrV (tW X.K q a) (tW X.K q b) σ H Q := by
  obtain ⟨β, ρ, env, st, e, S, h⟩ := h
  simp only [ev] at h
  refine ⟨β, ρ, env, st, e, S, h.bind.imp (fun x s1 h1 v1 H1 ρ1 a1 S1 r1 => ?_) fun _ _ _ g => g⟩
  obtain ⟨k, rfl, h2⟩ := h1.bind.tru
  refine ⟨k, rd_bl r1, ?_⟩
  cases k with
  | true =>
    rw [if_pos rfl] at h2 ⊢
    exact (Post.after h2 a1).here S1 (.bl _)
  | false =>
    rw [if_neg Bool.false_ne_true] at h2 ⊢
    exact ⟨β, ρ1, env, s1, e.stp a1, S1, h2.aft a1⟩
theorem test_split {env : PL.Env} {st : Sto} {f : Bool → Sto → R D} {P : Bool → Sto → Prop} {Z : Nat → D → Sto → Prop} (h : RP (((ev q.C q.G a env st).bind fun x s1 => (tru x s1).bind f).bind fun x s1 => tru x s1) P Z) :
    RP ((ev q.C q.G a env st).bind fun x s1 => tru x s1) (fun k s1 => RP ((f k s1).bind fun x s1 => tru x s1) P Z) Z := by
  cases hv : ev q.C q.G a env st with
  | ok x s1 =>
    rw [hv] at h
    have h2 : RP (((tru x s1).bind f).bind fun x s1 => tru x s1) P Z := h
    show RP (tru x s1) (fun k s1 => RP ((f k s1).bind fun x s1 => tru x s1) P Z) Z
    cases x with
    | bl k => exact h2
    | _ => exact h2.elim
  | exn c d s1 =>
    rw [hv] at h
    exact h
  | bad =>
    rw [hv] at h
    exact h
theorem wt_and {σ H Q} (h : tWT X.K q (.and a b) σ H Q) : tAnd (tWT X.K q a) (tWT X.K q b) σ H Q := by
  obtain ⟨β, ρ, env, st, e, S, h⟩ := h
  simp only [ev] at h
  refine ⟨β, ρ, env, st, e, S, (test_split h).imp (fun k s1 h1 H1 ρ1 a1 S1 => ?_) fun _ _ _ g => g⟩
  cases k with
  | true =>
    rw [if_pos rfl] at h1 ⊢
    exact ⟨β, ρ1, env, s1, e.stp a1, S1, h1.aftB a1⟩
  | false =>
    rw [if_neg Bool.false_ne_true] at h1 ⊢
    exact (PostB.after h1 a1).here S1
theorem wt_or {σ H Q} (h : tWT X.K q (.or a b) σ H Q) : tOr (tWT X.K q a) (tWT X.K q b) σ H Q := by
  obtain ⟨β, ρ, env, st, e, S, h⟩ := h
  simp only [ev] at h
  refine ⟨β, ρ, env, st, e, S, (test_split h).imp (fun k s1 h1 H1 ρ1 a1 S1 => ?_) fun _ _ _ g => g⟩
  cases k with
  | true =>
    rw [if_pos rfl] at h1 ⊢
    exact (PostB.after h1 a1).here S1
  | false =>
    rw [if_neg Bool.false_ne_true] at h1 ⊢
    exact ⟨β, ρ1, env, s1, e.stp a1, S1, h1.aftB a1⟩
/-! ### rows of expressions -/
variable {es : Es} {pes : List Expr}
theorem s_nil : PA X [] (tWs X.K q .nil) := pa_nil.w fun σ H Q ⟨β, ρ, env, st, e, S, h⟩ => h [] H ρ .refl S .nil
theorem w_cons {σ H Q} (h : tWs X.K q (.cons a es) σ H Q) : tCons (tW X.K q a) (tWs X.K q es) σ H Q := by
  obtain ⟨β, ρ, env, st, e, S, h⟩ := h
  simp only [evs] at h
  refine ⟨β, ρ, env, st, e, S, h.bind.imp (fun x s1 h1 v1 H1 ρ1 a1 S1 r1 => ?_) fun _ _ _ g => g⟩
  refine ⟨β, ρ1, env, s1, e.stp a1, S1, (h1.bind.aftX a1).imp (fun xs s2 h2 vs H2 ρ2 a2 S2 r2 => ?_) fun _ _ _ g => g⟩
  exact h2 _ H2 ρ2 (a1.trans a2) S2 (.cons (r1.stp a2) r2)
theorem s_cons (ha : PE X pa (tW X.K q a)) (hr : PA X pes (tWs X.K q es)) (hs : starEach (pa :: pes) X.env = (false, eval pa X.env) :: starEach pes X.env) : PA X (pa :: pes) (tWs X.K q (.cons a es)) :=
  (pa_cons ha hr hs).w fun σ H Q h => w_cons h
theorem s_knil : PK X [] (tWs X.K q .nil) := pk_nil.w fun σ H Q ⟨β, ρ, env, st, e, S, h⟩ => h [] H ρ .refl S .nil
theorem s_kcons {nm : Option Str} {kpos : Pos} {kws : List Keyword} (ha : PE X pa (tW X.K q a)) (hr : PK X kws (tWs X.K q es)) : PK X (⟨nm, pa, kpos⟩ :: kws) (tWs X.K q (.cons a es)) :=
  (pk_cons ha hr).w fun σ H Q h => w_cons h
theorem s_tup {x1} (h : PA X pes (tWs X.K q es)) : PE X (.Tuple pes x1 pos) (tW X.K q (.tup es)) :=
  (pe_tup h).w fun σ H Q ⟨β, ρ, env, st, e, S, h⟩ => by
    simp only [ev] at h
    refine ⟨β, ρ, env, st, e, S, h.bind.imp (fun ds s1 h1 vs H1 ρ1 a1 S1 r1 => ?_) fun _ _ _ g => g⟩
    split at h1
    · rename_i c
      exact ⟨by rw [← r1.length]; exact szOk_le c, fun p hp => (Post.after h1 a1).tup S1 r1 hp⟩
    · exact h1.elim
/-- a list that is new: as a value, as a list of the store -/
def tNew (K : PySem.W.Frag) (q : Qm) (f : PL.Env → Sto → R (List D)) : TE := fun σ H Q => ∃ β ρ env st, RE K q.fa β ρ env st σ H ∧ RS K q.fa β ρ st H ∧
  RP (f env st) (fun ds st' => ∀ p vs H' ρ' b', Stp ρ st H ρ' st' H' → b' = p :: β → RS K q.fa b' ρ' st' H' → RDs K q.fa H' (Mu ρ' st') b' ρ' st'.length ds vs → H' p = some (.lst vs) → H p = none → Q (.ref p) H') (PostX K q β ρ st H)
theorem new_frz {K : PySem.W.Frag} {σ : L2.St} {H : Hp} {Q : VK} {f : PL.Env → Sto → R (List D)} (h : ∃ β ρ env st, RE K q.fa β ρ env st σ H ∧ RS K q.fa β ρ st H ∧ RP ((f env st).bind fun ds s => R.ok (D.frz ds) s) (fun d st' => Post K q.fa β ρ st H d st' Q) (PostX K q β ρ st H)) : tNew K q f σ H Q := by
  obtain ⟨β, ρ, env, st, e, S, h⟩ := h
  refine ⟨β, ρ, env, st, e, S, h.bind.imp (fun ds s1 h1 p vs H1 ρ1 b' a1 hb S1 r1 hp hn => ?_) fun _ _ _ g => g⟩
  subst hb
  have S1' : RS K q.fa β ρ1 s1 H1 := ⟨S1.nd, S1.len, fun i o ho => by
    obtain ⟨a, ws, e1, e2, e3⟩ := S1.obj i o ho
    exact ⟨a, ws, e1, e2, e3.mono (fun _ _ x y => ⟨x, y⟩) (fun _ _ x => x) (fun b hb => .inl (List.mem_cons_of_mem _ hb)) (Nat.le_refl _)⟩, fun b hb => S1.busy b (List.mem_cons_of_mem _ hb)⟩
  have np : p ∉ ρ1 := (S1.busy p List.mem_cons_self).2
  have nm : ¬ Mu ρ1 s1 p := fun ⟨i, o, h1, _, _⟩ => np (List.mem_iff_getElem?.mpr ⟨i, h1⟩)
  have nb : p ∉ β := (S.fresh hn).2.1
  exact h1 (.ref p) H1 ρ1 a1 S1' (.frz hp nm nb (r1.mono (fun _ _ x y => ⟨x, y⟩) (fun _ _ x => x) (fun b hb => .inl (List.mem_cons_of_mem _ hb)) (Nat.le_refl _)))
theorem new_thaw {K : PySem.W.Frag} {σ : L2.St} {H : Hp} {Q : VK} {f : PL.Env → Sto → R (List D)} (h : ∃ β ρ env st, RE K q.fa β ρ env st σ H ∧ RS K q.fa β ρ st H ∧ RP ((f env st).bind fun ds s => R.ok (D.lst s.length) (s ++ [.lst ds])) (fun d st' => Post K q.fa β ρ st H d st' Q) (PostX K q β ρ st H)) : tNew K q f σ H Q := by
  obtain ⟨β, ρ, env, st, e, S, h⟩ := h
  refine ⟨β, ρ, env, st, e, S, h.bind.imp (fun ds s1 h1 p vs H1 ρ1 b' a1 hb S1 r1 hp hn => ?_) fun _ _ _ g => g⟩
  subst hb
  have h1 : Post K q.fa β ρ st H (D.lst s1.length) (s1 ++ [.lst ds]) Q := h1
  have np : p ∉ ρ1 := (S1.busy p List.mem_cons_self).2
  have nb : p ∉ β := (S.fresh hn).2.1
  have old : ∀ (j : Nat) (b : Addr), ρ1[j]? = some b → (ρ1 ++ [p])[j]? = some b := fun j b h => by
    rw [List.getElem?_append_left (List.getElem?_eq_some_iff.mp h).1]
    exact h
  have back : ∀ (j : Nat) (b : Addr), (ρ1 ++ [p])[j]? = some b → ρ1[j]? = some b ∨ (j = ρ1.length ∧ b = p) := fun j b h => by
    by_cases hj : j < ρ1.length
    · rw [List.getElem?_append_left hj] at h
      exact .inl h
    · rw [List.getElem?_append_right (by omega)] at h
      have hj2 : j - ρ1.length = 0 := by
        have := (List.getElem?_eq_some_iff.mp h).1
        simp at this
        omega
      rw [hj2] at h
      simp at h
      exact .inr ⟨by omega, h.symm⟩
  have mu : ∀ b, Mu (ρ1 ++ [p]) (s1 ++ [.lst ds]) b → Mu ρ1 s1 b ∨ b = p := fun b ⟨j, o, h1, h2, h3⟩ => by
    rcases back j b h1 with z | ⟨_, z⟩
    · left
      have hl : j < s1.length := by rw [← S1.len]; exact (List.getElem?_eq_some_iff.mp z).1
      rw [List.getElem?_append_left hl] at h2
      exact ⟨j, o, z, h2, h3⟩
    · exact .inr z
  -- what a value that was read while p was busy names, is not p
  have conv : ∀ (n : Nat) {es : List D} {ws : List V}, RDs K q.fa H1 (Mu ρ1 s1) (p :: β) ρ1 n es ws → RDs K q.fa H1 (fun b => Mu ρ1 s1 b ∨ b = p) β ρ1 n es ws := fun n es ws r => r.busyMu
  have S2 : RS K q.fa β (ρ1 ++ [p]) (s1 ++ [.lst ds]) H1 := by
    refine ⟨fun i j b h1 h2 => ?_, by simp [S1.len], fun j o h => ?_, fun b hb => ?_⟩
    · rcases back i b h1 with q1 | ⟨q1, e1⟩
      · rcases back j b h2 with q2 | ⟨q2, e2⟩
        · exact S1.nd i j b q1 q2
        · exact absurd (List.mem_iff_getElem?.mpr ⟨i, by rw [← e2]; exact q1⟩) np
      · rcases back j b h2 with q2 | ⟨q2, e2⟩
        · exact absurd (List.mem_iff_getElem?.mpr ⟨j, by rw [← e1]; exact q2⟩) np
        · omega
    · by_cases hj : j < s1.length
      · rw [List.getElem?_append_left hj] at h
        obtain ⟨b, ws, e1, e2, e3⟩ := S1.obj j o h
        exact ⟨b, ws, old j b e1, e2, (conv j e3).mono (fun a o x y => ⟨x, fun z => y (mu a z)⟩) old (fun _ x => .inl x) (Nat.le_refl _)⟩
      · rw [List.getElem?_append_right (by omega)] at h
        have hj2 : j - s1.length = 0 := by
          have := (List.getElem?_eq_some_iff.mp h).1
          simp at this
          omega
        rw [hj2] at h
        simp at h
        subst h
        have ej : j = s1.length := by omega
        subst ej
        exact ⟨p, vs, by rw [← S1.len]; simp, hp, (conv _ r1).mono (fun a o x y => ⟨x, fun z => y (mu a z)⟩) old (fun _ x => .inl x) (Nat.le_refl _)⟩
    · obtain ⟨⟨o, e⟩, nb'⟩ := S1.busy b (List.mem_cons_of_mem _ hb)
      refine ⟨⟨o, e⟩, fun z => ?_⟩
      rcases List.mem_append.mp z with z | z
      · exact nb' z
      · rw [List.mem_singleton.mp z] at hb
        exact nb hb
  have a2 : Stp ρ st H (ρ1 ++ [p]) (s1 ++ [.lst ds]) H1 := by
    refine ⟨?_, Nat.le_trans a1.le (by simp), fun b o h m => ?_, fun j es h => ?_⟩
    · obtain ⟨t, rfl⟩ := a1.pre
      exact ⟨t ++ [p], by simp⟩
    · obtain ⟨k1, k2⟩ := a1.keep b o h m
      refine ⟨k1, fun z => ?_⟩
      rcases mu b z with z | z
      · exact k2 z
      · exact ne_of_none h hn z
    · have := a1.lck j es h
      rw [List.getElem?_append_left (its_get this)]
      exact this
  exact h1 (.ref p) H1 (ρ1 ++ [p]) a2 S2 (.lst (by simp) (by rw [← S1.len]; simp))
theorem w_list {σ H Q} (h : tNew X.K q (fun env st => (evs q.C q.G es env st).bind fun ds s => if szOk ds.length then .ok ds s else .bad) σ H Q) : tLst (tWs X.K q es) σ H Q := by
  obtain ⟨β, ρ, env, st, e, S, h⟩ := h
  refine ⟨β, ρ, env, st, e, S, h.bind.imp (fun ds s1 h1 vs H1 ρ1 a1 S1 r1 => ?_) fun _ _ _ g => g⟩
  split at h1
  · rename_i c
    refine ⟨by rw [← r1.length]; exact szOk_le c, fun p hp => ?_⟩
    have hpH : H p = none := by
      cases hh : H p with
      | none => rfl
      | some o =>
        by_cases hm : Mu ρ st p
        · obtain ⟨i, o', e1, e2, e3⟩ := hm
          obtain ⟨a, ws, f1, f2, f3⟩ := S1.obj i _ (List.getElem?_eq_getElem (show i < s1.length from Nat.lt_of_lt_of_le (its_get e2) a1.le))
          rw [a1.at i p e1] at f1
          cases f1
          rw [hp] at f2
          cases f2
        · have := (a1.keep p o hh hm).1
          rw [hp] at this
          cases this
    have L := S1.lay (o := .lst vs) hp
    obtain ⟨f1, f2, f3⟩ := S1.fresh hp
    have Sb : RS X.K q.fa (p :: β) ρ1 s1 (upd H1 p (.lst vs)) := by
      refine ⟨S1.nd, S1.len, fun i u e => ?_, fun b hb => ?_⟩
      · obtain ⟨a, ws, e1, e2, e3⟩ := S1.obj i u e
        refine ⟨a, ws, e1, by rw [upd_ne (ne_of_none e2 hp)]; exact e2, e3.mono L.2.keep (fun _ _ x => x) (fun b hb => ?_) (Nat.le_refl _)⟩
        rcases List.mem_cons.mp hb with z | z
        · exact .inr (by rw [z]; exact hp)
        · exact .inl z
      · rcases List.mem_cons.mp hb with z | z
        · rw [z]
          exact ⟨⟨_, upd_same⟩, f1⟩
        · exact L.1.busy b z
    exact h1 p vs _ ρ1 _ (a1.trans L.2) rfl Sb (r1.mono L.2.keep (fun _ _ x => x) (fun b hb => by
      rcases List.mem_cons.mp hb with z | z
      · exact .inr (by rw [z]; exact hp)
      · exact .inl z) (Nat.le_refl _)) upd_same hpH
  · exact h1.elim
end
end PL

set_option Elab.async false
set_option linter.all false
set_option maxRecDepth 100000
set_option maxHeartbeats 1000000
/-! Subscripts, slices, calls, methods. -/
namespace PL
open PySem PySem.Spec PyProof.Rows L2
section
variable {X : Cx} {q : Qm} {a b c : E} {pa pb pc pe : Expr} {pos : Pos} {es : Es} {pes : List Expr} {fa : Nat → Addr}
/-! ### lists -/
theorem s_list (h : PA X pes (tWs X.K q es)) : PE X (.List pes pos) (tW X.K q (.list es)) :=
  (pe_lst h).w fun σ H Q ⟨β, ρ, env, st, e, S, h⟩ => w_list (new_frz ⟨β, ρ, env, st, e, S, by
    simp only [ev] at h
    cases hv : evs q.C q.G es env st with
    | ok ds s1 =>
      rw [hv] at h
      have h : RP (if szOk ds.length = true then R.ok (D.frz ds) s1 else .bad) _ _ := h
      show RP ((if szOk ds.length = true then R.ok ds s1 else .bad).bind fun ds s => R.ok (D.frz ds) s) _ _
      split at h
      · rename_i c
        rw [if_pos c]
        exact h
      · exact h.elim
    | exn c d s1 =>
      rw [hv] at h
      exact h
    | bad =>
      rw [hv] at h
      exact h⟩)
/-! displays with stars -/
def tWz (K : PySem.W.Frag) (q : Qm) (zs : Zs) : TA := fun σ H Q => ∃ β ρ env st, RE K q.fa β ρ env st σ H ∧ RS K q.fa β ρ st H ∧ RP (evz q.C q.G zs env st) (fun ds st' => PostS K q.fa β ρ st H ds st' Q) (PostX K q β ρ st H)
variable {zs : Zs}
theorem zz_nil : PA X [] (tWz X.K q .nil) := pa_nil.w fun σ H Q ⟨β, ρ, env, st, e, S, h⟩ => h [] H ρ .refl S .nil
theorem zz_cons (ha : PE X pa (tW X.K q a)) (hr : PA X pes (tWz X.K q zs)) (hs : starEach (pa :: pes) X.env = (false, eval pa X.env) :: starEach pes X.env) : PA X (pa :: pes) (tWz X.K q (.cons a zs)) :=
  (pa_cons ha hr hs).w fun σ H Q h => by
    obtain ⟨β, ρ, env, st, e, S, h⟩ := h
    simp only [evz] at h
    refine ⟨β, ρ, env, st, e, S, h.bind.imp (fun x s1 h1 v1 H1 ρ1 a1 S1 r1 => ?_) fun _ _ _ g => g⟩
    refine ⟨β, ρ1, env, s1, e.stp a1, S1, (h1.bind.aftX a1).imp (fun xs s2 h2 vs H2 ρ2 a2 S2 r2 => ?_) fun _ _ _ g => g⟩
    exact h2 _ H2 ρ2 (a1.trans a2) S2 (.cons (r1.stp a2) r2)
theorem zz_star {p : Pos} (ha : PE X pa (tW X.K q a)) (hr : PA X pes (tWz X.K q zs)) : PA X (.Starred pa p :: pes) (tWz X.K q (.star a zs)) :=
  (StX.pa_star ha hr).w fun σ H Q h => by
    obtain ⟨β, ρ, env, st, e, S, h⟩ := h
    simp only [evz] at h
    refine ⟨β, ρ, env, st, e, S, h.bind.imp (fun x s1 h1 v1 H1 ρ1 a1 S1 r1 => ?_) fun _ _ _ g => g⟩
    obtain ⟨es, he, h2⟩ := h1.bind.oD
    obtain ⟨p1, vs, rfl, hq, hr⟩ := rd_sv S1 r1 he
    refine ⟨p1, vs, rfl, hq.symm, β, ρ1, env, s1, e.stp a1, S1, (h2.bind.aftX a1).imp (fun xs s2 h3 ws H2 ρ2 a2 S2 r2 => ?_) fun _ _ _ g => g⟩
    exact h3 _ H2 ρ2 (a1.trans a2) S2 ((hr.stp a2).append r2)
theorem s_tups {x1} (h : PA X pes (tWz X.K q zs)) : PE X (.Tuple pes x1 pos) (tW X.K q (.tups zs)) :=
  (pe_tup h).w fun σ H Q ⟨β, ρ, env, st, e, S, h⟩ => by
    simp only [ev] at h
    refine ⟨β, ρ, env, st, e, S, h.bind.imp (fun ds s1 h1 vs H1 ρ1 a1 S1 r1 => ?_) fun _ _ _ g => g⟩
    split at h1
    · rename_i c
      exact ⟨by rw [← r1.length]; exact szOk_le c, fun p hp => (Post.after h1 a1).tup S1 r1 hp⟩
    · exact h1.elim
theorem s_listT (h : PA X pes (tWs X.K q es)) : PE X (.List pes pos) (tW X.K q (.thaw (.list es))) :=
  (pe_lst h).w fun σ H Q ⟨β, ρ, env, st, e, S, h⟩ => w_list (new_thaw ⟨β, ρ, env, st, e, S, by
    simp only [ev] at h
    cases hv : evs q.C q.G es env st with
    | ok ds s1 =>
      rw [hv] at h
      have h : RP ((if szOk ds.length = true then R.ok (D.frz ds) s1 else .bad).bind fun x s1 => thawD x s1) _ _ := h
      show RP ((if szOk ds.length = true then R.ok ds s1 else .bad).bind fun ds s => R.ok (D.lst s.length) (s ++ [.lst ds])) _ _
      split at h
      · rename_i c
        rw [if_pos c]
        exact h
      · exact h.elim
    | exn c d s1 =>
      rw [hv] at h
      exact h
    | bad =>
      rw [hv] at h
      exact h⟩)
/-! ### a subscript -/
def rIxD (K : PySem.W.Frag) (fa : Nat → Addr) : R2 := fun x y H Q => ∃ β ρ st dx i d, RS K fa β ρ st H ∧ RD K fa H (Mu ρ st) β ρ st.length dx x ∧ y = .int i ∧ ixD st dx i = some d ∧ Post K fa β ρ st H d st Q
theorem atI_eq {α : Type} (xs : List α) (i : Int) : PL.atI xs i = L2.atI xs i := rfl
theorem atI_at {α : Type} {xs : List α} {i : Int} {x : α} (h : PL.atI xs i = some x) : ∃ j, PL.ixN xs.length i = some j ∧ xs[j]? = some x := by
  unfold PL.atI at h
  obtain ⟨j, h1, h2⟩ := Option.bind_eq_some_iff.mp h
  exact ⟨j, h1, h2⟩
theorem ix_D : IxR X (rIxD X.K fa) := by
  intro value slice pins s σ H x y v u Q I rx ry h hs
  obtain ⟨β, ρ, st, dx, i, d, S, ra, rfl, hd, q⟩ := h
  unfold ixD at hd
  split at hd
  · split at hd
    · rename_i z c
      obtain ⟨k, hk, rfl⟩ := Option.map_eq_some_iff.mp hd
      cases ra
      exact ix_str value slice pins s σ H _ _ v u Q I rx ry ⟨_, i, k, rfl, rfl, by rw [str_len]; exact szOk_le c, hk, q.here S (.str [k])⟩ hs
    · cases hd
  · obtain ⟨ds, hds, hi⟩ := Option.bind_eq_some_iff.mp hd
    obtain ⟨p, vs, rfl, hq, hr⟩ := rd_sv S ra hds
    obtain ⟨j, h1, h2⟩ := atI_at hi
    obtain ⟨w, h3, r3⟩ := hr.get h2
    have hw : L2.atI vs i = some w := by
      unfold L2.atI
      have h1' : L2.ixN vs.length i = some j := by rw [← hr.length]; exact h1
      rw [h1']
      exact h3
    rcases hq with hq | hq
    · exact ix_list value slice pins s σ H _ _ v u Q I rx ry ⟨p, vs, i, w, rfl, rfl, hq, hw, q.here S r3⟩ hs
    · exact ix_tup value slice pins s σ H _ _ v u Q I rx ry ⟨p, vs, i, w, rfl, rfl, hq, hw, q.here S r3⟩ hs
theorem s_idx (ha : PE X pa (tW X.K q a)) (hb : PE X pb (tW X.K q b)) (hs : PlainIx pb) : PE X (.Subscript pa pb pos) (tW X.K q (.idx a b)) :=
  (pe_ix (ix_D (fa := q.fa)) ha hb hs).w fun σ H Q ⟨β, ρ, env, st, e, S, h⟩ => by
    simp only [ev] at h
    refine ⟨β, ρ, env, st, e, S, h.bind.imp (fun x s1 h1 v1 H1 ρ1 a1 S1 r1 => ?_) fun _ _ _ g => g⟩
    refine ⟨β, ρ1, env, s1, e.stp a1, S1, (h1.bind.aftX a1).imp (fun y s2 h2 v2 H2 ρ2 a2 S2 r2 => ?_) fun _ _ _ g => g⟩
    obtain ⟨i, rfl, h3⟩ := h2.bind.toI
    obtain ⟨d, h4, h5⟩ := h3.oD
    exact ⟨β, ρ2, s2, x, i, d, S2, r1.stp a2, rd_int r2, h4, Post.after h5 (a1.trans a2)⟩
/-! ### slices -/
def rSlD (K : PySem.W.Frag) (fa : Nat → Addr) : V → Option Int → Option Int → Hp → VK → Prop := fun x lo hi H Q => ∃ β ρ st dx d, RS K fa β ρ st H ∧ RD K fa H (Mu ρ st) β ρ st.length dx x ∧ slD st dx lo hi = some d ∧ Post K fa β ρ st H d st Q
theorem cut_whole {α : Type} (xs : List α) (lo hi : Option Int) (h : PL.sIx xs.length 0 lo = 0 ∧ PL.sIx xs.length xs.length hi = xs.length) : cut xs lo hi = xs := by
  unfold cut
  rw [h.1, h.2, List.drop_zero, Nat.sub_zero, List.take_length]
theorem RDs.cut {K : PySem.W.Frag} {fa : Nat → Addr} {H : Hp} {m : Addr → Prop} {β ρ : List Addr} {n : Nat} {ds : List D} {vs : List V} (r : RDs K fa H m β ρ n ds vs) (lo hi : Option Int) : RDs K fa H m β ρ n (PL.cut ds lo hi) (cutV vs lo hi) := by
  unfold PL.cut cutV
  rw [r.length]
  exact (r.drop _).take _
theorem sl_D : SlR X (rSlD X.K fa) := by
  intro pins s σ H x v vl vu lo hi sl Q I rx hs pl pu h
  obtain ⟨β, ρ, st, dx, d, S, ra, hd, q⟩ := h
  unfold slD at hd
  split at hd
  · split at hd
    · rename_i z c
      cases hd
      cases ra
      refine sl_str pins s σ H _ v vl vu lo hi sl Q I rx hs pl pu ⟨_, rfl, by rw [str_len]; exact szOk_le c, ?_⟩
      have e : cutS ⟨z.toArray⟩ lo hi = ⟨(PL.cut z lo hi).toArray⟩ := by
        unfold cutS PL.cut
        rw [str_len]
        rfl
      rw [e]
      exact q.here S (.str _)
    · cases hd
  · rename_i ds
    cases hd
    obtain ⟨p, vs, rfl, hq, hr⟩ := rd_tup ra
    refine sl_tupA pins s σ H _ v vl vu lo hi sl Q I rx hs pl pu ⟨p, vs, rfl, hq, fun hw => ?_, fun _ p hp => q.tup S (hr.cut lo hi) hp⟩
    have e : PL.cut ds lo hi = ds := cut_whole ds lo hi (by rw [hr.length]; exact hw)
    rw [e] at q
    exact q.here S ra
  · obtain ⟨ds, hds, rfl⟩ := Option.map_eq_some_iff.mp hd
    obtain ⟨p, vs, rfl, hq, hr⟩ := rd_lv S ra hds
    exact sl_list pins s σ H _ v vl vu lo hi sl Q I rx hs pl pu ⟨p, vs, rfl, hq, fun p hp => q.frz S (hr.cut lo hi) hp⟩
theorem s_onone : PO X none (tWo X.K q .none) := po_none.w fun σ H Q ⟨β, ρ, env, st, e, S, h⟩ => h H ρ .refl S
theorem s_osome (ha : PE X pa (tW X.K q a)) : PO X (some pa) (tWo X.K q (.some a)) := (po_some ha).w fun σ H Q ⟨β, ρ, env, st, e, S, h⟩ => by
  simp only [evo] at h
  refine ⟨β, ρ, env, st, e, S, h.bind.imp (fun x s1 h1 v1 H1 ρ1 a1 S1 r1 => ?_) fun _ _ _ g => g⟩
  obtain ⟨i, rfl, h2⟩ := h1.bind.toI
  exact ⟨i, rd_int r1, h2 H1 ρ1 a1 S1⟩
theorem w_slc {lo hi : Oe} {d : Bool} {σ H Q} (h : tW X.K q (.slc a lo hi) σ H Q) : tSl (rSlD X.K q.fa) (tW X.K q a) (tWo X.K q lo) (tWo X.K q hi) σ H Q := by
  obtain ⟨β, ρ, env, st, e, S, h⟩ := h
  simp only [ev] at h
  refine ⟨β, ρ, env, st, e, S, h.bind.imp (fun x s1 h1 v1 H1 ρ1 a1 S1 r1 => ?_) fun _ _ _ g => g⟩
  refine ⟨β, ρ1, env, s1, e.stp a1, S1, (h1.bind.aftX a1).imp (fun l s2 h2 H2 ρ2 a2 S2 => ?_) fun _ _ _ g => g⟩
  refine ⟨β, ρ2, env, s2, (e.stp a1).stp a2, S2, (h2.bind.aftX (a1.trans a2)).imp (fun u s3 h3 H3 ρ3 a3 S3 => ?_) fun _ _ _ g => g⟩
  obtain ⟨d, h4, h5⟩ := h3.oD
  exact ⟨β, ρ3, s3, x, d, S3, (r1.stp a2).stp a3, h4, Post.after h5 ((a1.trans a2).trans a3)⟩
theorem s_slc {lo hi : Oe} {plo phi : Option Expr} {p2 : Pos} (ha : PE X pa (tW X.K q a)) (hl : PO X plo (tWo X.K q lo)) (hh : PO X phi (tWo X.K q hi)) : PE X (.Subscript pa (.Slice plo phi none p2) pos) (tW X.K q (.slc a lo hi)) :=
  (pe_slice (sl_D (fa := q.fa)) ha hl hh).w fun σ H Q h => w_slc (d := true) h
/-! ### built-in functions, isinstance -/
theorem s_blB {i : String} {x : Str} {p : Pos} {bl : Bl} (hc : X.calm = true) (hi : blV bl = .builtin i) (hg : Gl X x) (hm : X.mg x = none) (hv : bootBuiltins x = some (.builtin i)) (hn : x ≠ "__name__") (hdb : (x == ("__debug__" : Str)) = false)
    (ha : PA X (pe :: pes) (tWs X.K q es)) (he : starEach (pe :: pes) X.env = (false, eval pe X.env) :: starEach pes X.env) (hpl : (backTo pos (starEach pes X.env)).any (·.1) = false) : PE X (.Call (.Name x p) (pe :: pes) [] pos) (tW X.K q (.blt bl es)) :=
  (pe_callB (r := rBl X.K q.fa bl) (hi ▸ call_bl hc bl) hg hm hv ha hn hdb he hpl).w fun σ H Q ⟨β, ρ, env, st, e, S, h⟩ => by
    simp only [ev] at h
    refine ⟨β, ρ, env, st, e, S, h.bind.imp (fun ds s1 h1 vs H1 ρ1 a1 S1 r1 => ?_) fun _ _ _ g => g⟩
    obtain ⟨d, h4, h5⟩ := h1.oD
    exact ⟨β, ρ1, s1, ds, d, S1, r1, h4, Post.after h5 a1⟩
theorem s_blT {i : String} {x : Str} {p : Pos} {bl : Bl} (hc : X.calm = true) (hi : blV bl = .type i) (hg : Gl X x) (hm : X.mg x = none) (hv : bootBuiltins x = some (.type i)) (hn : x ≠ "__name__") (hdb : (x == ("__debug__" : Str)) = false)
    (ha : PA X (pe :: pes) (tWs X.K q es)) (he : starEach (pe :: pes) X.env = (false, eval pe X.env) :: starEach pes X.env) (hpl : (backTo pos (starEach pes X.env)).any (·.1) = false) : PE X (.Call (.Name x p) (pe :: pes) [] pos) (tW X.K q (.blt bl es)) :=
  (pe_callTy (r := rBl X.K q.fa bl) (hi ▸ call_bl hc bl) hg hm hv ha hn hdb he hpl).w fun σ H Q ⟨β, ρ, env, st, e, S, h⟩ => by
    simp only [ev] at h
    refine ⟨β, ρ, env, st, e, S, h.bind.imp (fun ds s1 h1 vs H1 ρ1 a1 S1 r1 => ?_) fun _ _ _ g => g⟩
    obtain ⟨d, h4, h5⟩ := h1.oD
    exact ⟨β, ρ1, s1, ds, d, S1, r1, h4, Post.after h5 a1⟩
def rIsD (K : PySem.W.Frag) (fa : Nat → Addr) (t : Ty) : List V → Hp → VK → Prop := fun vs H Q => ∃ β ρ st d x k, vs = [x, .ty (tyN t)] ∧ RS K fa β ρ st H ∧ RD K fa H (Mu ρ st) β ρ st.length d x ∧ isInst t d = some k ∧ Q (.bl k) H
theorem call_isD (t : Ty) : CallR X (.builtin "isinstance") (rIsD X.K fa t) := by
  intro pins s σ H xs us Q I r h
  obtain ⟨β, ρ, st, d, x, k, rfl, S, ra, hk, q⟩ := h
  exact isi_ok I S ra r hk q
theorem s_isi {t : Ty} {x y : Str} {p p2 : Pos} (hg : Gl X x) (hm : X.mg x = none) (hv : bootBuiltins x = some (.builtin "isinstance")) (hn : x ≠ "__name__") (hdb : (x == ("__debug__" : Str)) = false)
    (hg2 : Gl X y) (hm2 : X.mg y = none) (hv2 : bootBuiltins y = some (.type (tyN t))) (hn2 : y ≠ "__name__") (hdb2 : (y == ("__debug__" : Str)) = false)
    (ha : PE X pa (tW X.K q a)) (he : starEach [pa, .Name y p2] X.env = (false, eval pa X.env) :: starEach [.Name y p2] X.env) : PE X (.Call (.Name x p) [pa, .Name y p2] [] pos) (tW X.K q (.isi a t)) :=
  (pe_callB (r := rIsD X.K q.fa t) (call_isD t) hg hm hv (pa_cons ha (pa_cons (pe_bltn (v := .ty (tyN t)) hg2 hm2 hv2 rfl hn2 hdb2) pa_nil) he) hn hdb he rfl).w fun σ H Q ⟨β, ρ, env, st, e, S, h⟩ => by
    simp only [ev] at h
    refine ⟨β, ρ, env, st, e, S, h.bind.imp (fun x s1 h1 v H1 ρ1 a1 S1 r1 => ?_) fun _ _ _ g => g⟩
    obtain ⟨d, h4, h5⟩ := h1.oD
    obtain ⟨k, hk, rfl⟩ := Option.map_eq_some_iff.mp h4
    exact ⟨β, ρ1, s1, x, v, k, rfl, S1, r1, hk, (Post.after h5 a1).here S1 (.bl _)⟩
/-! ### calls of defs -/
/-- a def's promise -/
def spC (K : PySem.W.Frag) (q : Qm) (C : Nat → List D → Sto → R D) (f np : Nat) : Sp := fun vs H Q E => ∃ β ρ st ds, RS K q.fa β ρ st H ∧ RDs K q.fa H (Mu ρ st) β ρ st.length ds vs ∧ ds.length = np ∧
  RP (C f ds st) (fun d st' => Post K q.fa β ρ st H d st' Q) (PostX K { q with XE := E } β ρ st H)
theorem w_call {f np : Nat} {σ H Q} (hlen : ∀ ds st, RP (q.C f ds st) (fun _ _ => True) (fun _ _ _ => True) → ds.length = np) (h : tW X.K q (.call f es) σ H Q) : tCall (spC X.K q q.C f np) [] q.XE (tWs X.K q es) σ H Q := by
  obtain ⟨β, ρ, env, st, e, S, h⟩ := h
  simp only [ev] at h
  refine ⟨β, ρ, env, st, e, S, h.bind.imp (fun ds s1 h1 vs H1 ρ1 a1 S1 r1 => ?_) fun _ _ _ g => g⟩
  show spC X.K q q.C f np (vs ++ []) H1 Q q.XE
  rw [List.append_nil]
  exact ⟨β, ρ1, s1, ds, S1, r1, hlen ds s1 (h1.imp (fun _ _ _ => trivial) fun _ _ _ _ => trivial), h1.aft a1⟩
theorem s_call {CX : CXT} {k f np : Nat} {fd : FuncData} {ps : List Str} {x : Str} {p : Pos} (hlen : ∀ ds st, RP (q.C f ds st) (fun _ _ => True) (fun _ _ _ => True) → ds.length = np) (F : FnOk X.prog X.w X.K X.mg X.base CX k (q.fa f) fd ps (spC X.K q q.C f np)) (hr : Room k X.A) (hg : Gl X x) (hm : X.mg x = some (.ref (q.fa f)))
    (hk : PySem.W.keepIn X.K (.ref (q.fa f)) = true) (hb : Binds X.K fd ps []) (hx : Passes CX X q.XE) (hdb : (x == ("__debug__" : Str)) = false)
    (ha : PA X (pe :: pes) (tWs X.K q es)) (he : starEach (pe :: pes) X.env = (false, eval pe X.env) :: starEach pes X.env) (hpl : (backTo pos (starEach pes X.env)).any (·.1) = false) : PE X (.Call (.Name x p) (pe :: pes) [] pos) (tW X.K q (.call f es)) :=
  (pe_call F hr hg hm hk hb .nil hx ha hdb he hpl).w fun σ H Q h => w_call hlen h
theorem s_call0 {CX : CXT} {k f np : Nat} {fd : FuncData} {ps : List Str} {x : Str} {p : Pos} (hlen : ∀ ds st, RP (q.C f ds st) (fun _ _ => True) (fun _ _ _ => True) → ds.length = np) (F : FnOk X.prog X.w X.K X.mg X.base CX k (q.fa f) fd ps (spC X.K q q.C f np)) (hr : Room k X.A) (hg : Gl X x) (hm : X.mg x = some (.ref (q.fa f)))
    (hk : PySem.W.keepIn X.K (.ref (q.fa f)) = true) (hb : Binds X.K fd ps []) (hx : Passes CX X q.XE) (hdb : (x == ("__debug__" : Str)) = false) : PE X (.Call (.Name x p) [] [] pos) (tW X.K q (.call f .nil)) :=
  (pe_call0 F hr hg hm hk hb .nil hx hdb).w fun σ H Q h => by
    obtain ⟨β, ρ, env, st, e, S, h⟩ := w_call (X := X) (es := .nil) hlen h
    exact h [] H ρ .refl S .nil
/-- keywords: the values in the parameters' order -/
def gK {α : Type} (dflt : α) (pm : List Nat) (us ws : List α) : List α := pm.map fun j => (us ++ ws).getD j dflt
theorem vals_getD : ∀ {vs : List V} {us : List Value}, Vals vs us → ∀ j, RelV (vs.getD j .non) (us.getD j .none)
  | _, _, .nil, _ => rfl
  | _, _, .cons r _, 0 => r
  | _, _, .cons _ t, j + 1 => vals_getD t j
theorem gK_rel (pm : List Nat) {vs : List V} {us : List Value} {zs : List V} {ws : List Value} (h : Vals vs us) (h2 : Vals zs ws) : Vals (gK V.non pm vs zs) (gK Value.none pm us ws) := by
  unfold gK
  induction pm with
  | nil => exact .nil
  | cons j r ih => exact .cons (vals_getD (h.append h2) j) ih
theorem rds_getD {K : PySem.W.Frag} {fa : Nat → Addr} {H : Hp} {m : Addr → Prop} {β ρ : List Addr} {n : Nat} : ∀ {ds : List D} {vs : List V}, RDs K fa H m β ρ n ds vs → ∀ j, RD K fa H m β ρ n (ds.getD j .non) (vs.getD j .non)
  | _, _, .nil, _ => .non
  | _, _, .cons r _, 0 => r
  | _, _, .cons _ t, j + 1 => rds_getD t j
theorem rds_gK {K : PySem.W.Frag} {fa : Nat → Addr} {H : Hp} {m : Addr → Prop} {β ρ : List Addr} {n : Nat} {ds es : List D} {vs zs : List V} (pm : List Nat) (r : RDs K fa H m β ρ n ds vs) (r2 : RDs K fa H m β ρ n es zs) :
    RDs K fa H m β ρ n (pm.map fun j => (ds ++ es).getD j .non) (gK V.non pm vs zs) := by
  unfold gK
  induction pm with
  | nil => exact .nil
  | cons j t ih => exact .cons (rds_getD (r.append r2) j) ih
theorem w_callk {f np : Nat} {pm : List Nat} {ks : Es} {n m : Nat} {σ H Q} (hlen : ∀ ds st, RP (q.C f ds st) (fun _ _ => True) (fun _ _ _ => True) → ds.length = np) (hn : ∀ env st, RP (evs q.C q.G es env st) (fun ds _ => ds.length = n) (fun _ _ _ => True) ∨ evs q.C q.G es env st = .bad)
    (hm : ∀ env st, RP (evs q.C q.G ks env st) (fun ds _ => ds.length = m) (fun _ _ _ => True) ∨ evs q.C q.G ks env st = .bad) (h : tW X.K q (.callk f es ks pm) σ H Q) :
    tCallN n m (spC X.K q q.C f np) (gK V.non pm) q.XE (tWs X.K q es) (tWs X.K q ks) σ H Q := by
  obtain ⟨β, ρ, env, st, e, S, h⟩ := h
  simp only [ev] at h
  refine ⟨β, ρ, env, st, e, S, ?_⟩
  have h' := h.bind
  have l1 := hn env st
  cases hv : evs q.C q.G es env st with
  | bad =>
    rw [hv] at h'
    exact h'
  | exn c d s1 =>
    rw [hv] at h'
    exact h'
  | ok ds s1 =>
    rw [hv] at h' l1
    have hl : ds.length = n := l1.elim id fun z => nomatch z
    intro vs H1 ρ1 a1 S1 r1
    refine ⟨β, ρ1, env, s1, e.stp a1, S1, ?_⟩
    have h2 := RP.aftX (RP.bind h') a1
    have l2 := hm env s1
    cases hw : evs q.C q.G ks env s1 with
    | bad =>
      rw [hw] at h2
      exact h2
    | exn c d s2 =>
      rw [hw] at h2
      exact h2
    | ok ws s2 =>
      rw [hw] at h2 l2
      have hl2 : ws.length = m := l2.elim id fun z => nomatch z
      intro zs H2 ρ2 a2 S2 r2
      refine ⟨by rw [← r1.length]; exact hl, by rw [← r2.length]; exact hl2, β, ρ2, s2, _, S2, rds_gK pm (r1.stp a2) r2, ?_, ?_⟩
      · exact hlen _ s2 (RP.imp h2 (fun _ _ _ => trivial) fun _ _ _ _ => trivial)
      · have h3 : RP (q.C f (pm.map fun j => (ds ++ ws).getD j .non) s2) (fun d st' => Post X.K q.fa β ρ st H d st' Q) (PostX X.K q β ρ st H) := h2
        exact h3.imp (fun _ _ g => Post.after g (a1.trans a2)) fun _ _ _ g => PostX.after g (a1.trans a2)
theorem evs_len : ∀ (es : Es) (C : Nat → List D → Sto → R D) (G : Nat → D), ∃ n, ∀ env st, RP (evs C G es env st) (fun ds _ => ds.length = n) (fun _ _ _ => True) ∨ evs C G es env st = .bad
  | .nil, C, G => ⟨0, fun env st => .inl rfl⟩
  | .cons e es, C, G => by
    obtain ⟨n, h⟩ := evs_len es C G
    refine ⟨n + 1, fun env st => ?_⟩
    simp only [evs]
    cases hv : ev C G e env st with
    | ok x s1 =>
      show RP ((evs C G es env s1).bind fun xs s2 => R.ok (x :: xs) s2) _ _ ∨ ((evs C G es env s1).bind fun xs s2 => R.ok (x :: xs) s2) = .bad
      have q := h env s1
      cases hw : evs C G es env s1 with
      | ok xs s2 =>
        rw [hw] at q
        left
        have q2 : xs.length = n := q.elim id fun z => nomatch z
        show xs.length + 1 = n + 1
        rw [q2]
      | exn c d s2 => exact .inl trivial
      | bad => exact .inr rfl
    | exn c d s1 => exact .inl trivial
    | bad => exact .inr rfl
end
end PL

set_option Elab.async false
set_option linter.all false
set_option maxRecDepth 100000
set_option maxHeartbeats 1000000
/-! Methods; a call through a name; lists into the store. -/
namespace PL
open PySem PySem.Spec PyProof.Rows L2
def mId : Mt → String
  | .append => "list.append" | .pop => "list.pop" | .popAt => "list.pop" | .index => "str.index" | .count => "list.count" | .join => "str.join" | .bitlen => "int.bit_length"
def mT : Mt → String
  | .append => "list" | .pop => "list" | .popAt => "list" | .index => "str" | .count => "list" | .join => "str" | .bitlen => "int"
def mN : Mt → Str
  | .append => "append" | .pop => "pop" | .popAt => "pop" | .index => "index" | .count => "count" | .join => "join" | .bitlen => "bit_length"
def rM (K : PySem.W.Frag) (fa : Nat → Addr) (m : Mt) : V → List V → Hp → VK → Prop := fun x vs H Q => ∃ β ρ st dx ds d st', RS K fa β ρ st H ∧ RD K fa H (Mu ρ st) β ρ st.length dx x ∧ RDs K fa H (Mu ρ st) β ρ st.length ds vs ∧ mcall st m dx ds = .ok d st' ∧ Post K fa β ρ st H d st' Q
section
variable {X : Cx} {q : Qm} {a b c : E} {pa pb pc pe : Expr} {pos : Pos} {es : Es} {pes : List Expr} {fa : Nat → Addr}
theorem idx_at {z : List Nat} {k : Nat} : ∀ {j : Nat}, idxOf k z = some j → z[j]? = some k ∧ ∀ i, i < j → z[i]? ≠ some k := by
  induction z with
  | nil => intro j h; cases h
  | cons y ys ih =>
    intro j h
    simp only [idxOf] at h
    split at h
    · rename_i e
      cases h
      exact ⟨by rw [e]; rfl, fun i hi => absurd hi (Nat.not_lt_zero _)⟩
    · rename_i ne
      obtain ⟨j', h1, rfl⟩ := Option.map_eq_some_iff.mp h
      obtain ⟨h2, h3⟩ := ih h1
      refine ⟨by simpa using h2, fun i hi => ?_⟩
      cases i with
      | zero => simpa using ne
      | succ i => simpa using h3 i (by omega)
theorem pre_one (k : Nat) (z : List Nat) (i : Nat) : StrLaws.At ⟨z.toArray⟩ ⟨#[k]⟩ (⟨z.toArray⟩ : Str).length i ↔ z[i]? = some k := by
  have h1 : (⟨#[k]⟩ : Str).length = 1 := rfl
  have h2 : (⟨z.toArray⟩ : Str).length = z.length := str_len z
  unfold StrLaws.At
  rw [StrLaws.subAt_eq, h1, h2]
  show (i + 1 ≤ z.length ∧ ((z.drop i).take 1 == [k]) = true) ↔ _
  constructor
  · rintro ⟨h3, h4⟩
    have e : (z.drop i).take 1 = [k] := by simpa using h4
    have h5 : i < z.length := h3
    rw [List.drop_eq_getElem_cons h5, List.take_succ_cons, List.take_zero] at e
    rw [List.getElem?_eq_getElem h5, (List.cons.inj e).1]
  · intro h
    obtain ⟨h3, h4⟩ := List.getElem?_eq_some_iff.mp h
    refine ⟨h3, ?_⟩
    rw [List.drop_eq_getElem_cons h3, h4]
    simp
theorem occ_idx {z : List Nat} {k j : Nat} (h : idxOf k z = some j) : ∃ r, Builtin.Str.occurrences ⟨z.toArray⟩ ⟨#[k]⟩ 0 (⟨z.toArray⟩ : Str).length 1 = j :: r := by
  obtain ⟨h1, h2⟩ := idx_at h
  rcases StrLaws.occ_head ⟨z.toArray⟩ ⟨#[k]⟩ 1 (Nat.le_refl _) with ⟨_, hn⟩ | ⟨i, r, e, hi, hk⟩
  · exact absurd ((pre_one k z j).mpr h1) (hn j)
  · have e1 := (pre_one k z i).mp hi
    have hij : i = j := by
      rcases Nat.lt_trichotomy i j with l | l | l
      · exact absurd e1 (h2 i l)
      · exact l
      · exact absurd ((pre_one k z j).mpr h1) (hk j l)
    subst hij
    exact ⟨r, e⟩
theorem ixN_seqI {n : Nat} {i : Int} {j : Nat} (h : PL.ixN n i = some j) : seqIndex? i n = some j := (L2.ixN_seq (show L2.ixN n i = some j from h)).1
theorem mt_D (m : Mt) : MtR X (mId m) (rM X.K fa m) := by
  intro pins s σ H x xs v us Q I rx rs h
  obtain ⟨β, ρ, st, dx, ds, d, st', S, ra, rds, hm, q⟩ := h
  unfold mcall at hm
  split at hm
  · -- append
    split at hm
    · rename_i i d0 _ es hi
      split at hm
      · rename_i ok
        rw [Bool.and_eq_true] at ok
        cases hm
        cases ra with
        | lst h1 h2 =>
          cases rds with
          | cons r1 r2 =>
            cases r2
            obtain ⟨a, vs, e1, e2, e3⟩ := S.obj i _ hi
            rw [h2] at e1
            cases e1
            have P := S.put (ds' := es ++ [d0]) (vs' := vs ++ [_]) hi h2 (e3.append (.cons (r1.older ok.2) .nil))
            exact mt_append pins s σ H _ _ v us Q I rx rs ⟨_, vs, _, rfl, rfl, e2, by rw [← e3.length]; exact szLt_lt ok.1, q _ _ ρ P.2 P.1 .non⟩
      · cases hm
    · cases hm
  · -- pop
    split at hm
    · rename_i i _ es hi
      split at hm
      · rename_i d0 hd
        cases hm
        cases ra with
        | lst h1 h2 =>
          cases rds
          obtain ⟨a, vs, e1, e2, e3⟩ := S.obj i _ hi
          rw [h2] at e1
          cases e1
          obtain ⟨w, hw, rw'⟩ := e3.get hd
          have P := S.put (ds' := es.dropLast) (vs' := vs.dropLast) hi h2 e3.dropLast
          refine mt_pop pins s σ H _ _ v us Q I rx rs ⟨_, vs, w, rfl, rfl, e2, by rw [← e3.length]; exact hw, q _ _ ρ P.2 P.1 ?_⟩
          exact (rw'.mono (fun _ _ x y => ⟨x, y⟩) (fun _ _ x => x) (fun _ x => .inl x) (Nat.le_of_lt h1)).stp P.2
      · cases hm
    · cases hm
  · -- pop(i)
    split at hm
    · rename_i i k _ es hi
      split at hm
      · rename_i ok
        simp only [Bool.and_eq_true, decide_eq_true_eq] at ok
        split at hm
        · rename_i j hj
          split at hm
          · rename_i d0 hd
            cases hm
            cases ra with
            | lst h1 h2 =>
              cases rds with
              | cons r1 r2 =>
                cases r2
                cases r1
                obtain ⟨a, vs, e1, e2, e3⟩ := S.obj i _ hi
                rw [h2] at e1
                cases e1
                obtain ⟨w, hw, rw'⟩ := e3.get hd
                have P := S.put (ds' := es.eraseIdx j) (vs' := vs.eraseIdx j) hi h2 (e3.erase j)
                refine mt_popAt pins s σ H _ _ v us Q I rx rs ⟨_, vs, k, j, w, rfl, rfl, e2, ok.1, ok.2, by rw [← e3.length]; exact ixN_seqI hj, hw, q _ _ ρ P.2 P.1 ?_⟩
                exact (rw'.mono (fun _ _ x y => ⟨x, y⟩) (fun _ _ x => x) (fun _ x => .inl x) (Nat.le_of_lt h1)).stp P.2
          · cases hm
        · cases hm
      · cases hm
    · cases hm
  · -- str.index
    split at hm
    · rename_i z k _ j hj
      cases hm
      cases ra
      cases rds with
      | cons r1 r2 =>
        cases r2
        cases r1
        obtain ⟨r, e⟩ := occ_idx hj
        exact mt_sindex pins s σ H _ _ v us Q I rx rs ⟨_, _, j, r, rfl, rfl, e, q.here S (.int _)⟩
    · cases hm
  · -- list.count
    split at hm
    · rename_i o k _ ns hns
      cases hm
      obtain ⟨es, he, hi⟩ := Option.bind_eq_some_iff.mp hns
      cases rds with
      | cons r1 r2 =>
        cases r2
        cases r1
        obtain ⟨a, vs, rfl, hq, hr⟩ := rd_lv S ra he
        have e := hr.ints hi
        subst e
        exact mt_lcount pins s σ H _ _ v us Q I rx rs ⟨a, ns, k, rfl, rfl, hq, q.here S (.int _)⟩
    · cases hm
  · -- join
    split at hm
    · rename_i z d0 _ ps hps
      split at hm
      · rename_i ok
        cases hm
        obtain ⟨es, he, hi⟩ := Option.bind_eq_some_iff.mp hps
        cases ra
        cases rds with
        | cons r1 r2 =>
          cases r2
          obtain ⟨a, vs, rfl, hq, hr⟩ := rd_sv S r1 he
          have e := hr.strs hi
          subst e
          refine mt_join pins s σ H _ _ v us Q I rx rs ⟨_, a, ps.map fun s => (⟨s.toArray⟩ : Str), rfl, rfl, hq, ?_, ?_⟩
          · rw [show (List.map (fun s => (⟨s.toArray⟩ : Str)) ps).map (·.length) = ps.map List.length by
              rw [List.map_map]
              exact List.map_congr_left fun y _ => str_len y, List.length_map, str_len]
            have := szOk_le ok
            rw [sizeLine_eq] at this
            exact this
          · have e : Txt.join ⟨z.toArray⟩ (ps.map fun s => (⟨s.toArray⟩ : Str)) = ⟨(joinL z ps).toArray⟩ := by
              have j := SX.join_S z ps
              have jl : ∀ l : List (List Nat), TL.joinL z l = joinL z l := by
                intro l
                induction l with
                | nil => rfl
                | cons x r ih =>
                  cases r with
                  | nil => rfl
                  | cons y r => simp only [TL.joinL, joinL, ih]
              rw [jl] at j
              exact j
            rw [e]
            exact q.here S (.str _)
      · cases hm
    · cases hm
  · -- bit_length
    rename_i i
    cases hm
    cases ra
    cases rds
    obtain ⟨t, rfl⟩ := rx
    cases rs
    refine PyProof.Rows.call_int_bit_length ⟨.int (Builtin.Int.intBits i : Nat), H, I.tok _, ⟨_, rfl⟩, ?_⟩
    have e : ((Builtin.Int.intBits i : Nat) : Int) = bitLen i := by
      unfold Builtin.Int.intBits bitLen
      by_cases h : i = 0
      · subst h
        rfl
      · rw [if_neg h, if_neg (by simpa using h)]
    rw [e]
    exact q.here S (.int _)
  · cases hm
theorem mOk_ty (m : Mt) {K : PySem.W.Frag} {H : Hp} {β ρ : List Addr} {st : Sto} {d : D} {x : V} (S : RS K fa β ρ st H) (r : RD K fa H (Mu ρ st) β ρ st.length d x) (h : mOk m d = true) : tyV K (mT m) x H := by
  have hl : ∀ {d : D} {es : List D}, RD K fa H (Mu ρ st) β ρ st.length d x → lv st d = some es → (∃ p, x = .ref p ∧ ∃ xs, SqL K H p xs) := fun r e => by
    obtain ⟨a, vs, e1, e2, _⟩ := rd_lv S r e
    exact ⟨a, e1, vs, e2⟩
  have hlst : ∀ {i : Nat}, RD K fa H (Mu ρ st) β ρ st.length (.lst i) x → ∃ p, x = .ref p ∧ ∃ xs, SqL K H p xs := fun {i} r => by
    cases r with
    | lst h1 h2 =>
      obtain ⟨a, vs, e1, e2, _⟩ := S.obj i _ (List.getElem?_eq_getElem h1)
      rw [h2] at e1
      cases e1
      exact ⟨_, rfl, vs, .inl (.inl e2)⟩
  cases m <;> cases d <;> first
    | exact absurd h Bool.false_ne_true
    | (refine (fun (h0 : ∃ p, x = .ref p ∧ ∃ xs, SqL K H p xs) => ?_) (hlst r); obtain ⟨p, rfl, z⟩ := h0; exact .inl ⟨rfl, z⟩)
    | (refine (fun (h0 : ∃ p, x = .ref p ∧ ∃ xs, SqL K H p xs) => ?_) (hl r rfl); obtain ⟨p, rfl, z⟩ := h0; exact .inl ⟨rfl, z⟩)
    | (cases r; rfl)
theorem w_mth {m : Mt} {σ H Q} (h : tW X.K q (.mth m a es) σ H Q) : tBM X.K (mT m) (rM X.K q.fa m) (tW X.K q a) (tWs X.K q es) σ H Q := by
  obtain ⟨β, ρ, env, st, e, S, h⟩ := h
  simp only [ev] at h
  refine ⟨β, ρ, env, st, e, S, h.bind.imp (fun x s1 h1 v1 H1 ρ1 a1 S1 r1 => ?_) fun _ _ _ g => g⟩
  split at h1
  · rename_i ok
    refine ⟨mOk_ty m S1 r1 ok, β, ρ1, env, s1, e.stp a1, S1, (h1.bind.aftX a1).imp (fun ds s2 h2 vs H2 ρ2 a2 S2 r2 => ?_) fun _ _ _ g => g⟩
    cases hm : mcall s2 m x ds with
    | ok d s3 =>
      rw [hm] at h2
      exact ⟨β, ρ2, s2, x, ds, d, s3, S2, r1.stp a2, r2, hm, Post.after h2 (a1.trans a2)⟩
    | exn c d s3 =>
      exfalso
      revert hm
      unfold mcall
      repeat' split
      all_goals (intro z; cases z)
    | bad =>
      rw [hm] at h2
      exact h2.elim
  · exact h1.elim
theorem slot_m (m : Mt) : PlainAttrs (mT m) ∧ Slot (mT m) (mN m) (mId m) ∧ typeOf (.builtin (mId m)) = pure (.type "method_descriptor") := by
  cases m with
  | append => exact ⟨F.plainAttrs_list, F.slot_list_append, F.type_list_append⟩
  | pop => exact ⟨F.plainAttrs_list, F.slot_list_pop, F.type_list_pop⟩
  | popAt => exact ⟨F.plainAttrs_list, F.slot_list_pop, F.type_list_pop⟩
  | index => exact ⟨F.plainAttrs_str, F.slot_str_index, F.type_str_index⟩
  | count => exact ⟨F.plainAttrs_list, F.slot_list_count, F.type_list_count⟩
  | join => exact ⟨F.plainAttrs_str, F.slot_str_join, F.type_str_join⟩
  | bitlen => exact ⟨F.plainAttrs_int, F.slot_int_bit_length, F.type_int_bit_length⟩
theorem s_mth {m : Mt} {apos cpos : Pos} (ho : PE X pa (tW X.K q a)) (ha : PA X (pe :: pes) (tWs X.K q es)) (hbase : attributeBase pa (mN m) X.env (eval pa X.env) = eval pa X.env)
    (hfew : ((backTo cpos (starEach (pe :: pes) X.env)).all (fun x => !x.1) && (backToKw cpos (keywordEach [] X.env)).all (fun x => x.1.isSome)
      && decide ((pe :: pes).length + ([] : List Keyword).length + (if ([] : List Keyword).isEmpty then 0 else 1) < 30)) = true)
    (hline : (apos.endLine == cpos.line) = true) (hs : starEach (pe :: pes) X.env = (false, eval pe X.env) :: starEach pes X.env) (hplain : (backTo cpos (starEach pes X.env)).any (·.1) = false) :
    PE X (.Call (.Attribute pa (mN m) apos) (pe :: pes) [] cpos) (tW X.K q (.mth m a es)) :=
  (pe_bm (slot_m m).1 (slot_m m).2.1 (slot_m m).2.2 (mt_D (fa := q.fa) m) ho ha hbase hfew hline hs hplain).w fun σ H Q h => w_mth h
theorem s_mth0 {m : Mt} {apos cpos : Pos} (ho : PE X pa (tW X.K q a)) (hbase : attributeBase pa (mN m) X.env (eval pa X.env) = eval pa X.env) (hline : (apos.endLine == cpos.line) = true) :
    PE X (.Call (.Attribute pa (mN m) apos) [] [] cpos) (tW X.K q (.mth m a .nil)) :=
  (pe_bm0 (slot_m m).1 (slot_m m).2.1 (slot_m m).2.2 (mt_D (fa := q.fa) m) ho hbase hline).w fun σ H Q h => by
    obtain ⟨β, ρ, env, st, e, S, h⟩ := w_mth (X := X) h
    refine ⟨β, ρ, env, st, e, S, h.imp (fun x s1 h1 v1 H1 ρ1 a1 S1 r1 => ?_) fun _ _ _ g => g⟩
    obtain ⟨ty, β', ρ', env', st', e', S', h'⟩ := h1 v1 H1 ρ1 a1 S1 r1
    exact ⟨ty, h' [] H1 ρ' .refl S' .nil⟩
/-! ### a call through a name -/
theorem s_callv {CX : CXT} {k i : Nat} {x : Str} {p : Pos} (F : ∀ f ds st, RP (q.C f ds st) (fun _ _ => True) (fun _ _ _ => True) → ∃ fd ps, FnOk X.prog X.w X.K X.mg X.base CX k (q.fa f) fd ps (spC X.K q q.C f ds.length) ∧ PySem.W.keepIn X.K (.ref (q.fa f)) = true ∧ Binds X.K fd ps [])
    (hr : Room k X.A) (hN : X.N[i]? = some x) (hv : Vis X.env.scope x) (hx : Passes CX X q.XE) (hdb : (x == ("__debug__" : Str)) = false) (hcd : (x == ("__classdict__" : Str)) = false)
    (ha : PA X (pe :: pes) (tWs X.K q es)) (he : starEach (pe :: pes) X.env = (false, eval pe X.env) :: starEach pes X.env) (hpl : (backTo pos (starEach pes X.env)).any (·.1) = false) : PE X (.Call (.Name x p) (pe :: pes) [] pos) (tW X.K q (.callv i es)) := by
  refine ⟨fun pins s σ H Q I h => ?_⟩
  obtain ⟨β, ρ, env, st, e, S, h⟩ := h
  simp only [ev] at h
  split at h
  · rename_i f hf
    obtain ⟨v0, h1, r0⟩ := e.get i _ hf
    cases r0
    cases hds : evs q.C q.G es env st with
    | ok ds st1 =>
      rw [hds] at h
      have h : RP (q.C f ds st1) _ _ := h
      obtain ⟨fd, ps, FF, hk, hb⟩ := F f ds st1 (h.imp (fun _ _ _ => trivial) fun _ _ _ _ => trivial)
      refine (pe_callL (i := i) (f := q.fa f) (dvs := []) (E := q.XE) FF hr hN hv hk hb .nil hx ha hdb hcd he hpl).run pins s σ H Q I ⟨h1, β, ρ, env, st, e, S, ?_⟩
      rw [hds]
      intro vs H1 ρ1 a1 S1 r1
      show spC X.K q q.C f ds.length (vs ++ []) H1 Q q.XE
      rw [List.append_nil]
      exact ⟨β, ρ1, st1, ds, S1, r1, rfl, h.aft a1⟩
    | bad =>
      rw [hds] at h
      exact h.elim
    | exn c d st1 =>
      rw [hds] at h
      exact h.elim
  · exact h.elim
end
end PL

set_option Elab.async false
set_option linter.all false
set_option maxRecDepth 100000
set_option maxHeartbeats 1000000
/-! Loops over what a value gives: enumerate and zip over lists, tuples, texts. -/
namespace PL
open PySem PySem.Spec PyProof.Rows L2
theorem meets_enum1 {v : Value} {o : PySem.Obj} {H : Heap → Prop} (B : Begins v o H) :
    Meets (Builtin.«enumerate.__new__» ⟨[.type "enumerate", v], []⟩) (fun _ R s => H s.heap ∧
      R (.ok (.ret (.ref (s.heap.push o).objs.size))) { s with heap := (s.heap.push o).push { cls := .type "enumerate", data := .fields #[.none, .bool false, .ref s.heap.objs.size, rawInt 0, .none, .none] } }) :=
  .of_wp fun prog w A R s h => by
    obtain ⟨hp, g, d, tk, os⟩ := s
    obtain ⟨h1, h⟩ := h
    have hsub := sub_enumerate
    have q1 : ∀ {A' : Around} {E : Value → Shared → Prop} {Q : Value → Shared → Prop}, Q (.ref hp.objs.size) ⟨hp.push o, g, d, tk, os⟩ → wpAny (model prog w) A' (pyIter v) Q E ⟨hp, g, d, tk, os⟩ :=
      fun q => B.iter prog w _ _ ⟨hp, g, d, tk, os⟩ _ h1 q
    wp_walk using q1
    refine wpAny_stack_any fun st => wpAny_pure ?_
    split
    · rename_i c _ _ _ _ _
      cases (c == Value.type "enumerate")
      · wp_walk using q1
        exact ⟨_, rfl, h⟩
      · wp_walk using q1
        exact ⟨_, rfl, h⟩
    · wp_walk using q1
      exact ⟨_, rfl, h⟩
section
variable {prog : Program} {w : World} {A : Around} {E : Value → Shared → Prop} {s : Shared}
theorem enum1_begins {v : Value} {o : PySem.Obj} {H : Heap → Prop} {Q : Value → Shared → Prop} (B : Begins v o H) (h1 : H s.heap)
    (h : ∀ h', IsEnum h' (s.heap.objs.size + 1) s.heap.objs.size 0 .none → h'.get? s.heap.objs.size = some o → h'.objs.size = s.heap.objs.size + 2 →
      (∀ b o, s.heap.get? b = some o → h'.get? b = some o) → Q (.ref (s.heap.objs.size + 1)) { s with heap := h' }) :
    wpAny (model prog w) A (PySem.call (.type "enumerate") [v]) Q E s := by
  refine callType_new F.called_enumerate (by decide) (F.typeCall_enumerate_1 _) (F.newCall_enumerate_1 _) (fun obj => F.args_object_init_2 obj _) F.entry_enumerate_new
    (meets_enum1 B) ⟨h1, ?_⟩
  have hz : (s.heap.push o).objs.size = s.heap.objs.size + 1 := Heap.size_push ..
  show _ ∧ _
  rw [hz]
  have he : IsEnum ((s.heap.push o).push { cls := .type "enumerate", data := .fields #[.none, .bool false, .ref s.heap.objs.size, rawInt 0, .none, .none] }) (s.heap.objs.size + 1) s.heap.objs.size 0 .none := by
    have := Heap.get?_push_size (s.heap.push o) (o := { cls := .type "enumerate", data := .fields #[.none, .bool false, .ref s.heap.objs.size, rawInt 0, .none, .none] }) rfl
    rw [hz] at this
    exact this
  exact ⟨⟨_, he, rfl⟩, h _ he (Heap.get?_push_of_some _ (Heap.get?_push_size _ B.free)) (by rw [Heap.size_push, hz]) fun b o x => Heap.get?_push_of_some _ (Heap.get?_push_of_some _ x)⟩
end
/-- what is walked: a list, a tuple, a text -/
inductive Sk where
  | l (a : Addr) | t (a : Addr) | s (x : Str) (k : Tok)
def Sk.val : Sk → Value
  | .l a => .ref a
  | .t a => .ref a
  | .s x k => .str x k
def Sk.obj : Sk → PySem.Obj
  | .l a => { cls := .type "list_iterator", data := .fields #[.ref a, .int 0 0] }
  | .t a => { cls := .type "tuple_iterator", data := .fields #[.ref a, .int 0 0] }
  | .s x k => { cls := .type (strIterType x), data := .fields #[.str x k, .int 0 0] }
def Sk.tn (k : Sk) (it : Addr) (i : Nat) (h : Heap) : Prop := match k with
  | .l a => h.IsListIter it a i
  | .t a => h.IsTupleIter it a i
  | .s x tk => h.IsStrIter it (strIterType x) x tk i
def Sk.ok (k : Sk) (K : PySem.W.Frag) (H : Hp) (xs : List V) : Prop := match k with
  | .l a => SqL K H a xs
  | .t a => SqT K H a xs
  | .s x _ => xs = x.cps.toList.map fun c => V.str ⟨#[c]⟩
def Sk.apart (k : Sk) (b : Addr) : Prop := ∀ a, k.val = .ref a → a ≠ b
theorem Sk.obj_at {k : Sk} {it : Addr} {i : Nat} {h : Heap} (st : k.tn it i h) : ∃ o, h.get? it = some o ∧ ∀ v, o.data ≠ .cell v := by
  cases k with
  | l a =>
    obtain ⟨o, e, c, d⟩ := st
    exact ⟨o, e, fun v z => by rw [d] at z; cases z⟩
  | t a =>
    obtain ⟨o, e, c, d⟩ := st
    exact ⟨o, e, fun v z => by rw [d] at z; cases z⟩
  | s x t =>
    obtain ⟨o, e, c, d⟩ := st
    exact ⟨o, e, fun v z => by rw [d] at z; cases z⟩
theorem Sk.keep {k : Sk} {it : Addr} {i : Nat} {h h' : Heap} (st : k.tn it i h) (hk : ∀ o, h.get? it = some o → h'.get? it = some o) : k.tn it i h' := by
  cases k with
  | l a =>
    obtain ⟨o, e, r⟩ := st
    exact ⟨o, hk o e, r⟩
  | t a =>
    obtain ⟨o, e, r⟩ := st
    exact ⟨o, hk o e, r⟩
  | s x t =>
    obtain ⟨o, e, r⟩ := st
    exact ⟨o, hk o e, r⟩
theorem Sk.start {k : Sk} {it : Addr} {h : Heap} (e : h.get? it = some k.obj) : k.tn it 0 h := by
  cases k <;> exact ⟨_, e, rfl, rfl⟩
section
variable {X : Cx} {pins : List (Addr × PySem.Obj)} {s : Shared} {σ : L2.St} {H : Hp}
theorem Sk.inj {k : Sk} {xs ys : List V} (I : Inv X pins σ H s) (h : k.ok X.K H xs) (h' : k.ok X.K H ys) : xs = ys := by
  cases k with
  | l a => exact I.list_inj h h'
  | t a => exact I.tuple_inj h h'
  | s x t => exact h.trans (Eq.symm h')
theorem Sk.begins {k : Sk} {xs : List V} (I : Inv X pins σ H s) (h : k.ok X.K H xs) : ∃ Hb, Begins k.val k.obj Hb ∧ Hb s.heap := by
  cases k with
  | l a =>
    obtain ⟨its, rv, p, hz⟩ := I.list h
    exact ⟨_, begins_list a its.toArray, p.isList⟩
  | t a =>
    obtain ⟨its, rv, p, hz⟩ := I.tuple h
    exact ⟨_, begins_tuple a its.toArray, p⟩
  | s x t => exact ⟨_, begins_text x t, trivial⟩
theorem Sk.lt {k : Sk} {xs : List V} (I : Inv X pins σ H s) (h : k.ok X.K H xs) {a : Addr} (e : k.val = .ref a) : a < s.heap.objs.size := by
  cases k with
  | l b =>
    cases e
    obtain ⟨its, rv, p, hz⟩ := I.list h
    exact p.lt
  | t b =>
    cases e
    obtain ⟨its, rv, ⟨o, e, _⟩, hz⟩ := I.tuple h
    exact Heap.lt_size e
  | s x t => cases e
theorem Sk.draws {A : Around} {k : Sk} {it : Addr} {i : Nat} {xs : List V} (hh : A.handled = none) (I : Inv X pins σ H s) (h : k.ok X.K H xs) (st : k.tn it i s.heap) (ap : k.apart it) :
    ∃ (fp : List Addr) (St : Nat → Heap → Prop) (Pv : Nat → Value → Prop), Draws X.prog X.w A it fp xs.length Pv St ∧ St i s.heap ∧ (∀ j h, St j h → k.tn it j h) ∧ (∀ j v, Pv j v → ∃ y, xs[j]? = some y ∧ RelV y v) ∧ it ∈ fp ∧ ∀ b ∈ fp, b = it ∨ k.val = .ref b := by
  cases k with
  | l a =>
    obtain ⟨its, rv, p, hz⟩ := I.list h
    have D := Draws.list (prog := X.prog) (w := X.w) hh it a (ap a rfl) its.toArray
    have el : its.toArray.size = xs.length := by rw [rv.length]; simp
    rw [el] at D
    refine ⟨_, _, _, D, ⟨st, p.isList⟩, fun j h z => z.1, fun j v z => ?_, by simp, fun b hb => ?_⟩
    · have z : its[j]? = some v := by simpa using z
      have hj : j < xs.length := by rw [rv.length]; exact (List.getElem?_eq_some_iff.mp z).1
      obtain ⟨u, hu, ru⟩ := rv.get (List.getElem?_eq_getElem hj)
      rw [z] at hu
      cases hu
      exact ⟨_, List.getElem?_eq_getElem hj, ru⟩
    · have e : b = it ∨ b = a := by simpa using hb
      rcases e with e | e
      · exact .inl e
      · exact .inr (by rw [e]; rfl)
  | t a =>
    obtain ⟨its, rv, p, hz⟩ := I.tuple h
    have D := Draws.tuple (prog := X.prog) (w := X.w) hh it a (ap a rfl) its.toArray
    have el : its.toArray.size = xs.length := by rw [rv.length]; simp
    rw [el] at D
    refine ⟨_, _, _, D, ⟨st, p⟩, fun j h z => z.1, fun j v z => ?_, by simp, fun b hb => ?_⟩
    · have z : its[j]? = some v := by simpa using z
      have hj : j < xs.length := by rw [rv.length]; exact (List.getElem?_eq_some_iff.mp z).1
      obtain ⟨u, hu, ru⟩ := rv.get (List.getElem?_eq_getElem hj)
      rw [z] at hu
      cases hu
      exact ⟨_, List.getElem?_eq_getElem hj, ru⟩
    · have e : b = it ∨ b = a := by simpa using hb
      rcases e with e | e
      · exact .inl e
      · exact .inr (by rw [e]; rfl)
  | s x t =>
    subst h
    have D := Draws.text (prog := X.prog) (w := X.w) hh it x t
    have hl : x.cps.size = (x.cps.toList.map fun c => V.str ⟨#[c]⟩).length := by simp
    rw [hl] at D
    refine ⟨_, _, _, D, st, fun j h z => z, fun j v z => ?_, by simp, fun b hb => ?_⟩
    · obtain ⟨c, u, hc, rfl⟩ := z
      have hc' : x.cps.toList[j]? = some c := by simpa using hc
      exact ⟨V.str ⟨#[c]⟩, by rw [List.getElem?_map, hc']; rfl, ⟨u, rfl⟩⟩
    · left
      simpa using hb
end

/-! ### enumerate -/
def IteG (K : PySem.W.Frag) (k : Sk) : L2.It :=
  ⟨fun i H => ∃ (xs : List V) (x : V), k.ok K H xs ∧ xs[i]? = some x, fun i H v H' => ∃ T x, v = .ref T ∧ H T = none ∧ H' = upd H T (.tup [.int (i : Nat), x]) ∧ ∀ xs, k.ok K H xs → xs[i]? = some x, fun i H => ∃ xs : List V, k.ok K H xs ∧ i = xs.length⟩
theorem turn_enumG {P : Program} {w : World} {K : PySem.W.Frag} {elts : List Expr} {kk : Nat} {tpos : Pos} (k : Sk) (e it : Addr) :
    Turn P w K (.Tuple elts kk tpos) (IteG K k) [e, it] e (fun i h => (∃ old, IsEnum h e it ((i : Nat) : Int) old) ∧ k.tn it i h ∧ e ≠ it ∧ k.apart it ∧ k.apart e) where
  mem := by simp
  obj := fun i h st b hb => by
    obtain ⟨⟨old, he⟩, hi, _⟩ := st
    have e' : b = e ∨ b = it := by simpa using hb
    rcases e' with z | z
    · rw [z]; exact ⟨_, he, fun v q => nomatch q⟩
    · rw [z]; exact Sk.obj_at hi
  keep := fun i h h' st kp => let ⟨⟨old, he⟩, hi, hne⟩ := st; ⟨⟨old, kp e (by simp) _ he⟩, Sk.keep hi fun o q => kp it (by simp) o q, hne⟩
  item := by
    intro X hP hw hK hc i pins s σ H E I hf st hg
    subst hP hw hK
    obtain ⟨⟨old, he⟩, hit, hne, ap1, ap2⟩ := st
    obtain ⟨xs, x, hq, hx⟩ := hg
    obtain ⟨fp, St, Pv, D, hst, hSt, hPv, hm, hfp⟩ := Sk.draws (A := X.A.in1) (show X.A.in1.handled = none from I.ok.hd hc) I hq hit ap1
    have hef : e ∉ fp := fun z => (hfp e z).elim (fun q => hne q) fun q => ap2 e q rfl
    have hel : e < s.heap.objs.size := Heap.lt_size he
    obtain ⟨oi, ei, _⟩ := Sk.obj_at hit
    have hil : it < s.heap.objs.size := Heap.lt_size ei
    have hlt : i < xs.length := (List.getElem?_eq_some_iff.mp hx).1
    refine wpAny_pyNext_enum_itemD D he hst hlt hne hef fun u h' tk hP ho hit' hT hsz hk => ?_
    obtain ⟨y, hy, ry⟩ := hPv _ _ hP
    rw [hx] at hy
    cases hy
    refine ⟨_, rfl, wpAny_letOwnedTupleGo_enum (s := { s with heap := h', toks := tk + 1 }) ho fun h'' he' sb => ?_⟩
    have hT2 : h''.get? s.heap.objs.size = some { cls := .type "tuple", data := .seq #[.int i tk, u] } := (sb.2 _ (Nat.ne_of_gt hel)).trans hT
    have new : ObjOk X.prog X.w (upd H s.heap.objs.size (.tup [.int (i : Nat), x])) h'' s.heap.objs.size (.tup [.int (i : Nat), x]) :=
      ⟨by show 2 ≤ sizeLine; decide, [.int i tk, u], .cons ⟨_, rfl⟩ (.cons ry .nil), ⟨_, hT2, rfl, _, rfl⟩⟩
    have I1 : Inv X pins σ (upd H s.heap.objs.size (.tup [.int (i : Nat), x])) { s with heap := h'', toks := tk + 1 } :=
      I.turnedNew (ch := [e, it]) (fun b ob hb q => (sb.2 b (fun z => hb (by simp [z]))).trans (hk b ob (fun z => hb (by simp [z])) (fun z => hb (by simp [z])) q)) hf (Nat.le_refl _) new
    refine ⟨.ref s.heap.objs.size, _, I1, rfl, ⟨_, x, rfl, I.hok.fresh (Nat.le_refl _), rfl, fun ys hy => by rw [Sk.inj I hy hq]; exact hx⟩, ⟨⟨u, ?_⟩, Sk.keep (hSt _ _ hit') fun o q => (sb.2 it (Ne.symm hne)).trans q, hne, ap1, ap2⟩, fun b hb => ?_⟩
    · have e1 : ((i + 1 : Nat) : Int) = (i : Int) + 1 := by omega
      rw [e1]; exact he'
    · have hb' : b < s.heap.objs.size := by
        have e' : b = e ∨ b = it := by simpa using hb
        rcases e' with z | z
        · rw [z]; exact hel
        · rw [z]; exact hil
      rw [upd_ne (Nat.ne_of_lt hb')]
      exact (hf b hb).1
  done := by
    intro X hP hw hK hc i pins s σ H E I hf st hg
    subst hP hw hK
    obtain ⟨⟨old, he⟩, hit, hne, ap1, ap2⟩ := st
    obtain ⟨xs, hq, hx⟩ := hg
    subst hx
    obtain ⟨fp, St, Pv, D, hst, hSt, hPv, hm, hfp⟩ := Sk.draws (A := X.A.in1) (show X.A.in1.handled = none from I.ok.hd hc) I hq hit ap1
    obtain ⟨f0, f1, f2, f3, f4, f5⟩ := hf it (by simp)
    exact wpAny_pyNext_enum_endD D he hst fun h' eb => ⟨rfl, I.turned (t' := s.toks) (fun b o hb q => eb b o hb q) f0 f1 f3 f4 f5⟩
  self := fun A i s Q E st h => let ⟨⟨_, he⟩, _⟩ := st; wpAny_pyIter_enum he h
/-- a value that can be walked -/
def iEnumG (K : PySem.W.Frag) (ta : TA) : TI := fun σ H R => ta σ H fun vs H1 => ∃ x, vs = [x] ∧ ∀ u, RelV x u → ∃ k : Sk, k.val = u ∧ (∃ xs, k.ok K H1 xs) ∧ R (IteG K k) H1
theorem pi_enumG {X : Cx} {e : Expr} {ta : TA} {p pos tpos : Pos} {elts : List Expr} {kk : Nat} (hg : Gl X "enumerate") (hm : X.mg "enumerate" = none) (ha : PA X [e] ta) (hs : starEach [e] X.env = (false, eval e X.env) :: starEach [] X.env) :
    PI X (.Tuple elts kk tpos) (.Call (.Name "enumerate" p) [e] [] pos) (iEnumG X.K ta) := by
  refine ⟨fun pins s σ H R I h => ?_⟩
  refine Call_ (ld_blt I hg hm boot_enumerate (PyProof.Rows.callWith_type1 (thn (ha.run pos pins s σ H _ I h) fun us s1 ⟨vs, H1, I1, r1, q1⟩ => ?_) hs rfl))
  obtain ⟨x, ex, hq⟩ := q1
  subst ex
  cases r1 with
  | cons r rr =>
    cases rr
    obtain ⟨k, rfl, ⟨xs, hx⟩, q⟩ := hq _ r
    obtain ⟨Hb, B, hb⟩ := Sk.begins I1 hx
    refine enum1_begins B hb fun h' he ho hsz hk => wpAny_pyIter_enum he ?_
    have I2 : Inv X pins σ H1 { s1 with heap := h' } := I1.kept (t' := s1.toks) hk
    refine ⟨s1.heap.objs.size + 1, [s1.heap.objs.size + 1, s1.heap.objs.size], _, _, H1, rfl, I2, turn_enumG k (s1.heap.objs.size + 1) s1.heap.objs.size, ⟨⟨.none, he⟩, Sk.start ho, Nat.succ_ne_self _, fun a e z => ?_, fun a e z => ?_⟩, fun b hb => ?_, q⟩
    · have := Sk.lt I1 hx e
      rw [z] at this
      exact Nat.lt_irrefl _ this
    · have := Sk.lt I1 hx e
      rw [z] at this
      exact Nat.lt_irrefl _ (Nat.lt_of_succ_lt this)
    · have e' : b = s1.heap.objs.size + 1 ∨ b = s1.heap.objs.size := by simpa using hb
      have hle : s1.heap.objs.size ≤ b := by
        rcases e' with z | z
        · rw [z]; exact Nat.le_add_right _ _
        · rw [z]; exact Nat.le_refl _
      exact I1.fpOk hle (I1.hok.fresh hle)

/-! ### zip -/
def ItzG (K : PySem.W.Frag) (k1 k2 : Sk) : L2.It :=
  ⟨fun i H => ∃ (xs ys : List V) (x y : V), k1.ok K H xs ∧ k2.ok K H ys ∧ xs[i]? = some x ∧ ys[i]? = some y,
    fun i H v H' => ∃ T x y, v = .ref T ∧ H T = none ∧ H' = upd H T (.tup [x, y]) ∧ (∀ xs, k1.ok K H xs → xs[i]? = some x) ∧ ∀ ys, k2.ok K H ys → ys[i]? = some y,
    fun i H => ∃ xs ys : List V, k1.ok K H xs ∧ k2.ok K H ys ∧ i ≤ xs.length ∧ i ≤ ys.length ∧ (i = xs.length ∨ i = ys.length)⟩
theorem Sk.sep {k1 k2 : Sk} {z TI TO i1 i2 : Addr} {fp1 fp2 : List Addr} (h : TI ≠ z ∧ TO ≠ z ∧ TI ≠ TO ∧ TI ≠ i1 ∧ TI ≠ i2 ∧ z ≠ i1 ∧ z ≠ i2 ∧ TO ≠ i1 ∧ TO ≠ i2 ∧ i1 ≠ i2)
    (a1 : ∀ b ∈ [z, TI, TO, i1, i2], k1.apart b) (a2 : ∀ b ∈ [z, TI, TO, i1, i2], k2.apart b) (m1 : i1 ∈ fp1) (m2 : i2 ∈ fp2) (f1 : ∀ b ∈ fp1, b = i1 ∨ k1.val = .ref b) (f2 : ∀ b ∈ fp2, b = i2 ∨ k2.val = .ref b) : ZipSep2 z TI TO i1 i2 fp1 fp2 := by
  obtain ⟨h1, h2, h3, h4, h5, h6, h7, h8, h9, h10⟩ := h
  have o1 : ∀ b ∈ [z, TI, TO, i1, i2], b ≠ i1 → b ∉ fp1 := fun b hb hne z => (f1 b z).elim hne fun q => a1 b hb b q rfl
  have o2 : ∀ b ∈ [z, TI, TO, i1, i2], b ≠ i2 → b ∉ fp2 := fun b hb hne z => (f2 b z).elim hne fun q => a2 b hb b q rfl
  exact ⟨h1, h2, h3, h4, m1, o1 z (by simp) h6, o1 TO (by simp) h8, h5, m2, o2 z (by simp) h7, o2 TO (by simp) h9, o2 i1 (by simp) h10, o1 i2 (by simp) (Ne.symm h10)⟩
theorem turn_zipG {P : Program} {w : World} {K : PySem.W.Frag} {elts : List Expr} {kk : Nat} {tpos : Pos} {k1 k2 : Sk} {z TI TO i1 i2 : Addr} (hd : TI ≠ z ∧ TO ≠ z ∧ TI ≠ TO ∧ TI ≠ i1 ∧ TI ≠ i2 ∧ z ≠ i1 ∧ z ≠ i2 ∧ TO ≠ i1 ∧ TO ≠ i2 ∧ i1 ≠ i2)
    (ap1 : ∀ b ∈ [z, TI, TO, i1, i2], k1.apart b) (ap2 : ∀ b ∈ [z, TI, TO, i1, i2], k2.apart b) :
    Turn P w K (.Tuple elts kk tpos) (ItzG K k1 k2) [z, TI, TO, i1, i2] z (fun i h => IsZip h z TI TO .none ∧ IsTupOf2 h TI (.ref i1) (.ref i2) ∧ (∃ x y, IsTupOf2 h TO x y) ∧ k1.tn i1 i h ∧ k2.tn i2 i h) where
  mem := by simp
  obj := fun i h st c hc => by
    obtain ⟨hz, hTI, ⟨x, y, hTO⟩, h1, h2⟩ := st
    have e' : c = z ∨ c = TI ∨ c = TO ∨ c = i1 ∨ c = i2 := by simpa using hc
    rcases e' with q | q | q | q | q
    · rw [q]; exact ⟨_, hz, fun v q => nomatch q⟩
    · rw [q]; exact ⟨_, hTI, fun v q => nomatch q⟩
    · rw [q]; exact ⟨_, hTO, fun v q => nomatch q⟩
    · rw [q]; exact Sk.obj_at h1
    · rw [q]; exact Sk.obj_at h2
  keep := fun i h h' st k => by
    obtain ⟨hz, hTI, ⟨x, y, hTO⟩, h1, h2⟩ := st
    exact ⟨k z (by simp) _ hz, k TI (by simp) _ hTI, ⟨x, y, k TO (by simp) _ hTO⟩, Sk.keep h1 fun o q => k i1 (by simp) o q, Sk.keep h2 fun o q => k i2 (by simp) o q⟩
  item := by
    intro X hP hw hK hc i pins s σ H E I hf st hg
    subst hP hw hK
    obtain ⟨hz, hTI, ⟨x0, y0, hTO⟩, h1, h2⟩ := st
    obtain ⟨xs, ys, x, y, hqx, hqy, hx, hy⟩ := hg
    obtain ⟨fp1, St1, P1, D1, st1, hS1, hP1, m1, f1⟩ := Sk.draws (A := X.A.in1) (show X.A.in1.handled = none from I.ok.hd hc) I hqx h1 (ap1 i1 (by simp))
    obtain ⟨fp2, St2, P2, D2, st2, hS2, hP2, m2, f2⟩ := Sk.draws (A := X.A.in1) (show X.A.in1.handled = none from I.ok.hd hc) I hqy h2 (ap2 i2 (by simp))
    have S := Sk.sep hd ap1 ap2 m1 m2 f1 f2
    have hzl : z < s.heap.objs.size := Heap.lt_size hz
    refine wpAny_pyNext_zipD2_item S D1 D2 hz hTI hTO st1 st2 (List.getElem?_eq_some_iff.mp hx).1 (List.getElem?_eq_some_iff.mp hy).1 fun u u2 h' tk q1 q2 z' TO' t1' t2' hT hsz hk => ?_
    obtain ⟨x', ex, ru⟩ := hP1 _ _ q1
    rw [hx] at ex
    cases ex
    obtain ⟨y', ey, ru2⟩ := hP2 _ _ q2
    rw [hy] at ey
    cases ey
    refine ⟨_, rfl, wpAny_letOwnedTupleGo_zip (s := { s with heap := h', toks := tk }) z' fun h'' z'' sb => ?_⟩
    have hT2 : h''.get? s.heap.objs.size = some { cls := .type "tuple", data := .seq #[u, u2] } := (sb.2 _ (Nat.ne_of_gt hzl)).trans hT
    have new : ObjOk X.prog X.w (upd H s.heap.objs.size (.tup [x, y])) h'' s.heap.objs.size (.tup [x, y]) :=
      ⟨by show 2 ≤ sizeLine; decide, [u, u2], .cons ru (.cons ru2 .nil), ⟨_, hT2, rfl, _, rfl⟩⟩
    have I1 : Inv X pins σ (upd H s.heap.objs.size (.tup [x, y])) { s with heap := h'', toks := tk } :=
      I.turnedNew (t' := tk) (ch := [z, TI, TO, i1, i2]) (fun c o hb q => (sb.2 c (fun q' => hb (by simp [q']))).trans (hk c o (fun q' => hb (by simp [q'])) (fun q' => hb (by simp [q'])) (fun q' => hb (by simp [q'])) (fun q' => hb (by simp [q'])) q)) hf (Nat.le_refl _) new
    refine ⟨.ref s.heap.objs.size, _, I1, rfl, ⟨_, x, y, rfl, I.hok.fresh (Nat.le_refl _), rfl, fun l hl => by rw [Sk.inj I hl hqx]; exact hx, fun l hl => by rw [Sk.inj I hl hqy]; exact hy⟩, ⟨z'', ?_, ⟨u, u2, ?_⟩, ?_, ?_⟩, fun c hcm => ?_⟩
    · exact (sb.2 _ S.TIz).trans (hk _ _ S.TIz S.TITO S.TIi1 S.TIi2 hTI)
    · exact (sb.2 _ S.TOz).trans TO'
    · exact Sk.keep (hS1 _ _ t1') fun o q => (sb.2 _ (Ne.symm S.zi1)).trans q
    · exact Sk.keep (hS2 _ _ t2') fun o q => (sb.2 _ (Ne.symm S.zi2)).trans q
    · have hlt : c < s.heap.objs.size := by
        have e' : c = z ∨ c = TI ∨ c = TO ∨ c = i1 ∨ c = i2 := by simpa using hcm
        rcases e' with q | q | q | q | q
        · rw [q]; exact hzl
        · rw [q]; exact Heap.lt_size hTI
        · rw [q]; exact Heap.lt_size hTO
        · rw [q]; obtain ⟨_, e1, _⟩ := Sk.obj_at h1; exact Heap.lt_size e1
        · rw [q]; obtain ⟨_, e2, _⟩ := Sk.obj_at h2; exact Heap.lt_size e2
      rw [upd_ne (Nat.ne_of_lt hlt)]
      exact (hf c hcm).1
  done := by
    intro X hP hw hK hc i pins s σ H E I hf st hg
    subst hP hw hK
    obtain ⟨hz, hTI, ⟨x0, y0, hTO⟩, h1, h2⟩ := st
    obtain ⟨xs, ys, hqx, hqy, l1, l2, hend⟩ := hg
    obtain ⟨fp1, St1, P1, D1, st1, hS1, hP1, m1, f1⟩ := Sk.draws (A := X.A.in1) (show X.A.in1.handled = none from I.ok.hd hc) I hqx h1 (ap1 i1 (by simp))
    obtain ⟨fp2, St2, P2, D2, st2, hS2, hP2, m2, f2⟩ := Sk.draws (A := X.A.in1) (show X.A.in1.handled = none from I.ok.hd hc) I hqy h2 (ap2 i2 (by simp))
    have S := Sk.sep hd ap1 ap2 m1 m2 f1 f2
    exact wpAny_pyNext_zipD2_end S D1 D2 hz hTI hTO st1 st2 l1 l2 hend fun h' tk hk => ⟨rfl, I.turnedL (t' := tk) (ch := [z, TI, TO, i1, i2]) (fun c o hb q =>
      hk c o (fun q' => hb (by simp [q'])) (fun q' => hb (by simp [q'])) (fun q' => hb (by simp [q'])) (fun q' => hb (by simp [q'])) q) hf⟩
  self := fun A i s Q E st h => wpAny_pyIter_zip st.1 h
def iZipG (K : PySem.W.Frag) (ta : TA) : TI := fun σ H R => ta σ H fun vs H1 => ∃ x y, vs = [x, y] ∧ ∀ u w, RelV x u → RelV y w → ∃ k1 k2 : Sk, k1.val = u ∧ k2.val = w ∧ (∃ xs, k1.ok K H1 xs) ∧ (∃ ys, k2.ok K H1 ys) ∧ R (ItzG K k1 k2) H1
theorem pi_zipG {X : Cx} {e e2 : Expr} {ta : TA} {p pos tpos : Pos} {elts : List Expr} {kk : Nat} (hg : Gl X "zip") (hm : X.mg "zip" = none) (ha : PA X [e, e2] ta)
    (hs : starEach [e, e2] X.env = (false, eval e X.env) :: starEach [e2] X.env) (hpl : (backTo pos (starEach [e2] X.env)).any (·.1) = false) :
    PI X (.Tuple elts kk tpos) (.Call (.Name "zip" p) [e, e2] [] pos) (iZipG X.K ta) := by
  refine ⟨fun pins s σ H R I h => ?_⟩
  refine Call_ (ld_blt I hg hm PyProof.Rows.boot_zip (PyProof.Rows.callWith_type1 (thn (ha.run pos pins s σ H _ I h) fun us s1 ⟨vs, H1, I1, r1, q1⟩ => ?_) hs hpl))
  obtain ⟨x, y, ex, hq⟩ := q1
  subst ex
  cases r1 with
  | cons r rr =>
    cases rr with
    | cons r' rr =>
      cases rr
      obtain ⟨k1, k2, rfl, rfl, ⟨xs, hx⟩, ⟨ys, hy⟩, q⟩ := hq _ _ r r'
      obtain ⟨Hb1, B1, hb1⟩ := Sk.begins I1 hx
      obtain ⟨Hb2, B2, hb2⟩ := Sk.begins I1 hy
      refine zip_begins2 B1 B2 hb1 hb2 fun h' hz hTI hTO h1 h2 hsz hk => wpAny_pyIter_zip hz ?_
      have I2 : Inv X pins σ H1 { s1 with heap := h' } := I1.kept (t' := s1.toks) hk
      have hle : ∀ c ∈ [s1.heap.objs.size + 4, s1.heap.objs.size + 2, s1.heap.objs.size + 3, s1.heap.objs.size, s1.heap.objs.size + 1], s1.heap.objs.size ≤ c := fun c hcm => by
        have e' : c = s1.heap.objs.size + 4 ∨ c = s1.heap.objs.size + 2 ∨ c = s1.heap.objs.size + 3 ∨ c = s1.heap.objs.size ∨ c = s1.heap.objs.size + 1 := by simpa using hcm
        rcases e' with z | z | z | z | z
        · rw [z]; exact Nat.le_add_right _ _
        · rw [z]; exact Nat.le_add_right _ _
        · rw [z]; exact Nat.le_add_right _ _
        · rw [z]; exact Nat.le_refl _
        · rw [z]; exact Nat.le_add_right _ _
      have nq : ∀ i j : Nat, i ≠ j → s1.heap.objs.size + i ≠ s1.heap.objs.size + j := fun i j h z => h (Nat.add_left_cancel z)
      have n0 : ∀ i : Nat, i ≠ 0 → s1.heap.objs.size + i ≠ s1.heap.objs.size := fun i h z => h (Nat.add_left_cancel (k := 0) z)
      refine ⟨s1.heap.objs.size + 4, [s1.heap.objs.size + 4, s1.heap.objs.size + 2, s1.heap.objs.size + 3, s1.heap.objs.size, s1.heap.objs.size + 1], _, _, H1, rfl, I2,
        turn_zipG (k1 := k1) (k2 := k2) ⟨nq 2 4 (by decide), nq 3 4 (by decide), nq 2 3 (by decide), n0 2 (by decide), nq 2 1 (by decide), n0 4 (by decide), nq 4 1 (by decide), n0 3 (by decide), nq 3 1 (by decide), Ne.symm (n0 1 (by decide))⟩
          (fun b hb a e z => ?_) (fun b hb a e z => ?_), ⟨hz, hTI, ⟨_, _, hTO⟩, Sk.start h1, Sk.start h2⟩, fun c hcm => I1.fpOk (hle c hcm) (I1.hok.fresh (hle c hcm)), q⟩
      · exact Nat.not_lt.mpr (hle b hb) (z ▸ Sk.lt I1 hx e)
      · exact Nat.not_lt.mpr (hle b hb) (z ▸ Sk.lt I1 hy e)
end PL

set_option Elab.async false
set_option linter.all false
set_option maxRecDepth 100000
set_option maxHeartbeats 1000000
/-! What a loop is fed; targets. -/
namespace PL
open PySem PySem.Spec PyProof.Rows L2
theorem R.bind_ok {α β : Type} {r : R α} {f : α → Sto → R β} {b : β} {s : Sto} (h : r.bind f = .ok b s) : ∃ a s1, r = .ok a s1 ∧ f a s1 = .ok b s := by
  cases r with
  | ok a s1 => exact ⟨a, s1, rfl, h⟩
  | exn c d s1 => cases h
  | bad => cases h
theorem oD_ok {α : Type} {o : Option α} {st s : Sto} {a : α} (h : oD o st = .ok a s) : o = some a ∧ s = st := by
  cases o with
  | none => cases h
  | some b =>
    cases h
    exact ⟨rfl, rfl⟩
theorem RP.eq {α : Type} {r : R α} {P : α → Sto → Prop} {X : Nat → D → Sto → Prop} (h : RP r P X) : RP r (fun a s => r = .ok a s ∧ P a s) X := by
  cases r with
  | ok a s => exact ⟨rfl, h⟩
  | exn c d s => exact h
  | bad => exact h

/-! ### locks -/
def tag (o : Obj) : List D × Bool := (o.its, o.isFz)
def Sim (st st' : Sto) : Prop := st.map tag = st'.map tag
section
variable {K : PySem.W.Frag} {fa : Nat → Addr} {H H1 H2 : Hp} {β ρ ρ1 ρ2 : List Addr} {st s1 s2 : Sto} {n : Nat}
theorem Sim.refl : Sim st st := rfl
theorem Sim.symm (h : Sim st s1) : Sim s1 st := Eq.symm h
theorem Sim.trans (h : Sim st s1) (g : Sim s1 s2) : Sim st s2 := Eq.trans h g
theorem Sim.len (h : Sim st s1) : st.length = s1.length := by
  have := congrArg List.length h
  simpa using this
theorem Sim.get (h : Sim st s1) {i : Nat} {o : Obj} (e : s1[i]? = some o) : ∃ o', st[i]? = some o' ∧ o'.its = o.its ∧ o'.isFz = o.isFz := by
  have q : (st.map tag)[i]? = (s1.map tag)[i]? := by rw [show st.map tag = s1.map tag from h]
  rw [List.getElem?_map, List.getElem?_map, e] at q
  obtain ⟨o', e', q'⟩ := Option.map_eq_some_iff.mp q
  exact ⟨o', e', congrArg Prod.fst q', congrArg Prod.snd q'⟩
theorem Sim.mu (h : Sim st s1) : Mu ρ st = Mu ρ s1 := by
  funext a
  apply propext
  constructor
  · rintro ⟨i, o, h1, h2, h3⟩
    obtain ⟨o', e, _, q⟩ := h.symm.get h2
    exact ⟨i, o', h1, e, by rw [q]; exact h3⟩
  · rintro ⟨i, o, h1, h2, h3⟩
    obtain ⟨o', e, _, q⟩ := h.get h2
    exact ⟨i, o', h1, e, by rw [q]; exact h3⟩
theorem RS.sim (S : RS K fa β ρ st H) (h : Sim st s1) : RS K fa β ρ s1 H := by
  refine ⟨S.nd, by rw [← h.len]; exact S.len, fun i o e => ?_, S.busy⟩
  obtain ⟨o', e', q, _⟩ := h.get e
  obtain ⟨a, vs, h1, h2, h3⟩ := S.obj i o' e'
  refine ⟨a, vs, h1, h2, ?_⟩
  rw [← h.mu, ← q]
  exact h3
theorem RE.sim {env : PL.Env} {σ : L2.St} (e : RE K fa β ρ env st σ H) (h : Sim st s1) : RE K fa β ρ env s1 σ H := by
  refine ⟨e.len, fun i d q => ?_⟩
  obtain ⟨v, h1, r⟩ := e.get i d q
  refine ⟨v, h1, ?_⟩
  rw [← h.mu, ← h.len]
  exact r
theorem RD.sim {d : D} {v : V} (r : RD K fa H (Mu ρ st) β ρ st.length d v) (h : Sim st s1) : RD K fa H (Mu ρ s1) β ρ s1.length d v := by
  rw [← h.mu, ← h.len]
  exact r
theorem tag_lockO (o : Obj) : tag (lockO o) = tag o := by cases o <;> rfl
theorem tag_unlockO (o : Obj) : tag (unlockO o) = tag o := by cases o <;> rfl
theorem sim_mod {f : Obj → Obj} (hf : ∀ o, tag (f o) = tag o) (i : Nat) : Sim st (st.modify i f) := by
  unfold Sim
  apply List.ext_getElem?
  intro j
  rw [List.getElem?_map, List.getElem?_map, List.getElem?_modify]
  cases st[j]? with
  | none => rfl
  | some o =>
    by_cases hj : i = j
    · simp [hj, hf]
    · simp [hj]
theorem sim_lock : ∀ {ids : List Nat} {st : Sto}, Sim st (lock st ids)
  | [], _ => rfl
  | i :: r, st => (sim_mod tag_lockO i).trans sim_lock
theorem sim_unlock : ∀ {ids : List Nat} {st : Sto}, Sim st (unlock st ids)
  | [], _ => rfl
  | i :: r, st => (sim_mod tag_unlockO i).trans sim_unlock
theorem lock_lck : ∀ {ids : List Nat} {st : Sto} {i : Nat} {ds : List D}, st[i]? = some (.lck ds) → (lock st ids)[i]? = some (.lck ds)
  | [], _, _, _, h => h
  | j :: r, st, i, ds, h => lock_lck (ids := r) (st := st.modify j lockO) (by
      rw [List.getElem?_modify, h]
      by_cases hj : j = i
      · simp [hj, lockO]
      · simp [hj])
theorem lock_at : ∀ {ids : List Nat} {st : Sto} {i : Nat} {ds : List D}, i ∈ ids → st[i]? = some (.lst ds) → (lock st ids)[i]? = some (.lck ds)
  | j :: r, st, i, ds, hm, h => by
    by_cases hj : j = i
    · refine lock_lck (ids := r) (st := st.modify j lockO) ?_
      rw [List.getElem?_modify, h]
      simp [hj, lockO]
    · refine lock_at (ids := r) (st := st.modify j lockO) ?_ ?_
      · rcases List.mem_cons.mp hm with e | e
        · exact absurd e.symm hj
        · exact e
      · rw [List.getElem?_modify, h]
        simp [hj]
theorem lock_lst : ∀ {ids : List Nat} {st : Sto} {i : Nat} {ds : List D}, (lock st ids)[i]? = some (.lst ds) → st[i]? = some (.lst ds)
  | [], _, _, _, h => h
  | j :: r, st, i, ds, h => by
    have q := lock_lst (ids := r) h
    rw [List.getElem?_modify] at q
    cases ho : st[i]? with
    | none => rw [ho] at q; cases q
    | some o =>
      rw [ho] at q
      by_cases hj : j = i
      · simp [hj] at q
        cases o <;> simp [lockO] at q
      · simpa [hj] using q
theorem lock_app : ∀ {a b : List Nat} {st : Sto}, lock st (a ++ b) = lock (lock st a) b
  | [], _, _ => rfl
  | i :: r, b, st => lock_app (a := r)
theorem unlock_ne : ∀ {ids : List Nat} {st : Sto} {i : Nat}, i ∉ ids → (unlock st ids)[i]? = st[i]?
  | [], _, _, _ => rfl
  | j :: r, st, i, h => by
    have h1 : j ≠ i := fun e => h (by simp [e])
    have h2 : i ∉ r := fun e => h (List.mem_cons_of_mem _ e)
    show (unlock (st.modify j unlockO) r)[i]? = _
    rw [unlock_ne h2, List.getElem?_modify]
    simp [h1]
/-- lists that a loop may lock -/
def Can (st : Sto) (ids : List Nat) : Prop := ∀ i ∈ ids, ∃ ds, st[i]? = some (.lst ds)
theorem stp_lock {ids : List Nat} : Stp ρ st H ρ (lock st ids) H :=
  ⟨⟨[], by simp⟩, Nat.le_of_eq (sim_lock (ids := ids)).len, fun a o h m => ⟨h, by rw [← (sim_lock (ids := ids) (st := st)).mu]; exact m⟩, fun i ds h => lock_lck h⟩
theorem stp_unlock {ids : List Nat} (c : Can st ids) (a : Stp ρ (lock st ids) H ρ1 s1 H1) : Stp ρ st H ρ1 (unlock s1 ids) H1 := by
  refine ⟨a.pre, ?_, fun p o h m => ?_, fun i ds h => ?_⟩
  · rw [(sim_lock (ids := ids) (st := st)).len, ← (sim_unlock (ids := ids) (st := s1)).len]
    exact a.le
  · rw [(sim_lock (ids := ids) (st := st)).mu] at m
    rw [← (sim_unlock (ids := ids) (st := s1)).mu]
    exact a.keep p o h m
  · have hi : i ∉ ids := fun q => by
      obtain ⟨es, e⟩ := c i q
      rw [h] at e
      cases e
    rw [unlock_ne hi]
    exact a.lck i ds (lock_lck h)

/-! ### what is walked -/
def BetaOk (β β' : List Addr) (H : Hp) : Prop := ∀ b ∈ β', b ∈ β ∨ H b = none
/-- the same, but for what is busy -/
structure StpB (β ρ : List Addr) (st : Sto) (H : Hp) (ρ' : List Addr) (st' : Sto) (H' : Hp) : Prop where
  pre : ∃ t, ρ' = ρ ++ t
  le : st.length ≤ st'.length
  keep : ∀ a o, H a = some o → ¬ Mu ρ st a → a ∉ β → H' a = some o ∧ ¬ Mu ρ' st' a
  lck : ∀ (i : Nat) (ds : List D), st[i]? = some (.lck ds) → st'[i]? = some (.lck ds)
theorem Stp.toB (a : Stp ρ st H ρ1 s1 H1) : StpB β ρ st H ρ1 s1 H1 := ⟨a.pre, a.le, fun p o h m _ => a.keep p o h m, a.lck⟩
theorem Stp.transB (a : Stp ρ st H ρ1 s1 H) (b : StpB β ρ1 s1 H ρ2 s2 H2) : StpB β ρ st H ρ2 s2 H2 := by
  refine ⟨?_, Nat.le_trans a.le b.le, fun p o h m nb => ?_, fun i ds h => b.lck i ds (a.lck i ds h)⟩
  · obtain ⟨t, rfl⟩ := a.pre
    obtain ⟨u, rfl⟩ := b.pre
    exact ⟨t ++ u, by simp⟩
  · obtain ⟨h1, m1⟩ := a.keep p o h m
    exact b.keep p o h1 m1 nb
theorem StpB.refl : StpB β ρ st H ρ st H := Stp.toB .refl
theorem StpB.at (a : StpB β ρ st H ρ1 s1 H1) : ∀ (i : Nat) (p : Addr), ρ[i]? = some p → ρ1[i]? = some p := fun i p h => by
  obtain ⟨t, rfl⟩ := a.pre
  rw [List.getElem?_append_left (List.getElem?_eq_some_iff.mp h).1]
  exact h
mutual
theorem RD.free {m : Addr → Prop} : ∀ {d : D} {v : V}, RD K fa H m β ρ n d v → RD K fa H (fun a => m a ∨ a ∈ β) β ρ n d v
  | _, _, .non => .non
  | _, _, .bl b => .bl b
  | _, _, .int i => .int i
  | _, _, .str s => .str s
  | _, _, .tupH h1 h2 h3 h4 => .tupH h1 (fun z => z.elim h2 h3) h3 (RDs.free h4)
  | _, _, .tupK h1 h4 => .tupK h1 (RDs.free h4)
  | _, _, .frz h1 h2 h3 h4 => .frz h1 (fun z => z.elim h2 h3) h3 (RDs.free h4)
  | _, _, .scrH h1 h2 h3 h4 => .scrH h1 (fun z => z.elim h2 h3) h3 (RDs.free h4)
  | _, _, .scrK h1 h4 => .scrK h1 (RDs.free h4)
  | _, _, .lst h1 h2 => .lst h1 h2
  | _, _, .fn k => .fn k
theorem RDs.free {m : Addr → Prop} : ∀ {ds : List D} {vs : List V}, RDs K fa H m β ρ n ds vs → RDs K fa H (fun a => m a ∨ a ∈ β) β ρ n ds vs
  | _, _, .nil => .nil
  | _, _, .cons h t => .cons (RD.free h) (RDs.free t)
end
theorem StpB.kp (a : StpB β ρ st H ρ1 s1 H1) : ∀ p o, H p = some o → ¬ (Mu ρ st p ∨ p ∈ β) → H1 p = some o ∧ ¬ Mu ρ1 s1 p := fun p o h z => a.keep p o h (fun q => z (.inl q)) fun q => z (.inr q)
def Src (K : PySem.W.Frag) (fa : Nat → Addr) (β ρ : List Addr) (st : Sto) (H : Hp) (k : Sk) (ds : List D) : Prop :=
  ∀ β' ρ' st' H', BetaOk β β' H → StpB β ρ st H ρ' st' H' → RS K fa β' ρ' st' H' → ∃ xs, k.ok K H' xs ∧ RDs K fa H' (Mu ρ' st') β' ρ' st'.length ds xs
theorem Src.stp {k : Sk} {ds : List D} (h : Src K fa β ρ st H k ds) (a : Stp ρ st H ρ s1 H) : Src K fa β ρ s1 H k ds := fun β' ρ' st' H' b c d => h β' ρ' st' H' b (a.transB c) d
theorem RD.go {m : Addr → Prop} {β' : List Addr} {d : D} {v : V} (a : Stp ρ st H ρ1 s1 H1) (b : BetaOk β β' H) (r : RD K fa H (Mu ρ st) β ρ st.length d v) : RD K fa H1 (Mu ρ1 s1) β' ρ1 s1.length d v := r.mono a.keep a.at b a.le
theorem RDs.go {β' : List Addr} {ds : List D} {vs : List V} (a : Stp ρ st H ρ1 s1 H1) (b : BetaOk β β' H) (r : RDs K fa H (Mu ρ st) β ρ st.length ds vs) : RDs K fa H1 (Mu ρ1 s1) β' ρ1 s1.length ds vs := r.mono a.keep a.at b a.le
theorem Rd.go {m : Addr → Prop} {a : Addr} {u : HO} (c : Stp ρ st H ρ1 s1 H1) (h : Rd H a u) (hm : ¬ Mu ρ st a) : Rd H1 a u := (Rd.keepP c.keep h hm).1
theorem RD.goB {β' : List Addr} {d : D} {v : V} (a : StpB β ρ st H ρ1 s1 H1) (b : BetaOk β β' H) (r : RD K fa H (Mu ρ st) β ρ st.length d v) : RD K fa H1 (Mu ρ1 s1) β' ρ1 s1.length d v := r.free.mono a.kp a.at b a.le
theorem RDs.goB {β' : List Addr} {ds : List D} {vs : List V} (a : StpB β ρ st H ρ1 s1 H1) (b : BetaOk β β' H) (r : RDs K fa H (Mu ρ st) β ρ st.length ds vs) : RDs K fa H1 (Mu ρ1 s1) β' ρ1 s1.length ds vs := r.free.mono a.kp a.at b a.le
theorem Rd.goB {a : Addr} {u : HO} (c : StpB β ρ st H ρ1 s1 H1) (h : Rd H a u) (hm : ¬ Mu ρ st a) (hb : a ∉ β) : Rd H1 a u := (Rd.keepP c.kp h fun z => z.elim hm hb).1
theorem chars_rd {m : Addr → Prop} : ∀ s : List Nat, RDs K fa H m β ρ n (s.map fun c => .str [c]) (s.map fun c => V.str ⟨#[c]⟩)
  | [] => .nil
  | c :: r => .cons (.str [c]) (chars_rd r)
def skOf (x : D) (u : Value) : Sk := match u with
  | .ref a => (match x with | .tup _ => .t a | _ => .l a)
  | .str x t => .s x t
  | _ => .l 0
theorem walk_src {x : D} {v : V} {u : Value} {ds : List D} {ids : List Nat} (S : RS K fa β ρ st H) (r : RD K fa H (Mu ρ st) β ρ st.length x v) (hw : walk st x = some (ds, ids)) (hu : RelV v u) :
    (skOf x u).val = u ∧ Src K fa β ρ (lock st ids) H (skOf x u) ds ∧ Can st ids := by
  cases r with
  | tupH h1 h2 h3 h4 =>
    cases hw
    cases hu
    exact ⟨rfl, fun β' ρ' st' H' b c d => ⟨_, .inl (Rd.goB c h1 h2 h3), h4.goB c b⟩, fun i h => nomatch h⟩
  | tupK h1 h4 =>
    cases hw
    cases hu
    exact ⟨rfl, fun β' ρ' st' H' b c d => ⟨_, .inr h1, h4.goB c b⟩, fun i h => nomatch h⟩
  | frz h1 h2 h3 h4 =>
    cases hw
    cases hu
    exact ⟨rfl, fun β' ρ' st' H' b c d => ⟨_, .inl (Rd.goB c (.inl h1) h2 h3), h4.goB c b⟩, fun i h => nomatch h⟩
  | scrH h1 h2 h3 h4 =>
    cases hw
    cases hu
    exact ⟨rfl, fun β' ρ' st' H' b c d => ⟨_, .inl (Rd.goB c h1 h2 h3), h4.goB c b⟩, fun i h => nomatch h⟩
  | scrK h1 h4 =>
    cases hw
    cases hu
    exact ⟨rfl, fun β' ρ' st' H' b c d => ⟨_, .inr h1, h4.goB c b⟩, fun i h => nomatch h⟩
  | str s =>
    cases hw
    obtain ⟨t, rfl⟩ := hu
    exact ⟨rfl, fun β' ρ' st' H' b c d => ⟨_, rfl, by
      show RDs _ _ _ _ _ _ _ _ ((⟨s.toArray⟩ : Str).cps.toList.map _)
      simpa using chars_rd s⟩, fun i h => nomatch h⟩
  | @lst i a h1 h2 =>
    cases hu
    have go : ∀ {o : Obj} {ids : List Nat}, st[i]? = some o → ((∃ ds, (lock st ids)[i]? = some (.lck ds)) ∨ o.isFz = true) → Src K fa β ρ (lock st ids) H (.l a) o.its := by
      intro o ids ho hk β' ρ' st' H' b c d
      rcases hk with ⟨ds', hk⟩ | hk
      · obtain ⟨o', e', q1, q2⟩ := (sim_lock (ids := ids) (st := st)).get hk
        rw [ho] at e'
        cases e'
        have hk' := c.lck i _ hk
        obtain ⟨p, vs, e1, e2, e3⟩ := rs_at d hk'
        have e4 := c.at i a h2
        rw [e1] at e4
        cases e4
        refine ⟨vs, .inl (.inl e2), ?_⟩
        rw [q1]
        exact e3
      · obtain ⟨p, vs, e1, e2, e3⟩ := rs_at S ho
        rw [h2] at e1
        cases e1
        have nm : ¬ Mu ρ st a := fun ⟨j, oj, g1, g2, g3⟩ => by
          have := S.nd i j a h2 g1
          subst this
          rw [ho] at g2
          cases g2
          rw [hk] at g3
          cases g3
        have nm' : ¬ Mu ρ (lock st ids) a := by rw [← (sim_lock (ids := ids) (st := st)).mu]; exact nm
        have nb : a ∉ β := fun z => (S.busy a z).2 (List.mem_iff_getElem?.mpr ⟨i, h2⟩)
        refine ⟨vs, .inl (.inl (c.keep a _ e2 nm' nb).1), RDs.goB c b ?_⟩
        rw [← (sim_lock (ids := ids) (st := st)).mu, ← (sim_lock (ids := ids) (st := st)).len]
        exact e3
    refine ⟨rfl, ?_⟩
    show Src K fa β ρ (lock st ids) H (.l a) ds ∧ Can st ids
    simp only [walk] at hw
    split at hw
    · rename_i es ho
      cases hw
      exact ⟨go (o := .lst ds) ho (.inl ⟨_, lock_at (by simp) ho⟩), fun j hj => ⟨ds, by rw [List.mem_singleton.mp hj]; exact ho⟩⟩
    · rename_i es ho
      cases hw
      exact ⟨go (o := .lck ds) ho (.inl ⟨_, ho⟩), fun j hj => nomatch hj⟩
    · rename_i es ho
      cases hw
      exact ⟨go (o := .fz ds) ho (.inr rfl), fun j hj => nomatch hj⟩
    · cases hw
  | _ => cases hw

/-- what each turn brings -/
def Feeds (K : PySem.W.Frag) (fa : Nat → Addr) (β ρ : List Addr) (st : Sto) (H : Hp) (J : L2.It) (ds : List D) : Prop :=
  ∀ β' ρ' st' H', BetaOk β β' H → StpB β ρ st H ρ' st' H' → RS K fa β' ρ' st' H' →
    (∀ i d, ds[i]? = some d → J.go i H' ∧ ∀ x H2, J.yld i H' x H2 → Stp ρ' st' H' ρ' st' H2 ∧ RS K fa β' ρ' st' H2 ∧ RD K fa H2 (Mu ρ' st') β' ρ' st'.length d x) ∧ J.stop ds.length H'
theorem feeds_range {lo : Int} {n : Nat} : Feeds K fa β ρ st H (Itr lo n) (rngD lo n) := fun β' ρ' st' H' b c d => by
  refine ⟨fun i x h => ?_, by show n ≤ (rngD lo n).length; simp [rngD]⟩
  have hi : i < n := by
    have := (List.getElem?_eq_some_iff.mp h).1
    simpa [rngD] using this
  refine ⟨hi, fun v H2 y => ?_⟩
  obtain ⟨rfl, rfl⟩ := y
  have e : x = .int (lo + (i : Nat)) := by
    unfold rngD at h
    rw [List.getElem?_map, List.getElem?_range hi] at h
    exact (Option.some.inj h).symm
  subst e
  exact ⟨.refl, d, .int _⟩
theorem feeds_rangeC {lo c : Int} {n : Nat} : Feeds K fa β ρ st H (Itc lo c n) (rngC lo c n) := fun β' ρ' st' H' b cc d => by
  refine ⟨fun i x h => ?_, by show n ≤ (rngC lo c n).length; simp [rngC]⟩
  have hi : i < n := by
    have := (List.getElem?_eq_some_iff.mp h).1
    simpa [rngC] using this
  refine ⟨hi, fun v H2 y => ?_⟩
  obtain ⟨rfl, rfl⟩ := y
  have e : x = .int (lo + (i : Nat) * c) := by
    unfold rngC at h
    rw [List.getElem?_map, List.getElem?_range hi] at h
    exact (Option.some.inj h).symm
  subst e
  exact ⟨.refl, d, .int _⟩
/-- the bare walk of a source -/
def itOf (K : PySem.W.Frag) : Sk → L2.It
  | .l a => Itl K a
  | .t a => Itt K a
  | .s x _ => Its x
theorem feeds_src {k : Sk} {ds : List D} (h : Src K fa β ρ st H k ds) : Feeds K fa β ρ st H (itOf K k) ds := fun β' ρ' st' H' b c d => by
  obtain ⟨xs, hk, rs⟩ := h β' ρ' st' H' b c d
  have get : ∀ {i : Nat} {x : D}, ds[i]? = some x → ∃ v, xs[i]? = some v ∧ RD K fa H' (Mu ρ' st') β' ρ' st'.length x v := fun e => rs.get e
  cases k with
  | l a =>
    refine ⟨fun i x e => ?_, ⟨xs, hk, Nat.le_of_eq rs.length.symm⟩⟩
    obtain ⟨v, hv, r⟩ := get e
    refine ⟨⟨xs, v, hk, hv⟩, fun y H2 z => ?_⟩
    obtain ⟨rfl, z⟩ := z
    have := z xs hk
    rw [hv] at this
    cases this
    exact ⟨.refl, d, r⟩
  | t a =>
    refine ⟨fun i x e => ?_, ⟨xs, hk, Nat.le_of_eq rs.length.symm⟩⟩
    obtain ⟨v, hv, r⟩ := get e
    refine ⟨⟨xs, v, hk, hv⟩, fun y H2 z => ?_⟩
    obtain ⟨rfl, z⟩ := z
    have := z xs hk
    rw [hv] at this
    cases this
    exact ⟨.refl, d, r⟩
  | s x t =>
    have hk : xs = x.cps.toList.map fun c => V.str ⟨#[c]⟩ := hk
    have hl : x.cps.size = ds.length := by rw [rs.length, hk]; simp
    refine ⟨fun i y e => ?_, show x.cps.size ≤ ds.length from Nat.le_of_eq hl⟩
    obtain ⟨v, hv, r⟩ := get e
    have hi : i < x.cps.size := by rw [hl]; exact (List.getElem?_eq_some_iff.mp e).1
    refine ⟨hi, fun w H2 z => ?_⟩
    obtain ⟨rfl, ch, hc, rfl⟩ := z
    have hc' : x.cps.toList[i]? = some ch := by simpa using hc
    rw [hk, List.getElem?_map, hc'] at hv
    cases hv
    exact ⟨.refl, d, r⟩
theorem feeds_enum {k : Sk} {ds : List D} (h : Src K fa β ρ st H k ds) : Feeds K fa β ρ st H (IteG K k) (enumD ds) := fun β' ρ' st' H' b c d => by
  obtain ⟨xs, hk, rs⟩ := h β' ρ' st' H' b c d
  refine ⟨fun i x e => ?_, ⟨xs, hk, by rw [← rs.length]; simp [enumD]⟩⟩
  unfold enumD at e
  rw [List.getElem?_map] at e
  obtain ⟨⟨y, j⟩, e1, e2⟩ := Option.map_eq_some_iff.mp e
  rw [List.getElem?_zipIdx] at e1
  obtain ⟨y', e3, e4⟩ := Option.map_eq_some_iff.mp e1
  have e4 : y' = y ∧ i = j := by simpa using e4
  obtain ⟨rfl, rfl⟩ := e4
  subst e2
  obtain ⟨v, hv, r⟩ := rs.get e3
  refine ⟨⟨xs, v, hk, hv⟩, fun w H2 z => ?_⟩
  obtain ⟨T, v', rfl, hT, rfl, z⟩ := z
  have := z xs hk
  rw [hv] at this
  cases this
  exact ⟨(d.lay hT).2, (d.lay hT).1, lay_tup d hT (.cons (.int _) (.cons r .nil))⟩
theorem feeds_zip {k1 k2 : Sk} {ds es : List D} (h : Src K fa β ρ st H k1 ds) (h2 : Src K fa β ρ st H k2 es) : Feeds K fa β ρ st H (ItzG K k1 k2) (zipD ds es) := fun β' ρ' st' H' b c d => by
  obtain ⟨xs, hk, rs⟩ := h β' ρ' st' H' b c d
  obtain ⟨ys, hk2, rs2⟩ := h2 β' ρ' st' H' b c d
  have hl : (zipD ds es).length = min xs.length ys.length := by
    rw [← rs.length, ← rs2.length]
    simp [zipD]
  refine ⟨fun i x e => ?_, ⟨xs, ys, hk, hk2, by rw [hl]; exact Nat.min_le_left _ _, by rw [hl]; exact Nat.min_le_right _ _, by rw [hl]; omega⟩⟩
  unfold zipD at e
  rw [List.getElem?_map] at e
  obtain ⟨⟨y, y2⟩, e1, e2⟩ := Option.map_eq_some_iff.mp e
  rw [List.getElem?_zip_eq_some] at e1
  subst e2
  obtain ⟨v, hv, r⟩ := rs.get e1.1
  obtain ⟨v2, hv2, r2⟩ := rs2.get e1.2
  refine ⟨⟨xs, ys, v, v2, hk, hk2, hv, hv2⟩, fun w H2 z => ?_⟩
  obtain ⟨T, w1, w2, rfl, hT, rfl, z1, z2⟩ := z
  have q1 := z1 xs hk
  rw [hv] at q1
  cases q1
  have q2 := z2 ys hk2
  rw [hv2] at q2
  cases q2
  exact ⟨(d.lay hT).2, (d.lay hT).1, lay_tup d hT (.cons r (.cons r2 .nil))⟩
end
/-! a target changes only its own names -/
mutual
def tgv : Tg → List Nat
  | .var i => [i]
  | .idx _ _ => []
  | .tup ts => tgvs ts
def tgvs : Tgs → List Nat
  | .nil => []
  | .cons t ts => tgv t ++ tgvs ts
end
def Kp (l : List Nat) (σ σ' : L2.St) : Prop := σ'.length = σ.length ∧ ∀ k, k ∉ l → σ'[k]? = σ[k]?
section
variable (K : PySem.W.Frag) (q : Qm)
def tWi (it : It) : TI := fun σ H Rr => ∃ β ρ env st, RE K q.fa β ρ env st σ H ∧ RS K q.fa β ρ st H ∧ RP (evi q.C q.G it env st) (fun p st' => Can st' p.2 → ∀ J H' ρ', Stp ρ st H ρ' st' H' → RS K q.fa β ρ' st' H' → Feeds K q.fa β ρ' (lock st' p.2) H' J p.1 → Rr J H') (PostX K q β ρ st H)
def tWg (t : Tg) : TG := fun v σ H Q => ∃ β ρ env st d, RE K q.fa β ρ env st σ H ∧ RS K q.fa β ρ st H ∧ RD K q.fa H (Mu ρ st) β ρ st.length d v ∧
  RP (evt q.C q.G t d env st) (fun env' st' => ∀ σ' H' ρ', Kp (tgv t) σ σ' → Stp ρ st H ρ' st' H' → RS K q.fa β ρ' st' H' → RE K q.fa β ρ' env' st' σ' H' → Q σ' H') (PostX K q β ρ st H)
def tWgs (ts : Tgs) : TGs := fun vs σ H Q => ∃ β ρ env st ds, RE K q.fa β ρ env st σ H ∧ RS K q.fa β ρ st H ∧ RDs K q.fa H (Mu ρ st) β ρ st.length ds vs ∧
  RP (evts q.C q.G ts ds env st) (fun env' st' => ∀ σ' H' ρ', Kp (tgvs ts) σ σ' → Stp ρ st H ρ' st' H' → RS K q.fa β ρ' st' H' → RE K q.fa β ρ' env' st' σ' H' → Q σ' H') (PostX K q β ρ st H)
end
section
variable {X : Cx} {q : Qm} {a b c : E} {pa pb pc pe tg : Expr} {pos : Pos} {es : Es} {pes : List Expr}
theorem _root_.L2.PI.or {X : Cx} {tg e : Expr} {t t' : TI} (h : PI X tg e t) (h' : PI X tg e t') : PI X tg e (fun σ H Q => t σ H Q ∨ t' σ H Q) := ⟨fun pins s σ H Q I q => q.elim (h.run pins s σ H Q I) (h'.run pins s σ H Q I)⟩
/-- by the value that comes -/
theorem i_val (ha : PE X pa (tW X.K q a)) : PI X tg pa (tWi X.K q (.val a)) :=
  (((pi_list ha).or (pi_tup ha)).or (pi_str ha)).w fun σ H Rr ⟨β, ρ, env, st, e, S, h⟩ => by
    simp only [evi] at h
    have h' := h.bind
    cases hv : ev q.C q.G a env st with
    | bad =>
      rw [hv] at h'
      exact h'.elim
    | exn c d s1 =>
      rw [hv] at h'
      exact .inr ⟨β, ρ, env, st, e, S, by rw [hv]; exact h'⟩
    | ok x s1 =>
      rw [hv] at h'
      obtain ⟨p, hp, h2⟩ := RP.oD h'
      have key : ∀ v H1 ρ1, Stp ρ st H ρ1 s1 H1 → RS X.K q.fa β ρ1 s1 H1 → RD X.K q.fa H1 (Mu ρ1 s1) β ρ1 s1.length x v → ∀ u, RelV v u → (skOf x u).val = u ∧ (∃ xs, (skOf x u).ok X.K H1 xs) ∧ Rr (itOf X.K (skOf x u)) H1 := fun v H1 ρ1 a1 S1 r1 u hu => by
        obtain ⟨hk, src, can⟩ := walk_src S1 r1 (ds := p.1) (ids := p.2) hp hu
        obtain ⟨xs, ok, _⟩ := src β ρ1 _ H1 (fun _ z => .inl z) .refl (S1.sim sim_lock)
        exact ⟨hk, ⟨xs, ok⟩, h2 can _ H1 ρ1 a1 S1 (feeds_src src)⟩
      have lists : (∀ ds, x ≠ .tup ds) → (∀ v H1 ρ1, RS X.K q.fa β ρ1 s1 H1 → RD X.K q.fa H1 (Mu ρ1 s1) β ρ1 s1.length x v → ∃ p1, v = .ref p1) → tWi X.K q (.val a) σ H Rr → iList X.K (tW X.K q a) σ H Rr := fun nt hl _ => by
        refine ⟨β, ρ, env, st, e, S, ?_⟩
        rw [hv]
        intro v H1 ρ1 a1 S1 r1
        obtain ⟨p1, rfl⟩ := hl v H1 ρ1 S1 r1
        obtain ⟨_, hs, hR⟩ := key _ H1 ρ1 a1 S1 r1 _ rfl
        have hk : skOf x (.ref p1) = .l p1 := by
          cases x with
          | tup ds => exact absurd rfl (nt ds)
          | _ => rfl
        rw [hk] at hs hR
        exact ⟨p1, rfl, hs, hR⟩
      have me : tWi X.K q (.val a) σ H Rr := ⟨β, ρ, env, st, e, S, by
        simp only [evi]
        exact h⟩
      cases x with
      | tup ds =>
        refine .inl (.inr ⟨β, ρ, env, st, e, S, ?_⟩)
        rw [hv]
        intro v H1 ρ1 a1 S1 r1
        obtain ⟨p1, vs, rfl, hq, _⟩ := rd_tup r1
        obtain ⟨_, hs, hR⟩ := key _ H1 ρ1 a1 S1 r1 _ rfl
        exact ⟨p1, rfl, hs, hR⟩
      | str z =>
        refine .inr ⟨β, ρ, env, st, e, S, ?_⟩
        rw [hv]
        intro v H1 ρ1 a1 S1 r1
        obtain ⟨_, hs, hR⟩ := key _ H1 ρ1 a1 S1 r1 (.str ⟨z.toArray⟩ 0) (by cases r1; exact ⟨0, rfl⟩)
        cases r1
        exact ⟨_, rfl, hR⟩
      | frz ds => exact .inl (.inl (lists (fun ds z => by cases z) (fun v H1 ρ1 S1 r1 => by cases r1; exact ⟨_, rfl⟩) me))
      | scr ds => exact .inl (.inl (lists (fun ds z => by cases z) (fun v H1 ρ1 S1 r1 => by cases r1 <;> exact ⟨_, rfl⟩) me))
      | lst i => exact .inl (.inl (lists (fun ds z => by cases z) (fun v H1 ρ1 S1 r1 => by cases r1; exact ⟨_, rfl⟩) me))
      | _ => cases hp
/-! ranges -/
theorem rng_ok {i : Int} (h : rngOk i = true) : -(2 ^ 62) ≤ i ∧ i < 2 ^ 62 := by
  simpa [rngOk] using h
theorem i_rng1 {p : Pos} (hg : Gl X "range") (hm : X.mg "range" = none) (ha : PA X [pa] (tWs X.K q (.cons a .nil))) (hs : starEach [pa] X.env = [(false, eval pa X.env)]) : PI X tg (.Call (.Name "range" p) [pa] [] pos) (tWi X.K q (.rng1 a)) :=
  (pi_range1 hg hm ha hs).w fun σ H Rr ⟨β, ρ, env, st, e, S, h⟩ => by
    simp only [evi] at h
    refine ⟨β, ρ, env, st, e, S, ?_⟩
    simp only [evs]
    cases hv : ev q.C q.G a env st with
    | bad => rw [hv] at h; exact h.elim
    | exn c d s1 => rw [hv] at h; exact h
    | ok x s1 =>
      rw [hv] at h
      have h : RP ((toI x s1).bind _) _ _ := h
      obtain ⟨i, rfl, h2⟩ := h.bind.toI
      intro vs H1 ρ1 a1 S1 r1
      split at h2
      · rename_i ok
        cases r1 with
        | cons r r' =>
          cases r
          cases r'
          refine ⟨i, rfl, (rng_ok ok).1, (rng_ok ok).2, ?_⟩
          exact h2 (fun i h => nomatch h) _ H1 ρ1 a1 S1 feeds_range
      · exact h2.elim
theorem rp_two {α γ : Type} {r1 : R D} {r2 : Sto → R D} {f : D → D → Sto → R α} {g : D → D → Sto → R γ} {P : α → Sto → Prop} {P' : γ → Sto → Prop} {Xx : Nat → D → Sto → Prop}
    (h : RP (r1.bind fun x s1 => (r2 s1).bind fun y s2 => f x y s2) P Xx) (k : ∀ x y s2, RP (f x y s2) P Xx → RP (g x y s2) P' Xx) : RP (r1.bind fun x s1 => (r2 s1).bind fun y s2 => g x y s2) P' Xx := by
  cases r1 with
  | bad => exact h
  | exn c d s => exact h
  | ok x s1 =>
    have h : RP ((r2 s1).bind fun y s2 => f x y s2) P Xx := h
    show RP ((r2 s1).bind fun y s2 => g x y s2) P' Xx
    cases hw : r2 s1 with
    | bad => rw [hw] at h; exact h
    | exn c d s => rw [hw] at h; exact h
    | ok y s2 =>
      rw [hw] at h
      exact k x y s2 h
theorem rp_evs2 {env : PL.Env} {st : Sto} {P : List D → Sto → Prop} {Xx : Nat → D → Sto → Prop} (h : RP ((ev q.C q.G a env st).bind fun x s1 => (ev q.C q.G b env s1).bind fun y s2 => R.ok [x, y] s2) P Xx) : RP (evs q.C q.G (.cons a (.cons b .nil)) env st) P Xx := by
  simp only [evs]
  cases hv : ev q.C q.G a env st with
  | bad => rw [hv] at h; exact h.elim
  | exn c d s1 => rw [hv] at h; exact h
  | ok x s1 =>
    rw [hv] at h
    have h : RP ((ev q.C q.G b env s1).bind fun y s2 => R.ok [x, y] s2) P Xx := h
    show RP (((ev q.C q.G b env s1).bind fun x s1 => R.ok [x] s1).bind fun xs s2 => R.ok (x :: xs) s2) P Xx
    cases hw : ev q.C q.G b env s1 with
    | bad => rw [hw] at h; exact h.elim
    | exn c d s2 => rw [hw] at h; exact h
    | ok y s2 => rw [hw] at h; exact h
theorem i_rng2 {p : Pos} (hg : Gl X "range") (hm : X.mg "range" = none) (ha : PA X [pa, pb] (tWs X.K q (.cons a (.cons b .nil)))) (hs : starEach [pa, pb] X.env = [(false, eval pa X.env), (false, eval pb X.env)]) (hs2 : starEach [pb] X.env = [(false, eval pb X.env)]) :
    PI X tg (.Call (.Name "range" p) [pa, pb] [] pos) (tWi X.K q (.rng2 a b)) :=
  (pi_range2 hg hm ha hs hs2).w fun σ H Rr ⟨β, ρ, env, st, e, S, h⟩ => by
    simp only [evi] at h
    refine ⟨β, ρ, env, st, e, S, rp_evs2 ?_⟩
    refine rp_two h fun x y s2 h1 => ?_
    · · 
        have h1 : RP ((toI x s2).bind _) _ _ := h1
        obtain ⟨i, rfl, h2⟩ := h1.bind.toI
        obtain ⟨j, rfl, h3⟩ := h2.bind.toI
        intro vs H1 ρ1 a1 S1 r1
        split at h3
        · rename_i ok
          rw [Bool.and_eq_true] at ok
          cases r1 with
          | cons r r' =>
            cases r
            cases r' with
            | cons r r' =>
              cases r
              cases r'
              exact ⟨i, j, rfl, ⟨(rng_ok ok.1).1, (rng_ok ok.1).2, (rng_ok ok.2).1, (rng_ok ok.2).2⟩, h3 (fun i h => nomatch h) _ H1 ρ1 a1 S1 feeds_range⟩
        · exact h3.elim
theorem i_rng3 {p : Pos} {k : Int} {pk : Expr} (hg : Gl X "range") (hm : X.mg "range" = none) (ha : PA X [pa, pb, pk] (tWs X.K q (.cons a (.cons b (.cons (.int k) .nil))))) (hs : starEach [pa, pb, pk] X.env = (false, eval pa X.env) :: starEach [pb, pk] X.env) (hpl : (backTo pos (starEach [pb, pk] X.env)).any (·.1) = false) :
    PI X tg (.Call (.Name "range" p) [pa, pb, pk] [] pos) (tWi X.K q (.rng3 a b k)) :=
  (pi_range3 hg hm ha hs hpl).w fun σ H Rr ⟨β, ρ, env, st, e, S, h⟩ => by
    simp only [evi] at h
    refine ⟨β, ρ, env, st, e, S, ?_⟩
    have e3 : evs q.C q.G (.cons a (.cons b (.cons (.int k) .nil))) env st = (ev q.C q.G a env st).bind fun x s1 => (ev q.C q.G b env s1).bind fun y s2 => R.ok [x, y, .int k] s2 := by
      simp only [evs, ev]
      congr 1
      funext x s1
      cases ev q.C q.G b env s1 <;> rfl
    rw [e3]
    refine rp_two h fun x y s2 h1 => ?_
    · · 
        have h1 : RP ((toI x s2).bind _) _ _ := h1
        obtain ⟨i, rfl, h2⟩ := h1.bind.toI
        obtain ⟨j, rfl, h3⟩ := h2.bind.toI
        intro vs H1 ρ1 a1 S1 r1
        split at h3
        · rename_i ok
          simp only [Bool.and_eq_true, decide_eq_true_eq] at ok
          obtain ⟨o1, o2, rfl⟩ := ok
          cases r1 with
          | cons r r' =>
            cases r
            cases r' with
            | cons r r' =>
              cases r
              cases r' with
              | cons r r' =>
                cases r
                cases r'
                exact ⟨i, j, -1, _, rfl, RgC.neg (rng_ok o1).1 (rng_ok o1).2 (rng_ok o2).1 (rng_ok o2).2, h3 (fun i h => nomatch h) _ H1 ρ1 a1 S1 feeds_rangeC⟩
        · exact h3.elim
/-! enumerate, zip -/
theorem i_enum {p tpos : Pos} {elts : List Expr} {kk : Nat} (hg : Gl X "enumerate") (hm : X.mg "enumerate" = none) (ha : PA X [pa] (tWs X.K q (.cons a .nil))) (hs : starEach [pa] X.env = (false, eval pa X.env) :: starEach [] X.env) :
    PI X (.Tuple elts kk tpos) (.Call (.Name "enumerate" p) [pa] [] pos) (tWi X.K q (.enum a)) :=
  (pi_enumG hg hm ha hs).w fun σ H Rr ⟨β, ρ, env, st, e, S, h⟩ => by
    simp only [evi] at h
    refine ⟨β, ρ, env, st, e, S, ?_⟩
    simp only [evs]
    cases hv : ev q.C q.G a env st with
    | bad => rw [hv] at h; exact h.elim
    | exn c d s1 => rw [hv] at h; exact h
    | ok x s1 =>
      rw [hv] at h
      have h : RP ((oD (walk s1 x) s1).bind _) _ _ := h
      obtain ⟨p, hp, h2⟩ := h.bind.oD
      intro vs H1 ρ1 a1 S1 r1
      cases r1 with
      | cons r r' =>
        cases r'
        refine ⟨_, rfl, fun u hu => ?_⟩
        obtain ⟨hk, src, can⟩ := walk_src S1 r (ds := p.1) (ids := p.2) hp hu
        obtain ⟨xs, ok, _⟩ := src β ρ1 _ H1 (fun _ z => .inl z) .refl (S1.sim sim_lock)
        exact ⟨_, hk, ⟨xs, ok⟩, h2 can _ H1 ρ1 a1 S1 (feeds_enum src)⟩
theorem i_zip {p tpos : Pos} {elts : List Expr} {kk : Nat} (hg : Gl X "zip") (hm : X.mg "zip" = none) (ha : PA X [pa, pb] (tWs X.K q (.cons a (.cons b .nil)))) (hs : starEach [pa, pb] X.env = (false, eval pa X.env) :: starEach [pb] X.env) (hpl : (backTo pos (starEach [pb] X.env)).any (·.1) = false) :
    PI X (.Tuple elts kk tpos) (.Call (.Name "zip" p) [pa, pb] [] pos) (tWi X.K q (.zip a b)) :=
  (pi_zipG hg hm ha hs hpl).w fun σ H Rr ⟨β, ρ, env, st, e, S, h⟩ => by
    simp only [evi] at h
    refine ⟨β, ρ, env, st, e, S, rp_evs2 ?_⟩
    refine rp_two h fun x y s2 h1 => ?_
    · · 
        have h1 : RP ((oD (walk s2 x) s2).bind _) _ _ := h1
        obtain ⟨p, hp, h2⟩ := h1.bind.oD
        obtain ⟨p2, hp2, h3⟩ := h2.bind.oD
        intro vs H1 ρ1 a1 S1 r1
        cases r1 with
        | cons r r' =>
          cases r' with
          | cons r2 r' =>
            cases r'
            refine ⟨_, _, rfl, fun u w hu hw => ?_⟩
            obtain ⟨hk, src, can⟩ := walk_src S1 r (ds := p.1) (ids := p.2) hp hu
            obtain ⟨hk2, src2, can2⟩ := walk_src (S1.sim (sim_lock (ids := p.2))) (r2.sim sim_lock) (ds := p2.1) (ids := p2.2) hp2 hw
            have src' := src.stp (stp_lock (ids := p2.2))
            obtain ⟨xs, ok, _⟩ := src β ρ1 _ H1 (fun _ z => .inl z) .refl (S1.sim sim_lock)
            obtain ⟨ys, ok2, _⟩ := src2 β ρ1 _ H1 (fun _ z => .inl z) .refl ((S1.sim sim_lock).sim sim_lock)
            refine ⟨_, _, hk, hk2, ⟨xs, ok⟩, ⟨ys, ok2⟩, h3 (fun i hi => ?_) _ H1 ρ1 a1 S1 ?_⟩
            · rcases List.mem_append.mp hi with z | z
              · exact can i z
              · obtain ⟨ds, e⟩ := can2 i z
                exact ⟨ds, lock_lst e⟩
            · show Feeds X.K q.fa β ρ1 (lock s2 (p.2 ++ p2.2)) H1 _ _
              rw [lock_app]
              exact feeds_zip src' src2
/-! ### targets -/
theorem g_var {i : Nat} {x : Str} (hN : X.N.Nodup) (hi : X.N[i]? = some x) (hx : Loc X.env.scope x) (hf : X.fn x = true ∨ X.env.scope.names.lookup x = some .local) : PG X (.Name x pos) (tWg X.K q (.var i)) :=
  (pg_name hN hi hx hf).w fun v σ H Q ⟨β, ρ, env, st, d, e, S, r, h⟩ => by
    simp only [evt] at h
    split at h
    · exact h _ H ρ ⟨by simp, fun k hk => List.getElem?_set_ne (fun z => hk (by simp [tgv, z]))⟩ .refl S (e.set r)
    · exact h.elim
theorem g_nil : PGs X [] (tWgs X.K q .nil) := ⟨fun pins s σ H vs us Q I r ⟨β, ρ, env, st, ds, e, S, rs, h⟩ => by
  refine pgs_nil.run pins s σ H vs us Q I r ?_
  cases rs with
  | nil =>
    simp only [evts] at h
    exact ⟨rfl, h σ H ρ ⟨rfl, fun _ _ => rfl⟩ .refl S e⟩
  | cons r1 r2 =>
    simp only [evts] at h
    exact h.elim⟩
theorem g_cons {t : Tg} {ts : Tgs} {pt : Expr} {pts : List Expr} (h1 : PG X pt (tWg X.K q t)) (h2 : PGs X pts (tWgs X.K q ts))
    (hs : (assignEach (pt :: pts) X.env).map (·.2) = assign pt X.env :: (assignEach pts X.env).map (·.2)) : PGs X (pt :: pts) (tWgs X.K q (.cons t ts)) := ⟨fun pins s σ H vs us Q I r ⟨β, ρ, env, st, ds, e, S, rs, h⟩ => by
  refine (pgs_cons h1 h2 hs).run pins s σ H vs us Q I r ?_
  cases rs with
  | nil =>
    simp only [evts] at h
    exact h.elim
  | cons r1 r2 =>
    simp only [evts] at h
    refine ⟨_, _, rfl, β, ρ, env, st, _, e, S, r1, h.bind.imp (fun env1 s1 g σ1 H1 ρ1 k1 a1 S1 e1 => ?_) fun _ _ _ g => g⟩
    refine ⟨β, ρ1, env1, s1, _, e1, S1, r2.stp a1, g.imp (fun env2 s2 g2 σ2 H2 ρ2 k2 a2 S2 e2 => g2 σ2 H2 ρ2 ⟨k2.1.trans k1.1, fun k hk => ?_⟩ (a1.trans a2) S2 e2) fun _ _ _ g2 => g2.after a1⟩
    rw [k2.2 k fun z => hk (List.mem_append_right _ z), k1.2 k fun z => hk (List.mem_append_left _ z)]⟩
theorem g_tup {ts : Tgs} {pts : List Expr} {k : Nat} (hc : X.calm = true) (h : PGs X pts (tWgs X.K q ts)) (hn : (assignEach pts X.env).length = tgLen ts) (hst : (assignEach pts X.env).findIdx? (·.1) = none) : PG X (.Tuple pts k pos) (tWg X.K q (.tup ts)) :=
  (pg_tup hc h hn hst).w fun v σ H Q ⟨β, ρ, env, st, d, e, S, r, h⟩ => by
    simp only [evt] at h
    split at h
    · split at h
      · rename_i ds hl
        obtain ⟨a, vs, rfl, hq, rs⟩ := rd_tup r
        exact ⟨a, vs, rfl, hq, by rw [← rs.length]; exact hl, β, ρ, env, st, _, e, S, rs, h⟩
      · exact h.elim
    · exact h.elim
theorem g_idx (ha : PE X pa (tW X.K q a)) (hb : PE X pb (tW X.K q b))
    (hs : ∀ v, PySem.assign (.Subscript pa pb pos) X.env v = (do
      let ov ← holding [v] (eval pa X.env)
      let iv ← holding [v, ov] (eval pb X.env)
      standAt pos
      holding [v, ov, iv] (setItem ov iv v)
      release [v, ov, iv] [])) : PG X (.Subscript pa pb pos) (tWg X.K q (.idx a b)) :=
  (pg_sub ha hb set_list hs).w fun v σ H Q ⟨β, ρ, env, st, d, e, S, r, h⟩ => by
    simp only [evt] at h
    refine ⟨β, ρ, env, st, e, S, h.bind.imp (fun x s1 h1 v1 H1 ρ1 a1 S1 r1 => ?_) fun _ _ _ g => g⟩
    refine ⟨β, ρ1, env, s1, e.stp a1, S1, (h1.bind.aftX a1).imp (fun y s2 h2 v2 H2 ρ2 a2 S2 r2 => ?_) fun _ _ _ g => g⟩
    obtain ⟨k, rfl, h3⟩ := h2.bind.toI
    split at h3
    · rename_i i
      split at h3
      · rename_i ds hi
        split at h3
        · rename_i hr
          split at h3
          · rename_i j hj
            cases r2
            have r1' := r1.stp a2
            cases r1' with
            | lst g1 g2 =>
              obtain ⟨p, vs, e1, e2, e3⟩ := S2.obj i _ hi
              rw [g2] at e1
              cases e1
              have rd := ((r.stp a1).stp a2).older hr
              have P := S2.put (ds' := ds.set j d) (vs' := vs.set j v) hi g2 (e3.set rd j)
              refine ⟨_, vs, k, j, rfl, rfl, e2, ?_, ?_⟩
              · have : PL.ixN vs.length k = some j := by rw [← e3.length]; exact hj
                exact this
              · have z := h3 σ _ ρ2 ⟨rfl, fun _ _ => rfl⟩ ((a1.trans a2).trans P.2) P.1 (((e.stp a1).stp a2).stp P.2)
                exact z
          · exact h3.elim
        · exact h3.elim
      · exact h3.elim
    · exact h3.elim
end
end PL

set_option Elab.async false
set_option linter.all false
set_option maxRecDepth 100000
set_option maxHeartbeats 1000000
/-! Comprehensions, statements. -/
namespace PL
open PySem PySem.Spec PyProof.Rows L2
theorem rd_offU {H : Hp} {a p : Addr} {u o : HO} (h : Rd H a u) (ne : a ≠ p) : Rd (upd H p o) a u := by
  rcases h with h | ⟨x, h⟩
  · exact .inl (by rw [upd_ne ne]; exact h)
  · exact .inr ⟨x, by rw [upd_ne ne]; exact h⟩
section
variable {K : PySem.W.Frag} {fa : Nat → Addr} {H H1 H2 : Hp} {β β' ρ ρ1 ρ2 : List Addr} {st s1 s2 : Sto} {n : Nat} {m : Addr → Prop}
mutual
/-- a busy object is written -/
theorem RD.off {p : Addr} {o : HO} (hp : p ∈ β) : ∀ {d : D} {v : V}, RD K fa H m β ρ n d v → RD K fa (upd H p o) m β ρ n d v
  | _, _, .non => .non
  | _, _, .bl b => .bl b
  | _, _, .int i => .int i
  | _, _, .str s => .str s
  | _, _, .tupH h1 h2 h3 h4 => .tupH (rd_offU h1 (fun e => h3 (by rw [e]; exact hp))) h2 h3 (RDs.off hp h4)
  | _, _, .tupK h1 h4 => .tupK h1 (RDs.off hp h4)
  | _, _, .frz h1 h2 h3 h4 => .frz (by rw [upd_ne (fun e => h3 (by rw [e]; exact hp))]; exact h1) h2 h3 (RDs.off hp h4)
  | _, _, .scrH h1 h2 h3 h4 => .scrH (rd_offU h1 (fun e => h3 (by rw [e]; exact hp))) h2 h3 (RDs.off hp h4)
  | _, _, .scrK h1 h4 => .scrK h1 (RDs.off hp h4)
  | _, _, .lst h1 h2 => .lst h1 h2
  | _, _, .fn k => .fn k
theorem RDs.off {p : Addr} {o : HO} (hp : p ∈ β) : ∀ {ds : List D} {vs : List V}, RDs K fa H m β ρ n ds vs → RDs K fa (upd H p o) m β ρ n ds vs
  | _, _, .nil => .nil
  | _, _, .cons h t => .cons (RD.off hp h) (RDs.off hp t)
end
theorem RS.off {p : Addr} {o : HO} (S : RS K fa β ρ st H) (hp : p ∈ β) : RS K fa β ρ st (upd H p o) := by
  obtain ⟨_, np⟩ := S.busy p hp
  refine ⟨S.nd, S.len, fun i u h => ?_, fun b hb => ?_⟩
  · obtain ⟨a, vs, h1, h2, h3⟩ := S.obj i u h
    have ne : a ≠ p := fun e => np (by rw [← e]; exact List.mem_iff_getElem?.mpr ⟨i, h1⟩)
    exact ⟨a, vs, h1, by rw [upd_ne ne]; exact h2, h3.off hp⟩
  · obtain ⟨⟨u, e⟩, nb⟩ := S.busy b hb
    refine ⟨?_, nb⟩
    by_cases hb : b = p
    · exact ⟨o, by rw [hb, upd_same]⟩
    · exact ⟨u, by rw [upd_ne hb]; exact e⟩
theorem Stp.off {p : Addr} {o : HO} (a : Stp ρ st H ρ1 s1 H1) (hp : H p = none) : Stp ρ st H ρ1 s1 (upd H1 p o) :=
  ⟨a.pre, a.le, fun b u h mm => ⟨by rw [upd_ne (ne_of_none h hp)]; exact (a.keep b u h mm).1, (a.keep b u h mm).2⟩, a.lck⟩
/-- a new busy object -/
theorem RS.busyNew {p : Addr} {o : HO} (S : RS K fa β ρ st H) (hp : H p = none) : RS K fa (p :: β) ρ st (upd H p o) ∧ BetaOk β (p :: β) H := by
  have S1 := (S.lay (o := o) hp).1
  have bo : BetaOk β (p :: β) H := fun b hb => by
    rcases List.mem_cons.mp hb with e | e
    · exact .inr (by rw [e]; exact hp)
    · exact .inl e
  refine ⟨⟨S.nd, S.len, fun i u h => ?_, fun b hb => ?_⟩, bo⟩
  · obtain ⟨a, vs, h1, h2, h3⟩ := S.obj i u h
    exact ⟨a, vs, h1, by rw [upd_ne (ne_of_none h2 hp)]; exact h2, h3.mono (S.lay hp).2.keep (fun _ _ x => x) bo (Nat.le_refl _)⟩
  · rcases List.mem_cons.mp hb with e | e
    · exact ⟨⟨o, by rw [e, upd_same]⟩, by rw [e]; exact (S.fresh hp).1⟩
    · exact S1.busy b e
theorem RS.less (S : RS K fa β ρ st H) (h : ∀ b ∈ β', b ∈ β) : RS K fa β' ρ st H :=
  ⟨S.nd, S.len, fun i u e => by
    obtain ⟨a, vs, h1, h2, h3⟩ := S.obj i u e
    exact ⟨a, vs, h1, h2, h3.mono (fun _ _ x y => ⟨x, y⟩) (fun _ _ x => x) (fun b hb => .inl (h b hb)) (Nat.le_refl _)⟩, fun b hb => S.busy b (h b hb)⟩
theorem RE.go {env : PL.Env} {σ : L2.St} (e : RE K fa β ρ env st σ H) (a : Stp ρ st H ρ1 s1 H1) (b : BetaOk β β' H) : RE K fa β' ρ1 env s1 σ H1 := ⟨e.len, fun i d h => by
  obtain ⟨v, h1, r⟩ := e.get i d h
  exact ⟨v, h1, r.go (m := fun _ => False) a b⟩⟩
end
/-- what is free behind was free ahead -/
theorem none_back {K : PySem.W.Frag} {fa : Nat → Addr} {H H1 : Hp} {β ρ ρ1 : List Addr} {st s1 : Sto} {p : Addr} (S : RS K fa β ρ st H) (a1 : Stp ρ st H ρ1 s1 H1) (S1 : RS K fa β ρ1 s1 H1) (hp : H1 p = none) : H p = none := by
  cases hh : H p with
  | none => rfl
  | some o =>
    by_cases hm : Mu ρ st p
    · obtain ⟨i, o', e1, e2, e3⟩ := hm
      obtain ⟨a, ws, f1, f2, f3⟩ := S1.obj i _ (List.getElem?_eq_getElem (show i < s1.length from Nat.lt_of_lt_of_le (its_get e2) a1.le))
      rw [a1.at i p e1] at f1
      cases f1
      rw [hp] at f2
      cases f2
    · have := (a1.keep p o hh hm).1
      rw [hp] at this
      cases this
theorem wipe_none : ∀ {vs : List Nat} {σ : L2.St} {k : Nat}, k ∈ vs → (L2.wipe σ vs)[k]? = if k < σ.length then some none else none
  | v :: vs, σ, k, h => by
    unfold L2.wipe
    by_cases hk : v = k
    · subst hk
      by_cases hl : v < σ.length
      · rw [if_pos hl, List.getElem?_set_self (by rw [wipe_length]; exact hl)]
      · rw [if_neg hl, List.getElem?_eq_none (by rw [List.length_set, wipe_length]; omega)]
    · rw [List.getElem?_set_ne hk]
      exact wipe_none (by
        rcases List.mem_cons.mp h with e | e
        · exact absurd e.symm hk
        · exact e)
theorem kp_wipe {l vs : List Nat} {σ σ' : L2.St} (h : Kp l (L2.wipe σ vs) σ') (hl : ∀ k ∈ l, k ∈ vs) : L2.wipe σ' vs = L2.wipe σ vs := by
  have len : σ'.length = σ.length := by rw [h.1, wipe_length]
  apply List.ext_getElem?
  intro k
  by_cases hk : k ∈ vs
  · rw [wipe_none hk, wipe_none hk, len]
  · rw [wipe_keep hk, h.2 k fun z => hk (hl k z)]
section
variable {X : Cx} {q : Qm} {a b c : E} {pa pb pc pe tg : Expr} {pos : Pos} {es : Es} {pes : List Expr}
def qF (q : Qm) : Qm := { q with XE := fun _ _ _ => False }
theorem noX_ok {α : Type} {r : R α} {P : α → Sto → Prop} {Xx : Nat → D → Sto → Prop} (h : RP r.noX P Xx) : ∃ a s, r = .ok a s ∧ P a s := by
  cases r with
  | ok a s => exact ⟨a, s, rfl, h⟩
  | exn c d s => exact h.elim
  | bad => exact h.elim
theorem RP.unl {α : Type} {r : R α} {ids : List Nat} {P : α → Sto → Prop} {Xx : Nat → D → Sto → Prop} (h : RP (r.unl ids) P Xx) : RP r (fun a s => P a (unlock s ids)) (fun c d s => Xx c d (unlock s ids)) := by
  cases r <;> exact h
/-- a list comprehension: its parts, in the block's context -/
structure LcOk (X : Cx) (q : Qm) (own : List (Str × Nat)) (elt : E) (tg : Tg) (it : It) (c : Oe) (pelt ptg pit : Expr) (pifs : List Expr) (scope : Scope) : Prop where
  calm : X.calm = true
  nd : X.N.Nodup
  it : PI X ptg pit (tWi X.K q it)
  blk : BlkOk X.N X.env.scope scope own
  tgt : ∀ (s : Shared) (H : Hp) (C : Addr) (cl : List (Str × Addr)) (fp : List Addr), PG (X.blk s H scope (compEnvC scope cl C X.env) fp) ptg (tWg X.K (qF q) tg)
  ifs : ∀ (s : Shared) (H : Hp) (C : Addr) (cl : List (Str × Addr)) (fp : List Addr), PTs (X.blk s H scope (compEnvC scope cl C X.env) fp) pifs (tWc X.K (qF q) c)
  elt : ∀ (s : Shared) (H : Hp) (C : Addr) (cl : List (Str × Addr)) (fp : List Addr), PE (X.blk s H scope (compEnvC scope cl C X.env) fp) pelt (tW X.K (qF q) elt)
  fold : ∀ x, foldedSetIterable pit X.env x = pure x
  own : ∀ k ∈ tgv tg, k ∈ own.map (·.2)
def fComp (C : Nat → List D → Sto → R D) (G : Nat → D) (own : List Nat) (elt : E) (tg : Tg) (it : It) (c : Oe) (env : PL.Env) (st : Sto) : R (List D) := (evi C G it env st).bind fun p s1 =>
  if szOk p.1.length then ((compL (fun x s2 => (evt C G tg x (PL.wipe env own) s2).bind fun env2 s3 => (evc C G c env2 s3).bind fun b s4 =>
    if b then (ev C G elt env2 s4).bind fun y s5 => .ok (some y) s5 else .ok none s4) p.1 (lock s1 p.2)).noX.unl p.2) else .bad
theorem R.assoc {α β γ : Type} (r : R α) (f : α → Sto → R β) (g : β → Sto → R γ) : (r.bind f).bind g = r.bind fun a s => (f a s).bind g := by cases r <;> rfl
theorem ev_comp {own : List Nat} {elt : E} {tg : Tg} {it : It} {c : Oe} {env : PL.Env} {st : Sto} : ev q.C q.G (.comp own elt tg it c) env st = (fComp q.C q.G own elt tg it c env st).bind fun ds s => R.ok (D.frz ds) s := by
  simp only [ev, fComp]
  rw [R.assoc]
  congr 1
  funext p s1
  split <;> rfl
theorem w_comp {own : List (Str × Nat)} {elt : E} {tg : Tg} {it : It} {c : Oe} {σ H Q} (hown : ∀ k ∈ tgv tg, k ∈ own.map (·.2)) (h : tNew X.K q (fComp q.C q.G (own.map (·.2)) elt tg it c) σ H Q) :
    tLc (tWi X.K q it) (tWg X.K (qF q) tg) (tWc X.K (qF q) c) (tW X.K (qF q) elt) (own.map (·.2)) σ H Q := by
  generalize own.map (·.2) = vs at hown h ⊢
  obtain ⟨β, ρ, env, st, e, S, h⟩ := h
  simp only [fComp] at h
  refine ⟨β, ρ, env, st, e, S, h.bind.imp (fun p s1 h1 can J H1 ρ1 a1 S1 F1 P hP => ?_) fun _ _ _ g => g⟩
  split at h1
  · rename_i hz
    obtain ⟨ds, s6, hc, hQ⟩ := noX_ok (RP.unl h1)
    have BN := S1.busyNew (o := .lst []) hP
    generalize hf : (fun (x : D) (s2 : Sto) => (evt q.C q.G tg x (PL.wipe env vs) s2).bind fun env2 s3 => (evc q.C q.G c env2 s3).bind fun b s4 =>
      if b = true then (ev q.C q.G elt env2 s4).bind fun y s5 => R.ok (some y) s5 else R.ok none s4) = f at hc
    refine ⟨fun i m H' => m = p.1.length - i ∧ i ≤ p.1.length ∧ ∃ ρ2 st2 acc accD, Stp ρ1 (lock s1 p.2) H1 ρ2 st2 H' ∧ RS X.K q.fa (P :: β) ρ2 st2 H' ∧ H' P = some (.lst acc) ∧ RDs X.K q.fa H' (Mu ρ2 st2) (P :: β) ρ2 st2.length accD acc ∧
      acc.length ≤ i ∧ ∃ rest, compL f (p.1.drop i) st2 = .ok rest s6 ∧ accD ++ rest = ds, ⟨_, rfl, Nat.zero_le _, ρ1, lock s1 p.2, [], [], Stp.off .refl hP, BN.1.sim sim_lock, upd_same, .nil, Nat.le_refl _, ds, hc, rfl⟩, ?_⟩
    rintro i m H' ⟨rfl, hi, ρ2, st2, acc, accD, a2, S2, hacc, rs, hlen, rest, hrest, hds⟩
    obtain ⟨F2, F3⟩ := F1 (P :: β) ρ2 st2 H' BN.2 a2.toB S2
    by_cases hlt : i < p.1.length
    · right
      obtain ⟨go, yl⟩ := F2 i p.1[i] (List.getElem?_eq_getElem hlt)
      refine ⟨go, fun H'' => ∃ m', m' < p.1.length - i ∧ (m' = p.1.length - (i + 1) ∧ i + 1 ≤ p.1.length ∧ ∃ ρ2 st2 acc accD, Stp ρ1 (lock s1 p.2) H1 ρ2 st2 H'' ∧ RS X.K q.fa (P :: β) ρ2 st2 H'' ∧ H'' P = some (.lst acc) ∧ RDs X.K q.fa H'' (Mu ρ2 st2) (P :: β) ρ2 st2.length accD acc ∧
        acc.length ≤ i + 1 ∧ ∃ rest, compL f (p.1.drop (i + 1)) st2 = .ok rest s6 ∧ accD ++ rest = ds), fun _ z => z, fun x H2 hy => ?_⟩
      obtain ⟨y1, y2, y3⟩ := yl x H2 hy
      have e2 : RE X.K q.fa (P :: β) ρ2 (PL.wipe env vs) st2 (L2.wipe σ vs) H2 := (((e.stp a1).stp stp_lock).go (a2.trans y1) BN.2).wipe vs
      rw [List.drop_eq_getElem_cons hlt] at hrest
      simp only [compL] at hrest
      obtain ⟨o, s3, hfx, hrest⟩ := R.bind_ok hrest
      rw [← hf] at hfx
      obtain ⟨env2, t1, hv1, hfx⟩ := R.bind_ok hfx
      refine ⟨P :: β, ρ2, _, st2, _, e2, y2, y3, ?_⟩
      rw [show (qF q).C = q.C from rfl, show (qF q).G = q.G from rfl, hv1]
      intro σ3 H3 ρ3 k3 a3 S3 e3
      refine ⟨kp_wipe k3 hown, ?_⟩
      obtain ⟨cb, t2, hv2, hfx⟩ := R.bind_ok hfx
      refine ⟨P :: β, ρ3, env2, t1, e3, S3, ?_⟩
      rw [show (qF q).C = q.C from rfl, show (qF q).G = q.G from rfl, hv2]
      intro H4 ρ4 a4 S4
      have hP2 : ∀ {ρ' : List Addr} {st' : Sto} {H' H'' : Hp} {ρ'' : List Addr} {st'' : Sto} {u : HO}, RS X.K q.fa (P :: β) ρ' st' H' → Stp ρ' st' H' ρ'' st'' H'' → H' P = some u → H'' P = some u := fun SS aa hh => by
        refine (aa.keep P _ hh fun ⟨j, _, hj, _⟩ => ?_).1
        exact (SS.busy P (by simp)).2 (List.mem_iff_getElem?.mpr ⟨j, hj⟩)
      have a34 := (y1.trans a3).trans a4
      have step : ∀ {H5 : Hp} {ρ5 : List Addr} {t5 : Sto} {acc5 : List V} {accD5 : List D}, Stp ρ1 (lock s1 p.2) H1 ρ5 t5 H5 → RS X.K q.fa (P :: β) ρ5 t5 H5 → H5 P = some (.lst acc5) → RDs X.K q.fa H5 (Mu ρ5 t5) (P :: β) ρ5 t5.length accD5 acc5 → acc5.length ≤ i + 1 →
          (∃ rest, compL f (p.1.drop (i + 1)) t5 = .ok rest s6 ∧ accD5 ++ rest = ds) → ∃ m', m' < p.1.length - i ∧ (m' = p.1.length - (i + 1) ∧ i + 1 ≤ p.1.length ∧ ∃ ρ2 st2 acc accD, Stp ρ1 (lock s1 p.2) H1 ρ2 st2 H5 ∧ RS X.K q.fa (P :: β) ρ2 st2 H5 ∧ H5 P = some (.lst acc) ∧ RDs X.K q.fa H5 (Mu ρ2 st2) (P :: β) ρ2 st2.length accD acc ∧
        acc.length ≤ i + 1 ∧ ∃ rest, compL f (p.1.drop (i + 1)) st2 = .ok rest s6 ∧ accD ++ rest = ds) := fun z1 z2 z3 z4 z5 z6 => ⟨_, by omega, rfl, hlt, _, _, _, _, z1, z2, z3, z4, z5, z6⟩
      cases cb with
      | false =>
        rw [if_neg Bool.false_ne_true] at hfx ⊢
        cases hfx
        exact step (a2.trans a34) S4 (hP2 S2 a34 hacc) (rs.stp a34) (by omega) ⟨rest, hrest, hds⟩
      | true =>
        rw [if_pos rfl] at hfx ⊢
        obtain ⟨y, t3, hv3, hfx⟩ := R.bind_ok hfx
        cases hfx
        refine ⟨P :: β, ρ4, env2, t2, e3.stp a4, S4, ?_⟩
        rw [show (qF q).C = q.C from rfl, show (qF q).G = q.G from rfl, hv3]
        intro v H5 ρ5 a5 S5 r5
        have a35 := a34.trans a5
        refine ⟨acc, hP2 S2 a35 hacc, ?_, ?_⟩
        · have := szOk_le hz
          omega
        · obtain ⟨rest', s7, hr7⟩ := R.bind_ok hrest
          obtain ⟨hr8, hr9⟩ := hr7
          cases hr9
          refine step ((a2.trans a35).off hP) (S5.off (by simp)) upd_same (((rs.stp a35).append (.cons r5 .nil)).off (by simp)) (by simp; omega) ⟨rest', hr8, by rw [← hds]; simp⟩
    · left
      have ei : i = p.1.length := by omega
      subst ei
      refine ⟨F3, ?_⟩
      rw [List.drop_length] at hrest
      cases hrest
      rw [List.append_nil] at hds
      subst hds
      have aF := a1.trans (stp_unlock can a2)
      have SF : RS X.K q.fa (P :: β) ρ2 (unlock s6 p.2) H' := S2.sim sim_unlock
      have hPH : H P = none := none_back S a1 S1 hP
      refine hQ P _ H' ρ2 _ aF rfl SF ?_ hacc hPH
      rw [← (sim_unlock (ids := p.2) (st := s6)).mu, ← (sim_unlock (ids := p.2) (st := s6)).len]
      exact rs
  · exact h1.elim
theorem s_comp {own : List (Str × Nat)} {elt : E} {tg : Tg} {it : It} {c : Oe} {pelt ptg pit : Expr} {pifs : List Expr} {scope : Scope} (L : LcOk X q own elt tg it c pelt ptg pit pifs scope) :
    PE X (.ListComp pelt [⟨ptg, pit, pifs, 0⟩] scope pos) (tNew X.K q (fComp q.C q.G (own.map (·.2)) elt tg it c)) :=
  (pe_lc L.calm L.nd L.it L.blk L.tgt L.ifs L.elt L.fold).w fun σ H Q h => w_comp L.own h

/-! two generators -/
def fIn (C : Nat → List D → Sto → R D) (G : Nat → D) (own1 : List Nat) (elt : E) (tg1 : Tg) (c1 : Oe) (env2 : PL.Env) (y : D) (s6 : Sto) : R (Option D) := (evt C G tg1 y (PL.wipe env2 own1) s6).bind fun env3 s7 => (evc C G c1 env3 s7).bind fun b1 s8 => if b1 then (ev C G elt env3 s8).bind fun z s9 => .ok (some z) s9 else .ok none s8
def fOut (C : Nat → List D → Sto → R D) (G : Nat → D) (own own1 : List Nat) (elt : E) (tg : Tg) (c : Oe) (tg1 : Tg) (it1 : It) (c1 : Oe) (env : PL.Env) (x : D) (s2 : Sto) : R (List D) := (evt C G tg x (PL.wipe env own) s2).bind fun env2 s3 => (evc C G c env2 s3).bind fun b s4 =>
      if b then (evi C G it1 env2 s4).bind fun p1 s5 => (compL (fIn C G own1 elt tg1 c1 env2) p1.1 (lock s5 p1.2)).unl p1.2 else .ok [] s4
def fComp2 (C : Nat → List D → Sto → R D) (G : Nat → D) (own own1 : List Nat) (elt : E) (tg : Tg) (it : It) (c : Oe) (tg1 : Tg) (it1 : It) (c1 : Oe) (env : PL.Env) (st : Sto) : R (List D) := (evi C G it env st).bind fun p s1 =>
  ((compLL (fOut C G own own1 elt tg c tg1 it1 c1 env) p.1 (lock s1 p.2)).noX.unl p.2).bind fun ds s6 => if szOk ds.length then .ok ds s6 else .bad
theorem ev_comp2 {own own1 : List Nat} {elt : E} {tg tg1 : Tg} {it it1 : It} {c c1 : Oe} {env : PL.Env} {st : Sto} : ev q.C q.G (.comp2 own own1 elt tg it c tg1 it1 c1) env st = (fComp2 q.C q.G own own1 elt tg it c tg1 it1 c1 env st).bind fun ds s => R.ok (D.frz ds) s := by
  simp only [ev, fComp2]
  rw [R.assoc]
  congr 1
  funext p s1
  rw [R.assoc]
  congr 1
  funext ds s6
  split <;> rfl
theorem unl_ok {α : Type} {r : R α} {ids : List Nat} {a : α} {s : Sto} (h : r.unl ids = .ok a s) : ∃ s', r = .ok a s' ∧ s = unlock s' ids := by
  cases r with
  | ok b s' => cases h; exact ⟨s', rfl, rfl⟩
  | exn c d s' => cases h
  | bad => cases h
def hide (H : Hp) (p : Addr) : Hp := fun a => if a = p then none else H a
theorem hide_same {H : Hp} {p : Addr} : hide H p p = none := if_pos rfl
theorem hide_ne {H : Hp} {p a : Addr} (h : a ≠ p) : hide H p a = H a := if_neg h
section
variable {K : PySem.W.Frag} {fa : Nat → Addr} {H H1 : Hp} {β ρ ρ1 : List Addr} {st s1 : Sto} {p : Addr}
theorem _root_.PL.Stp.hide (a : Stp ρ st H ρ1 s1 H1) (hp : H p = none) : Stp ρ st H ρ1 s1 (PL.hide H1 p) :=
  ⟨a.pre, a.le, fun b o h m => ⟨by rw [hide_ne (ne_of_none h hp)]; exact (a.keep b o h m).1, (a.keep b o h m).2⟩, a.lck⟩
theorem _root_.PL.Stp.ofHide : Stp ρ st (PL.hide H p) ρ st H := ⟨⟨[], by simp⟩, Nat.le_refl _, fun b o h m => by
  by_cases hb : b = p
  · rw [hb, hide_same] at h
    cases h
  · rw [hide_ne hb] at h
    exact ⟨h, m⟩, fun _ _ h => h⟩
theorem _root_.PL.Stp.unB (a : Stp ρ st (PL.hide H p) ρ1 s1 H1) (hp : p ∈ β) : StpB β ρ st H ρ1 s1 H1 := ⟨a.pre, a.le, fun b o h m nb => by
  have hb : b ≠ p := fun e => nb (e ▸ hp)
  exact a.keep b o (by rw [hide_ne hb]; exact h) m, a.lck⟩
theorem _root_.PL.RE.goB {env : PL.Env} {σ : L2.St} (e : RE K fa β ρ env st σ H) (a : StpB β ρ st H ρ1 s1 H1) : RE K fa β ρ1 env s1 σ H1 := ⟨e.len, fun i d h => by
  obtain ⟨v, h1, r⟩ := e.get i d h
  exact ⟨v, h1, r.goB a fun _ z => .inl z⟩⟩
end
theorem w_comp2 {vs vs1 : List Nat} {elt : E} {tg tg1 : Tg} {it it1 : It} {c c1 : Oe} {σ H Q} (hown : ∀ k ∈ tgv tg, k ∈ vs) (hown1 : ∀ k ∈ tgv tg1, k ∈ vs1) (h : tNew X.K q (fComp2 q.C q.G vs vs1 elt tg it c tg1 it1 c1) σ H Q) :
    tLc2 (tWi X.K q it) (tWg X.K (qF q) tg) (tWc X.K (qF q) c) (tWi X.K (qF q) it1) (tWg X.K (qF q) tg1) (tWc X.K (qF q) c1) (tW X.K (qF q) elt) vs vs1 σ H Q := by
  obtain ⟨β, ρ, env, st, e, S, h⟩ := h
  simp only [fComp2] at h
  refine ⟨β, ρ, env, st, e, S, h.bind.imp (fun p s1 h1 can J H1 ρ1 a1 S1 F1 P hP => ?_) fun _ _ _ g => g⟩
  obtain ⟨ds, s6, hc, hQ⟩ := noX_ok (RP.unl h1.bind)
  split at hQ
  · rename_i hz
    have BN := S1.busyNew (o := .lst []) hP
    generalize hf : fOut q.C q.G vs vs1 elt tg c tg1 it1 c1 env = f at hc
    refine ⟨fun i m H' => m = p.1.length - i ∧ i ≤ p.1.length ∧ ∃ ρ2 st2 acc accD, Stp ρ1 (lock s1 p.2) H1 ρ2 st2 H' ∧ RS X.K q.fa (P :: β) ρ2 st2 H' ∧ H' P = some (.lst acc) ∧ RDs X.K q.fa H' (Mu ρ2 st2) (P :: β) ρ2 st2.length accD acc ∧
      ∃ rest, compLL f (p.1.drop i) st2 = .ok rest s6 ∧ accD ++ rest = ds, ⟨_, rfl, Nat.zero_le _, ρ1, lock s1 p.2, [], [], Stp.off .refl hP, BN.1.sim sim_lock, upd_same, .nil, ds, hc, rfl⟩, ?_⟩
    rintro i m H' ⟨rfl, hi, ρ2, st2, acc, accD, a2, S2, hacc, rs, rest, hrest, hds⟩
    obtain ⟨F2, F3⟩ := F1 (P :: β) ρ2 st2 H' BN.2 a2.toB S2
    by_cases hlt : i < p.1.length
    · right
      obtain ⟨go, yl⟩ := F2 i p.1[i] (List.getElem?_eq_getElem hlt)
      refine ⟨go, fun H'' => ∃ m', m' < p.1.length - i ∧ (m' = p.1.length - (i + 1) ∧ i + 1 ≤ p.1.length ∧ ∃ ρ2 st2 acc accD, Stp ρ1 (lock s1 p.2) H1 ρ2 st2 H'' ∧ RS X.K q.fa (P :: β) ρ2 st2 H'' ∧ H'' P = some (.lst acc) ∧ RDs X.K q.fa H'' (Mu ρ2 st2) (P :: β) ρ2 st2.length accD acc ∧
        ∃ rest, compLL f (p.1.drop (i + 1)) st2 = .ok rest s6 ∧ accD ++ rest = ds), fun _ z => z, fun x H2 hy => ?_⟩
      obtain ⟨y1, y2, y3⟩ := yl x H2 hy
      have e2 : RE X.K q.fa (P :: β) ρ2 (PL.wipe env vs) st2 (L2.wipe σ vs) H2 := (((e.stp a1).stp stp_lock).go (a2.trans y1) BN.2).wipe vs
      rw [List.drop_eq_getElem_cons hlt] at hrest
      simp only [compLL] at hrest
      obtain ⟨ys, s3, hfx, hrest⟩ := R.bind_ok hrest
      obtain ⟨rest', s7, hr7, hr8⟩ := R.bind_ok hrest
      cases hr8
      rw [← hf] at hfx
      unfold fOut at hfx
      obtain ⟨env2, t1, hv1, hfx⟩ := R.bind_ok hfx
      refine ⟨P :: β, ρ2, _, st2, _, e2, y2, y3, ?_⟩
      rw [show (qF q).C = q.C from rfl, show (qF q).G = q.G from rfl, hv1]
      intro σ3 H3 ρ3 k3 a3 S3 e3
      refine ⟨kp_wipe k3 hown, ?_⟩
      obtain ⟨cb, t2, hv2, hfx⟩ := R.bind_ok hfx
      refine ⟨P :: β, ρ3, env2, t1, e3, S3, ?_⟩
      rw [show (qF q).C = q.C from rfl, show (qF q).G = q.G from rfl, hv2]
      intro H4 ρ4 a4 S4
      have hP2 : ∀ {ρ' : List Addr} {st' : Sto} {H' H'' : Hp} {ρ'' : List Addr} {st'' : Sto} {u : HO}, RS X.K q.fa (P :: β) ρ' st' H' → Stp ρ' st' H' ρ'' st'' H'' → H' P = some u → H'' P = some u := fun SS aa hh => by
        refine (aa.keep P _ hh fun ⟨j, _, hj, _⟩ => ?_).1
        exact (SS.busy P (by simp)).2 (List.mem_iff_getElem?.mpr ⟨j, hj⟩)
      have a34 := (y1.trans a3).trans a4
      have step : ∀ {H5 : Hp} {ρ5 : List Addr} {t5 : Sto} {acc5 : List V} {accD5 : List D}, Stp ρ1 (lock s1 p.2) H1 ρ5 t5 H5 → RS X.K q.fa (P :: β) ρ5 t5 H5 → H5 P = some (.lst acc5) → RDs X.K q.fa H5 (Mu ρ5 t5) (P :: β) ρ5 t5.length accD5 acc5 →
          (∃ rest, compLL f (p.1.drop (i + 1)) t5 = .ok rest s6 ∧ accD5 ++ rest = ds) → ∃ m', m' < p.1.length - i ∧ (m' = p.1.length - (i + 1) ∧ i + 1 ≤ p.1.length ∧ ∃ ρ2 st2 acc accD, Stp ρ1 (lock s1 p.2) H1 ρ2 st2 H5 ∧ RS X.K q.fa (P :: β) ρ2 st2 H5 ∧ H5 P = some (.lst acc) ∧ RDs X.K q.fa H5 (Mu ρ2 st2) (P :: β) ρ2 st2.length accD acc ∧
        ∃ rest, compLL f (p.1.drop (i + 1)) st2 = .ok rest s6 ∧ accD ++ rest = ds) := fun z1 z2 z3 z4 z6 => ⟨_, by omega, rfl, hlt, _, _, _, _, z1, z2, z3, z4, z6⟩
      cases cb with
      | false =>
        rw [if_neg Bool.false_ne_true] at hfx ⊢
        cases hfx
        exact step (a2.trans a34) S4 (hP2 S2 a34 hacc) (rs.stp a34) ⟨rest', hr7, by simpa using hds⟩
      | true =>
        rw [if_pos rfl] at hfx ⊢
        obtain ⟨p1, t3, hv3, hfx⟩ := R.bind_ok hfx
        obtain ⟨t9, hin, e9⟩ := unl_ok hfx
        refine ⟨P :: β, ρ4, env2, t2, e3.stp a4, S4, ?_⟩
        rw [show (qF q).C = q.C from rfl, show (qF q).G = q.G from rfl, hv3]
        intro can1 J1 H5 ρ5 a5 S5 G1
        have a35 := a34.trans a5
        generalize hfi : fIn q.C q.G vs1 elt tg1 c1 env2 = f1 at hin
        refine ⟨fun j k H' => k = p1.1.length - j ∧ j ≤ p1.1.length ∧ ∃ ρ6 st6 acc6 accD6, Stp ρ5 (lock t3 p1.2) (hide H5 P) ρ6 st6 H' ∧ RS X.K q.fa (P :: β) ρ6 st6 H' ∧ H' P = some (.lst acc6) ∧ RDs X.K q.fa H' (Mu ρ6 st6) (P :: β) ρ6 st6.length accD6 acc6 ∧
          ∃ rest1, compL f1 (p1.1.drop j) st6 = .ok rest1 t9 ∧ accD6 ++ rest1 = accD ++ ys, ⟨_, rfl, Nat.zero_le _, ρ5, lock t3 p1.2, acc, accD, .ofHide, S5.sim sim_lock, hP2 S2 a35 hacc, (rs.stp a35).stp stp_lock, ys, hin, rfl⟩, ?_⟩
        rintro j k H' ⟨rfl, hj, ρ6, st6, acc6, accD6, a6, S6, hacc6, rs6, rest1, hrest1, hds1⟩
        obtain ⟨G2, G3⟩ := G1 (P :: β) ρ6 st6 H' (fun _ z => .inl z) (a6.unB (by simp)) S6
        by_cases hlt1 : j < p1.1.length
        · right
          obtain ⟨go1, yl1⟩ := G2 j p1.1[j] (List.getElem?_eq_getElem hlt1)
          refine ⟨go1, fun H'' => ∃ k', k' < p1.1.length - j ∧ (k' = p1.1.length - (j + 1) ∧ j + 1 ≤ p1.1.length ∧ ∃ ρ6 st6 acc6 accD6, Stp ρ5 (lock t3 p1.2) (hide H5 P) ρ6 st6 H'' ∧ RS X.K q.fa (P :: β) ρ6 st6 H'' ∧ H'' P = some (.lst acc6) ∧ RDs X.K q.fa H'' (Mu ρ6 st6) (P :: β) ρ6 st6.length accD6 acc6 ∧
            ∃ rest1, compL f1 (p1.1.drop (j + 1)) st6 = .ok rest1 t9 ∧ accD6 ++ rest1 = accD ++ ys), fun _ z => z, fun x1 H7 hy1 => ?_⟩
          obtain ⟨b1, b2, b3⟩ := yl1 x1 H7 hy1
          have e7 : RE X.K q.fa (P :: β) ρ6 (PL.wipe env2 vs1) st6 (L2.wipe σ3 vs1) H7 := (((((e3.stp a4).stp a5).stp stp_lock).goB (a6.unB (by simp))).stp b1).wipe vs1
          rw [List.drop_eq_getElem_cons hlt1] at hrest1
          simp only [compL] at hrest1
          obtain ⟨o, u3, hfx1, hrest1⟩ := R.bind_ok hrest1
          rw [← hfi] at hfx1
          unfold fIn at hfx1
          obtain ⟨env3, u1, hw1, hfx1⟩ := R.bind_ok hfx1
          refine ⟨P :: β, ρ6, _, st6, _, e7, b2, b3, ?_⟩
          rw [show (qF q).C = q.C from rfl, show (qF q).G = q.G from rfl, hw1]
          intro σ8 H8 ρ8 k8 a8 S8 e8
          refine ⟨kp_wipe k8 hown1, ?_⟩
          obtain ⟨cb1, u2, hw2, hfx1⟩ := R.bind_ok hfx1
          refine ⟨P :: β, ρ8, env3, u1, e8, S8, ?_⟩
          rw [show (qF q).C = q.C from rfl, show (qF q).G = q.G from rfl, hw2]
          intro H9 ρ9 a9 S9
          have a89 := (b1.trans a8).trans a9
          have step1 : ∀ {H10 : Hp} {ρ10 : List Addr} {t10 : Sto} {acc10 : List V} {accD10 : List D}, Stp ρ5 (lock t3 p1.2) (hide H5 P) ρ10 t10 H10 → RS X.K q.fa (P :: β) ρ10 t10 H10 → H10 P = some (.lst acc10) → RDs X.K q.fa H10 (Mu ρ10 t10) (P :: β) ρ10 t10.length accD10 acc10 →
              (∃ rest1, compL f1 (p1.1.drop (j + 1)) t10 = .ok rest1 t9 ∧ accD10 ++ rest1 = accD ++ ys) → ∃ k', k' < p1.1.length - j ∧ (k' = p1.1.length - (j + 1) ∧ j + 1 ≤ p1.1.length ∧ ∃ ρ6 st6 acc6 accD6, Stp ρ5 (lock t3 p1.2) (hide H5 P) ρ6 st6 H10 ∧ RS X.K q.fa (P :: β) ρ6 st6 H10 ∧ H10 P = some (.lst acc6) ∧ RDs X.K q.fa H10 (Mu ρ6 st6) (P :: β) ρ6 st6.length accD6 acc6 ∧
            ∃ rest1, compL f1 (p1.1.drop (j + 1)) st6 = .ok rest1 t9 ∧ accD6 ++ rest1 = accD ++ ys) := fun z1 z2 z3 z4 z6 => ⟨_, by omega, rfl, hlt1, _, _, _, _, z1, z2, z3, z4, z6⟩
          cases cb1 with
          | false =>
            rw [if_neg Bool.false_ne_true] at hfx1 ⊢
            cases hfx1
            exact step1 (a6.trans a89) S9 (hP2 S6 a89 hacc6) (rs6.stp a89) ⟨rest1, hrest1, hds1⟩
          | true =>
            rw [if_pos rfl] at hfx1 ⊢
            obtain ⟨y, u4, hw3, hfx1⟩ := R.bind_ok hfx1
            cases hfx1
            refine ⟨P :: β, ρ9, env3, u2, e8.stp a9, S9, ?_⟩
            rw [show (qF q).C = q.C from rfl, show (qF q).G = q.G from rfl, hw3]
            intro v H11 ρ11 a11 S11 r11
            have a12 := a89.trans a11
            obtain ⟨rest2, u5, hr5, hr6⟩ := R.bind_ok hrest1
            cases hr6
            refine ⟨acc6, hP2 S6 a12 hacc6, ?_, ?_⟩
            · have h1 := szOk_le hz
              have h2 := rs6.length
              have h3 : (accD ++ (ys ++ rest')).length = ds.length := by rw [hds]
              have h4 : (accD6 ++ y :: rest2).length = (accD ++ ys).length := by rw [hds1]
              simp only [List.length_append, List.length_cons] at h3 h4
              omega
            · refine step1 ((a6.trans a12).off hide_same) (S11.off (by simp)) upd_same (((rs6.stp a12).append (.cons r11 .nil)).off (by simp)) ⟨rest2, hr5, by rw [← hds1]; simp⟩
        · left
          have ej : j = p1.1.length := by omega
          subst ej
          rw [List.drop_length] at hrest1
          cases hrest1
          rw [List.append_nil] at hds1
          subst hds1
          refine ⟨G3, ?_⟩
          have aF := ((a2.trans a35).hide hP).trans (stp_unlock can1 a6)
          have SF : RS X.K q.fa (P :: β) ρ6 (unlock t9 p1.2) H' := S6.sim sim_unlock
          rw [e9] at hr7
          exact step aF SF hacc6 (by rw [← (sim_unlock (ids := p1.2) (st := t9)).mu, ← (sim_unlock (ids := p1.2) (st := t9)).len]; exact rs6) ⟨rest', hr7, (List.append_assoc ..).trans hds⟩
    · left
      have ei : i = p.1.length := by omega
      subst ei
      refine ⟨F3, ?_⟩
      rw [List.drop_length] at hrest
      cases hrest
      rw [List.append_nil] at hds
      subst hds
      have aF := a1.trans (stp_unlock can a2)
      have SF : RS X.K q.fa (P :: β) ρ2 (unlock s6 p.2) H' := S2.sim sim_unlock
      have hPH : H P = none := none_back S a1 S1 hP
      refine hQ P _ H' ρ2 _ aF rfl SF ?_ hacc hPH
      rw [← (sim_unlock (ids := p.2) (st := s6)).mu, ← (sim_unlock (ids := p.2) (st := s6)).len]
      exact rs
  · exact hQ.elim

structure LcOk2 (X : Cx) (q : Qm) (own : List (Str × Nat)) (vs1 : List Nat) (elt : E) (tg : Tg) (it : It) (c : Oe) (tg1 : Tg) (it1 : It) (c1 : Oe) (pelt ptg pit ptg1 pit1 : Expr) (pifs pifs1 : List Expr) (scope : Scope) : Prop where
  calm : X.calm = true
  nd : X.N.Nodup
  it : PI X ptg pit (tWi X.K q it)
  blk : BlkOk X.N X.env.scope scope own
  tgt : ∀ (s : Shared) (H : Hp) (C : Addr) (cl : List (Str × Addr)) (fp : List Addr), PG (X.blk s H scope (compEnvC scope cl C X.env) fp) ptg (tWg X.K (qF q) tg)
  ifs : ∀ (s : Shared) (H : Hp) (C : Addr) (cl : List (Str × Addr)) (fp : List Addr), PTs (X.blk s H scope (compEnvC scope cl C X.env) fp) pifs (tWc X.K (qF q) c)
  it1 : ∀ (s : Shared) (H : Hp) (C : Addr) (cl : List (Str × Addr)) (fp : List Addr), PI (X.blk s H scope (compEnvC scope cl C X.env) fp) ptg1 pit1 (tWi X.K (qF q) it1)
  tgt1 : ∀ (s : Shared) (H : Hp) (C : Addr) (cl : List (Str × Addr)) (fp : List Addr), PG (X.blk s H scope (compEnvC scope cl C X.env) fp) ptg1 (tWg X.K (qF q) tg1)
  ifs1 : ∀ (s : Shared) (H : Hp) (C : Addr) (cl : List (Str × Addr)) (fp : List Addr), PTs (X.blk s H scope (compEnvC scope cl C X.env) fp) pifs1 (tWc X.K (qF q) c1)
  elt : ∀ (s : Shared) (H : Hp) (C : Addr) (cl : List (Str × Addr)) (fp : List Addr), PE (X.blk s H scope (compEnvC scope cl C X.env) fp) pelt (tW X.K (qF q) elt)
  fold : ∀ x, foldedSetIterable pit X.env x = pure x
  fold1 : ∀ env x, foldedSetIterable pit1 env x = pure x
  sub : ∀ k ∈ vs1, k ∈ own.map (·.2)
  own1 : ∀ k ∈ tgv tg1, k ∈ vs1
  own : ∀ k ∈ tgv tg, k ∈ own.map (·.2)
theorem s_comp2 {own : List (Str × Nat)} {vs1 : List Nat} {elt : E} {tg tg1 : Tg} {it it1 : It} {c c1 : Oe} {pelt ptg pit ptg1 pit1 : Expr} {pifs pifs1 : List Expr} {scope : Scope} (L : LcOk2 X q own vs1 elt tg it c tg1 it1 c1 pelt ptg pit ptg1 pit1 pifs pifs1 scope) :
    PE X (.ListComp pelt [⟨ptg, pit, pifs, 0⟩, ⟨ptg1, pit1, pifs1, 0⟩] scope pos) (tNew X.K q (fComp2 q.C q.G (own.map (·.2)) vs1 elt tg it c tg1 it1 c1)) :=
  (pe_lc2 L.calm L.nd L.it L.blk L.sub L.tgt L.ifs L.it1 L.tgt1 L.ifs1 L.elt L.fold L.fold1).w fun σ H Q h => w_comp2 L.own L.own1 h

/-! ### statements -/
def PostF (K : PySem.W.Frag) (fa : Nat → Addr) (β ρ : List Addr) (st : Sto) (H : Hp) (En : Ends) (fl : Fl) (st' : Sto) : Prop := match fl with
  | .nx env' => ∀ σ' H' ρ', Stp ρ st H ρ' st' H' → RS K fa β ρ' st' H' → RE K fa β ρ' env' st' σ' H' → En.nx σ' H'
  | .bk env' => ∀ σ' H' ρ', Stp ρ st H ρ' st' H' → RS K fa β ρ' st' H' → RE K fa β ρ' env' st' σ' H' → En.bk σ' H'
  | .ct env' => ∀ σ' H' ρ', Stp ρ st H ρ' st' H' → RS K fa β ρ' st' H' → RE K fa β ρ' env' st' σ' H' → En.ct σ' H'
  | .rt d => ∀ v H' ρ', Stp ρ st H ρ' st' H' → RS K fa β ρ' st' H' → RD K fa H' (Mu ρ' st') β ρ' st'.length d v → En.rt v H'
theorem PostF.after {K : PySem.W.Frag} {fa : Nat → Addr} {β ρ ρ1 : List Addr} {st s1 st' : Sto} {H H1 : Hp} {En : Ends} {fl : Fl} (h : PostF K fa β ρ st H En fl st') (a : Stp ρ st H ρ1 s1 H1) : PostF K fa β ρ1 s1 H1 En fl st' := by
  cases fl with
  | nx env => exact fun σ' H' ρ' b S e => h σ' H' ρ' (a.trans b) S e
  | bk env => exact fun σ' H' ρ' b S e => h σ' H' ρ' (a.trans b) S e
  | ct env => exact fun σ' H' ρ' b S e => h σ' H' ρ' (a.trans b) S e
  | rt d => exact fun v H' ρ' b S r => h v H' ρ' (a.trans b) S r
section
variable (K : PySem.W.Frag) (q : Qm)
def tS (s : S) : TS := fun En σ H => ∃ β ρ env st, RE K q.fa β ρ env st σ H ∧ RS K q.fa β ρ st H ∧ RP (ex q.C q.G q.W s env st) (PostF K q.fa β ρ st H En) (PostX K q β ρ st H)
def tSs (s : Ss) : TS := fun En σ H => ∃ β ρ env st, RE K q.fa β ρ env st σ H ∧ RS K q.fa β ρ st H ∧ RP (exs q.C q.G q.W s env st) (PostF K q.fa β ρ st H En) (PostX K q β ρ st H)
end
theorem RP.aftF {K : PySem.W.Frag} {β ρ ρ1 : List Addr} {st s1 : Sto} {H H1 : Hp} {En : Ends} {r : R Fl} (h : RP r (PostF K q.fa β ρ st H En) (PostX K q β ρ st H)) (a : Stp ρ st H ρ1 s1 H1) : RP r (PostF K q.fa β ρ1 s1 H1 En) (PostX K q β ρ1 s1 H1) :=
  h.imp (fun _ _ g => g.after a) fun _ _ _ g => g.after a
theorem rp_tru {α : Type} {r : R D} {f : Bool → Sto → R α} {P : α → Sto → Prop} {Xx : Nat → D → Sto → Prop} (h : RP (r.bind fun x s1 => (tru x s1).bind f) P Xx) : RP (r.bind fun x s1 => tru x s1) (fun b s => RP (f b s) P Xx) Xx := by
  cases r with
  | ok x s1 =>
    have h : RP ((tru x s1).bind f) P Xx := h
    exact h.bind
  | exn c d s1 => exact h
  | bad => exact h
section
variable {s : S} {ss ss2 : Ss} {ps : Stmt} {pss pss2 : List Stmt}
theorem z_nil : PSs X [] (tSs X.K q .nil) := ⟨fun pins s σ H En I ⟨β, ρ, env, st, e, S, h⟩ => by
  simp only [exs] at h
  exact pss_nil.run pins s σ H En I (h σ H ρ .refl S e)⟩
theorem z_cons (h1 : PS X ps (tS X.K q s)) (h2 : PSs X pss (tSs X.K q ss)) : PSs X (ps :: pss) (tSs X.K q (.cons s ss)) :=
  (pss_cons h1 h2).w fun En σ H ⟨β, ρ, env, st, e, S, h⟩ => by
    simp only [exs] at h
    refine ⟨β, ρ, env, st, e, S, h.bind.imp (fun fl s1 g => ?_) fun _ _ _ g => g⟩
    cases fl with
    | nx env1 => exact fun σ' H' ρ' a1 S1 e1 => ⟨β, ρ', env1, s1, e1, S1, RP.aftF g a1⟩
    | bk env1 => exact g
    | ct env1 => exact g
    | rt d => exact g
theorem z_pas : PS X (.Pass pos) (tS X.K q .pas) := ps_pass.w fun En σ H ⟨β, ρ, env, st, e, S, h⟩ => by
  simp only [ex] at h
  exact h σ H ρ .refl S e
theorem z_brk : PS X (.Break pos) (tS X.K q .brk) := ps_break.w fun En σ H ⟨β, ρ, env, st, e, S, h⟩ => by
  simp only [ex] at h
  exact h σ H ρ .refl S e
theorem z_cnt : PS X (.Continue pos) (tS X.K q .cnt) := ps_continue.w fun En σ H ⟨β, ρ, env, st, e, S, h⟩ => by
  simp only [ex] at h
  exact h σ H ρ .refl S e
theorem z_retn : PS X (.Return none pos) (tS X.K q .retn) := ps_retN.w fun En σ H ⟨β, ρ, env, st, e, S, h⟩ => by
  simp only [ex] at h
  exact h .non H ρ .refl S .non
theorem z_ret (ha : PE X pa (tW X.K q a)) : PS X (.Return (some pa) pos) (tS X.K q (.ret a)) := (ps_ret ha).w fun En σ H ⟨β, ρ, env, st, e, S, h⟩ => by
  simp only [ex] at h
  exact ⟨β, ρ, env, st, e, S, h.bind.imp (fun x s1 g v H1 ρ1 a1 S1 r1 => g v H1 ρ1 a1 S1 r1) fun _ _ _ g => g⟩
theorem z_exp (ha : PE X pa (tW X.K q a)) (hs : swapsWith pa none pos.line X.env = pure false) : PS X (.Expr pa pos) (tS X.K q (.exp a)) := (ps_expr ha hs).w fun En σ H ⟨β, ρ, env, st, e, S, h⟩ => by
  simp only [ex] at h
  exact ⟨β, ρ, env, st, e, S, h.bind.imp (fun x s1 g v H1 ρ1 a1 S1 r1 => g σ H1 ρ1 a1 S1 (e.stp a1)) fun _ _ _ g => g⟩
theorem z_if (hc : PT X pc (tWT X.K q c)) (h1 : PSs X pss (tSs X.K q ss)) (h2 : PSs X pss2 (tSs X.K q ss2)) : PS X (.If pc pss pss2 pos) (tS X.K q (.ifs c ss ss2)) := (ps_if hc h1 h2).w fun En σ H ⟨β, ρ, env, st, e, S, h⟩ => by
  simp only [ex] at h
  refine ⟨β, ρ, env, st, e, S, (rp_tru h).imp (fun k s1 g H1 ρ1 a1 S1 => ?_) fun _ _ _ g => g⟩
  cases k with
  | true =>
    rw [if_pos rfl] at g ⊢
    exact ⟨β, ρ1, env, s1, e.stp a1, S1, RP.aftF g a1⟩
  | false =>
    rw [if_neg Bool.false_ne_true] at g ⊢
    exact ⟨β, ρ1, env, s1, e.stp a1, S1, RP.aftF g a1⟩
theorem w_asg {t : Tg} {En : Ends} {σ H} (h : tS X.K q (.asg t a) En σ H) : tAsg (tW X.K q a) (tWg X.K q t) En σ H := by
  obtain ⟨β, ρ, env, st, e, S, h⟩ := h
  simp only [ex] at h
  refine ⟨β, ρ, env, st, e, S, h.bind.imp (fun x s1 g v H1 ρ1 a1 S1 r1 => ?_) fun _ _ _ g => g⟩
  exact ⟨β, ρ1, env, s1, x, e.stp a1, S1, r1, (g.bind.aftX a1).imp (fun env1 s2 g2 σ2 H2 ρ2 _ a2 S2 e2 => g2 σ2 H2 ρ2 (a1.trans a2) S2 e2) fun _ _ _ g2 => g2⟩
theorem z_asg {t : Tg} {pt : Expr} (ha : PE X pa (tW X.K q a)) (hg : PG X pt (tWg X.K q t)) (hs : swapsWithSole [pt] pa pos.line X.env = pure false) (hw : swappedStores [pt] pa X.env = pure none) (h1 : (assignEach [pt] X.env).map (·.2) = [PySem.assign pt X.env]) :
    PS X (.Assign [pt] pa pos) (tS X.K q (.asg t a)) := (ps_asg ha hg hs hw h1).w fun En σ H h => w_asg h
/-- a list into a place of the store, or as a value -/
def evF (C : Nat → List D → Sto → R D) (G : Nat → D) (e : E) (env : PL.Env) (st : Sto) : R (List D) := (ev C G e env st).bind fun d s => match d with
  | .frz ds => .ok ds s
  | _ => .bad
theorem s_thaw (h : PE X pe (tNew X.K q (evF q.C q.G a))) : PE X pe (tW X.K q (.thaw a)) := h.w fun σ H Q ⟨β, ρ, env, st, e, S, h⟩ => new_thaw ⟨β, ρ, env, st, e, S, by
  simp only [ev] at h
  unfold evF
  rw [R.assoc]
  cases hv : ev q.C q.G a env st with
  | bad => rw [hv] at h; exact h.elim
  | exn c d s1 => rw [hv] at h; exact h
  | ok d s1 =>
    rw [hv] at h
    cases d with
    | frz ds => exact h
    | _ => exact h.elim⟩
theorem f_comp {own : List Nat} {elt : E} {tg : Tg} {it : It} {c : Oe} (h : PE X pe (tNew X.K q (fComp q.C q.G own elt tg it c))) : PE X pe (tW X.K q (.comp own elt tg it c)) ∧ PE X pe (tNew X.K q (evF q.C q.G (.comp own elt tg it c))) := by
  refine ⟨h.w fun σ H Q ⟨β, ρ, env, st, e, S, h⟩ => new_frz ⟨β, ρ, env, st, e, S, by rw [← ev_comp]; exact h⟩, h.w fun σ H Q ⟨β, ρ, env, st, e, S, h⟩ => ⟨β, ρ, env, st, e, S, ?_⟩⟩
  unfold evF at h
  rw [ev_comp, R.assoc] at h
  cases hv : fComp q.C q.G own elt tg it c env st with
  | bad => rw [hv] at h; exact h.elim
  | exn c d s1 => rw [hv] at h; exact h
  | ok d s1 => rw [hv] at h; exact h
theorem f_comp2 {own own1 : List Nat} {elt : E} {tg tg1 : Tg} {it it1 : It} {c c1 : Oe} (h : PE X pe (tNew X.K q (fComp2 q.C q.G own own1 elt tg it c tg1 it1 c1))) : PE X pe (tW X.K q (.comp2 own own1 elt tg it c tg1 it1 c1)) ∧ PE X pe (tNew X.K q (evF q.C q.G (.comp2 own own1 elt tg it c tg1 it1 c1))) := by
  refine ⟨h.w fun σ H Q ⟨β, ρ, env, st, e, S, h⟩ => new_frz ⟨β, ρ, env, st, e, S, by rw [← ev_comp2]; exact h⟩, h.w fun σ H Q ⟨β, ρ, env, st, e, S, h⟩ => ⟨β, ρ, env, st, e, S, ?_⟩⟩
  unfold evF at h
  rw [ev_comp2, R.assoc] at h
  cases hv : fComp2 q.C q.G own own1 elt tg it c tg1 it1 c1 env st with
  | bad => rw [hv] at h; exact h.elim
  | exn c d s1 => rw [hv] at h; exact h
  | ok d s1 => rw [hv] at h; exact h
/-- name = a comprehension on the same line -/
theorem z_asgLc2 {i : Nat} {y : Str} {py cpos : Pos} {own : List (Str × Nat)} {vs1 : List Nat} {elt : E} {tg tg1 : Tg} {it it1 : It} {c c1 : Oe} {pelt ptg pit ptg1 pit1 : Expr} {pifs pifs1 : List Expr} {scope : Scope} (th : Bool) (L : LcOk2 X q own vs1 elt tg it c tg1 it1 c1 pelt ptg pit ptg1 pit1 pifs pifs1 scope) (hy : X.N[i]? = some y) (hyl : X.env.scope.names.lookup y = some .local)
    (hsw : swapsWith (.ListComp pelt [⟨ptg, pit, pifs, 0⟩, ⟨ptg1, pit1, pifs1, 0⟩] scope cpos) (some (.Name y py)) pos.line X.env = pure true) :
    PS X (.Assign [.Name y py] (.ListComp pelt [⟨ptg, pit, pifs, 0⟩, ⟨ptg1, pit1, pifs1, 0⟩] scope cpos) pos) (tS X.K q (.asg (.var i) (if th then .thaw (.comp2 (own.map (·.2)) vs1 elt tg it c tg1 it1 c1) else .comp2 (own.map (·.2)) vs1 elt tg it c tg1 it1 c1))) :=
  (ps_setLc2 L.calm L.nd hy hyl hsw L.it L.blk L.sub L.tgt L.ifs L.it1 L.tgt1 L.ifs1 L.elt L.fold L.fold1).w fun En σ H h => by
    have g := w_asg h
    refine w_comp2 L.own L.own1 ?_
    have g : tW X.K q (if th then .thaw (.comp2 (own.map (·.2)) vs1 elt tg it c tg1 it1 c1) else .comp2 (own.map (·.2)) vs1 elt tg it c tg1 it1 c1) σ H (fun x H1 => gName i x σ H1 En.nx) := by
      obtain ⟨β, ρ, env, st, e, S, g⟩ := g
      refine ⟨β, ρ, env, st, e, S, g.imp (fun x s1 g v H1 ρ1 a1 S1 r1 => ?_) fun _ _ _ g => g⟩
      obtain ⟨β', ρ', env', st', d, e', S', r', g'⟩ := g v H1 ρ1 a1 S1 r1
      simp only [evt] at g'
      split at g'
      · exact g' _ H1 ρ' ⟨by simp, fun k hk => List.getElem?_set_ne (fun z => hk (by simp [tgv, z]))⟩ .refl S' (e'.set r')
      · exact g'.elim
    cases th with
    | false =>
      obtain ⟨β, ρ, env, st, e, S, g⟩ := g
      exact new_frz ⟨β, ρ, env, st, e, S, by rw [← ev_comp2]; exact g⟩
    | true =>
      obtain ⟨β, ρ, env, st, e, S, g⟩ := g
      refine new_thaw ⟨β, ρ, env, st, e, S, ?_⟩
      rw [if_pos rfl] at g
      have e2 : ev q.C q.G (.thaw (.comp2 (own.map (·.2)) vs1 elt tg it c tg1 it1 c1)) env st = (ev q.C q.G (.comp2 (own.map (·.2)) vs1 elt tg it c tg1 it1 c1) env st).bind fun x s1 => thawD x s1 := by simp only [ev]
      rw [e2, ev_comp2, R.assoc] at g
      exact g
/-- name = a comprehension on the same line -/
theorem z_asgLc {i : Nat} {y : Str} {py cpos : Pos} {own : List (Str × Nat)} {elt : E} {tg : Tg} {it : It} {c : Oe} {pelt ptg pit : Expr} {pifs : List Expr} {scope : Scope} (th : Bool) (L : LcOk X q own elt tg it c pelt ptg pit pifs scope) (hy : X.N[i]? = some y) (hyl : X.env.scope.names.lookup y = some .local)
    (hsw : swapsWith (.ListComp pelt [⟨ptg, pit, pifs, 0⟩] scope cpos) (some (.Name y py)) pos.line X.env = pure true) :
    PS X (.Assign [.Name y py] (.ListComp pelt [⟨ptg, pit, pifs, 0⟩] scope cpos) pos) (tS X.K q (.asg (.var i) (if th then .thaw (.comp (own.map (·.2)) elt tg it c) else .comp (own.map (·.2)) elt tg it c))) :=
  (ps_setLc L.calm L.nd hy hyl hsw L.it L.blk L.tgt L.ifs L.elt L.fold).w fun En σ H h => by
    have g := w_asg h
    refine w_comp L.own ?_
    have g : tW X.K q (if th then .thaw (.comp (own.map (·.2)) elt tg it c) else .comp (own.map (·.2)) elt tg it c) σ H (fun x H1 => gName i x σ H1 En.nx) := by
      obtain ⟨β, ρ, env, st, e, S, g⟩ := g
      refine ⟨β, ρ, env, st, e, S, g.imp (fun x s1 g v H1 ρ1 a1 S1 r1 => ?_) fun _ _ _ g => g⟩
      obtain ⟨β', ρ', env', st', d, e', S', r', g'⟩ := g v H1 ρ1 a1 S1 r1
      simp only [evt] at g'
      split at g'
      · exact g' _ H1 ρ' ⟨by simp, fun k hk => List.getElem?_set_ne (fun z => hk (by simp [tgv, z]))⟩ .refl S' (e'.set r')
      · exact g'.elim
    cases th with
    | false =>
      obtain ⟨β, ρ, env, st, e, S, g⟩ := g
      exact new_frz ⟨β, ρ, env, st, e, S, by rw [← ev_comp]; exact g⟩
    | true =>
      obtain ⟨β, ρ, env, st, e, S, g⟩ := g
      refine new_thaw ⟨β, ρ, env, st, e, S, ?_⟩
      rw [if_pos rfl] at g
      simp only [ev] at g
      rw [show ((evi q.C q.G it env st).bind fun p s1 => _) = _ from ev_comp (q := q) (own := own.map (·.2)) (elt := elt) (tg := tg) (it := it) (c := c) (env := env) (st := st), R.assoc] at g
      exact g
/-- a, b = x, y -/
theorem z_par2 {i j : Nat} {x y : Str} {px py pt : Pos} {kt k2 pt2} (hc : X.calm = true) (hN : X.N.Nodup) (hi : X.N[i]? = some x) (hj : X.N[j]? = some y) (hij : i ≠ j)
    (hx : X.env.scope.names.lookup x = some .local) (hy : X.env.scope.names.lookup y = some .local) (ha : PA X [pa, pb] (tWs X.K q es))
    (hw : swappedStores [.Tuple [.Name x px, .Name y py] kt pt] (.Tuple [pa, pb] k2 pt2) X.env = pure (some [x, y]))
    (hs : swapsWithSole [.Tuple [.Name x px, .Name y py] kt pt] (.Tuple [pa, pb] k2 pt2) pos.line X.env = pure false) :
    PS X (.Assign [.Tuple [.Name x px, .Name y py] kt pt] (.Tuple [pa, pb] k2 pt2) pos) (tS X.K q (.par [i, j] es)) :=
  (ps_par hc hN hi hj hij hx hy ha hw hs).w fun En σ H ⟨β, ρ, env, st, e, S, h⟩ => by
    simp only [ex] at h
    refine ⟨β, ρ, env, st, e, S, h.bind.imp (fun ds s1 g vs H1 ρ1 a1 S1 r1 => ?_) fun _ _ _ g => g⟩
    split at g
    · rename_i hl
      cases r1 with
      | nil => simp at hl
      | cons r1 r2 =>
        cases r2 with
        | nil => simp at hl
        | cons r2 r3 =>
          cases r3 with
          | nil => exact ⟨_, _, rfl, g _ H1 ρ1 a1 S1 (((e.stp a1).set r1).set r2)⟩
          | cons r3 r4 => simp at hl
    · exact g.elim
theorem z_par3 {i j l : Nat} {x y z : Str} {px py pz pt : Pos} {kt k2 pt2} (hc : X.calm = true) (hN : X.N.Nodup) (hi : X.N[i]? = some x) (hj : X.N[j]? = some y) (hl : X.N[l]? = some z) (hij : i ≠ j) (hil : i ≠ l) (hjl : j ≠ l)
    (hx : X.env.scope.names.lookup x = some .local) (hy : X.env.scope.names.lookup y = some .local) (hz : X.env.scope.names.lookup z = some .local) (ha : PA X [pa, pb, pc] (tWs X.K q es))
    (hw : swappedStores [.Tuple [.Name x px, .Name y py, .Name z pz] kt pt] (.Tuple [pa, pb, pc] k2 pt2) X.env = pure (some [x, y, z]))
    (hs : swapsWithSole [.Tuple [.Name x px, .Name y py, .Name z pz] kt pt] (.Tuple [pa, pb, pc] k2 pt2) pos.line X.env = pure false) :
    PS X (.Assign [.Tuple [.Name x px, .Name y py, .Name z pz] kt pt] (.Tuple [pa, pb, pc] k2 pt2) pos) (tS X.K q (.par [i, j, l] es)) :=
  (ps_par3 hc hN hi hj hl hij hil hjl hx hy hz ha hw hs).w fun En σ H ⟨β, ρ, env, st, e, S, h⟩ => by
    simp only [ex] at h
    refine ⟨β, ρ, env, st, e, S, h.bind.imp (fun ds s1 g vs H1 ρ1 a1 S1 r1 => ?_) fun _ _ _ g => g⟩
    split at g
    · rename_i hl
      cases r1 with
      | nil => simp at hl
      | cons r1 r2 =>
        cases r2 with
        | nil => simp at hl
        | cons r2 r3 =>
          cases r3 with
          | nil => simp at hl
          | cons r3 r4 =>
            cases r4 with
            | nil => exact ⟨_, _, _, rfl, g _ H1 ρ1 a1 S1 ((((e.stp a1).set r1).set r2).set r3)⟩
            | cons r4 r5 => simp at hl
    · exact g.elim
/-! loops -/
theorem PostF.unl {K : PySem.W.Frag} {fa : Nat → Addr} {β ρ : List Addr} {st st' : Sto} {H : Hp} {En : Ends} {fl : Fl} {ids : List Nat} (can : Can st ids) (h : PostF K fa β ρ st H En fl (unlock st' ids)) : PostF K fa β ρ (lock st ids) H En fl st' := by
  cases fl with
  | nx env => exact fun σ' H' ρ' b S e => h σ' H' ρ' (stp_unlock can b) (S.sim sim_unlock) (e.sim sim_unlock)
  | bk env => exact fun σ' H' ρ' b S e => h σ' H' ρ' (stp_unlock can b) (S.sim sim_unlock) (e.sim sim_unlock)
  | ct env => exact fun σ' H' ρ' b S e => h σ' H' ρ' (stp_unlock can b) (S.sim sim_unlock) (e.sim sim_unlock)
  | rt d => exact fun v H' ρ' b S r => h v H' ρ' (stp_unlock can b) (S.sim sim_unlock) (r.sim sim_unlock)
theorem PostX.unl {K : PySem.W.Frag} {β ρ : List Addr} {st st' : Sto} {H : Hp} {c : Nat} {d : D} {ids : List Nat} (can : Can st ids) (h : PostX K q β ρ st H c d (unlock st' ids)) : PostX K q β ρ (lock st ids) H c d st' :=
  fun v H' ρ' dx b S r e => h v H' ρ' dx (stp_unlock can b) (S.sim sim_unlock) (r.sim sim_unlock) e
theorem w_for {t : Tg} {it : It} {En : Ends} {σ H} (h : tS X.K q (.fr t it ss) En σ H) : tFor (tWi X.K q it) (tWg X.K q t) (tSs X.K q ss) En σ H := by
  obtain ⟨β, ρ, env, st, e, S, h⟩ := h
  simp only [ex] at h
  refine ⟨β, ρ, env, st, e, S, h.bind.imp (fun p s1 h1 can J H1 ρ1 a1 S1 F1 => ?_) fun _ _ _ g => g⟩
  have h2 := (RP.aftF h1 a1).unl.imp (fun _ _ g => PostF.unl can g) fun _ _ _ g => PostX.unl can g
  clear h1
  generalize hf : (fun (x : D) (env : PL.Env) (s2 : Sto) => (evt q.C q.G t x env s2).bind fun env2 s3 => exs q.C q.G q.W ss env2 s3) = f at h2
  have e1 := (e.stp a1).stp (stp_lock (ids := p.2))
  have S1' := S1.sim (sim_lock (ids := p.2))
  generalize lock s1 p.2 = sl at h2 e1 S1' F1
  refine ⟨fun i m σ' H' => m = p.1.length - i ∧ i ≤ p.1.length ∧ ∃ ρ2 st2 env2, Stp ρ1 sl H1 ρ2 st2 H' ∧ RS X.K q.fa β ρ2 st2 H' ∧ RE X.K q.fa β ρ2 env2 st2 σ' H' ∧
    RP (forL f (p.1.drop i) env2 st2) (PostF X.K q.fa β ρ2 st2 H' En) (PostX X.K q β ρ2 st2 H'), ⟨_, rfl, Nat.zero_le _, ρ1, sl, env, .refl, S1', e1, h2⟩, ?_⟩
  rintro i m σ' H' ⟨rfl, hi, ρ2, st2, env2, a2, S2, e2, g⟩
  obtain ⟨F2, F3⟩ := F1 β ρ2 st2 H' (fun _ z => .inl z) a2.toB S2
  by_cases hlt : i < p.1.length
  · right
    obtain ⟨go, yl⟩ := F2 i p.1[i] (List.getElem?_eq_getElem hlt)
    refine ⟨go, fun σ'' H'' => ∃ m', m' < p.1.length - i ∧ (m' = p.1.length - (i + 1) ∧ i + 1 ≤ p.1.length ∧ ∃ ρ2 st2 env2, Stp ρ1 sl H1 ρ2 st2 H'' ∧ RS X.K q.fa β ρ2 st2 H'' ∧ RE X.K q.fa β ρ2 env2 st2 σ'' H'' ∧
      RP (forL f (p.1.drop (i + 1)) env2 st2) (PostF X.K q.fa β ρ2 st2 H'' En) (PostX X.K q β ρ2 st2 H'')), fun _ _ z => z, fun x H2 hy => ?_⟩
    obtain ⟨y1, y2, y3⟩ := yl x H2 hy
    rw [List.drop_eq_getElem_cons hlt] at g
    simp only [forL] at g
    have g := RP.aftF g y1
    have g2 : RP (f p.1[i] env2 st2) _ _ := g.bind
    rw [← hf] at g2
    refine ⟨β, ρ2, env2, st2, _, e2.stp y1, y2, y3, g2.bind.imp (fun env3 s3 g3 σ3 H3 ρ3 _ a3 S3 e3 => ?_) fun _ _ _ g => g⟩
    refine ⟨β, ρ3, env3, s3, e3, S3, g3.imp (fun fl s4 g4 => ?_) fun _ _ _ g => g.after a3⟩
    have step : ∀ env4, RP (forL f (p.1.drop (i + 1)) env4 s4) (PostF X.K q.fa β ρ2 st2 H2 En) (PostX X.K q β ρ2 st2 H2) → ∀ σ4 H4 ρ4, Stp ρ3 s3 H3 ρ4 s4 H4 → RS X.K q.fa β ρ4 s4 H4 → RE X.K q.fa β ρ4 env4 s4 σ4 H4 →
        ∃ m', m' < p.1.length - i ∧ (m' = p.1.length - (i + 1) ∧ i + 1 ≤ p.1.length ∧ ∃ ρ2 st2 env2, Stp ρ1 sl H1 ρ2 st2 H4 ∧ RS X.K q.fa β ρ2 st2 H4 ∧ RE X.K q.fa β ρ2 env2 st2 σ4 H4 ∧
      RP (forL f (p.1.drop (i + 1)) env2 st2) (PostF X.K q.fa β ρ2 st2 H4 En) (PostX X.K q β ρ2 st2 H4)) := fun env4 g5 σ4 H4 ρ4 a4 S4 e4 =>
      ⟨_, by omega, rfl, hlt, ρ4, s4, env4, (a2.trans y1).trans (a3.trans a4), S4, e4, RP.aftF g5 (a3.trans a4)⟩
    cases fl with
    | nx env4 => exact step env4 (by rw [← hf]; exact g4)
    | ct env4 => exact step env4 (by rw [← hf]; exact g4)
    | bk env4 => exact PostF.after (fl := .nx env4) g4 a3
    | rt d => exact PostF.after (fl := .rt d) g4 a3
  · left
    have ei : i = p.1.length := by omega
    subst ei
    rw [List.drop_length] at g
    exact ⟨F3, g σ' H' ρ2 .refl S2 e2⟩
theorem z_for {t : Tg} {it : It} {ptg pit : Expr} (hp : PassesOwn (model X.prog X.w) X.A X.env X.xe) (hc : X.calm = true) (hi : PI X ptg pit (tWi X.K q it)) (hg : PG X ptg (tWg X.K q t)) (hb : PSs X pss (tSs X.K q ss)) (hs : ∀ x, foldedSetIterable pit X.env x = pure x) :
    PS X (.For ptg pit pss [] pos) (tS X.K q (.fr t it ss)) := (ps_for hp hc hi hg hb hs).w fun En σ H h => w_for h
theorem w_while {En : Ends} {σ H} (h : tS X.K q (.whl c ss) En σ H) : tWhile (tWT X.K q c) (tSs X.K q ss) En σ H := by
  obtain ⟨β, ρ, env, st, e, S, h⟩ := h
  simp only [ex] at h
  generalize hf : (fun (env : PL.Env) (st : Sto) => exs q.C q.G q.W ss env st) = f at h
  generalize hcc : (fun (env : PL.Env) (st : Sto) => (ev q.C q.G c env st).bind fun x s1 => tru x s1) = cc at h
  refine ⟨fun m σ' H' => ∃ ρ2 st2 env2, RS X.K q.fa β ρ2 st2 H' ∧ RE X.K q.fa β ρ2 env2 st2 σ' H' ∧
    RP (whlL cc f m env2 st2) (PostF X.K q.fa β ρ2 st2 H' En) (PostX X.K q β ρ2 st2 H'), ⟨_, ρ, st, env, S, e, h⟩, ?_⟩
  rintro m σ' H' ⟨ρ2, st2, env2, S2, e2, g⟩
  cases m with
  | zero => exact g.elim
  | succ m =>
    simp only [whlL] at g
    have g2 : RP (cc env2 st2) _ _ := g.bind
    rw [← hcc] at g2
    refine ⟨β, ρ2, env2, st2, e2, S2, g2.imp (fun k s3 g3 H3 ρ3 a3 S3 => ?_) fun _ _ _ g => g⟩
    cases k with
    | false =>
      rw [if_neg Bool.false_ne_true] at g3 ⊢
      exact g3 σ' H3 ρ3 a3 S3 (e2.stp a3)
    | true =>
      rw [if_pos rfl] at g3 ⊢
      have g4 : RP (f env2 s3) _ _ := g3.bind
      rw [← hf] at g4
      refine ⟨fun σ'' H'' => ∃ m', m' < m + 1 ∧ ∃ ρ2 st2 env2, RS X.K q.fa β ρ2 st2 H'' ∧ RE X.K q.fa β ρ2 env2 st2 σ'' H'' ∧
        RP (whlL cc f m' env2 st2) (PostF X.K q.fa β ρ2 st2 H'' En) (PostX X.K q β ρ2 st2 H''), fun _ _ z => z, β, ρ3, env2, s3, e2.stp a3, S3, g4.imp (fun fl s4 g5 => ?_) fun _ _ _ g => g.after a3⟩
      have step : ∀ env4, RP (whlL cc f m env4 s4) (PostF X.K q.fa β ρ2 st2 H' En) (PostX X.K q β ρ2 st2 H') → ∀ σ4 H4 ρ4, Stp ρ3 s3 H3 ρ4 s4 H4 → RS X.K q.fa β ρ4 s4 H4 → RE X.K q.fa β ρ4 env4 s4 σ4 H4 →
          ∃ m', m' < m + 1 ∧ ∃ ρ2 st2 env2, RS X.K q.fa β ρ2 st2 H4 ∧ RE X.K q.fa β ρ2 env2 st2 σ4 H4 ∧ RP (whlL cc f m' env2 st2) (PostF X.K q.fa β ρ2 st2 H4 En) (PostX X.K q β ρ2 st2 H4) := fun env4 g5 σ4 H4 ρ4 a4 S4 e4 =>
        ⟨m, Nat.lt_succ_self m, ρ4, s4, env4, S4, e4, RP.aftF g5 (a3.trans a4)⟩
      cases fl with
      | nx env4 => exact step env4 (by rw [← hf, ← hcc]; exact g5)
      | ct env4 => exact step env4 (by rw [← hf, ← hcc]; exact g5)
      | bk env4 => exact PostF.after (fl := .nx env4) g5 a3
      | rt d => exact PostF.after (fl := .rt d) g5 a3
theorem z_while (hp : PassesOwn (model X.prog X.w) X.A X.env X.xe) (hc : PT X pc (tWT X.K q c)) (hb : PSs X pss (tSs X.K q ss)) : PS X (.While pc pss [] pos) (tS X.K q (.whl c ss)) := (ps_while hp hc hb).w fun En σ H h => w_while h
end
end
end PL

set_option Elab.async false
set_option linter.all false
set_option maxRecDepth 100000
set_option maxHeartbeats 1000000
/-! New lists, ranges as values, keyword calls. -/
namespace PL
open PySem PySem.Spec PyProof.Rows L2
section
variable {X : Cx} {q : Qm} {a b c : E} {pa pb pc pe tg : Expr} {pos : Pos} {es : Es} {pes : List Expr} {fa : Nat → Addr}
/-- what is wanted of a new list -/
def PostN (K : PySem.W.Frag) (fa : Nat → Addr) (β ρ : List Addr) (st : Sto) (H : Hp) (ds : List D) (st' : Sto) (Q : VK) : Prop :=
  ∀ p vs H' ρ' b', Stp ρ st H ρ' st' H' → b' = p :: β → RS K fa b' ρ' st' H' → RDs K fa H' (Mu ρ' st') b' ρ' st'.length ds vs → H' p = some (.lst vs) → H p = none → Q (.ref p) H'
theorem PostN.lay {K : PySem.W.Frag} {fa : Nat → Addr} {β ρ ρ1 : List Addr} {st s1 : Sto} {H H1 : Hp} {ds : List D} {vs : List V} {p : Addr} {Q : VK} (h : PostN K fa β ρ st H ds s1 Q) (S : RS K fa β ρ st H) (a1 : Stp ρ st H ρ1 s1 H1) (S1 : RS K fa β ρ1 s1 H1)
    (r1 : RDs K fa H1 (Mu ρ1 s1) β ρ1 s1.length ds vs) (hp : H1 p = none) : Q (.ref p) (upd H1 p (.lst vs)) := by
  have B := S1.busyNew (o := .lst vs) hp
  exact h p vs _ ρ1 _ (a1.trans (S1.lay hp).2) rfl B.1 (r1.mono (S1.lay hp).2.keep (fun _ _ x => x) B.2 (Nat.le_refl _)) upd_same (none_back S a1 S1 hp)
theorem evF_ok {e : E} {env : PL.Env} {st : Sto} {P : List D → Sto → Prop} {Xx : Nat → D → Sto → Prop} (h : RP (evF q.C q.G e env st) P Xx) : RP (ev q.C q.G e env st) (fun d s => ∃ ds, d = .frz ds ∧ P ds s) Xx := by
  unfold evF at h
  exact h.bind.imp (fun d s g => by
    cases d with
    | frz ds => exact ⟨ds, rfl, g⟩
    | _ => exact g.elim) fun _ _ _ g => g
theorem f_list (h : PA X pes (tWs X.K q es)) : PE X (.List pes pos) (tNew X.K q (evF q.C q.G (.list es))) :=
  (pe_lst h).w fun σ H Q ⟨β, ρ, env, st, e, S, h⟩ => by
    have h := evF_ok h
    simp only [ev] at h
    refine ⟨β, ρ, env, st, e, S, h.bind.imp (fun ds s1 h1 vs H1 ρ1 a1 S1 r1 => ?_) fun _ _ _ g => g⟩
    split at h1
    · rename_i c
      obtain ⟨ds', e1, h2⟩ := h1
      cases e1
      exact ⟨by rw [← r1.length]; exact szOk_le c, fun p hp => PostN.lay h2 S a1 S1 r1 hp⟩
    · exact h1.elim
theorem f_lsts {zs : Zs} (h : PA X pes (tWz X.K q zs)) : PE X (.List pes pos) (tNew X.K q (evF q.C q.G (.lsts zs))) :=
  (pe_lst h).w fun σ H Q ⟨β, ρ, env, st, e, S, h⟩ => by
    have h := evF_ok h
    simp only [ev] at h
    refine ⟨β, ρ, env, st, e, S, h.bind.imp (fun ds s1 h1 vs H1 ρ1 a1 S1 r1 => ?_) fun _ _ _ g => g⟩
    split at h1
    · rename_i c
      obtain ⟨ds', e1, h2⟩ := h1
      cases e1
      exact ⟨by rw [← r1.length]; exact szOk_le c, fun p hp => PostN.lay h2 S a1 S1 r1 hp⟩
    · exact h1.elim
theorem s_ofF {e : E} (hf : ∀ env st, ev q.C q.G e env st = (evF q.C q.G e env st).bind fun ds s => R.ok (D.frz ds) s) (h : PE X pe (tNew X.K q (evF q.C q.G e))) : PE X pe (tW X.K q e) :=
  h.w fun σ H Q ⟨β, ρ, env, st, e, S, h⟩ => new_frz ⟨β, ρ, env, st, e, S, by rw [← hf]; exact h⟩
theorem lsts_F {zs : Zs} (env : PL.Env) (st : Sto) : ev q.C q.G (.lsts zs) env st = (evF q.C q.G (.lsts zs) env st).bind fun ds s => R.ok (D.frz ds) s := by
  unfold evF
  simp only [ev]
  cases evz q.C q.G zs env st with
  | ok ds s =>
    show (if _ then R.ok (D.frz ds) s else R.bad) = R.bind (R.bind (if _ then R.ok (D.frz ds) s else R.bad) _) _
    split <;> rfl
  | exn c d s => rfl
  | bad => rfl
/-! operators -/
def rBopF (K : PySem.W.Frag) (fa : Nat → Addr) (o : Op) : R2 := fun x y H Q => ∃ β ρ st dx dy ds, RS K fa β ρ st H ∧ RD K fa H (Mu ρ st) β ρ st.length dx x ∧ RD K fa H (Mu ρ st) β ρ st.length dy y ∧ bop st o dx dy = some (.frz ds) ∧
  ∀ vs p, RDs K fa H (Mu ρ st) β ρ st.length ds vs → H p = none → Q (.ref p) (upd H p (.lst vs))
theorem op_bopF (o : Op) : OpR X (binaryOp (opOf o)) (rBopF X.K fa o) := by
  intro pins s σ H x y v u Q I rx ry h
  obtain ⟨β, ρ, st, dx, dy, ds, S, ra, rb, hd, q⟩ := h
  have cat : ∀ {xs ys : List D}, lv st dx = some xs → lv st dy = some ys → (∀ ds, dx ≠ .scr ds) → (∀ ds, dy ≠ .scr ds) → szOk (xs.length + ys.length) = true → ds = xs ++ ys → wpAny (model X.prog X.w) X.A (binaryOp .Add v u) (EP X pins σ Q) X.xe s := fun ha hb na nb hz e => by
    obtain ⟨p1, vs, rfl, h1, r1⟩ := rd_lh S ra ha na
    obtain ⟨p2, ws, rfl, h2, r2⟩ := rd_lh S rb hb nb
    subst e
    exact op_cat pins s σ H _ _ v u Q I rx ry ⟨p1, p2, vs, ws, rfl, rfl, h1, h2, by rw [← r1.length, ← r2.length]; exact szOk_le hz, fun p hp => q _ p (r1.append r2) hp⟩
  have rp : ∀ {xs : List D} {k : Int}, dy = .int k → lv st dx = some xs → (∀ ds, dx ≠ .scr ds) → rep xs k = some (.frz ds) → wpAny (model X.prog X.w) X.A (binaryOp .Mult v u) (EP X pins σ Q) X.xe s := fun ey ha na hr => by
    obtain ⟨p1, vs, rfl, h1, r1⟩ := rd_lh S ra ha na
    subst ey
    cases rb
    unfold rep at hr
    split at hr
    · rename_i c
      simp only [Bool.and_eq_true, decide_eq_true_eq] at c
      cases hr
      exact op_rep pins s σ H _ _ v u Q I rx ry ⟨p1, _, vs, rfl, rfl, h1, c.1, c.2.1, by rw [← r1.length]; exact szOk_le c.2.2, fun p hp => q _ p (r1.rep _) hp⟩
    · cases hr
  unfold bop at hd
  split at hd
  · obtain ⟨k, hk, e⟩ := Option.map_eq_some_iff.mp hd
    cases e
  · split at hd
    · split at hd
      · cases hd
      · cases hd
    · cases hd
  · split at hd
    · split at hd
      · cases hd
      · cases hd
    · cases hd
  · split at hd
    · split at hd
      · cases hd
        exact cat rfl rfl (by intro ds z; cases z) (by intro ds z; cases z) (by assumption) rfl
      · cases hd
    · cases hd
  · split at hd
    · split at hd
      · cases hd
        exact cat rfl (by assumption) (by intro ds z; cases z) (by intro ds z; cases z) (by assumption) rfl
      · cases hd
    · cases hd
  · split at hd
    · split at hd
      · cases hd
        exact cat (by assumption) rfl (by intro ds z; cases z) (by intro ds z; cases z) (by assumption) rfl
      · cases hd
    · cases hd
  · split at hd
    · split at hd
      · cases hd
        exact cat (by assumption) (by assumption) (by intro ds z; cases z) (by intro ds z; cases z) (by assumption) rfl
      · cases hd
    · cases hd
  · split at hd
    · exact rp rfl rfl (by intro ds z; cases z) hd
    · cases hd
  · split at hd
    · exact rp rfl (by assumption) (by intro ds z; cases z) hd
    · cases hd
  · cases hd
theorem f_bin (o : Op) (ha : PE X pa (tW X.K q a)) (hb : PE X pb (tW X.K q b)) : PE X (.BinOp pa (opOf o) pb pos) (tNew X.K q (evF q.C q.G (.bin o a b))) :=
  (pe_op (op_bopF (fa := q.fa) o) ha hb).w fun σ H Q ⟨β, ρ, env, st, e, S, h⟩ => by
    have h := evF_ok h
    simp only [ev] at h
    refine ⟨β, ρ, env, st, e, S, h.bind.imp (fun x s1 h1 v1 H1 ρ1 a1 S1 r1 => ?_) fun _ _ _ g => g⟩
    refine ⟨β, ρ1, env, s1, e.stp a1, S1, (h1.bind.aftX a1).imp (fun y s2 h2 v2 H2 ρ2 a2 S2 r2 => ?_) fun _ _ _ g => g⟩
    obtain ⟨d, h3, ds, h4, h5⟩ := h2.oD
    subst h4
    exact ⟨β, ρ2, s2, x, y, ds, S2, r1.stp a2, r2, h3, fun vs p rs hp => PostN.lay h5 S (a1.trans a2) S2 rs hp⟩
/-! list(..), sorted(..) -/
def rBlF (K : PySem.W.Frag) (fa : Nat → Addr) (b : Bl) : List V → Hp → VK → Prop := fun vs H Q => ∃ β ρ st ds es, RS K fa β ρ st H ∧ RDs K fa H (Mu ρ st) β ρ st.length ds vs ∧ bcall st b ds = some (.frz es) ∧
  ∀ vs p, RDs K fa H (Mu ρ st) β ρ st.length es vs → H p = none → Q (.ref p) (upd H p (.lst vs))
theorem call_blF (hc : X.calm = true) (b : Bl) : CallR X (blV b) (rBlF X.K fa b) := by
  intro pins s σ H xs us Q I r h
  obtain ⟨β, ρ, st, ds, d, S, rs, hd, q⟩ := h
  unfold bcall at hd
  split at hd
  case h_13 =>
    obtain ⟨es, he, e⟩ := Option.map_eq_some_iff.mp hd
    cases e
  case h_14 =>
    obtain ⟨es, he, e⟩ := Option.map_eq_some_iff.mp hd
    cases e
    cases rs with
    | cons r1 r2 =>
      cases r2
      obtain ⟨a, vs, rfl, hq, hr⟩ := rd_sv S r1 he
      exact call_list_of pins s σ H _ us Q I r ⟨a, vs, rfl, hq, fun p hp => q _ p hr hp⟩
  case h_15 =>
    obtain ⟨ns, hk, hd⟩ := Option.bind_eq_some_iff.mp hd
    obtain ⟨es, he, hi⟩ := Option.bind_eq_some_iff.mp hk
    split at hd
    · rename_i c
      cases hd
      cases rs with
      | cons r1 r2 =>
        cases r2
        obtain ⟨a, vs, rfl, hq, hr⟩ := rd_lv S r1 he
        have e := hr.ints hi
        subst e
        refine cr_sorted pins s σ H _ us Q I r ⟨a, ns, rfl, hq, by simpa using c, fun ns' p h1 h2 hp => ?_⟩
        rw [sorted_eq ns ns' h1 h2]
        exact q _ p (rds_ints _) hp
    · cases hd
  all_goals first
    | cases hd
    | (split at hd <;> cases hd)
    | (obtain ⟨es, he, e⟩ := Option.map_eq_some_iff.mp hd; cases e)
theorem f_blB {i : String} {x : Str} {p : Pos} {bl : Bl} (hc : X.calm = true) (hi : blV bl = .builtin i) (hg : Gl X x) (hm : X.mg x = none) (hv : bootBuiltins x = some (.builtin i)) (hn : x ≠ "__name__") (hdb : (x == ("__debug__" : Str)) = false)
    (ha : PA X (pe :: pes) (tWs X.K q es)) (he : starEach (pe :: pes) X.env = (false, eval pe X.env) :: starEach pes X.env) (hpl : (backTo pos (starEach pes X.env)).any (·.1) = false) : PE X (.Call (.Name x p) (pe :: pes) [] pos) (tNew X.K q (evF q.C q.G (.blt bl es))) :=
  (pe_callB (r := rBlF X.K q.fa bl) (hi ▸ call_blF hc bl) hg hm hv ha hn hdb he hpl).w fun σ H Q ⟨β, ρ, env, st, e, S, h⟩ => by
    have h := evF_ok h
    simp only [ev] at h
    refine ⟨β, ρ, env, st, e, S, h.bind.imp (fun ds s1 h1 vs H1 ρ1 a1 S1 r1 => ?_) fun _ _ _ g => g⟩
    obtain ⟨d, h4, fs, h5, h6⟩ := h1.oD
    subst h5
    exact ⟨β, ρ1, s1, ds, fs, S1, r1, h4, fun vs p rs hp => PostN.lay h6 S a1 S1 rs hp⟩
theorem f_blT {i : String} {x : Str} {p : Pos} {bl : Bl} (hc : X.calm = true) (hi : blV bl = .type i) (hg : Gl X x) (hm : X.mg x = none) (hv : bootBuiltins x = some (.type i)) (hn : x ≠ "__name__") (hdb : (x == ("__debug__" : Str)) = false)
    (ha : PA X (pe :: pes) (tWs X.K q es)) (he : starEach (pe :: pes) X.env = (false, eval pe X.env) :: starEach pes X.env) (hpl : (backTo pos (starEach pes X.env)).any (·.1) = false) : PE X (.Call (.Name x p) (pe :: pes) [] pos) (tNew X.K q (evF q.C q.G (.blt bl es))) :=
  (pe_callTy (r := rBlF X.K q.fa bl) (hi ▸ call_blF hc bl) hg hm hv ha hn hdb he hpl).w fun σ H Q ⟨β, ρ, env, st, e, S, h⟩ => by
    have h := evF_ok h
    simp only [ev] at h
    refine ⟨β, ρ, env, st, e, S, h.bind.imp (fun ds s1 h1 vs H1 ρ1 a1 S1 r1 => ?_) fun _ _ _ g => g⟩
    obtain ⟨d, h4, fs, h5, h6⟩ := h1.oD
    subst h5
    exact ⟨β, ρ1, s1, ds, fs, S1, r1, h4, fun vs p rs hp => PostN.lay h6 S a1 S1 rs hp⟩
/-! list(range(..)), tuple(range(..)) -/
theorem rgV_rd {K : PySem.W.Frag} {H : Hp} {m : Addr → Prop} {β ρ : List Addr} {n : Nat} (i j : Int) : RDs K fa H m β ρ n (rngD i (j - i).toNat) (rgV i j) := by
  unfold rngD rgV
  generalize List.range (j - i).toNat = l
  induction l with
  | nil => exact .nil
  | cons k r ih => exact .cons (.int _) ih
theorem rg_ok {i j : Int} (h : (rngOk i && (rngOk j && szOk (j - i).toNat)) = true) : RgOk i j := by
  simp only [Bool.and_eq_true] at h
  exact ⟨(rng_ok h.1).1, (rng_ok h.1).2, (rng_ok h.2.1).1, (rng_ok h.2.1).2, Nat.le_of_ble_eq_true h.2.2⟩
/-- a range as an argument -/
def tRgW (K : PySem.W.Frag) (q : Qm) (lo : Oe) (b : E) : L2.St → Hp → (Int → Int → Hp → Prop) → Prop := fun σ H Q => ∃ β ρ env st, RE K q.fa β ρ env st σ H ∧ RS K q.fa β ρ st H ∧
  RP ((evo q.C q.G lo env st).bind fun l s1 => (ev q.C q.G b env s1).bind fun y s2 => (toI y s2).bind fun j s3 => R.ok (l.getD 0, j) s3) (fun p st' => ∀ H' ρ', Stp ρ st H ρ' st' H' → RS K q.fa β ρ' st' H' → Q p.1 p.2 H') (PostX K q β ρ st H)
theorem r_one {p : Pos} (hg : Gl X "range") (hm : X.mg "range" = none) (hb : PE X pb (tW X.K q b)) (na : starEach [pb] X.env = (false, eval pb X.env) :: starEach [] X.env) : PRg X (.Call (.Name "range" p) [pb] [] pos) (tRgW X.K q .none b) := fun pins s σ H Q I h => by
  refine prg_1 hg hm hb na pins s σ H Q I ?_
  obtain ⟨β, ρ, env, st, e, S, h⟩ := h
  simp only [evo] at h
  have h : RP ((ev q.C q.G b env st).bind fun y s2 => (toI y s2).bind fun j s3 => R.ok ((none : Option Int).getD 0, j) s3) _ _ := h
  refine ⟨β, ρ, env, st, e, S, h.bind.imp (fun x s1 h1 v1 H1 ρ1 a1 S1 r1 => ?_) fun _ _ _ g => g⟩
  obtain ⟨j, rfl, h2⟩ := h1.bind.toI
  exact ⟨j, rd_int r1, h2 H1 ρ1 a1 S1⟩
theorem r_two {p : Pos} (hg : Gl X "range") (hm : X.mg "range" = none) (ha : PE X pa (tW X.K q a)) (hb : PE X pb (tW X.K q b)) (na : starEach [pa, pb] X.env = (false, eval pa X.env) :: starEach [pb] X.env) (nb : starEach [pb] X.env = (false, eval pb X.env) :: starEach [] X.env)
    (hp : (backTo pos (starEach [pb] X.env)).any (·.1) = false) : PRg X (.Call (.Name "range" p) [pa, pb] [] pos) (tRgW X.K q (.some a) b) := fun pins s σ H Q I h => by
  refine prg_2 hg hm ha hb na nb hp pins s σ H Q I ?_
  obtain ⟨β, ρ, env, st, e, S, h⟩ := h
  simp only [evo] at h
  rw [R.assoc] at h
  refine ⟨β, ρ, env, st, e, S, h.bind.imp (fun x s1 h1 v1 H1 ρ1 a1 S1 r1 => ?_) fun _ _ _ g => g⟩
  rw [R.assoc] at h1
  obtain ⟨i, rfl, h2⟩ := h1.bind.toI
  have h2 : RP ((ev q.C q.G b env s1).bind fun y s2 => (toI y s2).bind fun j s3 => R.ok ((some i).getD 0, j) s3) _ _ := h2
  refine ⟨β, ρ1, env, s1, e.stp a1, S1, (h2.bind.aftX a1).imp (fun y s2 h3 v2 H2 ρ2 a2 S2 r2 => ?_) fun _ _ _ g => g⟩
  obtain ⟨j, rfl, h4⟩ := h3.bind.toI
  exact ⟨i, j, rd_int r1, rd_int r2, h4 H2 ρ2 (a1.trans a2) S2⟩
theorem rgv_split {tp : Bool} {lo : Oe} {env : PL.Env} {st : Sto} {P : D → Sto → Prop} {Xx : Nat → D → Sto → Prop} (h : RP (ev q.C q.G (.rgv tp lo b) env st) P Xx) :
    RP ((evo q.C q.G lo env st).bind fun l s1 => (ev q.C q.G b env s1).bind fun y s2 => (toI y s2).bind fun j s3 => R.ok (l.getD 0, j) s3) (fun p s => RgOk p.1 p.2 ∧ P (if tp then .tup (rngD p.1 (p.2 - p.1).toNat) else .frz (rngD p.1 (p.2 - p.1).toNat)) s) Xx := by
  simp only [ev] at h
  cases hl : evo q.C q.G lo env st with
  | bad => rw [hl] at h; exact h.elim
  | exn c d s1 => rw [hl] at h; exact h
  | ok l s1 =>
    rw [hl] at h
    show RP ((ev q.C q.G b env s1).bind fun y s2 => (toI y s2).bind fun j s3 => R.ok (l.getD 0, j) s3) _ _
    have h : RP ((ev q.C q.G b env s1).bind fun y s2 => _) P Xx := h
    cases hv : ev q.C q.G b env s1 with
    | bad => rw [hv] at h; exact h.elim
    | exn c d s2 => rw [hv] at h; exact h
    | ok y s2 =>
      rw [hv] at h
      have h : RP ((toI y s2).bind fun j s3 => _) P Xx := h
      obtain ⟨j, rfl, h2⟩ := h.bind.toI
      split at h2
      · rename_i ok
        exact ⟨rg_ok ok, h2⟩
      · exact h2.elim
theorem s_lrg {p : Pos} {lo : Oe} {pr : Expr} (hc : X.calm = true) (hg : Gl X "list") (hm : X.mg "list" = none) (hr : PRg X pr (tRgW X.K q lo b)) (na : starEach [pr] X.env = (false, eval pr X.env) :: starEach [] X.env) :
    PE X (.Call (.Name "list" p) [pr] [] pos) (tW X.K q (.rgv false lo b)) ∧ PE X (.Call (.Name "list" p) [pr] [] pos) (tNew X.K q (evF q.C q.G (.rgv false lo b))) := by
  refine ⟨(pe_listRg hc hg hm hr na).w fun σ H Q ⟨β, ρ, env, st, e, S, h⟩ => ?_, (pe_listRg hc hg hm hr na).w fun σ H Q ⟨β, ρ, env, st, e, S, h⟩ => ?_⟩
  · refine ⟨β, ρ, env, st, e, S, (rgv_split h).imp (fun p s1 ⟨ok, g⟩ H1 ρ1 a1 S1 => ⟨ok, fun x hx => ?_⟩) fun _ _ _ g => g⟩
    exact (Post.after g a1).frz S1 (rgV_rd _ _) hx
  · refine ⟨β, ρ, env, st, e, S, (rgv_split (evF_ok h)).imp (fun p s1 ⟨ok, ds, g0, g⟩ H1 ρ1 a1 S1 => ⟨ok, fun x hx => ?_⟩) fun _ _ _ g => g⟩
    cases g0
    exact PostN.lay g S a1 S1 (rgV_rd _ _) hx
theorem s_trg {p : Pos} {lo : Oe} {pr : Expr} (hc : X.calm = true) (hg : Gl X "tuple") (hm : X.mg "tuple" = none) (hr : PRg X pr (tRgW X.K q lo b)) (na : starEach [pr] X.env = (false, eval pr X.env) :: starEach [] X.env) :
    PE X (.Call (.Name "tuple" p) [pr] [] pos) (tW X.K q (.rgv true lo b)) := (pe_tupRg hc hg hm hr na).w fun σ H Q ⟨β, ρ, env, st, e, S, h⟩ => by
  refine ⟨β, ρ, env, st, e, S, (rgv_split h).imp (fun p s1 ⟨ok, g⟩ H1 ρ1 a1 S1 => ⟨ok, fun x hx => ?_⟩) fun _ _ _ g => g⟩
  exact (Post.after g a1).tup S1 (rgV_rd _ _) hx
/-! a list that is no longer changed -/
theorem s_frz (ha : PE X pa (tW X.K q a)) : PE X pa (tW X.K q (.frz a)) := ha.w fun σ H Q ⟨β, ρ, env, st, e, S, h⟩ => by
  simp only [ev] at h
  refine ⟨β, ρ, env, st, e, S, h.bind.imp (fun x s1 h1 v1 H1 ρ1 a1 S1 r1 => ?_) fun _ _ _ g => g⟩
  cases x with
  | frz ds => exact h1 v1 H1 ρ1 a1 S1 r1
  | lst i =>
    simp only [frzD] at h1
    split at h1
    · rename_i ds hi
      obtain ⟨S2, a2⟩ := S1.freeze hi
      cases r1 with
      | @lst _ p g1 g2 =>
        obtain ⟨a', vs, e1, e2, e3⟩ := rs_at S1 hi
        rw [g2] at e1
        cases e1
        refine h1 _ H1 ρ1 (a1.trans a2) S2 (.frz e2 (fun ⟨j, o, f1, f2, f3⟩ => ?_) (fun z => ?_) (e3.stp a2))
        · have := S1.nd i j p g2 f1
          subst this
          rw [List.getElem?_set_self (its_get hi)] at f2
          cases f2
          cases f3
        · exact (S1.busy p z).2 (List.mem_iff_getElem?.mpr ⟨i, g2⟩)
    · exact h1.elim
  | _ => exact h1.elim
/-! keyword calls -/
theorem pe_callN0 {CX : CXT} {k : Nat} {f : Addr} {fd : FuncData} {ps ks : List Str} {sp : Sp} {E : XK} {x : Str} {p : Pos} {kws : List Keyword} {tk : TA} {g : List Value → List Value → List Value} {gV : List V → List V → List V} (F : FnOk X.prog X.w X.K X.mg X.base CX k f fd ps sp) (hr : Room k X.A) (hg : Gl X x) (hm : X.mg x = some (.ref f)) (hk : PySem.W.keepIn X.K (.ref f) = true) (hb : KBn X.K fd ps 0 ks g gV) (hx : Passes CX X E)
    (hkw : PK X kws tk) (hall : (backToKw pos (keywordEach kws X.env)).all (·.1.isSome) = true) (hks : (backToKw pos (keywordEach kws X.env)).filterMap (·.1) = ks)
    (hdb : (x == ("__debug__" : Str)) = false) (hpl : ((backTo pos (starEach [] X.env)).any (·.1) || (backToKw pos (keywordEach kws X.env)).any (·.1.isNone)) = false) :
    PE X (.Call (.Name x p) [] kws pos) (tCallN 0 ks.length sp gV E (fun σ H Q => Q [] H) tk) := by
  refine ⟨fun pins s σ H Q I h => ?_⟩
  refine wpAny_Call_Name_kw (ld_glob I hg hm ?_ hdb)
  refine PySem.W.callWith_KW0 (h₀ := X.base) I.ok.mod.kin hk hall ?_ hpl
  refine thn (hkw.run pos pins s σ H _ I h) fun ws s2 ⟨zs, H2, I2, rz, l1, l2, q2⟩ => ⟨I2.kIn, ?_⟩
  rw [hks]
  exact run_fnN (us := []) (vs := []) F hr hb hx I2 .nil rz l1 l2 q2
def esLen : Es → Nat
  | .nil => 0
  | .cons _ es => esLen es + 1
theorem evs_length {C : Nat → List D → Sto → R D} {G : Nat → D} : ∀ (es : Es) {env : PL.Env} {st : Sto}, RP (evs C G es env st) (fun ds _ => ds.length = esLen es) (fun _ _ _ => True) ∨ evs C G es env st = .bad
  | .nil, _, _ => .inl rfl
  | .cons e es, env, st => by
    simp only [evs]
    cases hv : ev C G e env st with
    | ok x s1 =>
      show RP ((evs C G es env s1).bind fun xs s2 => R.ok (x :: xs) s2) _ _ ∨ ((evs C G es env s1).bind fun xs s2 => R.ok (x :: xs) s2) = .bad
      have q := evs_length (C := C) (G := G) es (env := env) (st := s1)
      cases hw : evs C G es env s1 with
      | ok xs s2 =>
        rw [hw] at q
        left
        have q2 : xs.length = esLen es := q.elim id fun z => nomatch z
        show xs.length + 1 = esLen es + 1
        rw [q2]
      | exn c d s2 => exact .inl trivial
      | bad => exact .inr rfl
    | exn c d s1 => exact .inl trivial
    | bad => exact .inr rfl
theorem s_callk {CX : CXT} {k f np : Nat} {fd : FuncData} {ps ks : List Str} {x : Str} {p : Pos} {pm : List Nat} {kes : Es} {kws : List Keyword} (hlen : ∀ ds st, RP (q.C f ds st) (fun _ _ => True) (fun _ _ _ => True) → ds.length = np) (F : FnOk X.prog X.w X.K X.mg X.base CX k (q.fa f) fd ps (spC X.K q q.C f np)) (hr : Room k X.A) (hg : Gl X x) (hm : X.mg x = some (.ref (q.fa f)))
    (hk : PySem.W.keepIn X.K (.ref (q.fa f)) = true) (hb : KBn X.K fd ps (esLen es) ks (gK Value.none pm) (gK V.non pm)) (hx : Passes CX X q.XE) (hdb : (x == ("__debug__" : Str)) = false) (hn : esLen kes = ks.length)
    (ha : PA X pes (tWs X.K q es)) (hkw : PK X kws (tWs X.K q kes)) (he : ∀ pe r, pes = pe :: r → starEach (pe :: r) X.env = (false, eval pe X.env) :: starEach r X.env) (hall : (backToKw pos (keywordEach kws X.env)).all (·.1.isSome) = true) (hks : (backToKw pos (keywordEach kws X.env)).filterMap (·.1) = ks)
    (hpl : ((backTo pos (starEach pes X.env)).any (·.1) || (backToKw pos (keywordEach kws X.env)).any (·.1.isNone)) = false) (hes : pes = [] → es = .nil) : PE X (.Call (.Name x p) pes kws pos) (tW X.K q (.callk f es kes pm)) := by
  have key : ∀ σ H Q, tW X.K q (.callk f es kes pm) σ H Q → tCallN (esLen es) ks.length (spC X.K q q.C f np) (gK V.non pm) q.XE (tWs X.K q es) (tWs X.K q kes) σ H Q := fun σ H Q h =>
    w_callk hlen (fun env st => evs_length es) (fun env st => hn ▸ evs_length kes) h
  cases pes with
  | cons pe r => exact (pe_callN F hr hg hm hk hb hx ha hkw hall hks hdb (he pe r rfl) hpl).w key
  | nil =>
    have := hes rfl
    subst this
    refine (pe_callN0 F hr hg hm hk hb hx hkw hall hks hdb hpl).w fun σ H Q h => ?_
    obtain ⟨β, ρ, env, st, e, S, h⟩ := key σ H Q h
    simp only [evs] at h
    exact h [] H ρ .refl S .nil
theorem z_nev {ps : Stmt} : PS X ps (tS X.K q .nev) := ⟨fun pins s σ H En I ⟨β, ρ, env, st, e, S, h⟩ => by
  simp only [ex] at h
  exact h.elim⟩
end
end PL

set_option Elab.async false
set_option linter.all false
set_option maxRecDepth 100000
set_option maxHeartbeats 2000000
/-! math.comb, itertools.permutations. -/
namespace PL
open PySem PySem.Spec PyProof.Rows L2
/-! ### comb -/
theorem comb_log : ∀ n < 33, ∀ k < 33, (combV n k).natAbs.log2 < 64 := by decide +kernel
theorem entry_comb : entryFor table "math.comb" = some Builtin.«math.comb» := entryFor_of_tree (by kernel_rfl)
theorem kind_comb : builtinKind "math.comb" = none := by kernel_rfl
theorem plain_comb : plainId "math.comb" = true := by decide +kernel
theorem args_comb (a b : Value) : argsOk "math.comb" ⟨[a, b], []⟩ := by unfold argsOk; kernel_rfl
theorem run_comb0 (a : Nat) (t : Tok) (b : Nat) (u : Tok) (h : (b : Int) > (a : Int)) : Gives (Builtin.«math.comb» ⟨[.int (a : Nat) t, .int (b : Nat) u], []⟩) (.int 0) :=
  .of_wp fun M A E s Q hq => by
    obtain ⟨hp, g, d, tk, os⟩ := s
    have h1 : ¬ ((a : Nat) : Int) < 0 := by omega
    have h2 : ¬ ((b : Nat) : Int) < 0 := by omega
    wp_walk
    exact ⟨_, rfl, hq⟩
theorem run_comb1 (a : Nat) (t : Tok) (b : Nat) (u : Tok) (h : ¬ (b : Int) > (a : Int)) (ha : a < 33) (hsz : (Builtin.Math.fallingProduct (a : Int) (min (b : Int) ((a : Int) - (b : Int))).toNat / Builtin.Math.fallingProduct (min (b : Int) ((a : Int) - (b : Int))) (min (b : Int) ((a : Int) - (b : Int))).toNat).natAbs.log2 < bitsLine) :
    Gives (Builtin.«math.comb» ⟨[.int (a : Nat) t, .int (b : Nat) u], []⟩) (.int (Builtin.Math.fallingProduct (a : Int) (min (b : Int) ((a : Int) - (b : Int))).toNat / Builtin.Math.fallingProduct (min (b : Int) ((a : Int) - (b : Int))) (min (b : Int) ((a : Int) - (b : Int))).toNat)) :=
  .of_wp fun M A E s Q hq => by
    obtain ⟨hp, g, d, tk, os⟩ := s
    have h1 : ¬ ((a : Nat) : Int) < 0 := by omega
    have h2 : ¬ ((b : Nat) : Int) < 0 := by omega
    have h3 : ¬ (min (b : Int) ((a : Int) - (b : Int))) > Builtin.Math.maxSsize := by
      show ¬ _ > (2 ^ 63 - 1 : Int)
      omega
    have h4 : ¬ (min (b : Int) ((a : Int) - (b : Int))) > Builtin.Math.manyFactors := by
      show ¬ _ > (20000 : Int)
      omega
    have h5 : ¬ (min (b : Int) ((a : Int) - (b : Int))) > 9000 := by omega
    wp_walk
    try (refine wpAny_ite_false (decide_eq_false (Nat.not_le.mpr hsz)) ?_; wp_walk)
    exact ⟨_, rfl, hq⟩
theorem call_comb {X : Cx} {pins : List (Addr × PySem.Obj)} {σ : L2.St} {H : Hp} {s : Shared} {Q : VK} {n k : Nat} {t u : Tok} (I : Inv X pins σ H s) (hn : n < 33) (hk : k < 33) (q : Q (.int (combV n k)) H) :
    wpAny (model X.prog X.w) X.A (PySem.call (.builtin "math.comb") [.int (n : Nat) t, .int (k : Nat) u]) (EP X pins σ Q) X.xe s := by
  by_cases h : (k : Int) > (n : Int)
  · have e : combV n k = 0 := if_pos (by omega)
    rw [e] at q
    exact call_function_meets kind_comb plain_comb entry_comb (args_comb _ _) (run_comb0 n t k u h).meets ⟨.int 0, H, I.tok _, ⟨_, rfl⟩, q⟩
  · have e1 : (min (k : Int) ((n : Int) - (k : Int))) = ((min k (n - k) : Nat) : Int) := by omega
    have e2 : (min (k : Int) ((n : Int) - (k : Int))).toNat = min k (n - k) := by omega
    have e : combV n k = Builtin.Math.fallingProduct (n : Int) (min (k : Int) ((n : Int) - (k : Int))).toNat / Builtin.Math.fallingProduct (min (k : Int) ((n : Int) - (k : Int))) (min (k : Int) ((n : Int) - (k : Int))).toNat := by
      rw [e2, e1]
      exact if_neg (by omega)
    have hz := comb_log n hn k hk
    rw [e] at q hz
    exact call_function_meets kind_comb plain_comb entry_comb (args_comb _ _) (run_comb1 n t k u h hn (Nat.lt_of_lt_of_le hz (by decide))).meets ⟨.int _, H, I.tok _, ⟨_, rfl⟩, q⟩
/-! ### permutations -/
theorem slot_perm_next : Slot "itertools.permutations" "__next__" "itertools.permutations.__next__" :=
  .of (owner := "itertools.permutations") (n := "__next__") (by rw [typeLookup_type, builtinLookup_eq_fast]; kernel_rfl) (by decide +kernel) (by decide +kernel) (by decide +kernel)
    (by first | exact .inl (by decide +kernel) | exact .inr (by decide +kernel)) (by rw [isSubtype_type]; kernel_rfl)
theorem entry_perm_next : entryFor table "itertools.permutations.__next__" = some Builtin.«itertools.permutations.__next__» := entryFor_of_tree (by kernel_rfl)
theorem slot_perm_iter : Slot "itertools.permutations" "__iter__" "itertools.permutations.__iter__" :=
  .of (owner := "itertools.permutations") (n := "__iter__") (by rw [typeLookup_type, builtinLookup_eq_fast]; kernel_rfl) (by decide +kernel) (by decide +kernel) (by decide +kernel)
    (by first | exact .inl (by decide +kernel) | exact .inr (by decide +kernel)) (by rw [isSubtype_type]; kernel_rfl)
theorem entry_perm_iter : entryFor table "itertools.permutations.__iter__" = some Builtin.«dict_keyiterator.__iter__» :=
  entryFor_alias (id' := "dict_keyiterator.__iter__") (by kernel_rfl) (by first | rfl | decide +kernel | (unfold String.splitOn; simp +decide [String.splitOnAux])) (by decide +kernel) (by kernel_rfl)
theorem args_perm_next (a : Value) : argsOk "itertools.permutations.__next__" ⟨[a], []⟩ := by unfold argsOk; kernel_rfl
theorem args_perm_iter (a : Value) : argsOk "itertools.permutations.__iter__" ⟨[a], []⟩ := by unfold argsOk; kernel_rfl
theorem mro_perm : mroOf (.type "itertools.permutations") = pure [.type "itertools.permutations", .type "object"] := by rw [mroOf_type]; kernel_rfl
theorem lookup_perm_new : typeLookup (.type "itertools.permutations") "__new__" = pure (some (.builtin "itertools.permutations.__new__")) := by rw [typeLookup_type, builtinLookup_eq_fast]; kernel_rfl
theorem slot_perm_init : Slot "itertools.permutations" "__init__" "object.__init__" :=
  .of (owner := "object") (n := "__init__") (by rw [typeLookup_type, builtinLookup_eq_fast]; kernel_rfl) (by decide +kernel) (by decide +kernel) (by decide +kernel)
    (by first | exact .inl (by decide +kernel) | exact .inr (by decide +kernel)) (by rw [isSubtype_type]; kernel_rfl)
theorem called_perm : TypeCalled "itertools.permutations" "itertools.permutations.__new__" "object.__init__" :=
  ⟨by decide +kernel, by decide +kernel, ⟨_, _, mro_perm⟩, madeBy_type mro_perm lookup_perm_new (by decide +kernel), by decide +kernel, by rw [isSubtype_type]; kernel_rfl, slot_perm_init⟩
theorem typeCall_perm (a : Value) : checkTypeCall "itertools.permutations" ⟨[a], []⟩ = pure () := by kernel_rfl
theorem newCall_perm (a : Value) : checkBuiltinCall "itertools.permutations.__new__" ⟨[.type "itertools.permutations", a], []⟩ = pure () := by kernel_rfl
theorem entry_perm_new : entryFor table "itertools.permutations.__new__" = some Builtin.«itertools.permutations.__new__» := entryFor_of_tree (by kernel_rfl)
theorem sub_perm : isSubtype (.type "itertools.permutations") (.type "itertools.permutations") = pure true := by rw [isSubtype_type]; kernel_rfl
open Builtin Builtin.Itertools in
def permNext (f : Nat → Nat → List Nat → List Nat → Option (List Nat × List Nat)) : Builtin := fun args => do
  let (self, _) ← slotArgs "__next__" 0 args
  let items ← itPoolItems (← field self 0)
  let n := items.size
  let r := (← itIntField self 2).toNat
  let numbers ← itNumbersFrom self 4
  let result (indices : List Nat) : Sem Fin := do
    let t ← newTuple ((indices.take r).map fun i => items.getD i .none)
    let before ← field self 3
    setField self 3 t
    letGo [before] [t]
    ret t
  match ← itIntField self 1 with
  | 0 => setField self 1 (rawInt 1); result numbers
  | 1 =>
    match f n r (numbers.take n) (numbers.drop n) with
    | some (indices, cycles) => itSetNumbersFrom self 4 (indices ++ cycles); result indices
    | none => setField self 1 (rawInt 2); itStop
  | _ => rule "itertools.permutations.ended"; itStop
theorem perm_next_eq : ∃ f, (∀ n ix cy, f n 0 ix cy = none) ∧ (∀ n i ix cy, f n (i + 1) ix cy = if (cy.getD i 0 - 1 == 0) = true then f n i (ix.take i ++ ix.drop (i + 1) ++ [ix.getD i 0]) (cy.set i (n - i))
    else some ((ix.set i (ix.getD (n - (cy.getD i 0 - 1)) 0)).set (n - (cy.getD i 0 - 1)) (ix.getD i 0), cy.set i (cy.getD i 0 - 1))) ∧ Builtin.«itertools.permutations.__next__» = permNext f :=
  ⟨_, fun _ _ _ => rfl, fun _ _ _ _ => rfl, rfl⟩
theorem perm_next : Builtin.«itertools.permutations.__next__» = permNext nextP := by
  obtain ⟨f, h0, h1, e⟩ := perm_next_eq
  have : f = nextP := by
    funext n i ix cy
    induction i generalizing ix cy with
    | zero => rw [h0]; rfl
    | succ i ih => rw [h1, ih]; rfl
  rw [e, this]
end PL

set_option Elab.async false
set_option linter.all false
set_option maxRecDepth 100000
set_option maxHeartbeats 2000000
namespace PL
open PySem PySem.Spec PyProof.Rows L2
def permV (P : Addr) (m : Int) (n : Nat) (last : Value) (ns : List Nat) : List Value := .ref P :: rawInt m :: rawInt n :: last :: ns.map fun (k : Nat) => rawInt k
def IsPerm (h : Heap) (it P : Addr) (m : Int) (n : Nat) (last : Value) (ns : List Nat) : Prop := ∃ o, h.get? it = some o ∧ o.cls = .type "itertools.permutations" ∧ o.data = .fields (permV P m n last ns).toArray
theorem IsPerm.typeIs {s : Shared} {it P : Addr} {m : Int} {n : Nat} {last : Value} {ns : List Nat} (x : IsPerm s.heap it P m n last ns) : s.TypeIs (.ref it) "itertools.permutations" := let ⟨o, ho, hc, _⟩ := x; ⟨o, ho, hc⟩
theorem perm_nums (P : Addr) (m : Int) (n : Nat) (last : Value) (ns : List Nat) : ((permV P m n last ns).toArray.toList.drop 4).map (fun | .int n _ => n.toNat | _ => 0) = ns := by
  show (ns.map fun (k : Nat) => rawInt k).map _ = ns
  rw [List.map_map]
  conv => rhs; rw [← List.map_id ns]
  apply List.map_congr_left
  intro k _
  rfl
section
variable {prog : Program} {w : World} {A : Around} {E : Value → Shared → Prop} {s : Shared}
theorem perm_first {it P : Addr} {n : Nat} {last : Value} {ns : List Nat} {oP : PySem.Obj} {items : Array Value} {k : Nat} {Q : Option Value → Shared → Prop} (hit : IsPerm s.heap it P 0 n last ns) (hP : s.heap.get? P = some oP) (hPd : oP.data = .seq items k) (hsz : items.size = n) (hn : n ≤ 8)
    (hQ : ∀ h', IsPerm h' it P 1 n (.ref s.heap.objs.size) ns → h'.get? s.heap.objs.size = some { cls := .type "tuple", data := .seq ((ns.take n).map fun i => items.getD i .none).toArray } → (∀ b o, b ≠ it → s.heap.get? b = some o → h'.get? b = some o) → Q (some (.ref s.heap.objs.size)) { s with heap := h' }) :
    wpAny (model prog w) A (pyNext (.ref it)) Q E s := by
  obtain ⟨o, ho, hc, hd⟩ := id hit
  unfold pyNext
  refine wpAny_bind (wpAny_attempt (wpAny_callSpecial?_slot (name := Str.ofString "__next__") hit.typeIs slot_perm_next
    (wpAny_call_entry slot_perm_next hit.typeIs (perm_next ▸ entry_perm_next) ?_ (args_perm_next _))))
  unfold permNext
  refine wpAny_bind (wpAny_of_eq (a := (Value.ref it, [])) rfl ?_)
  try dsimp only
  refine wpAny_bind (wpAny_field ho hd (x := .ref P) rfl ?_)
  refine wpAny_bind (show wpAny _ _ (seqItems? (.ref P) >>= _) _ _ s from wpAny_bind (wpAny_seqItems hP hPd (wpAny_pure ?_)))
  try dsimp only
  refine wpAny_bind (show wpAny _ _ (field (.ref it) 2 >>= _) _ _ s from wpAny_bind (wpAny_field ho hd (x := rawInt n) rfl (wpAny_pure ?_)))
  try dsimp only
  refine wpAny_bind (show wpAny _ _ (load it >>= _) _ _ s from wpAny_bind (wpAny_load ho ?_))
  rw [hd]
  refine wpAny_of_eq (a := ns) (show (pure _ : Sem (List Nat)) = pure ns from congrArg pure (perm_nums P 0 n last ns)) ?_
  refine wpAny_bind (show wpAny _ _ (field (.ref it) 1 >>= _) _ _ s from wpAny_bind (wpAny_field ho hd (x := rawInt 0) rfl (wpAny_pure ?_)))
  show wpAny _ _ (setField (.ref it) 1 (rawInt 1) >>= _) _ _ s
  have hd1 : (PySem.Obj.mapFields (·.setIfInBounds 1 (rawInt 1)) o).data = .fields (permV P 1 n last ns).toArray := by
    rw [Obj.data_mapFields hd]
    simp [permV]
  have ho1 := Heap.get?_update_self (PySem.Obj.mapFields (·.setIfInBounds 1 (rawInt 1))) ho (Obj.isFreed_of_fields hd1)
  refine wpAny_bind (wpAny_setField ho hd (by simp [permV]) ?_)
  have hsz1 : (s.heap.update it (PySem.Obj.mapFields (·.setIfInBounds 1 (rawInt 1)))).objs.size = s.heap.objs.size := Heap.size_update ..
  simp only [Int.toNat_natCast]
  refine wpAny_bind (wpAny_newTuple ?_ ?_)
  · have e1 := Heap.get?_push_of_some { cls := .type "tuple", data := .seq ((ns.take n).map fun i => items.getD i .none).toArray } ho1
    refine wpAny_bind (wpAny_field e1 hd1 (x := last) rfl ?_)
    refine wpAny_bind (wpAny_setField e1 hd1 (by simp [permV]) ?_)
    refine wpAny_bind (wpAny_letGo (wpAny_pure ⟨_, rfl, wpAny_pure ?_⟩))
    rw [hsz1]
    have hT := Heap.get?_push_size (s.heap.update it (PySem.Obj.mapFields (·.setIfInBounds 1 (rawInt 1)))) (o := { cls := .type "tuple", data := .seq ((ns.take n).map fun i => items.getD i .none).toArray }) rfl
    rw [hsz1] at hT
    have hlt : it < s.heap.objs.size := Heap.lt_size ho
    have hd2 : (PySem.Obj.mapFields (·.setIfInBounds 3 (.ref s.heap.objs.size)) (PySem.Obj.mapFields (·.setIfInBounds 1 (rawInt 1)) o)).data = .fields (permV P 1 n (.ref s.heap.objs.size) ns).toArray := by
      rw [Obj.data_mapFields hd1]
      simp [permV]
    refine hQ _ ⟨_, Heap.get?_update_self _ e1 (Obj.isFreed_of_fields hd2), ?_, hd2⟩ ?_ fun b ob hb e => ?_
    · rw [Obj.cls_mapFields, Obj.cls_mapFields, hc]
    · rw [Heap.get?_update_other _ _ (Nat.ne_of_lt hlt)]
      exact hT
    · rw [Heap.get?_update_other _ _ (Ne.symm hb)]
      refine Heap.get?_push_of_some _ ?_
      rw [Heap.get?_update_other _ _ (Ne.symm hb)]
      exact e
  · rw [List.length_map, List.length_take]
    exact Nat.le_trans (Nat.min_le_left _ _) (Nat.le_trans hn (by decide))
theorem perm_more {it P : Addr} {n : Nat} {last : Value} {ns ix cy : List Nat} {oP : PySem.Obj} {items : Array Value} {k : Nat} {Q : Option Value → Shared → Prop} (hit : IsPerm s.heap it P 1 n last ns) (hP : s.heap.get? P = some oP) (hPd : oP.data = .seq items k) (hsz : items.size = n) (hn : n ≤ 8)
    (hx : nextP n n (ns.take n) (ns.drop n) = some (ix, cy)) (hl : (ix ++ cy).length ≤ 16)
    (hQ : ∀ h', IsPerm h' it P 1 n (.ref s.heap.objs.size) (ix ++ cy) → h'.get? s.heap.objs.size = some { cls := .type "tuple", data := .seq ((ix.take n).map fun i => items.getD i .none).toArray } → (∀ b o, b ≠ it → s.heap.get? b = some o → h'.get? b = some o) → Q (some (.ref s.heap.objs.size)) { s with heap := h' }) :
    wpAny (model prog w) A (pyNext (.ref it)) Q E s := by
  obtain ⟨o, ho, hc, hd⟩ := id hit
  unfold pyNext
  refine wpAny_bind (wpAny_attempt (wpAny_callSpecial?_slot (name := Str.ofString "__next__") hit.typeIs slot_perm_next
    (wpAny_call_entry slot_perm_next hit.typeIs (perm_next ▸ entry_perm_next) ?_ (args_perm_next _))))
  unfold permNext
  refine wpAny_bind (wpAny_of_eq (a := (Value.ref it, [])) rfl ?_)
  try dsimp only
  refine wpAny_bind (wpAny_field ho hd (x := .ref P) rfl ?_)
  refine wpAny_bind (show wpAny _ _ (seqItems? (.ref P) >>= _) _ _ s from wpAny_bind (wpAny_seqItems hP hPd (wpAny_pure ?_)))
  try dsimp only
  refine wpAny_bind (show wpAny _ _ (field (.ref it) 2 >>= _) _ _ s from wpAny_bind (wpAny_field ho hd (x := rawInt n) rfl (wpAny_pure ?_)))
  try dsimp only
  refine wpAny_bind (show wpAny _ _ (load it >>= _) _ _ s from wpAny_bind (wpAny_load ho ?_))
  rw [hd]
  refine wpAny_of_eq (a := ns) (show (pure _ : Sem (List Nat)) = pure ns from congrArg pure (perm_nums P 1 n last ns)) ?_
  refine wpAny_bind (show wpAny _ _ (field (.ref it) 1 >>= _) _ _ s from wpAny_bind (wpAny_field ho hd (x := rawInt 1) rfl (wpAny_pure ?_)))
  simp only [Int.toNat_natCast, hsz, hx]
  show wpAny _ _ (updateFields it (fun fs => fs.extract 0 4 ++ ((ix ++ cy).map fun (n : Nat) => rawInt n).toArray) >>= _) _ _ s
  have hd1 : (PySem.Obj.mapFields (fun fs => fs.extract 0 4 ++ ((ix ++ cy).map fun (n : Nat) => rawInt n).toArray) o).data = .fields (permV P 1 n last (ix ++ cy)).toArray := by
    rw [Obj.data_mapFields hd]
    simp [permV]
  have ho1 := Heap.get?_update_self (PySem.Obj.mapFields (fun fs => fs.extract 0 4 ++ ((ix ++ cy).map fun (n : Nat) => rawInt n).toArray)) ho (Obj.isFreed_of_fields hd1)
  have hsz1 : (s.heap.update it (PySem.Obj.mapFields (fun fs => fs.extract 0 4 ++ ((ix ++ cy).map fun (n : Nat) => rawInt n).toArray))).objs.size = s.heap.objs.size := Heap.size_update ..
  refine wpAny_bind (wpAny_updateFields ho hd ?_ ?_)
  · refine wpAny_bind (wpAny_newTuple ?_ ?_)
    · have e1 := Heap.get?_push_of_some { cls := .type "tuple", data := .seq ((ix.take n).map fun i => items.getD i .none).toArray } ho1
      refine wpAny_bind (wpAny_field e1 hd1 (x := last) rfl ?_)
      refine wpAny_bind (wpAny_setField e1 hd1 (by simp [permV]) ?_)
      refine wpAny_bind (wpAny_letGo (wpAny_pure ⟨_, rfl, wpAny_pure ?_⟩))
      rw [hsz1]
      have hT := Heap.get?_push_size (s.heap.update it (PySem.Obj.mapFields (fun fs => fs.extract 0 4 ++ ((ix ++ cy).map fun (n : Nat) => rawInt n).toArray))) (o := { cls := .type "tuple", data := .seq ((ix.take n).map fun i => items.getD i .none).toArray }) rfl
      rw [hsz1] at hT
      have hlt : it < s.heap.objs.size := Heap.lt_size ho
      have hd2 : (PySem.Obj.mapFields (·.setIfInBounds 3 (.ref s.heap.objs.size)) (PySem.Obj.mapFields (fun fs => fs.extract 0 4 ++ ((ix ++ cy).map fun (n : Nat) => rawInt n).toArray) o)).data = .fields (permV P 1 n (.ref s.heap.objs.size) (ix ++ cy)).toArray := by
        rw [Obj.data_mapFields hd1]
        simp [permV]
      refine hQ _ ⟨_, Heap.get?_update_self _ e1 (Obj.isFreed_of_fields hd2), ?_, hd2⟩ ?_ fun b ob hb e => ?_
      · rw [Obj.cls_mapFields, Obj.cls_mapFields, hc]
      · rw [Heap.get?_update_other _ _ (Nat.ne_of_lt hlt)]
        exact hT
      · rw [Heap.get?_update_other _ _ (Ne.symm hb)]
        refine Heap.get?_push_of_some _ ?_
        rw [Heap.get?_update_other _ _ (Ne.symm hb)]
        exact e
    · rw [List.length_map, List.length_take]
      exact Nat.le_trans (Nat.min_le_left _ _) (Nat.le_trans hn (by decide))
  · rw [show (((permV P 1 n last ns).toArray.extract 0 4 ++ ((ix ++ cy).map fun (n : Nat) => rawInt n).toArray)).size = 4 + (ix ++ cy).length by simp [permV]; omega]
    exact Nat.le_trans (Nat.add_le_add_left hl 4) (by decide)
theorem perm_end {it P : Addr} {n : Nat} {last : Value} {ns : List Nat} {oP : PySem.Obj} {items : Array Value} {k : Nat} {Q : Option Value → Shared → Prop} (hh : A.handled = none) (hit : IsPerm s.heap it P 1 n last ns) (hP : s.heap.get? P = some oP) (hPd : oP.data = .seq items k) (hsz : items.size = n)
    (hx : nextP n n (ns.take n) (ns.drop n) = none) (hQ : ∀ h', Heap.ExtBut it s.heap h' → Q none { s with heap := h' }) :
    wpAny (model prog w) A (pyNext (.ref it)) Q E s := by
  obtain ⟨o, ho, hc, hd⟩ := id hit
  unfold pyNext
  refine wpAny_bind (wpAny_attempt (wpAny_callSpecial?_slot (name := Str.ofString "__next__") hit.typeIs slot_perm_next
    (wpAny_call_entry slot_perm_next hit.typeIs (perm_next ▸ entry_perm_next) ?_ (args_perm_next _))))
  unfold permNext
  refine wpAny_bind (wpAny_of_eq (a := (Value.ref it, [])) rfl ?_)
  try dsimp only
  refine wpAny_bind (wpAny_field ho hd (x := .ref P) rfl ?_)
  refine wpAny_bind (show wpAny _ _ (seqItems? (.ref P) >>= _) _ _ s from wpAny_bind (wpAny_seqItems hP hPd (wpAny_pure ?_)))
  try dsimp only
  refine wpAny_bind (show wpAny _ _ (field (.ref it) 2 >>= _) _ _ s from wpAny_bind (wpAny_field ho hd (x := rawInt n) rfl (wpAny_pure ?_)))
  try dsimp only
  refine wpAny_bind (show wpAny _ _ (load it >>= _) _ _ s from wpAny_bind (wpAny_load ho ?_))
  rw [hd]
  refine wpAny_of_eq (a := ns) (show (pure _ : Sem (List Nat)) = pure ns from congrArg pure (perm_nums P 1 n last ns)) ?_
  refine wpAny_bind (show wpAny _ _ (field (.ref it) 1 >>= _) _ _ s from wpAny_bind (wpAny_field ho hd (x := rawInt 1) rfl (wpAny_pure ?_)))
  simp only [Int.toNat_natCast, hsz, hx]
  refine wpAny_bind (wpAny_setField ho hd (by simp [permV]) ?_)
  show wpAny _ _ (newExc (.type "StopIteration") [] >>= _) _ _ _
  refine wpAny_bind ?_
  simp only [newExc, newTuple]
  refine wpAny_bind (wpAny_newObj_type ?_ (by size_fits))
  refine wpAny_bind (m := firstArgMember _ _) (wpAny_of_eq (a := Value.none) (by first | rfl | (simp only [firstArgMember]; rfl)) ?_)
  refine wpAny_newObj_type ?_ (by size_fits)
  simp only [raiseNew]
  refine wpAny_bind (wpAny_handled ?_)
  first | rw [show A.in1.handled = none from hh] | rw [hh]
  refine wpAny_bind (wpAny_pure (wpAny_throw ?_))
  refine wpAny_bind (wpAny_isInstance (T := "StopIteration") (b := true) ⟨_, Heap.get?_push_size _ rfl, rfl⟩ isSubtype_stop ?_)
  exact wpAny_pure (hQ _ (((Heap.SameBut.update ..).extBut.push _).push _))
theorem perm_iter {it P : Addr} {m : Int} {n : Nat} {last : Value} {ns : List Nat} {Q : Value → Shared → Prop} (hit : IsPerm s.heap it P m n last ns) (h : Q (.ref it) s) : wpAny (model prog w) A (pyIter (.ref it)) Q E s := by
  refine wpAny_pyIter_slot hit.typeIs slot_perm_iter (wpAny_call_entry slot_perm_iter hit.typeIs entry_perm_iter ?_ (args_perm_iter _))
  show wpAny _ _ (ret (.ref it)) _ _ s
  exact wpAny_pure ⟨_, rfl, "itertools.permutations", _, hit.typeIs, slot_perm_next.lookup, h⟩
end
end PL

set_option Elab.async false
set_option linter.all false
set_option maxRecDepth 100000
set_option maxHeartbeats 2000000
namespace PL
open PySem PySem.Spec PyProof.Rows L2
theorem plain_perm_new : plainId "itertools.permutations.__new__" = true := by decide +kernel
theorem cls_perm (a : Value) : Builtin.Itertools.itClassAndRest "permutations" ⟨[.type "itertools.permutations", a], []⟩ = pure (.type "itertools.permutations", [a]) := by
  have e : ("itertools." ++ "permutations" : String) = "itertools.permutations" := by decide
  unfold Builtin.Itertools.itClassAndRest
  simp only [e, isType, sub_perm, pure_bind, Bool.not_true, Bool.false_eq_true, if_false]
section
variable {prog : Program} {w : World} {A : Around} {E : Value → Shared → Prop} {s : Shared}
theorem permV_start {P : Addr} {n : Nat} (last : Value) : [Value.ref P, rawInt 0, rawInt (n : Int), last] ++ (List.range n).map (fun (i : Nat) => rawInt i) ++ (List.range n).map (fun (i : Nat) => rawInt ((n : Int) - i)) = permV P 0 n last (permStart n) := by
  unfold permV permStart
  have e : (List.range n).map (fun (i : Nat) => rawInt ((n : Int) - i)) = ((List.range n).map fun i => n - i).map fun (k : Nat) => rawInt k := by
    rw [List.map_map]
    apply List.map_congr_left
    intro i hi
    have : i < n := by simpa using hi
    show rawInt ((n : Int) - (i : Int)) = rawInt ((n - i : Nat) : Int)
    congr 1
    omega
  rw [e, List.map_append]
  rfl
theorem code_perm_new {r : Addr} {b : Int} {t u v : Tok} {n : Nat} {Q₁ : Value → Shared → Prop} (hh : A.handled = none) (hr : IsRange s.heap r 0 b 1 t u v) (hsmall : Builtin.Range.small 0 b 1 = true) (hn : Builtin.Range.rangeSize 0 b 1 = n) (hlen : n ≤ 8)
    (h : ∀ (h' : Heap) (tk : Nat) (acc : Array Value), (∀ b o, s.heap.get? b = some o → h'.get? b = some o) → ItemsOf (fun i v => ∃ t, v = .int (0 + i * 1) t) acc n →
      Q₁ (.ref (h'.objs.size + 1)) { s with heap := (h'.push { cls := .type "tuple", data := .seq acc }).push { cls := .type "itertools.permutations", data := .fields (permV h'.objs.size 0 n .none (permStart n)).toArray }, toks := tk }) :
    codeAny (model prog w) A (.call (.builtin "itertools.permutations.__new__") ⟨[.type "itertools.permutations", .ref r], []⟩) (wants Q₁ E) s := by
  refine codeAny_of_tree ?_
  show wpAny _ A.in1 (do checkBuiltinCall "itertools.permutations.__new__" ⟨[.type "itertools.permutations", .ref r], []⟩; again (.builtin "itertools.permutations.__new__" ⟨[.type "itertools.permutations", .ref r], []⟩)) _ _ s
  refine wpAny_bind (wpAny_of_eq (newCall_perm _) (wpAny_pure ⟨plainId_quiet plain_perm_new _, codeAny_builtin entry_perm_new ?_⟩))
  rw [Around.under_plainId plain_perm_new _]
  have hsub := sub_perm
  have hTI : s.TypeIs (.ref r) "range" := ⟨_, hr, rfl⟩
  have hh1 : A.in1.handled = none := hh
  have hlen2 : n ≤ 2 ^ 24 := Nat.le_trans hlen (by decide)
  unfold Builtin.«itertools.permutations.__new__»
  refine wpAny_bind (wpAny_of_eq (cls_perm (.ref r)) ?_)
  try dsimp only
  refine wpAny_bind (wpAny_of_eq (a := [some (.ref r), none]) (by first | rfl | kernel_rfl) ?_)
  try dsimp only
  refine wpAny_bind (collect_range (A := A.in1) hh1 hr hsmall hn hlen2 fun h' tk acc hk hacc => ?_)
  have hl : acc.toList.length = n := by rw [Array.length_toList]; exact hacc.1
  try dsimp only
  rw [hl]
  show wpAny _ _ ((pure (n : Int) : Sem Int) >>= _) _ _ _
  refine wpAny_bind (wpAny_pure ?_)
  try dsimp only
  rw [if_neg (by omega)]
  rw [if_neg (by
    show ¬ (decide ((n : Int) > 2 ^ 20)) = true
    rw [decide_eq_true_eq]
    omega)]
  rw [Int.toNat_natCast, if_neg (Nat.lt_irrefl n)]
  show wpAny _ _ (newTuple acc.toList >>= _) _ _ _
  refine wpAny_bind (wpAny_newTuple ?_ (by rw [hl]; exact Nat.le_trans hlen (by decide)))
  have hd : typeHasDict (.type "itertools.permutations") = false := by kernel_rfl
  unfold Builtin.Itertools.itNewRecord
  rw [hd]
  have e : acc.toList.toArray = acc := by simp
  rw [if_pos (show (!false) = true from rfl), permV_start]
  refine wpAny_bind (wpAny_newObj_type ?_ ?_)
  · refine wpAny_pure ?_
    have hz : (h'.push { cls := .type "tuple", data := .seq acc.toList.toArray }).objs.size = h'.objs.size + 1 := Heap.size_push ..
    have := h h' tk acc hk hacc
    rw [← e, ← hz] at this
    exact this
  · show (permV h'.objs.size 0 n Value.none (permStart n)).toArray.size ≤ sizeLine + 2
    have : (permV h'.objs.size 0 n Value.none (permStart n)).toArray.size = 4 + (n + n) := by
      simp [permV, permStart]
      omega
    rw [this]
    exact Nat.le_trans (show 4 + (n + n) ≤ 20 by omega) (by decide)
theorem call_perm {r : Addr} {b : Int} {t u v : Tok} {n : Nat} {Q : Value → Shared → Prop} (hh : A.handled = none) (hr : IsRange s.heap r 0 b 1 t u v) (hsmall : Builtin.Range.small 0 b 1 = true) (hn : Builtin.Range.rangeSize 0 b 1 = n) (hlen : n ≤ 8)
    (hQ : ∀ (h' : Heap) (tk : Nat) (acc : Array Value), (∀ b o, s.heap.get? b = some o → h'.get? b = some o) → ItemsOf (fun i v => ∃ t, v = .int (0 + i * 1) t) acc n →
      Q (.ref (h'.objs.size + 1)) { s with heap := (h'.push { cls := .type "tuple", data := .seq acc }).push { cls := .type "itertools.permutations", data := .fields (permV h'.objs.size 0 n .none (permStart n)).toArray }, toks := tk }) :
    wpAny (model prog w) A (PySem.call (.type "itertools.permutations") [.ref r]) Q E s := by
  refine callType_codes (Q₁ := fun obj s₁ => s₁.TypeIs obj "itertools.permutations" ∧ Q obj s₁) called_perm (typeCall_perm _) F.entry_object_init
    (code_perm_new (A := A.in1) hh hr hsmall hn hlen fun h' tk acc hk hacc => ⟨⟨{ cls := .type "itertools.permutations", data := .fields (permV h'.objs.size 0 n .none (permStart n)).toArray }, ?_, rfl⟩, hQ h' tk acc hk hacc⟩) fun obj s₁ h₁ => ?_
  · have hz : (h'.push { cls := .type "tuple", data := .seq acc }).objs.size = h'.objs.size + 1 := Heap.size_push ..
    rw [← hz]
    exact Heap.get?_push_size _ rfl
  · exact ⟨h₁.1, F.args_object_init_2 obj _, object_init_meets called_perm.init.lookup called_perm.made (by decide) prog w A.in1 _ s₁ ⟨h₁.1, rfl, h₁.2⟩⟩
end
/-! ### the orders -/
theorem perm_facts : ∀ n ≤ 4, 1 ≤ n → (permSs n).head? = some (permStart n) ∧ (∀ i, i + 1 < (permSs n).length → nextP n n (((permSs n).getD i []).take n) (((permSs n).getD i []).drop n) = some (((permSs n).getD (i + 1) []).take n, ((permSs n).getD (i + 1) []).drop n)) ∧
    nextP n n (((permSs n).getD ((permSs n).length - 1) []).take n) (((permSs n).getD ((permSs n).length - 1) []).drop n) = none ∧ (∀ ns ∈ permSs n, ns.length = n + n ∧ ∀ k ∈ ns.take n, k < n) := by
  intro n h4 h1
  have : n = 1 ∨ n = 2 ∨ n = 3 ∨ n = 4 := by omega
  have fin : ∀ n, (∀ i < 30, i + 1 < (permSs n).length → nextP n n (((permSs n).getD i []).take n) (((permSs n).getD i []).drop n) = some (((permSs n).getD (i + 1) []).take n, ((permSs n).getD (i + 1) []).drop n)) → (permSs n).length ≤ 30 → ∀ i, i + 1 < (permSs n).length → nextP n n (((permSs n).getD i []).take n) (((permSs n).getD i []).drop n) = some (((permSs n).getD (i + 1) []).take n, ((permSs n).getD (i + 1) []).drop n) := fun n h hl i hi => h i (by omega) hi
  rcases this with rfl | rfl | rfl | rfl
  · exact ⟨by decide +kernel, fin 1 (by decide +kernel) (by decide +kernel), by decide +kernel, by decide +kernel⟩
  · exact ⟨by decide +kernel, fin 2 (by decide +kernel) (by decide +kernel), by decide +kernel, by decide +kernel⟩
  · exact ⟨by decide +kernel, fin 3 (by decide +kernel) (by decide +kernel), by decide +kernel, by decide +kernel⟩
  · exact ⟨by decide +kernel, fin 4 (by decide +kernel) (by decide +kernel), by decide +kernel, by decide +kernel⟩
theorem permSs_pos {n : Nat} (h4 : n ≤ 4) (h1 : 1 ≤ n) : 0 < (permSs n).length := by
  obtain ⟨h, _⟩ := perm_facts n h4 h1
  cases hs : permSs n with
  | nil => rw [hs] at h; cases h
  | cons a r => simp
end PL

set_option Elab.async false
set_option linter.all false
set_option maxRecDepth 100000
set_option maxHeartbeats 2000000
namespace PL
open PySem PySem.Spec PyProof.Rows L2
/-! ### a loop over the orders of so many numbers -/
def ItP (n : Nat) : L2.It :=
  ⟨fun i H => i < (permSs n).length, fun i H v H' => ∃ T, v = .ref T ∧ H T = none ∧ H' = upd H T (.tup ((((permSs n).getD i []).take n).map fun (k : Nat) => V.int (k : Nat))), fun i H => i = (permSs n).length⟩
theorem perm_vals {acc : Array Value} {n : Nat} (h : ItemsOf (fun i v => ∃ t, v = .int (0 + i * 1) t) acc n) : ∀ l : List Nat, (∀ k ∈ l, k < n) → Vals (l.map fun (k : Nat) => V.int (k : Nat)) (l.map fun i => acc.getD i .none)
  | [], _ => .nil
  | k :: r, hk => by
    have hlt : k < acc.size := by rw [h.1]; exact hk k (List.mem_cons_self ..)
    obtain ⟨t, ht⟩ := h.2 k acc[k] (by rw [Array.getElem?_eq_getElem hlt])
    refine .cons ⟨t, ?_⟩ (perm_vals h r fun x hx => hk x (List.mem_cons_of_mem _ hx))
    show acc.getD k Value.none = _
    rw [Array.getD_eq_getD_getElem?, Array.getElem?_eq_getElem hlt]
    show acc[k] = _
    rw [ht]
    congr 1
    omega
theorem turn_perm {P : Program} {w : World} {K : PySem.W.Frag} {tg : Expr} {n : Nat} (h4 : n ≤ 4) (h1 : 1 ≤ n) {acc : Array Value} (ha : ItemsOf (fun i v => ∃ t, v = .int (0 + i * 1) t) acc n) (it PA : Addr) (hne : PA ≠ it) :
    Turn P w K tg (ItP n) [it, PA] it (fun i h => (∃ last, IsPerm h it PA (if i = 0 then 0 else 1) n last ((permSs n).getD (i - 1) [])) ∧ h.get? PA = some { cls := .type "tuple", data := .seq acc }) where
  mem := by simp
  obj := fun i h st b hb => by
    obtain ⟨⟨last, o, ho, hc, hd⟩, hP⟩ := st
    have e' : b = it ∨ b = PA := by simpa using hb
    rcases e' with z | z
    · rw [z]; exact ⟨o, ho, fun v q => by rw [hd] at q; cases q⟩
    · rw [z]; exact ⟨_, hP, fun v q => by cases q⟩
  keep := fun i h h' st kp => by
    obtain ⟨⟨last, o, ho, hc, hd⟩, hP⟩ := st
    exact ⟨⟨last, o, kp it (by simp) _ ho, hc, hd⟩, kp PA (by simp) _ hP⟩
  item := by
    intro X hP hw hK hc i pins s σ H E I hf st hg
    subst hP hw hK
    obtain ⟨⟨last, hit⟩, hPA⟩ := st
    have hg : i < (permSs n).length := hg
    obtain ⟨f0, f1, f2, f3⟩ := perm_facts n h4 h1
    have hil : it < s.heap.objs.size := let ⟨o, ho, _⟩ := hit; Heap.lt_size ho
    have hPl : PA < s.heap.objs.size := Heap.lt_size hPA
    -- what comes of a step
    have fin : ∀ (ns : List Nat), (∀ k ∈ ns.take n, k < n) → ns.take n = ((permSs n).getD i []).take n → ∀ h' : Heap, IsPerm h' it PA 1 n (.ref s.heap.objs.size) ((permSs n).getD i []) → h'.get? s.heap.objs.size = some { cls := .type "tuple", data := .seq ((ns.take n).map fun i => acc.getD i .none).toArray } →
        (∀ b o, b ≠ it → s.heap.get? b = some o → h'.get? b = some o) → ∃ u, some (Value.ref s.heap.objs.size) = some u ∧ wpAny (model X.prog X.w) X.A (letOwnedTupleGo tg (.ref it) u) (fun _ s2 => ∃ x H', Inv X pins σ H' s2 ∧ RelV x u ∧ (ItP n).yld i H x H' ∧
          ((∃ last, IsPerm s2.heap it PA (if i + 1 = 0 then 0 else 1) n last ((permSs n).getD (i + 1 - 1) [])) ∧ s2.heap.get? PA = some { cls := .type "tuple", data := .seq acc }) ∧ ∀ b ∈ [it, PA], H' b = none) E { s with heap := h' } := by
      intro ns hk hns h' hit' hT hkp
      have rv := perm_vals ha (ns.take n) hk
      have hz : ((ns.take n).map fun i => acc.getD i .none).length ≤ sizeLine := by
        rw [List.length_map, List.length_take]
        exact Nat.le_trans (Nat.min_le_left _ _) (Nat.le_trans h4 (by decide))
      have new : ObjOk X.prog X.w (upd H s.heap.objs.size (.tup ((ns.take n).map fun (k : Nat) => V.int (k : Nat)))) h' s.heap.objs.size (.tup ((ns.take n).map fun (k : Nat) => V.int (k : Nat))) :=
        ⟨by rw [List.length_map]; rw [List.length_map] at hz; exact hz, _, rv, ⟨_, hT, rfl, _, rfl⟩⟩
      have I1 : Inv X pins σ (upd H s.heap.objs.size (.tup ((ns.take n).map fun (k : Nat) => V.int (k : Nat)))) { s with heap := h' } :=
        I.turnedNew (ch := [it, PA]) (t' := s.toks) (fun b ob hb q => hkp b ob (fun z => hb (by simp [z])) q) hf (Nat.le_refl _) new
      obtain ⟨o', ho', hc', hd'⟩ := id hit'
      refine ⟨_, rfl, go_of (s := { s with heap := h' }) ho' hc' hd' (by decide) ⟨.ref s.heap.objs.size, _, I1, rfl, ⟨_, rfl, I.hok.fresh (Nat.le_refl _), by rw [hns]⟩, ⟨⟨_, by rw [if_neg (Nat.succ_ne_zero i)]; exact hit'⟩, hkp _ _ hne hPA⟩, fun b hb => ?_⟩⟩
      have e' : b = it ∨ b = PA := by simpa using hb
      have hb' : b < s.heap.objs.size := by
        rcases e' with z | z
        · rw [z]; exact hil
        · rw [z]; exact hPl
      rw [upd_ne (Nat.ne_of_lt hb')]
      exact (hf b hb).1
    have mem : ∀ j, j < (permSs n).length → (permSs n).getD j [] ∈ permSs n := fun j hj => by
      rw [List.getD_eq_getElem?_getD, List.getElem?_eq_getElem hj]
      exact List.getElem_mem hj
    cases i with
    | zero =>
      rw [if_pos rfl] at hit
      exact perm_first hit hPA rfl ha.1 (Nat.le_trans h4 (by decide)) fun h' q1 q2 q3 => fin _ (f3 _ (mem 0 hg)).2 rfl h' q1 q2 q3
    | succ j =>
      rw [if_neg (Nat.succ_ne_zero j)] at hit
      have hx := f1 j hg
      obtain ⟨l1, l2⟩ := f3 _ (mem (j + 1) hg)
      have e : ((permSs n).getD (j + 1) []).take n ++ ((permSs n).getD (j + 1) []).drop n = (permSs n).getD (j + 1) [] := List.take_append_drop _ _
      refine perm_more hit hPA rfl ha.1 (Nat.le_trans h4 (by decide)) hx (by rw [e, l1]; omega) fun h' q1 q2 q3 => ?_
      rw [e] at q1
      rw [List.take_take, Nat.min_self] at q2
      exact fin _ l2 rfl h' q1 q2 q3
  done := by
    intro X hP hw hK hc i pins s σ H E I hf st hg
    subst hP hw hK
    obtain ⟨⟨last, hit⟩, hPA⟩ := st
    have hg : i = (permSs n).length := hg
    obtain ⟨f0, f1, f2, f3⟩ := perm_facts n h4 h1
    have hp := permSs_pos h4 h1
    rw [if_neg (by omega)] at hit
    rw [hg] at hit
    obtain ⟨g0, g1, g2, g3, g4, g5⟩ := hf it (by simp)
    exact perm_end (I.ok.hd hc) hit hPA rfl ha.1 f2 fun h' eb => ⟨rfl, I.turned (t' := s.toks) (fun b o hb q => eb b o hb q) g0 g1 g3 g4 g5⟩
  self := fun A i s Q E st h => let ⟨⟨_, hit⟩, _⟩ := st; perm_iter hit h
/-- permutations(range(n)) -/
def iPerm (t : L2.St → Hp → (Int → Int → Hp → Prop) → Prop) : TI := fun σ H R => t σ H fun a b H1 => ∃ n : Nat, a = 0 ∧ b = (n : Int) ∧ 1 ≤ n ∧ n ≤ 4 ∧ R (ItP n) H1
theorem pi_perm {X : Cx} {tg e : Expr} {te : L2.St → Hp → (Int → Int → Hp → Prop) → Prop} {p pos : Pos} {x : Str} (hc : X.calm = true) (hg : Gl X x) (hm : X.mg x = some (.type "itertools.permutations")) (he : PRg X e te) (hd : (x == ("__debug__" : Str)) = false) (hn : x ≠ "__name__") (hs : starEach [e] X.env = (false, eval e X.env) :: starEach [] X.env) :
    PI X tg (.Call (.Name x p) [e] [] pos) (iPerm te) := by
  refine ⟨fun pins s σ H R I h => ?_⟩
  refine wpAny_Call_Name_kw (ld_glob I hg hm ?_ hd)
  refine PyProof.Rows.callWith_type1 (args_cons (thn (he pins s σ H _ I h) fun v s1 ⟨r, a, b, t, u, w, H1, ex, hr, I1, n, ea, eb, h1, h4, q⟩ => args_nil ?_) hs) hs rfl
  subst ex ea eb
  have sm : Builtin.Range.small 0 (n : Int) 1 = true := small_one (by omega) (by omega) (by omega) (by omega)
  have rs : Builtin.Range.rangeSize 0 (n : Int) 1 = n := by
    have := rangeSize_nat 0 (n : Int)
    simpa using this
  refine call_perm (n := n) (I1.ok.hd hc) hr sm rs (by omega) fun h' tk acc hk hi => ?_
  have hz : (h'.push { cls := .type "tuple", data := .seq acc }).objs.size = h'.objs.size + 1 := Heap.size_push ..
  have e1 : ((h'.push { cls := .type "tuple", data := .seq acc }).push { cls := .type "itertools.permutations", data := .fields (permV h'.objs.size 0 n .none (permStart n)).toArray }).get? (h'.objs.size + 1) = some { cls := .type "itertools.permutations", data := .fields (permV h'.objs.size 0 n .none (permStart n)).toArray } := by
    rw [← hz]
    exact Heap.get?_push_size _ rfl
  have e2 : ((h'.push { cls := .type "tuple", data := .seq acc }).push { cls := .type "itertools.permutations", data := .fields (permV h'.objs.size 0 n .none (permStart n)).toArray }).get? h'.objs.size = some { cls := .type "tuple", data := .seq acc } :=
    Heap.get?_push_of_some _ (Heap.get?_push_size _ rfl)
  have ip : IsPerm ((h'.push { cls := .type "tuple", data := .seq acc }).push { cls := .type "itertools.permutations", data := .fields (permV h'.objs.size 0 n .none (permStart n)).toArray }) (h'.objs.size + 1) h'.objs.size 0 n .none (permStart n) := ⟨_, e1, rfl, rfl⟩
  refine perm_iter ip ?_
  have I0 : Inv X pins σ H1 { s1 with heap := h', toks := tk } := I1.kept (t' := tk) hk
  have I2 : Inv X pins σ H1 { s1 with heap := (h'.push { cls := .type "tuple", data := .seq acc }).push { cls := .type "itertools.permutations", data := .fields (permV h'.objs.size 0 n .none (permStart n)).toArray }, toks := tk } :=
    I1.kept (t' := tk) fun b o q => Heap.get?_push_of_some _ (Heap.get?_push_of_some _ (hk b o q))
  obtain ⟨f0, _⟩ := perm_facts n h4 h1
  have g0 : (permSs n).getD 0 [] = permStart n := by
    rw [List.getD_eq_getElem?_getD, ← List.head?_eq_getElem?, f0]
    rfl
  refine ⟨h'.objs.size + 1, [h'.objs.size + 1, h'.objs.size], _, _, H1, rfl, I2, turn_perm h4 h1 hi (h'.objs.size + 1) h'.objs.size (Nat.ne_of_lt (Nat.lt_succ_self _)), ⟨⟨.none, by rw [if_pos rfl, g0]; exact ip⟩, e2⟩, fun b hb => ?_, q⟩
  have e' : b = h'.objs.size + 1 ∨ b = h'.objs.size := by simpa using hb
  have hle : h'.objs.size ≤ b := by
    rcases e' with z | z
    · rw [z]; exact Nat.le_succ _
    · rw [z]; exact Nat.le_refl _
  exact I0.fpOk hle (I0.hok.fresh hle)
/-! ### in the small language -/
theorem feeds_perm {K : PySem.W.Frag} {fa : Nat → Addr} {β ρ : List Addr} {st : Sto} {H : Hp} {n : Nat} : Feeds K fa β ρ st H (ItP n) (permD n) := fun β' ρ' st' H' b c d => by
  have hl : (permD n).length = (permSs n).length := by simp [permD, permL]
  refine ⟨fun i x h => ?_, hl⟩
  have hi : i < (permSs n).length := by rw [← hl]; exact (List.getElem?_eq_some_iff.mp h).1
  refine ⟨hi, fun v H2 y => ?_⟩
  obtain ⟨T, rfl, hT, rfl⟩ := y
  have e : x = .tup ((((permSs n).getD i []).take n).map fun (k : Nat) => .int (k : Nat)) := by
    unfold permD permL at h
    rw [List.map_map, List.getElem?_map, List.getElem?_eq_getElem hi] at h
    rw [List.getD_eq_getElem?_getD, List.getElem?_eq_getElem hi]
    exact (Option.some.inj h).symm
  subst e
  have rs : ∀ l : List Nat, RDs K fa H' (Mu ρ' st') β' ρ' st'.length (l.map fun (k : Nat) => D.int (k : Nat)) (l.map fun (k : Nat) => V.int (k : Nat)) := fun l => by
    induction l with
    | nil => exact .nil
    | cons a r ih => exact .cons (.int _) ih
  exact ⟨(d.lay hT).2, (d.lay hT).1, lay_tup d hT (rs _)⟩
section
variable {X : Cx} {q : Qm} {a : E} {pa : Expr} {es : Es} {pes : List Expr} {pe : Expr} {pos : Pos}
theorem i_perm {tg : Expr} {x : Str} {p p2 pos2 : Pos} (hc : X.calm = true) (hg : Gl X x) (hm : X.mg x = some (.type "itertools.permutations")) (hd : (x == ("__debug__" : Str)) = false) (hn : x ≠ "__name__") (hg2 : Gl X "range") (hm2 : X.mg "range" = none)
    (ha : PE X pa (tW X.K q a)) (na : starEach [pa] X.env = (false, eval pa X.env) :: starEach [] X.env) :
    PI X tg (.Call (.Name x p) [.Call (.Name "range" p2) [pa] [] pos2] [] pos) (tWi X.K q (.perm a)) :=
  (pi_perm hc hg hm (r_one hg2 hm2 ha na) hd hn rfl).w fun σ H Rr ⟨β, ρ, env, st, e, S, h⟩ => by
    simp only [evi] at h
    refine ⟨β, ρ, env, st, e, S, ?_⟩
    cases hv : ev q.C q.G a env st with
    | bad =>
      rw [hv] at h
      exact h.elim
    | exn c d s1 =>
      rw [hv] at h
      simp only [evo]
      show RP ((ev q.C q.G a env st).bind fun y s2 => (toI y s2).bind fun j s3 => R.ok ((none : Option Int).getD 0, j) s3) _ _
      rw [hv]
      exact h
    | ok x s1 =>
      rw [hv] at h
      have h : RP ((toI x s1).bind fun i s2 => if (decide (1 ≤ i) && decide (i ≤ 4)) = true then R.ok (permD i.toNat, []) s2 else .bad) _ _ := h
      simp only [evo]
      show RP ((ev q.C q.G a env st).bind fun y s2 => (toI y s2).bind fun j s3 => R.ok ((none : Option Int).getD 0, j) s3) _ _
      rw [hv]
      show RP ((toI x s1).bind fun j s3 => R.ok ((none : Option Int).getD 0, j) s3) _ _
      cases x with
      | int i =>
        have h : RP (if (decide (1 ≤ i) && decide (i ≤ 4)) = true then R.ok (permD i.toNat, []) s1 else .bad) _ _ := h
        split at h
        · rename_i c
          simp only [Bool.and_eq_true, decide_eq_true_eq] at c
          intro H1 ρ1 a1 S1
          exact ⟨i.toNat, rfl, by show i = _; omega, by omega, by omega, h (fun j hj => nomatch hj) _ H1 ρ1 a1 S1 feeds_perm⟩
        · exact h.elim
      | _ => exact h.elim
/-! imported functions -/
def imId : Im → String
  | .comb => "math.comb" | .gcd => "math.gcd"
def imV (f : Im) : Value := .builtin (imId f)
def rIm (K : PySem.W.Frag) (fa : Nat → Addr) (f : Im) : List V → Hp → VK → Prop := fun vs H Q => ∃ β ρ st ds d, RS K fa β ρ st H ∧ RDs K fa H (Mu ρ st) β ρ st.length ds vs ∧ imcall f ds = some d ∧ Post K fa β ρ st H d st Q
theorem call_im {fa : Nat → Addr} (f : Im) : CallR X (.builtin (imId f)) (rIm X.K fa f) := by
  intro pins s σ H xs us Q I r h
  obtain ⟨β, ρ, st, ds, d, S, rs, hd, q⟩ := h
  unfold imcall at hd
  split at hd
  · split at hd
    · rename_i n k c
      simp only [Bool.and_eq_true, decide_eq_true_eq] at c
      obtain ⟨c1, c2, c3, c4⟩ := c
      cases hd
      cases rs with
      | cons r1 r2 =>
        cases r2 with
        | cons r2 r3 =>
          cases r3
          cases r1
          cases r2
          obtain ⟨t, u, rfl⟩ := Vals.int2 r
          obtain ⟨n', rfl⟩ : ∃ n' : Nat, n = n' := ⟨n.toNat, by omega⟩
          obtain ⟨k', rfl⟩ : ∃ k' : Nat, k = k' := ⟨k.toNat, by omega⟩
          exact call_comb I (by omega) (by omega) (q.here S (.int _))
    · cases hd
  · cases hd
    cases rs with
    | cons r1 r2 =>
      cases r2 with
      | cons r2 r3 =>
        cases r3
        cases r1
        cases r2
        exact cr_gcd pins s σ H _ us Q I r ⟨_, _, rfl, q.here S (.int _)⟩
  · cases hd
theorem s_imp {f : Im} {x : Str} {p : Pos} (hg : Gl X x) (hm : X.mg x = some (imV f)) (ha : PA X (pe :: pes) (tWs X.K q es)) (hdb : (x == ("__debug__" : Str)) = false)
    (he : starEach (pe :: pes) X.env = (false, eval pe X.env) :: starEach pes X.env) (hpl : (backTo pos (starEach pes X.env)).any (·.1) = false) : PE X (.Call (.Name x p) (pe :: pes) [] pos) (tW X.K q (.imp f es)) :=
  (pe_callBfun (call_im (fa := q.fa) f) hg hm ha hdb he hpl).w fun σ H Q ⟨β, ρ, env, st, e, S, h⟩ => by
    simp only [ev] at h
    refine ⟨β, ρ, env, st, e, S, h.bind.imp (fun ds s1 h1 vs H1 ρ1 a1 S1 r1 => ?_) fun _ _ _ g => g⟩
    obtain ⟨d, h4, h5⟩ := h1.oD
    exact ⟨β, ρ1, s1, ds, d, S1, r1, h4, h5.after a1⟩
end
end PL

set_option Elab.async false
set_option linter.all false
set_option maxRecDepth 100000
set_option maxHeartbeats 1000000
/-! The check: an own term is the program's term (positions aside). -/
namespace PL
open PySem PySem.Spec PyProof.Rows L2
/-- names: the defs (number, how many parameters), the constants, the keyword calls (def, positional, names, order) -/
structure Ck where
  fns : List (Str × Nat × Nat)
  gls : List (Str × Nat)
  kws : List (Nat × Nat × List Str × List Nat)
  ims : List (Str × Im)
  perm : Bool
def visB (sc : Scope) (x : Str) : Bool := match sc.names.lookup x with
  | some .local => true
  | some .cell => true
  | some .free => true
  | _ => false
def locB (sc : Scope) (x : Str) : Bool := match sc.names.lookup x with
  | some .local => true
  | some .cell => true
  | _ => false
def lclB (sc : Scope) (x : Str) : Bool := match sc.names.lookup x with
  | some .local => true
  | _ => false
def glB (sc : Scope) (x : Str) : Bool := match sc.names.lookup x with
  | some .globalImplicit => true
  | _ => false
def okN (x : Str) : Bool := !(x == ("__debug__" : Str)) && !(x == ("__classdict__" : Str)) && !(x == ("__name__" : Str))
def isStar : Expr → Bool
  | .Starred _ _ => true
  | _ => false
def isSet : Expr → Bool
  | .Set _ _ _ => true
  | _ => false
def isSl : Expr → Bool
  | .Slice _ _ _ _ => true
  | _ => false
/-- x(), which might be super() -/
def isCall : Expr → Bool
  | .Call (.Name _ _) [] [] _ => true
  | _ => false
def isLc : Expr → Bool
  | .ListComp _ _ _ _ => true
  | .SetComp _ _ _ _ => true
  | .DictComp _ _ _ _ _ => true
  | _ => false
def isSD : Expr → Bool
  | .SetComp _ _ _ _ => true
  | .DictComp _ _ _ _ _ => true
  | _ => false
def isTup : Expr → Bool
  | .Tuple _ _ _ => true
  | .List _ _ => true
  | _ => false
def blN : Bl → Str
  | .len => "len" | .sum => "sum" | .all => "all" | .any => "any" | .int => "int" | .abs => "abs" | .min2 => "min" | .max2 => "max"
  | .minL => "min" | .maxL => "max" | .divmod => "divmod" | .tuple => "tuple" | .list => "list" | .sorted => "sorted"
def tyS : Ty → Str
  | .int => "int" | .str => "str" | .bool => "bool" | .list => "list" | .tuple => "tuple"
def blNames : List Str := ["len", "sum", "all", "any", "int", "abs", "min", "max", "divmod", "tuple", "list", "sorted", "isinstance", "str", "bool", "range", "enumerate", "zip"]
/-- the term can be read as a test -/
def canT : E → Bool
  | .ife _ _ _ => false
  | .thaw _ => false
  | .frz _ => false
  | _ => true
/-- the term makes a new list -/
def isFr : E → Bool
  | .list _ => true
  | .bin _ _ _ => true
  | .blt .list _ => true
  | .blt .sorted _ => true
  | .comp _ _ _ _ _ => true
  | .comp2 _ _ _ _ _ _ _ _ _ => true
  | .lsts _ => true
  | .rgv false _ _ => true
  | _ => false
def fnI (c : Ck) (x : Str) (k : Nat) : Bool := match c.fns.lookup x with
  | some p => decide (p.1 = k)
  | none => false
theorem fnI_of {c : Ck} {x : Str} {k : Nat} (h : fnI c x k = true) : ∃ np, c.fns.lookup x = some (k, np) := by
  unfold fnI at h
  split at h
  · rename_i p e
    have := of_decide_eq_true h
    exact ⟨p.2, by rw [e, ← this]⟩
  · cases h
/-- the block's scope, seen from around -/
def relS (s2 sc : Scope) : Scope := { s2 with names := s2.names.map fun (n, k) => if (k == NameKind.free && sc.kind == .function && sc.names.lookup n == some .cell) then (n, NameKind.cell) else (n, k) }
def celB (sc : Scope) (x : Str) : Bool := match sc.names.lookup x with
  | some .cell => true
  | _ => false
section
variable (c : Ck) (N : List Str)
def ownN (own : List Nat) : List (Str × Nat) := own.map fun i => (N.getD i ⟨#[]⟩, i)
mutual
def kE : E → Scope → Expr → Bool
  | .non, sc, pe => (match pe with | .Constant .none _ _ => true | _ => false)
  | .bl b, sc, pe => (match pe with | .Constant (.bool v) _ _ => v == b | _ => false)
  | .int i, sc, pe => (match pe with | .Constant (.int j) _ _ => decide (i = j) | _ => false)
  | .str s, sc, pe => (match pe with | .Constant (.str x) _ _ => decide (x.cps.toList = s) | _ => false)
  | .var i, sc, pe => (match pe with | .Name x _ => decide (N[i]? = some x) && visB sc x && okN x | _ => false)
  | .glb k, sc, pe => (match pe with | .Name x _ => glB sc x && decide (c.gls.lookup x = some k) && okN x | _ => false)
  | .fnv k, sc, pe => (match pe with | .Name x _ => glB sc x && fnI c x k && okN x | _ => false)
  | .bin o a b, sc, pe => (match pe with | .BinOp pa op pb _ => decide (op = opOf o) && kE a sc pa && kE b sc pb | _ => false)
  | .neg a, sc, pe => (match pe with | .UnaryOp .USub pa _ => kE a sc pa | _ => false)
  | .not a, sc, pe => (match pe with | .UnaryOp .Not pa _ => canT a && kE a sc pa | _ => false)
  | .and a b, sc, pe => (match pe with
    | .BoolOp .And [pa, pb] _ => canT a && canT b && kE a sc pa && kE b sc pb
    | .BoolOp .And (pa :: pb :: pc :: r) p => canT a && canT b && kE a sc pa && kE b sc (.BoolOp .And (pb :: pc :: r) p)
    | _ => false)
  | .or a b, sc, pe => (match pe with
    | .BoolOp .Or [pa, pb] _ => canT a && canT b && kE a sc pa && kE b sc pb
    | .BoolOp .Or (pa :: pb :: pc :: r) p => canT a && canT b && kE a sc pa && kE b sc (.BoolOp .Or (pb :: pc :: r) p)
    | _ => false)
  | .cmp o a b, sc, pe => (match pe with | .Compare pa [op] [pb] _ => decide (op = cmOf o) && !isSet pb && kE a sc pa && kE b sc pb | _ => false)
  | .chn o p a b d, sc, pe => (match pe with | .Compare pa [op, oq] [pb, pc] _ => decide (op = cmOf o) && decide (oq = cmOf p) && !isSet pc && kE a sc pa && kE b sc pb && kE d sc pc | _ => false)
  | .ife d a b, sc, pe => (match pe with | .IfExp pc pa pb _ => canT d && kE d sc pc && kE a sc pa && kE b sc pb | _ => false)
  | .call f as, sc, pe => (match pe with | .Call (.Name x _) pes [] _ => glB sc x && okN x && decide (c.fns.lookup x = some (f, esLen as)) && kEs as sc pes | _ => false)
  | .callk f as ks pm, sc, pe => (match pe with
    | .Call (.Name x _) pes kws _ => glB sc x && okN x && fnI c x f && decide ((f, esLen as, kws.filterMap (·.arg), pm) ∈ c.kws) && kEs as sc pes && kKs ks sc kws
    | _ => false)
  | .callv i as, sc, pe => (match pe with | .Call (.Name x _) pes [] _ => decide (N[i]? = some x) && visB sc x && okN x && !pes.isEmpty && kEs as sc pes | _ => false)
  | .blt b as, sc, pe => (match pe with | .Call (.Name x _) pes [] _ => decide (x = blN b) && glB sc x && !pes.isEmpty && kEs as sc pes | _ => false)
  | .isi a t, sc, pe => (match pe with | .Call (.Name x _) [pa, .Name y _] [] _ => decide (x = "isinstance") && decide (y = tyS t) && glB sc x && glB sc y && !isStar pa && kE a sc pa | _ => false)
  | .mth m o as, sc, pe => (match pe with | .Call (.Attribute pa x apos) pes [] cpos => decide (x = mN m) && !isCall pa && (apos.endLine == cpos.line) && decide (pes.length < 20) && kE o sc pa && kEs as sc pes | _ => false)
  | .idx a b, sc, pe => (match pe with | .Subscript pa pb _ => !isSl pb && kE a sc pa && kE b sc pb | _ => false)
  | .slc a lo hi, sc, pe => (match pe with | .Subscript pa (.Slice plo phi none _) _ => kE a sc pa && kO lo sc plo && kO hi sc phi | _ => false)
  | .tup as, sc, pe => (match pe with | .Tuple pes _ _ => kEs as sc pes | _ => false)
  | .list as, sc, pe => (match pe with | .List pes _ => kEs as sc pes | _ => false)
  | .comp own elt tg it oc, sc, pe => (match pe with
    | .ListComp pelt [⟨ptg, pit, pifs, 0⟩] s2 _ => blkC N sc s2 (ownN N own) && (tgv tg).all (fun i => own.contains i) && !isSet pit && kI it sc ptg pit && kG tg s2 (relS s2 sc) ptg && kC oc (relS s2 sc) pifs && kE elt (relS s2 sc) pelt
    | _ => false)
  | .comp2 own own1 elt tg it oc tg1 it1 oc1, sc, pe => (match pe with
    | .ListComp pelt [⟨ptg, pit, pifs, 0⟩, ⟨ptg1, pit1, pifs1, 0⟩] s2 _ => blkC N sc s2 (ownN N own) && (tgv tg).all (fun i => own.contains i) && !isSet pit && kI it sc ptg pit && kG tg s2 (relS s2 sc) ptg && kC oc (relS s2 sc) pifs && kE elt (relS s2 sc) pelt && ((tgv tg1).all (fun i => own1.contains i) && own1.all (fun i => own.contains i) && !isSet pit1 && kI it1 (relS s2 sc) ptg1 pit1 && kG tg1 s2 (relS s2 sc) ptg1 && kC oc1 (relS s2 sc) pifs1)
    | _ => false)
  | .tups zs, sc, pe => (match pe with | .Tuple pes _ _ => kZs zs sc pes | _ => false)
  | .lsts zs, sc, pe => (match pe with | .List pes _ => kZs zs sc pes | _ => false)
  | .tidx as e, sc, pe => false
  | .imp f as, sc, pe => (match pe with | .Call (.Name x _) pes [] _ => decide (c.ims.lookup x = some f) && glB sc x && okN x && !pes.isEmpty && kEs as sc pes | _ => false)
  | .thaw a, sc, pe => isFr a && kE a sc pe
  | .frz a, sc, pe => kE a sc pe
  | .rgv tp lo b, sc, pe => (match pe with
    | .Call (.Name x _) [.Call (.Name y _) pes [] _] [] _ => decide (x = if tp then "tuple" else "list") && glB sc x && decide (y = "range") && glB sc y && (match pes with
      | [pb] => (match lo with | .none => true | .some _ => false) && !isStar pb && kE b sc pb
      | [pa, pb] => !isStar pa && !isStar pb && kO lo sc (some pa) && kE b sc pb
      | _ => false)
    | _ => false)
def kEs : Es → Scope → List Expr → Bool
  | .nil, sc, pes => pes.isEmpty
  | .cons e es, sc, pes => (match pes with | pe :: r => !isStar pe && kE e sc pe && kEs es sc r | [] => false)
def kZs : Zs → Scope → List Expr → Bool
  | .nil, sc, pes => pes.isEmpty
  | .cons e zs, sc, pes => (match pes with | pe :: r => !isStar pe && kE e sc pe && kZs zs sc r | [] => false)
  | .star e zs, sc, pes => (match pes with | .Starred pe _ :: r => kE e sc pe && kZs zs sc r | _ => false)
def kKs : Es → Scope → List Keyword → Bool
  | .nil, sc, kws => kws.isEmpty
  | .cons e es, sc, kws => (match kws with | ⟨some _, pe, _⟩ :: r => kE e sc pe && kKs es sc r | _ => false)
def kO : Oe → Scope → Option Expr → Bool
  | .none, sc, pe => pe.isNone
  | .some e, sc, pe => (match pe with | some pa => kE e sc pa | none => false)
def kC : Oe → Scope → List Expr → Bool
  | .none, sc, pes => pes.isEmpty
  | .some e, sc, pes => (match pes with | [pa] => canT e && kE e sc pa | _ => false)
def kI : It → Scope → Expr → Expr → Bool
  | .val e, sc, ptg, pit => kE e sc pit
  | .rng1 a, sc, ptg, pit => (match pit with | .Call (.Name x _) [pa] [] _ => decide (x = "range") && glB sc x && !isStar pa && kE a sc pa | _ => false)
  | .rng2 a b, sc, ptg, pit => (match pit with | .Call (.Name x _) [pa, pb] [] _ => decide (x = "range") && glB sc x && !isStar pa && !isStar pb && kE a sc pa && kE b sc pb | _ => false)
  | .rng3 a b k, sc, ptg, pit => (match pit with | .Call (.Name x _) [pa, pb, .UnaryOp .USub (.Constant (.int 1) _ _) _] [] _ => decide (k = -1) && decide (x = "range") && glB sc x && !isStar pa && !isStar pb && kE a sc pa && kE b sc pb | _ => false)
  | .enum a, sc, ptg, pit => (match pit with | .Call (.Name x _) [pa] [] _ => (match ptg with | .Tuple _ _ _ => true | _ => false) && decide (x = "enumerate") && glB sc x && !isStar pa && kE a sc pa | _ => false)
  | .zip a b, sc, ptg, pit => (match pit with | .Call (.Name x _) [pa, pb] [] _ => (match ptg with | .Tuple _ _ _ => true | _ => false) && decide (x = "zip") && glB sc x && !isStar pa && !isStar pb && kE a sc pa && kE b sc pb | _ => false)
  | .perm a, sc, ptg, pit => (match pit with | .Call (.Name x _) [.Call (.Name y _) [pa] [] _] [] _ => c.perm && decide (x = "permutations") && glB sc x && decide (y = "range") && glB sc y && !isStar pa && kE a sc pa | _ => false)
def kG : Tg → Scope → Scope → Expr → Bool
  | .var i, fs, sc, pe => (match pe with | .Name x _ => decide (N[i]? = some x) && (lclB sc x || (celB sc x && celB fs x)) | _ => false)
  | .idx a b, fs, sc, pe => (match pe with | .Subscript pa pb _ => !isSl pb && kE a sc pa && kE b sc pb | _ => false)
  | .tup ts, fs, sc, pe => (match pe with | .Tuple pts _ _ => kGs ts fs sc pts | _ => false)
def kGs : Tgs → Scope → Scope → List Expr → Bool
  | .nil, fs, sc, pes => pes.isEmpty
  | .cons t ts, fs, sc, pes => (match pes with | pe :: r => !isStar pe && kG t fs sc pe && kGs ts fs sc r | [] => false)
end
/-- a target whose parts are not all names -/
def notNames (pt : Expr) : Bool := match pt with
  | .Tuple ts _ _ => ts.any fun t => match t with | .Name _ _ => false | _ => true
  | .List ts _ => ts.any fun t => match t with | .Name _ _ => false | _ => true
  | _ => false
/-- a comprehension stored at once under its name -/
def swB (sc : Scope) (pt pe : Expr) : Bool := match pt, pe with
  | .Name t p, .ListComp _ _ s2 p2 => lclB sc t && (p.line == p2.line) && !(s2.names.any fun y => y.1 == t && (y.2 == .local || y.2 == .cell))
  | _, _ => false
mutual
def kS : S → Scope → Stmt → Bool
  | .asg t e, sc, ps => (match ps with
    | .Assign [pt] pe _ => if swB sc pt pe then (match t with | .var i => true | _ => false) && (match e with | .comp _ _ _ _ _ => true | .thaw (.comp _ _ _ _ _) => true | .comp2 _ _ _ _ _ _ _ _ _ => true | .thaw (.comp2 _ _ _ _ _ _ _ _ _) => true | _ => false) && kG c N t sc sc pt && kE c N e sc pe
      else !isStar pt && !isSD pe && (!isTup pt || (match pe with | .Tuple vs _ _ => vs.all (foldedForSure 8) || notNames pt | _ => true)) && kG c N t sc sc pt && kE c N e sc pe
    | _ => false)
  | .par is es, sc, ps => (match ps with
    | .Assign [.Tuple [.Name x p1, .Name y p2] _ _] (.Tuple [pa, pb] _ _) _ => (match is with
      | [i, j] => decide (N[i]? = some x) && decide (N[j]? = some y) && decide (i ≠ j) && decide (x ≠ y) && lclB sc x && lclB sc y && (p1.line == p2.line) && !([pa, pb].all (foldedForSure 8)) && !([pa, pb].all (constantsAlone 8)) && kEs c N es sc [pa, pb]
      | _ => false)
    | .Assign [.Tuple [.Name x p1, .Name y p2, .Name z p3] _ _] (.Tuple [pa, pb, pc] _ _) _ => (match is with
      | [i, j, l] => decide (N[i]? = some x) && decide (N[j]? = some y) && decide (N[l]? = some z) && decide (i ≠ j) && decide (i ≠ l) && decide (j ≠ l) && decide (x ≠ y) && decide (x ≠ z) && decide (y ≠ z) && lclB sc x && lclB sc y && lclB sc z && (p1.line == p2.line) && (p1.line == p3.line) && !([pa, pb, pc].all (foldedForSure 8)) && !([pa, pb, pc].all (constantsAlone 8)) && kEs c N es sc [pa, pb, pc]
      | _ => false)
    | _ => false)
  | .ifs d a b, sc, ps => (match ps with | .If pd pa pb _ => canT d && kE c N d sc pd && kSs a sc pa && kSs b sc pb | _ => false)
  | .whl d b, sc, ps => (match ps with | .While pd pb [] _ => canT d && kE c N d sc pd && kSs b sc pb | _ => false)
  | .fr t it b, sc, ps => (match ps with | .For pt pit pb [] _ => !isSet pit && kI c N it sc pt pit && kG c N t sc sc pt && kSs b sc pb | _ => false)
  | .ret e, sc, ps => (match ps with | .Return (some pe) _ => kE c N e sc pe | _ => false)
  | .retn, sc, ps => (match ps with | .Return none _ => true | _ => false)
  | .exp e, sc, ps => (match ps with | .Expr pe _ => !isLc pe && kE c N e sc pe | _ => false)
  | .pas, sc, ps => (match ps with | .Pass _ => true | _ => false)
  | .brk, sc, ps => (match ps with | .Break _ => true | _ => false)
  | .cnt, sc, ps => (match ps with | .Continue _ => true | _ => false)
  | .nev, sc, ps => true
def kSs : Ss → Scope → List Stmt → Bool
  | .nil, sc, ps => ps.isEmpty
  | .cons s ss, sc, ps => (match ps with | p :: r => kS s sc p && kSs ss sc r | [] => false)
end
end
end PL

set_option Elab.async false
set_option linter.all false
set_option maxRecDepth 100000
set_option maxHeartbeats 2000000
/-! The check is sound. -/
namespace PL
open PySem PySem.Spec PyProof.Rows L2
structure CxOk (c : Ck) (N : List Str) (k : Nat) (X : Cx) (q : Qm) : Prop where
  N : X.N = N
  nd : X.N.Nodup
  calm : X.calm = true
  units : X.A.units + 65 < cLine
  room : Room k X.A
  pas : PassesOwn (model X.prog X.w) X.A X.env X.xe
  cx : Passes (L2.CX X.prog X.w) X q.XE
  kind : X.env.scope.kind = .function
  fns : ∀ x f np, c.fns.lookup x = some (f, np) → X.mg x = some (.ref (q.fa f)) ∧ PySem.W.keepIn X.K (.ref (q.fa f)) = true ∧ (∀ ds st, RP (q.C f ds st) (fun _ _ => True) (fun _ _ _ => True) → ds.length = np) ∧
    ∃ fd ps, FnOk X.prog X.w X.K X.mg X.base (L2.CX X.prog X.w) k (q.fa f) fd ps (spC X.K q q.C f np) ∧ Binds X.K fd ps [] ∧ ∀ n ks pm, (f, n, ks, pm) ∈ c.kws → KBn X.K fd ps n ks (gK Value.none pm) (gK V.non pm)
  any : ∀ f ds st, RP (q.C f ds st) (fun _ _ => True) (fun _ _ _ => True) → ∃ x, c.fns.lookup x = some (f, ds.length)
  gls : ∀ x i, c.gls.lookup x = some i → ∃ u v, X.mg x = some u ∧ RelV v u ∧ ∀ H m β ρ n, RD X.K q.fa H m β ρ n (q.G i) v
  bln : ∀ x ∈ blNames, X.mg x = none
  ims : ∀ x f, c.ims.lookup x = some f → X.mg x = some (imV f)
  prm : c.perm = true → X.mg "permutations" = some (.type "itertools.permutations")
theorem cx_false {P : Program} {w : World} {l : List PySem.Env} {H : Hp} {s s' : Shared} {e : Value} (h : L2.CX P w l H s (fun _ _ _ => False) e s') : False := by
  obtain ⟨_, _, _, _, _, _, _, _, _, _, _, _, z⟩ := h
  exact z
section
variable {c : Ck} {N : List Str} {k : Nat} {X : Cx} {q : Qm}
theorem CxOk.blk (C : CxOk c N k X q) {s : Shared} {H : Hp} {scope : Scope} {C' : Addr} {cl : List (Str × Addr)} {fp : List Addr} (hk : scope.kind = .function) : CxOk c N k (X.blk s H scope (compEnvC scope cl C' X.env) fp) (qF q) :=
  ⟨C.N, C.nd, C.calm, C.units, C.room, PassesOwn.never, fun _ _ _ _ _ _ _ h => cx_false h, hk, C.fns, C.any, C.gls, C.bln, C.ims, C.prm⟩
theorem comp_scope {s2 : Scope} {env : PySem.Env} {cl : List (Str × Addr)} {C' : Addr} : (compEnvC s2 cl C' env).scope = relS s2 env.scope := rfl
structure SE (X : Cx) (q : Qm) (e : E) (pe : Expr) : Prop where
  v : PE X pe (tW X.K q e)
  t : canT e = true → PT X pe (tWT X.K q e)
  w : (∃ op l p, pe = .BoolOp op l p) → canT e = true → PW X pe (tWT X.K q e)
  f : isFr e = true → PE X pe (tNew X.K q (evF q.C q.G e))
theorem vis_of {sc : Scope} {x : Str} (h : visB sc x = true) : Vis sc x := by
  unfold visB at h
  split at h
  · exact .inl (by assumption)
  · exact .inr (.inl (by assumption))
  · exact .inr (.inr (by assumption))
  · cases h
theorem loc_of {sc : Scope} {x : Str} (h : locB sc x = true) : Loc sc x := by
  unfold locB at h
  split at h
  · exact .inl (by assumption)
  · exact .inr (by assumption)
  · cases h
theorem lcl_of {sc : Scope} {x : Str} (h : lclB sc x = true) : sc.names.lookup x = some .local := by
  unfold lclB at h
  split at h
  · assumption
  · cases h
theorem gl_of {x : Str} (h : glB X.env.scope x = true) : Gl X x := by
  unfold glB at h
  split at h
  · rename_i e
    exact e
  · cases h
theorem okN_of {x : Str} (h : okN x = true) : (x == ("__debug__" : Str)) = false ∧ (x == ("__classdict__" : Str)) = false ∧ x ≠ "__name__" := by
  simp only [okN, Bool.and_eq_true, Bool.not_eq_true', ] at h
  refine ⟨h.1.1, h.1.2, fun e => ?_⟩
  rw [e] at h
  exact absurd h.2 (by decide)
theorem star_cons {pe : Expr} {pes : List Expr} {env : PySem.Env} (h : isStar pe = false) : starEach (pe :: pes) env = (false, eval pe env) :: starEach pes env := by
  cases pe <;> first
    | rfl
    | cases h
theorem asg_cons {pe : Expr} {pes : List Expr} {env : PySem.Env} (h : isStar pe = false) : assignEach (pe :: pes) env = (false, PySem.assign pe env) :: assignEach pes env := by
  cases pe <;> first
    | rfl
    | cases h
theorem fold_of {pe : Expr} {env : PySem.Env} (h : isSet pe = false) : ∀ x, foldedSetIterable pe env x = pure x := by
  cases pe <;> first
    | (intro x; rfl)
    | cases h
theorem set_of {pe : Expr} (h : isSet pe = false) : ∀ es k p, pe ≠ .Set es k p := by
  intro es k p e
  subst e
  cases h
theorem plain_ix {pe : Expr} (h : isSl pe = false) : PlainIx pe := by
  intro o i
  cases pe <;> first
    | rfl
    | cases h
theorem attr_of {pa : Expr} {m : Str} {env : PySem.Env} {w : Sem Value} (h : isCall pa = false) : attributeBase pa m env w = w := by
  cases pa <;> first
    | rfl
    | skip
  rename_i f as ks p
  cases f <;> first
    | rfl
    | skip
  cases as with
  | cons a as => rfl
  | nil =>
    cases ks with
    | cons k ks => rfl
    | nil => cases h
theorem bl_mem (b : Bl) : blN b ∈ blNames := by cases b <;> decide
theorem bl_boot (b : Bl) : bootBuiltins (blN b) = some (blV b) := by cases b <;> kernel_rfl
theorem bl_ok (b : Bl) : okN (blN b) = true := by cases b <;> decide
theorem ty_mem (t : Ty) : tyS t ∈ blNames := by cases t <;> decide
theorem ty_boot (t : Ty) : bootBuiltins (tyS t) = some (.type (tyN t)) := by cases t <;> kernel_rfl
theorem ty_ok (t : Ty) : okN (tyS t) = true := by cases t <;> decide
theorem cps_of {x : Str} {s : List Nat} (h : x.cps.toList = s) : x = ⟨s.toArray⟩ := by
  subst h
  cases x
  simp
theorem SE.plain {e : E} {pe : Expr} (v : PE X pe (tW X.K q e)) (hp : ∀ whole, isTrue pe X.env whole = (do let v ← whole; standAt pe.pos; holding [v] (truthy v))) (hw : ∀ op l p, pe ≠ .BoolOp op l p) (f : isFr e = true → PE X pe (tNew X.K q (evF q.C q.G e))) : SE X q e pe :=
  ⟨v, fun _ => t_val v hp, fun ⟨op, l, p, z⟩ => absurd z (hw op l p), f⟩
theorem stars_none {env : PySem.Env} {pos : Pos} : ∀ {es : Es} {sc : Scope} {pes : List Expr}, kEs c N es sc pes = true → (backTo pos (starEach pes env)).any (·.1) = false ∧ (∀ x ∈ backTo pos (starEach pes env), x.1 = false)
  | .nil, sc, pes, h => by
    cases pes with
    | nil => exact ⟨rfl, fun x hx => nomatch hx⟩
    | cons p r => simp [kEs] at h
  | .cons e es, sc, pes, h => by
    cases pes with
    | nil => simp [kEs] at h
    | cons p r =>
      simp only [kEs, Bool.and_eq_true, Bool.not_eq_true'] at h
      obtain ⟨h1, h2⟩ := stars_none (env := env) (pos := pos) h.2
      rw [star_cons h.1.1]
      refine ⟨?_, fun x hx => ?_⟩
      · show (false || (backTo pos (starEach r env)).any (·.1)) = false
        rw [h1]
        rfl
      · rcases List.mem_cons.mp hx with e | e
        · rw [e]
        · exact h2 x e
theorem es_len : ∀ {es : Es} {sc : Scope} {pes : List Expr}, kEs c N es sc pes = true → pes.length = esLen es
  | .nil, sc, pes, h => by
    cases pes with
    | nil => rfl
    | cons p r => simp [kEs] at h
  | .cons e es, sc, pes, h => by
    cases pes with
    | nil => simp [kEs] at h
    | cons p r =>
      simp only [kEs, Bool.and_eq_true] at h
      show r.length + 1 = esLen es + 1
      rw [es_len h.2]
theorem kws_ok {env : PySem.Env} {pos : Pos} : ∀ {es : Es} {sc : Scope} {kws : List Keyword}, kKs c N es sc kws = true →
    (backToKw pos (keywordEach kws env)).all (·.1.isSome) = true ∧ (backToKw pos (keywordEach kws env)).filterMap (·.1) = kws.filterMap (·.arg) ∧ (backToKw pos (keywordEach kws env)).any (·.1.isNone) = false ∧ esLen es = (kws.filterMap (·.arg)).length
  | .nil, sc, kws, h => by
    cases kws with
    | nil => exact ⟨rfl, rfl, rfl, rfl⟩
    | cons p r => simp [kKs] at h
  | .cons e es, sc, kws, h => by
    cases kws with
    | nil => simp [kKs] at h
    | cons p r =>
      obtain ⟨nm, pe, p'⟩ := p
      cases nm with
      | none => simp [kKs] at h
      | some nm =>
        simp only [kKs, Bool.and_eq_true] at h
        obtain ⟨h1, h2, h3, h4⟩ := kws_ok (env := env) (pos := pos) h.2
        refine ⟨?_, ?_, ?_, ?_⟩
        · show (true && _) = true
          simpa [backToKw, keywordEach] using h1
        · show nm :: (backToKw pos (keywordEach r env)).filterMap (·.1) = nm :: r.filterMap (·.arg)
          rw [h2]
        · show (false || (backToKw pos (keywordEach r env)).any (·.1.isNone)) = false
          rw [h3]
          rfl
        · show esLen es + 1 = (r.filterMap (·.arg)).length + 1
          rw [h4]
theorem tgs_len {env : PySem.Env} : ∀ {ts : Tgs} {fs sc : Scope} {pts : List Expr}, kGs c N ts fs sc pts = true → (assignEach pts env).length = tgLen ts ∧ (assignEach pts env).findIdx? (·.1) = none
  | .nil, fs, sc, pts, h => by
    cases pts with
    | nil => exact ⟨rfl, rfl⟩
    | cons p r => simp [kGs] at h
  | .cons e es, fs, sc, pts, h => by
    cases pts with
    | nil => simp [kGs] at h
    | cons p r =>
      simp only [kGs, Bool.and_eq_true, Bool.not_eq_true'] at h
      obtain ⟨h1, h2⟩ := tgs_len (env := env) h.2
      rw [asg_cons h.1.1]
      refine ⟨congrArg (· + 1) h1, ?_⟩
      rw [List.findIdx?_cons]
      simp [h2]
end
end PL

set_option Elab.async false
set_option linter.all false
set_option maxRecDepth 100000
set_option maxHeartbeats 4000000
/-! The check is sound: by the term. -/
namespace PL
open PySem PySem.Spec PyProof.Rows L2
section
variable {c : Ck} {N : List Str} {k : Nat}
theorem ownN_snd : ∀ own : List Nat, (ownN N own).map (·.2) = own
  | [] => rfl
  | i :: r => congrArg (i :: ·) (ownN_snd r)
theorem isTrue_bool {op : BoolOp} {l : List Expr} {p : Pos} {X : Cx} {t : TT} (h : PW X (.BoolOp op l p) t) : PT X (.BoolOp op l p) t := h.pt
theorem s_m1 {X : Cx} {q : Qm} {j : Nat} {p1 p2 : Pos} : PE X (.UnaryOp .USub (.Constant (.int 1) j p1) p2) (tW X.K q (.int (-1))) := (s_neg (a := .int 1) (s_int (j := j) (pos := p1)) (pos := p2)).w fun σ H Q ⟨β, ρ, env, st, e, S, h⟩ => ⟨β, ρ, env, st, e, S, by
  simp only [ev] at h ⊢
  exact h⟩
theorem sRg {X : Cx} {q : Qm} {tp : Bool} {lo : Oe} {b : E} {x : Str} {p1 p4 : Pos} {pr : List Expr} {p2 p3 : Pos} (C : CxOk c N k X q) (h1 : x = if tp = true then "tuple" else "list") (h2 : glB X.env.scope x = true) (R : PRg X (.Call (.Name "range" p2) pr [] p3) (tRgW X.K q lo b)) :
    SE X q (.rgv tp lo b) (.Call (.Name x p1) [.Call (.Name "range" p2) pr [] p3] [] p4) := by
  cases tp with
  | false =>
    have h1 : x = "list" := h1
    subst h1
    have P := s_lrg (p := p1) (pos := p4) C.calm (gl_of h2) (C.bln _ (by decide)) R rfl
    exact .plain P.1 (fun _ => rfl) (fun _ _ _ z => by cases z) fun _ => P.2
  | true =>
    have h1 : x = "tuple" := h1
    subst h1
    exact .plain (s_trg C.calm (gl_of h2) (C.bln _ (by decide)) R rfl) (fun _ => rfl) (fun _ _ _ z => by cases z) (fun z => by cases z)
mutual
theorem sE : ∀ (e : E) {X : Cx} {q : Qm} {pe : Expr}, CxOk c N k X q → kE c N e X.env.scope pe = true → SE X q e pe
  | .non, X, q, pe, C, h => by
    simp only [kE] at h
    split at h
    · exact .plain s_non (fun _ => rfl) (fun _ _ _ z => by cases z) (fun z => by cases z)
    · cases h
  | .bl b, X, q, pe, C, h => by
    simp only [kE] at h
    split at h
    · rename_i v j p
      have e : v = b := by simpa using h
      subst e
      exact .plain s_bl (fun _ => rfl) (fun _ _ _ z => by cases z) (fun z => by cases z)
    · cases h
  | .int i, X, q, pe, C, h => by
    simp only [kE] at h
    split at h
    · rename_i v j p
      have e : i = v := by simpa using h
      subst e
      exact .plain s_int (fun _ => rfl) (fun _ _ _ z => by cases z) (fun z => by cases z)
    · cases h
  | .str s, X, q, pe, C, h => by
    simp only [kE] at h
    split at h
    · rename_i v j p
      exact .plain (s_str (cps_of (of_decide_eq_true h))) (fun _ => rfl) (fun _ _ _ z => by cases z) (fun z => by cases z)
    · cases h
  | .var i, X, q, pe, C, h => by
    simp only [kE] at h
    split at h
    · rename_i x p
      simp only [Bool.and_eq_true, decide_eq_true_eq] at h
      obtain ⟨⟨h1, h2⟩, h3⟩ := h
      exact .plain (s_var (by rw [C.N]; exact h1) (vis_of h2) (okN_of h3).1 (okN_of h3).2.1) (fun _ => rfl) (fun _ _ _ z => by cases z) (fun z => by cases z)
    · cases h
  | .glb i, X, q, pe, C, h => by
    simp only [kE] at h
    split at h
    · rename_i x p
      simp only [Bool.and_eq_true, decide_eq_true_eq] at h
      obtain ⟨⟨h1, h2⟩, h3⟩ := h
      obtain ⟨u, v, e1, e2, e3⟩ := C.gls x i h2
      exact .plain (s_glb (gl_of h1) e1 e2 (okN_of h3).1 e3) (fun _ => rfl) (fun _ _ _ z => by cases z) (fun z => by cases z)
    · cases h
  | .fnv i, X, q, pe, C, h => by
    simp only [kE] at h
    split at h
    · rename_i x p
      simp only [Bool.and_eq_true] at h
      obtain ⟨⟨h1, h2⟩, h3⟩ := h
      obtain ⟨np, e1⟩ := fnI_of h2
      exact .plain (s_fnv (gl_of h1) (C.fns x i np e1).1 (okN_of h3).1) (fun _ => rfl) (fun _ _ _ z => by cases z) (fun z => by cases z)
    · cases h
  | .bin o a b, X, q, pe, C, h => by
    simp only [kE] at h
    split at h
    · simp only [Bool.and_eq_true, decide_eq_true_eq] at h
      obtain ⟨⟨rfl, ha⟩, hb⟩ := h
      exact .plain (s_bin o (sE a C ha).v (sE b C hb).v) (fun _ => rfl) (fun _ _ _ z => by cases z) fun _ => f_bin o (sE a C ha).v (sE b C hb).v
    · cases h
  | .neg a, X, q, pe, C, h => by
    simp only [kE] at h
    split at h
    · exact .plain (s_neg (sE a C h).v) (fun _ => rfl) (fun _ _ _ z => by cases z) (fun z => by cases z)
    · cases h
  | .not a, X, q, pe, C, h => by
    simp only [kE] at h
    split at h
    · simp only [Bool.and_eq_true] at h
      have A := sE a C h.2
      rename_i pa pos
      have P := s_not (pos := pos) (A.t h.1) A.v
      exact ⟨P.1, fun _ => P.2, fun ⟨_, _, _, z⟩ => (by cases z), fun z => (by cases z)⟩
    · cases h
  | .and a b, X, q, pe, C, h => by
    simp only [kE] at h
    split at h
    · simp only [Bool.and_eq_true] at h
      obtain ⟨⟨⟨h1, h2⟩, h3⟩, h4⟩ := h
      have A := sE a C h3
      have B := sE b C h4
      rename_i pa pb pos
      have W := (pw_and (pos := pos) (A.t h1) (pw_and1 (B.t h2))).w fun σ H Q z => wt_and z
      exact ⟨(pe_and A.v (pe_one B.v)).w fun σ H Q z => w_and z, fun _ => W.pt, fun _ _ => W, fun z => by cases z⟩
    · simp only [Bool.and_eq_true] at h
      obtain ⟨⟨⟨h1, h2⟩, h3⟩, h4⟩ := h
      have A := sE a C h3
      have B := sE b C h4
      rename_i pa pb pc r pos
      have W := (pw_and (pos := pos) (A.t h1) (B.w ⟨_, _, _, rfl⟩ h2)).w fun σ H Q z => wt_and z
      exact ⟨(pe_and A.v B.v).w fun σ H Q z => w_and z, fun _ => W.pt, fun _ _ => W, fun z => by cases z⟩
    · cases h
  | .or a b, X, q, pe, C, h => by
    simp only [kE] at h
    split at h
    · simp only [Bool.and_eq_true] at h
      obtain ⟨⟨⟨h1, h2⟩, h3⟩, h4⟩ := h
      have A := sE a C h3
      have B := sE b C h4
      rename_i pa pb pos
      have W := (pw_or (pos := pos) (A.t h1) (pw_or1 (B.t h2))).w fun σ H Q z => wt_or z
      exact ⟨(pe_or A.v (pe_one B.v)).w fun σ H Q z => w_or z, fun _ => W.pt, fun _ _ => W, fun z => by cases z⟩
    · simp only [Bool.and_eq_true] at h
      obtain ⟨⟨⟨h1, h2⟩, h3⟩, h4⟩ := h
      have A := sE a C h3
      have B := sE b C h4
      rename_i pa pb pc r pos
      have W := (pw_or (pos := pos) (A.t h1) (B.w ⟨_, _, _, rfl⟩ h2)).w fun σ H Q z => wt_or z
      exact ⟨(pe_or A.v B.v).w fun σ H Q z => w_or z, fun _ => W.pt, fun _ _ => W, fun z => by cases z⟩
    · cases h
  | .cmp o a b, X, q, pe, C, h => by
    simp only [kE] at h
    split at h
    · simp only [Bool.and_eq_true, decide_eq_true_eq, Bool.not_eq_true'] at h
      obtain ⟨⟨⟨rfl, h2⟩, h3⟩, h4⟩ := h
      rename_i pa pb pos
      have P := s_cmp (pos := pos) o C.units (set_of h2) (sE a C h3).v (sE b C h4).v
      exact ⟨P.1, fun _ => P.2, fun ⟨_, _, _, z⟩ => (by cases z), fun z => (by cases z)⟩
    · cases h
  | .chn o p a b d, X, q, pe, C, h => by
    simp only [kE] at h
    split at h
    · simp only [Bool.and_eq_true, decide_eq_true_eq, Bool.not_eq_true'] at h
      obtain ⟨⟨⟨⟨⟨rfl, rfl⟩, h2⟩, h3⟩, h4⟩, h5⟩ := h
      rename_i pa pb pc pos
      have P := s_chn (pos := pos) o p C.units (set_of h2) (sE a C h3).v (sE b C h4).v (sE d C h5).v
      exact ⟨P.1, fun _ => P.2, fun ⟨_, _, _, z⟩ => (by cases z), fun z => (by cases z)⟩
    · cases h
  | .ife d a b, X, q, pe, C, h => by
    simp only [kE] at h
    split at h
    · simp only [Bool.and_eq_true] at h
      obtain ⟨⟨⟨h1, h2⟩, h3⟩, h4⟩ := h
      exact ⟨s_ife ((sE d C h2).t h1) (sE a C h3).v (sE b C h4).v, fun z => (by cases z), fun ⟨_, _, _, z⟩ => (by cases z), fun z => (by cases z)⟩
    · cases h
  | .call f as, X, q, pe, C, h => by
    simp only [kE] at h
    split at h
    · rename_i x p1 pes p2
      simp only [Bool.and_eq_true, decide_eq_true_eq] at h
      obtain ⟨⟨⟨h1, h2⟩, h3⟩, h4⟩ := h
      obtain ⟨e1, e2, e3, fd, ps, F, hb, _⟩ := C.fns x f _ h3
      refine .plain ?_ (fun _ => rfl) (fun _ _ _ z => by cases z) (fun z => by cases z)
      have A := sEs as C h4
      cases as with
      | nil =>
        cases pes with
        | nil => exact s_call0 e3 F C.room (gl_of h1) e1 e2 hb C.cx (okN_of h2).1
        | cons p r => simp [kEs] at h4
      | cons a as =>
        cases pes with
        | nil => simp [kEs] at h4
        | cons p r =>
          have h5 := h4
          simp only [kEs, Bool.and_eq_true, Bool.not_eq_true'] at h5
          exact s_call e3 F C.room (gl_of h1) e1 e2 hb C.cx (okN_of h2).1 A (star_cons h5.1.1) (stars_none h5.2).1
    · cases h
  | .callk f as ks pm, X, q, pe, C, h => by
    simp only [kE] at h
    split at h
    · rename_i x p1 pes kws p2
      simp only [Bool.and_eq_true, decide_eq_true_eq] at h
      obtain ⟨⟨⟨⟨⟨h1, h2⟩, h3⟩, h4⟩, h5⟩, h6⟩ := h
      obtain ⟨np, g1⟩ := fnI_of h3
      obtain ⟨e1, e2, e3, fd, ps, F, hb, hk⟩ := C.fns x f np g1
      have A := sEs as C h5
      have B := sKs ks C h6
      obtain ⟨k1, k2, k3, k4⟩ := kws_ok (env := X.env) (pos := p2) h6
      refine .plain (s_callk e3 F C.room (gl_of h1) e1 e2 (hk _ _ _ h4) C.cx (okN_of h2).1 k4 A B (fun pe r e => ?_) k1 k2 ?_ fun e => ?_) (fun _ => rfl) (fun _ _ _ z => by cases z) (fun z => by cases z)
      · subst e
        cases as with
        | nil => simp [kEs] at h5
        | cons a as =>
          simp only [kEs, Bool.and_eq_true, Bool.not_eq_true'] at h5
          exact star_cons h5.1.1
      · rw [(stars_none h5).1, k3]
        rfl
      · subst e
        cases as with
        | nil => rfl
        | cons a as => simp [kEs] at h5
    · cases h
  | .callv i as, X, q, pe, C, h => by
    simp only [kE] at h
    split at h
    · rename_i x p1 pes p2
      simp only [Bool.and_eq_true, decide_eq_true_eq] at h
      obtain ⟨⟨⟨⟨h1, h2⟩, h3⟩, h4⟩, h5⟩ := h
      have A := sEs as C h5
      refine .plain ?_ (fun _ => rfl) (fun _ _ _ z => by cases z) (fun z => by cases z)
      cases as with
      | nil =>
        cases pes with
        | nil => cases h4
        | cons p r => simp [kEs] at h5
      | cons a as =>
        cases pes with
        | nil => cases h4
        | cons p r =>
          simp only [kEs, Bool.and_eq_true, Bool.not_eq_true'] at h5
          refine s_callv (CX := L2.CX X.prog X.w) (k := k) (fun f ds st hr => ?_) C.room (by rw [C.N]; exact h1) (vis_of h2) C.cx (okN_of h3).1 (okN_of h3).2.1 A (star_cons h5.1.1) (stars_none h5.2).1
          obtain ⟨y, hy⟩ := C.any f ds st hr
          obtain ⟨e1, e2, e3, fd, ps, F, hb, _⟩ := C.fns y f _ hy
          exact ⟨fd, ps, F, e2, hb⟩
    · cases h
  | .blt b as, X, q, pe, C, h => by
    simp only [kE] at h
    split at h
    · rename_i x p1 pes p2
      simp only [Bool.and_eq_true, decide_eq_true_eq] at h
      obtain ⟨⟨⟨rfl, h2⟩, h3⟩, h4⟩ := h
      have A := sEs as C h4
      have hm := C.bln _ (bl_mem b)
      have ok := okN_of (bl_ok b)
      have hv := bl_boot b
      cases as with
      | nil =>
        cases pes with
        | nil => cases h3
        | cons p r => simp [kEs] at h4
      | cons a as =>
        cases pes with
        | nil => cases h3
        | cons p r =>
          simp only [kEs, Bool.and_eq_true, Bool.not_eq_true'] at h4
          have st := star_cons (pes := r) (env := X.env) h4.1.1
          have sn := (stars_none (env := X.env) (pos := p2) h4.2).1
          cases b <;> first
            | exact .plain (s_blB C.calm rfl (gl_of h2) hm hv ok.2.2 ok.1 A st sn) (fun _ => rfl) (fun _ _ _ z => by cases z) fun _ => f_blB C.calm rfl (gl_of h2) hm hv ok.2.2 ok.1 A st sn
            | exact .plain (s_blT C.calm rfl (gl_of h2) hm hv ok.2.2 ok.1 A st sn) (fun _ => rfl) (fun _ _ _ z => by cases z) fun _ => f_blT C.calm rfl (gl_of h2) hm hv ok.2.2 ok.1 A st sn
    · cases h
  | .isi a t, X, q, pe, C, h => by
    simp only [kE] at h
    split at h
    · rename_i x p1 pa y p2 p3
      simp only [Bool.and_eq_true, decide_eq_true_eq, Bool.not_eq_true'] at h
      obtain ⟨⟨⟨⟨⟨rfl, rfl⟩, h2⟩, h3⟩, h4⟩, h5⟩ := h
      have o1 := okN_of (x := "isinstance") (by decide)
      have o2 := okN_of (ty_ok t)
      exact .plain (s_isi (gl_of h2) (C.bln _ (by decide)) (by kernel_rfl) o1.2.2 o1.1 (gl_of h3) (C.bln _ (ty_mem t)) (ty_boot t) o2.2.2 o2.1 (sE a C h5).v (star_cons h4)) (fun _ => rfl) (fun _ _ _ z => by cases z) (fun z => by cases z)
    · cases h
  | .mth m o as, X, q, pe, C, h => by
    simp only [kE] at h
    split at h
    · rename_i pa x apos pes cpos
      simp only [Bool.and_eq_true, decide_eq_true_eq, Bool.not_eq_true'] at h
      obtain ⟨⟨⟨⟨⟨rfl, h2⟩, h3⟩, h4⟩, h5⟩, h6⟩ := h
      have O := sE o C h5
      have A := sEs as C h6
      refine .plain ?_ (fun _ => rfl) (fun _ _ _ z => by cases z) (fun z => by cases z)
      cases as with
      | nil =>
        cases pes with
        | nil => exact s_mth0 O.v (attr_of h2) h3
        | cons p r => simp [kEs] at h6
      | cons a as =>
        cases pes with
        | nil => simp [kEs] at h6
        | cons p r =>
          have h7 := h6
          simp only [kEs, Bool.and_eq_true, Bool.not_eq_true'] at h7
          refine s_mth O.v A (attr_of h2) ?_ h3 (star_cons h7.1.1) (stars_none h7.2).1
          have sn := (stars_none (env := X.env) (pos := cpos) h6).2
          simp only [Bool.and_eq_true, decide_eq_true_eq, List.all_eq_true]
          refine ⟨⟨fun x hx => by rw [sn x hx]; rfl, fun x hx => ?_⟩, ?_⟩
          · cases hx
          · simp
            simp at h4
            omega
    · cases h
  | .idx a b, X, q, pe, C, h => by
    simp only [kE] at h
    split at h
    · simp only [Bool.and_eq_true, Bool.not_eq_true'] at h
      obtain ⟨⟨h1, h2⟩, h3⟩ := h
      exact .plain (s_idx (sE a C h2).v (sE b C h3).v (plain_ix h1)) (fun _ => rfl) (fun _ _ _ z => by cases z) (fun z => by cases z)
    · cases h
  | .slc a lo hi, X, q, pe, C, h => by
    simp only [kE] at h
    split at h
    · simp only [Bool.and_eq_true] at h
      obtain ⟨⟨h1, h2⟩, h3⟩ := h
      exact .plain (s_slc (sE a C h1).v (sO lo C h2) (sO hi C h3)) (fun _ => rfl) (fun _ _ _ z => by cases z) (fun z => by cases z)
    · cases h
  | .tup as, X, q, pe, C, h => by
    simp only [kE] at h
    split at h
    · exact .plain (s_tup (sEs as C h)) (fun _ => rfl) (fun _ _ _ z => by cases z) (fun z => by cases z)
    · cases h
  | .list as, X, q, pe, C, h => by
    simp only [kE] at h
    split at h
    · exact .plain (s_list (sEs as C h)) (fun _ => rfl) (fun _ _ _ z => by cases z) fun _ => f_list (sEs as C h)
    · cases h
  | .comp own elt tg it oc, X, q, pe, C, h => by
    simp only [kE] at h
    split at h
    · rename_i pelt ptg pit pifs s2 pos
      simp only [Bool.and_eq_true, Bool.not_eq_true', List.all_eq_true] at h
      obtain ⟨⟨⟨⟨⟨⟨h1, h2⟩, h3⟩, h4⟩, h5⟩, h6⟩, h7⟩ := h
      have bk := blkOk_by h1
      have L : LcOk X q (ownN N own) elt tg it oc pelt ptg pit pifs s2 := {
        calm := C.calm
        nd := C.nd
        it := sI it C h4
        blk := by rw [C.N]; exact bk
        tgt := fun s H C' cl fp => sG tg (C.blk bk.kind) (fun x hx => by
          show (s2.names.lookup x == some NameKind.cell) = true
          rw [hx]
          rfl) h5
        ifs := fun s H C' cl fp => sC oc (C.blk bk.kind) h6
        elt := fun s H C' cl fp => (sE elt (C.blk bk.kind) h7).v
        fold := fold_of h3
        own := fun i hi => by
          rw [ownN_snd]
          simpa using h2 i hi }
      have P := f_comp (s_comp L (pos := pos))
      rw [ownN_snd] at P
      exact .plain P.1 (fun _ => rfl) (fun _ _ _ z => by cases z) fun _ => P.2
    · cases h
  | .comp2 own own1 elt tg it oc tg1 it1 oc1, X, q, pe, C, h => by
    simp only [kE] at h
    split at h
    · rename_i pelt ptg pit pifs ptg1 pit1 pifs1 s2 pos
      simp only [Bool.and_eq_true, Bool.not_eq_true', List.all_eq_true] at h
      obtain ⟨⟨⟨⟨⟨⟨⟨h1, h2⟩, h3⟩, h4⟩, h5⟩, h6⟩, h7⟩, ⟨⟨⟨⟨g1, g2⟩, g3⟩, g4⟩, g5⟩, g6⟩ := h
      have bk := blkOk_by h1
      have cl : ∀ x, s2.names.lookup x = some NameKind.cell → (s2.names.lookup x == some NameKind.cell) = true := fun x hx => by
        rw [hx]
        rfl
      have L : LcOk2 X q (ownN N own) own1 elt tg it oc tg1 it1 oc1 pelt ptg pit ptg1 pit1 pifs pifs1 s2 := {
        calm := C.calm
        nd := C.nd
        it := sI it C h4
        blk := by rw [C.N]; exact bk
        tgt := fun s H C' cl' fp => sG tg (C.blk bk.kind) cl h5
        ifs := fun s H C' cl' fp => sC oc (C.blk bk.kind) h6
        it1 := fun s H C' cl' fp => sI it1 (C.blk bk.kind) g4
        tgt1 := fun s H C' cl' fp => sG tg1 (C.blk bk.kind) cl g5
        ifs1 := fun s H C' cl' fp => sC oc1 (C.blk bk.kind) g6
        elt := fun s H C' cl' fp => (sE elt (C.blk bk.kind) h7).v
        fold := fold_of h3
        fold1 := fun env => fold_of g3
        own := fun i hi => by
          rw [ownN_snd]
          simpa using h2 i hi
        own1 := fun i hi => by simpa using g1 i hi
        sub := fun i hi => by
          rw [ownN_snd]
          simpa using g2 i hi }
      have P := f_comp2 (s_comp2 L (pos := pos))
      rw [ownN_snd] at P
      exact .plain P.1 (fun _ => rfl) (fun _ _ _ z => by cases z) fun _ => P.2
    · cases h
  | .tups zs, X, q, pe, C, h => by
    simp only [kE] at h
    split at h
    · exact .plain (s_tups (sZs zs C h)) (fun _ => rfl) (fun _ _ _ z => by cases z) (fun z => by cases z)
    · cases h
  | .lsts zs, X, q, pe, C, h => by
    simp only [kE] at h
    split at h
    · have F := f_lsts (pos := by assumption) (sZs zs C h)
      exact .plain (s_ofF lsts_F F) (fun _ => rfl) (fun _ _ _ z => by cases z) fun _ => F
    · cases h
  | .tidx as e, X, q, pe, C, h => by
    simp only [kE] at h
    cases h
  | .imp f as, X, q, pe, C, h => by
    simp only [kE] at h
    split at h
    · rename_i x p1 pes p2
      simp only [Bool.and_eq_true, decide_eq_true_eq] at h
      obtain ⟨⟨⟨⟨h1, h2⟩, h2'⟩, h3⟩, h4⟩ := h
      have A := sEs as C h4
      have ok := okN_of h2'
      cases as with
      | nil =>
        cases pes with
        | nil => cases h3
        | cons p r => simp [kEs] at h4
      | cons a as =>
        cases pes with
        | nil => cases h3
        | cons p r =>
          simp only [kEs, Bool.and_eq_true, Bool.not_eq_true'] at h4
          exact .plain (s_imp (gl_of h2) (C.ims _ _ h1) A ok.1 (star_cons h4.1.1) (stars_none h4.2).1) (fun _ => rfl) (fun _ _ _ z => by cases z) (fun z => by cases z)
    · cases h
  | .thaw a, X, q, pe, C, h => by
    simp only [kE, Bool.and_eq_true] at h
    exact ⟨s_thaw ((sE a C h.2).f h.1), fun z => (by cases z), fun _ z => (by cases z), fun z => by cases z⟩
  | .frz a, X, q, pe, C, h => by
    simp only [kE] at h
    exact ⟨s_frz (sE a C h).v, fun z => (by cases z), fun _ z => (by cases z), fun z => by cases z⟩
  | .rgv tp lo b, X, q, pe, C, h => by
    simp only [kE] at h
    split at h
    · rename_i x p1 y p2 pes p3 p4
      simp only [Bool.and_eq_true, decide_eq_true_eq] at h
      obtain ⟨⟨⟨⟨h1, h2⟩, rfl⟩, h4⟩, h5⟩ := h
      have R : PRg X (.Call (.Name "range" p2) pes [] p3) (tRgW X.K q lo b) := by
        split at h5
        · rename_i pb
          simp only [Bool.and_eq_true, Bool.not_eq_true'] at h5
          obtain ⟨⟨g1, g2⟩, g3⟩ := h5
          split at g1
          · exact r_one (gl_of h4) (C.bln _ (by decide)) (sE b C g3).v (star_cons g2)
          · cases g1
        · rename_i pa pb
          simp only [Bool.and_eq_true, Bool.not_eq_true'] at h5
          obtain ⟨⟨⟨g1, g2⟩, g3⟩, g4⟩ := h5
          obtain ⟨a, rfl, ha⟩ := sOe lo C g3
          refine r_two (gl_of h4) (C.bln _ (by decide)) ha (sE b C g4).v (star_cons g1) (star_cons g2) ?_
          rw [star_cons g2]
          rfl
        · cases h5
      exact sRg C h1 h2 R
    · cases h
theorem sOe : ∀ (o : Oe) {X : Cx} {q : Qm} {pa : Expr}, CxOk c N k X q → kO c N o X.env.scope (some pa) = true → ∃ a, o = .some a ∧ PE X pa (tW X.K q a)
  | .none, X, q, pa, C, h => by
    simp [kO] at h
  | .some e, X, q, pa, C, h => by
    simp only [kO] at h
    exact ⟨e, rfl, (sE e C h).v⟩
theorem sEs : ∀ (es : Es) {X : Cx} {q : Qm} {pes : List Expr}, CxOk c N k X q → kEs c N es X.env.scope pes = true → PA X pes (tWs X.K q es)
  | .nil, X, q, pes, C, h => by
    cases pes with
    | nil => exact s_nil
    | cons p r => simp [kEs] at h
  | .cons e es, X, q, pes, C, h => by
    cases pes with
    | nil => simp [kEs] at h
    | cons p r =>
      simp only [kEs, Bool.and_eq_true, Bool.not_eq_true'] at h
      exact s_cons (sE e C h.1.2).v (sEs es C h.2) (star_cons h.1.1)
theorem sZs : ∀ (zs : Zs) {X : Cx} {q : Qm} {pes : List Expr}, CxOk c N k X q → kZs c N zs X.env.scope pes = true → PA X pes (tWz X.K q zs)
  | .nil, X, q, pes, C, h => by
    cases pes with
    | nil => exact zz_nil
    | cons p r => simp [kZs] at h
  | .cons e zs, X, q, pes, C, h => by
    cases pes with
    | nil => simp [kZs] at h
    | cons p r =>
      simp only [kZs, Bool.and_eq_true, Bool.not_eq_true'] at h
      exact zz_cons (sE e C h.1.2).v (sZs zs C h.2) (star_cons h.1.1)
  | .star e zs, X, q, pes, C, h => by
    simp only [kZs] at h
    split at h
    · simp only [Bool.and_eq_true] at h
      exact zz_star (sE e C h.1).v (sZs zs C h.2)
    · cases h
theorem sKs : ∀ (es : Es) {X : Cx} {q : Qm} {kws : List Keyword}, CxOk c N k X q → kKs c N es X.env.scope kws = true → PK X kws (tWs X.K q es)
  | .nil, X, q, kws, C, h => by
    cases kws with
    | nil => exact s_knil
    | cons p r => simp [kKs] at h
  | .cons e es, X, q, kws, C, h => by
    cases kws with
    | nil => simp [kKs] at h
    | cons p r =>
      obtain ⟨nm, pe, p'⟩ := p
      cases nm with
      | none => simp [kKs] at h
      | some nm =>
        simp only [kKs, Bool.and_eq_true] at h
        exact s_kcons (sE e C h.1).v (sKs es C h.2)
theorem sO : ∀ (o : Oe) {X : Cx} {q : Qm} {po : Option Expr}, CxOk c N k X q → kO c N o X.env.scope po = true → PO X po (tWo X.K q o)
  | .none, X, q, po, C, h => by
    cases po with
    | none => exact s_onone
    | some p => simp [kO] at h
  | .some e, X, q, po, C, h => by
    cases po with
    | none => simp [kO] at h
    | some p =>
      simp only [kO] at h
      exact s_osome (sE e C h).v
theorem sC : ∀ (o : Oe) {X : Cx} {q : Qm} {pes : List Expr}, CxOk c N k X q → kC c N o X.env.scope pes = true → PTs X pes (tWc X.K q o)
  | .none, X, q, pes, C, h => by
    cases pes with
    | nil =>
      refine ⟨fun pins s σ H Q I h => pts_nil.run pins s σ H Q I ?_⟩
      obtain ⟨β, ρ, env, st, e, S, h⟩ := h
      simp only [evc] at h
      exact PostB.here h S
    | cons p r => simp [kC] at h
  | .some e, X, q, pes, C, h => by
    simp only [kC] at h
    split at h
    · simp only [Bool.and_eq_true] at h
      have P := pts_one ((sE e C h.2).t h.1)
      refine ⟨fun pins s σ H Q I h => P.run pins s σ H Q I ?_⟩
      obtain ⟨β, ρ, env, st, e', S, h⟩ := h
      simp only [evc] at h
      exact ⟨β, ρ, env, st, e', S, h⟩
    · cases h
theorem sI : ∀ (it : It) {X : Cx} {q : Qm} {ptg pit : Expr}, CxOk c N k X q → kI c N it X.env.scope ptg pit = true → PI X ptg pit (tWi X.K q it)
  | .val e, X, q, ptg, pit, C, h => by
    simp only [kI] at h
    exact i_val (sE e C h).v
  | .rng1 a, X, q, ptg, pit, C, h => by
    simp only [kI] at h
    split at h
    · simp only [Bool.and_eq_true, decide_eq_true_eq, Bool.not_eq_true'] at h
      obtain ⟨⟨⟨rfl, h2⟩, h3⟩, h4⟩ := h
      exact i_rng1 (gl_of h2) (C.bln _ (by decide)) (s_cons (sE a C h4).v s_nil (star_cons h3)) (star_cons h3)
    · cases h
  | .rng2 a b, X, q, ptg, pit, C, h => by
    simp only [kI] at h
    split at h
    · simp only [Bool.and_eq_true, decide_eq_true_eq, Bool.not_eq_true'] at h
      obtain ⟨⟨⟨⟨⟨rfl, h2⟩, h3⟩, h4⟩, h5⟩, h6⟩ := h
      refine i_rng2 (gl_of h2) (C.bln _ (by decide)) (s_cons (sE a C h5).v (s_cons (sE b C h6).v s_nil (star_cons h4)) (star_cons h3)) ?_ (star_cons h4)
      rw [star_cons h3, star_cons h4]
      rfl
    · cases h
  | .rng3 a b k', X, q, ptg, pit, C, h => by
    simp only [kI] at h
    split at h
    · simp only [Bool.and_eq_true, decide_eq_true_eq, Bool.not_eq_true'] at h
      obtain ⟨⟨⟨⟨⟨⟨rfl, rfl⟩, h2⟩, h3⟩, h4⟩, h5⟩, h6⟩ := h
      refine i_rng3 (gl_of h2) (C.bln _ (by decide)) (s_cons (sE a C h5).v (s_cons (sE b C h6).v (s_cons s_m1 s_nil rfl) (star_cons h4)) (star_cons h3)) (star_cons h3) ?_
      rw [star_cons h4]
      rfl
    · cases h
  | .enum a, X, q, ptg, pit, C, h => by
    simp only [kI] at h
    split at h
    · simp only [Bool.and_eq_true, decide_eq_true_eq, Bool.not_eq_true'] at h
      obtain ⟨⟨⟨⟨h1, rfl⟩, h2⟩, h3⟩, h4⟩ := h
      split at h1
      · exact i_enum (gl_of h2) (C.bln _ (by decide)) (s_cons (sE a C h4).v s_nil (star_cons h3)) (star_cons h3)
      · cases h1
    · cases h
  | .zip a b, X, q, ptg, pit, C, h => by
    simp only [kI] at h
    split at h
    · simp only [Bool.and_eq_true, decide_eq_true_eq, Bool.not_eq_true'] at h
      obtain ⟨⟨⟨⟨⟨⟨h1, rfl⟩, h2⟩, h3⟩, h4⟩, h5⟩, h6⟩ := h
      split at h1
      · refine i_zip (gl_of h2) (C.bln _ (by decide)) (s_cons (sE a C h5).v (s_cons (sE b C h6).v s_nil (star_cons h4)) (star_cons h3)) (star_cons h3) ?_
        rw [star_cons h4]
        rfl
      · cases h1
    · cases h
  | .perm a, X, q, ptg, pit, C, h => by
    simp only [kI] at h
    split at h
    · simp only [Bool.and_eq_true, decide_eq_true_eq, Bool.not_eq_true'] at h
      obtain ⟨⟨⟨⟨⟨⟨h1, rfl⟩, h2⟩, rfl⟩, h3⟩, h4⟩, h5⟩ := h
      exact i_perm C.calm (gl_of h2) (C.prm h1) (by decide) (by decide) (gl_of h3) (C.bln _ (by decide)) (sE a C h5).v (star_cons h4)
    · cases h
theorem sG : ∀ (t : Tg) {X : Cx} {q : Qm} {fs : Scope} {pe : Expr}, CxOk c N k X q → (∀ x, fs.names.lookup x = some .cell → X.fn x = true) → kG c N t fs X.env.scope pe = true → PG X pe (tWg X.K q t)
  | .var i, X, q, fs, pe, C, hf, h => by
    simp only [kG] at h
    split at h
    · simp only [Bool.and_eq_true, decide_eq_true_eq, Bool.or_eq_true] at h
      obtain ⟨h1, h2⟩ := h
      rcases h2 with h2 | ⟨h2, h3⟩
      · exact g_var C.nd (by rw [C.N]; exact h1) (.inl (lcl_of h2)) (.inr (lcl_of h2))
      · refine g_var C.nd (by rw [C.N]; exact h1) (.inr ?_) (.inl (hf _ ?_))
        · unfold celB at h2
          split at h2
          · assumption
          · cases h2
        · unfold celB at h3
          split at h3
          · assumption
          · cases h3
    · cases h
  | .idx a b, X, q, fs, pe, C, hf, h => by
    simp only [kG] at h
    split at h
    · rename_i pa pb p
      simp only [Bool.and_eq_true, Bool.not_eq_true'] at h
      obtain ⟨⟨h1, h2⟩, h3⟩ := h
      refine g_idx (sE a C h2).v (sE b C h3).v ?_
      intro v
      cases pb <;> first
        | rfl
        | cases h1
    · cases h
  | .tup ts, X, q, fs, pe, C, hf, h => by
    simp only [kG] at h
    split at h
    · have L := tgs_len (env := X.env) h
      exact g_tup C.calm (sGs ts C hf h) L.1 L.2
    · cases h
theorem sGs : ∀ (ts : Tgs) {X : Cx} {q : Qm} {fs : Scope} {pes : List Expr}, CxOk c N k X q → (∀ x, fs.names.lookup x = some .cell → X.fn x = true) → kGs c N ts fs X.env.scope pes = true → PGs X pes (tWgs X.K q ts)
  | .nil, X, q, fs, pes, C, hf, h => by
    cases pes with
    | nil => exact g_nil
    | cons p r => simp [kGs] at h
  | .cons t ts, X, q, fs, pes, C, hf, h => by
    cases pes with
    | nil => simp [kGs] at h
    | cons p r =>
      simp only [kGs, Bool.and_eq_true, Bool.not_eq_true'] at h
      refine g_cons (sG t C hf h.1.2) (sGs ts C hf h.2) ?_
      rw [asg_cons h.1.1]
      rfl
end
theorem sLc : ∀ (own : List Nat) (elt : E) (tg : Tg) (it : It) (oc : Oe) {X : Cx} {q : Qm} {pelt ptg pit : Expr} {pifs : List Expr} {s2 : Scope}, CxOk c N k X q →
    (blkC N X.env.scope s2 (ownN N own) && (tgv tg).all (fun i => own.contains i) && !isSet pit && kI c N it X.env.scope ptg pit && kG c N tg s2 (relS s2 X.env.scope) ptg && kC c N oc (relS s2 X.env.scope) pifs && kE c N elt (relS s2 X.env.scope) pelt) = true → LcOk X q (ownN N own) elt tg it oc pelt ptg pit pifs s2
  | own, elt, tg, it, oc, X, q, pelt, ptg, pit, pifs, s2, C, h => by
    simp only [Bool.and_eq_true, Bool.not_eq_true', List.all_eq_true] at h
    obtain ⟨⟨⟨⟨⟨⟨h1, h2⟩, h3⟩, h4⟩, h5⟩, h6⟩, h7⟩ := h
    have bk := blkOk_by h1
    exact {
      calm := C.calm
      nd := C.nd
      it := sI it C h4
      blk := by rw [C.N]; exact bk
      tgt := fun s H C' cl fp => sG tg (C.blk bk.kind) (fun x hx => by
        show (s2.names.lookup x == some NameKind.cell) = true
        rw [hx]
        rfl) h5
      ifs := fun s H C' cl fp => sC oc (C.blk bk.kind) h6
      elt := fun s H C' cl fp => (sE elt (C.blk bk.kind) h7).v
      fold := fold_of h3
      own := fun i hi => by
        rw [ownN_snd]
        simpa using h2 i hi }
theorem sLc2 (own own1 : List Nat) (elt : E) (tg : Tg) (it : It) (oc : Oe) (tg1 : Tg) (it1 : It) (oc1 : Oe) {X : Cx} {q : Qm} {pelt ptg pit ptg1 pit1 : Expr} {pifs pifs1 : List Expr} {s2 : Scope} (C : CxOk c N k X q)
    (h : (blkC N X.env.scope s2 (ownN N own) && (tgv tg).all (fun i => own.contains i) && !isSet pit && kI c N it X.env.scope ptg pit && kG c N tg s2 (relS s2 X.env.scope) ptg && kC c N oc (relS s2 X.env.scope) pifs && kE c N elt (relS s2 X.env.scope) pelt && ((tgv tg1).all (fun i => own1.contains i) && own1.all (fun i => own.contains i) && !isSet pit1 && kI c N it1 (relS s2 X.env.scope) ptg1 pit1 && kG c N tg1 s2 (relS s2 X.env.scope) ptg1 && kC c N oc1 (relS s2 X.env.scope) pifs1)) = true) :
    LcOk2 X q (ownN N own) own1 elt tg it oc tg1 it1 oc1 pelt ptg pit ptg1 pit1 pifs pifs1 s2 := by
  simp only [Bool.and_eq_true, Bool.not_eq_true', List.all_eq_true] at h
  obtain ⟨⟨⟨⟨⟨⟨⟨h1, h2⟩, h3⟩, h4⟩, h5⟩, h6⟩, h7⟩, ⟨⟨⟨⟨g1, g2⟩, g3⟩, g4⟩, g5⟩, g6⟩ := h
  have bk := blkOk_by h1
  have cl : ∀ x, s2.names.lookup x = some NameKind.cell → (s2.names.lookup x == some NameKind.cell) = true := fun x hx => by
    rw [hx]
    rfl
  exact {
    calm := C.calm
    nd := C.nd
    it := sI it C h4
    blk := by rw [C.N]; exact bk
    tgt := fun s H C' cl' fp => sG tg (C.blk bk.kind) cl h5
    ifs := fun s H C' cl' fp => sC oc (C.blk bk.kind) h6
    it1 := fun s H C' cl' fp => sI it1 (C.blk bk.kind) g4
    tgt1 := fun s H C' cl' fp => sG tg1 (C.blk bk.kind) cl g5
    ifs1 := fun s H C' cl' fp => sC oc1 (C.blk bk.kind) g6
    elt := fun s H C' cl' fp => (sE elt (C.blk bk.kind) h7).v
    fold := fold_of h3
    fold1 := fun env => fold_of g3
    own := fun i hi => by
      rw [ownN_snd]
      simpa using h2 i hi
    own1 := fun i hi => by simpa using g1 i hi
    sub := fun i hi => by
      rw [ownN_snd]
      simpa using g2 i hi }
end
end PL

set_option Elab.async false
set_option linter.all false
set_option maxRecDepth 100000
set_option maxHeartbeats 4000000
/-! The check is sound: statements. -/
namespace PL
open PySem PySem.Spec PyProof.Rows L2
section
variable {c : Ck} {N : List Str} {k : Nat} {env : PySem.Env}
theorem blk_kind (h : env.scope.kind = .function) : env.blockKind = .function := by
  unfold PySem.Env.blockKind
  rw [h]
  rfl
theorem sw_drop {pe : Expr} {line : Nat} (h : isLc pe = false) : swapsWith pe none line env = pure false := by
  cases pe <;> first
    | rfl
    | cases h
theorem lcl_eq (x : Str) : (env.kindOf x == some NameKind.local) = lclB env.scope x := by
  unfold PySem.Env.kindOf lclB
  cases env.scope.names.lookup x with
  | none => rfl
  | some k => cases k <;> rfl
theorem sw_one {pt pe : Expr} {line : Nat} (hk : env.scope.kind = .function) (h : swB env.scope pt pe = false) (h2 : isSD pe = false) : swapsWithSole [pt] pe line env = pure false := by
  show swapsWith pe (some pt) line env = pure false
  cases pe <;> first
    | rfl
    | cases h2
    | skip
  rename_i elt gens s2 p2
  cases pt <;> first
    | rfl
    | skip
  rename_i t p
  show (pure (env.blockKind == .function && env.kindOf t == some .local && p.line == p2.line && !(s2.names.any fun (n, k) => n == t && (k == .local || k == .cell))) : Sem Bool) = pure false
  rw [blk_kind hk, lcl_eq]
  simp only [swB] at h
  have e : ((ScopeKind.function == ScopeKind.function) && lclB env.scope t && p.line == p2.line && !(s2.names.any fun (n, k) => n == t && (k == .local || k == .cell))) = false := by
    rw [show (ScopeKind.function == ScopeKind.function) = true from rfl, Bool.true_and]
    exact h
  rw [e]
theorem sw_lc {t : Str} {p p2 : Pos} {elt : Expr} {gens : List Comprehension} {s2 : Scope} {line : Nat} (hk : env.scope.kind = .function) (h : swB env.scope (.Name t p) (.ListComp elt gens s2 p2) = true) : swapsWith (.ListComp elt gens s2 p2) (some (.Name t p)) line env = pure true := by
  show (pure (env.blockKind == .function && env.kindOf t == some .local && p.line == p2.line && !(s2.names.any fun (n, k) => n == t && (k == .local || k == .cell))) : Sem Bool) = pure true
  rw [blk_kind hk, lcl_eq]
  simp only [swB] at h
  have e : ((ScopeKind.function == ScopeKind.function) && lclB env.scope t && p.line == p2.line && !(s2.names.any fun (n, k) => n == t && (k == .local || k == .cell))) = true := by
    rw [show (ScopeKind.function == ScopeKind.function) = true from rfl, Bool.true_and]
    exact h
  rw [e]
theorem st_none {pt pe : Expr} (h : isTup pt = false) : swappedStores [pt] pe env = pure none := by
  cases pt <;> first
    | rfl
    | cases h
theorem st_none2 {pt pe : Expr} (h : (match pe with | .Tuple vs _ _ => vs.all (foldedForSure 8) | _ => true) = true) : swappedStores [pt] pe env = pure none := by
  by_cases ht : isTup pt = true
  · have go : ∀ ts vs : List Expr, vs.all (foldedForSure 8) = true → (do
        if !(ts.length == 2 || ts.length == 3) || vs.length != ts.length || env.blockKind != .function then return none
        if vs.any fun | .Starred .. => true | _ => false then return none
        let line := (ts.head?.map (·.pos.line)).getD 0
        let names := ts.filterMap fun
          | .Name id pos => if env.kindOf id == some .local && pos.line == line then some id else none
          | _ => none
        if names.length != ts.length || names.eraseDups.length != names.length then return none
        if vs.all (foldedForSure 8) then return none
        if vs.all (constantsAlone 8) then unsupported "assign.tuple-of-constant-expressions:order-of-the-stores"
        return some names : Sem (Option (List Str))) = pure none := fun ts vs hv => by
      split
      · rfl
      · split
        · rfl
        · dsimp only
          split
          · rfl
          · first
              | rfl
              | (rw [if_pos hv]; rfl)
    cases pe <;> first
      | (cases pt <;> first
          | rfl
          | exact absurd ht Bool.false_ne_true)
      | skip
    rename_i vs k2 p2
    cases pt <;> first
      | exact absurd ht Bool.false_ne_true
      | exact go _ _ h
  · exact st_none (by simpa using ht)
theorem nn_len {ts : List Expr} {line : Nat} (h : (ts.any fun t => match t with | .Name _ _ => false | _ => true) = true) : (ts.filterMap fun
          | .Name id pos => if env.kindOf id == some .local && pos.line == line then some id else none
          | _ => none).length ≠ ts.length := by
  have le : ∀ ts : List Expr, (ts.filterMap fun
          | .Name id pos => if env.kindOf id == some .local && pos.line == line then some id else none
          | _ => none).length ≤ ts.length := fun ts => List.length_filterMap_le _ _
  induction ts with
  | nil => cases h
  | cons t r ih =>
    rw [List.any_cons, Bool.or_eq_true] at h
    have l1 := le r
    rw [List.filterMap_cons]
    split
    · rw [List.length_cons]
      omega
    · rename_i b hb
      rcases h with h | h
      · cases t <;> first
          | (cases hb; done)
          | (cases h; done)
      · have := ih h
        rw [List.length_cons, List.length_cons]
        omega
theorem st_none3 {pt pe : Expr} (h : notNames pt = true) : swappedStores [pt] pe env = pure none := by
  have go : ∀ ts vs : List Expr, (ts.any fun t => match t with | .Name _ _ => false | _ => true) = true → (do
        if !(ts.length == 2 || ts.length == 3) || vs.length != ts.length || env.blockKind != .function then return none
        if vs.any fun | .Starred .. => true | _ => false then return none
        let line := (ts.head?.map (·.pos.line)).getD 0
        let names := ts.filterMap fun
          | .Name id pos => if env.kindOf id == some .local && pos.line == line then some id else none
          | _ => none
        if names.length != ts.length || names.eraseDups.length != names.length then return none
        if vs.all (foldedForSure 8) then return none
        if vs.all (constantsAlone 8) then unsupported "assign.tuple-of-constant-expressions:order-of-the-stores"
        return some names : Sem (Option (List Str))) = pure none := fun ts vs hv => by
    split
    · rfl
    · split
      · rfl
      · dsimp only
        rw [if_pos (by
          rw [Bool.or_eq_true]
          exact .inl (bne_iff_ne.mpr (nn_len hv)))]
        try rfl
  cases pt <;> first
    | (cases h; done)
    | skip
  all_goals
    cases pe with
    | Tuple vs k2 p2 => exact go _ _ h
    | _ => rfl
theorem not_star {e : Expr} (he : isStar e = false) : (match e with | .Starred .. => true | _ => false) = false := by
  cases e <;> first
    | rfl
    | cases he
theorem star_no {e : Expr} (h : isStar e = false) (h2 : isStar e = true) : False := by
  rw [h] at h2
  cases h2
theorem beq_ne {x y : Str} (h : x ≠ y) : (x == y) = false := by
  cases e : x == y with
  | false => rfl
  | true => exact absurd (eq_of_beq e) h
theorem ed2 {x y : Str} (h : x ≠ y) : List.eraseDupsBy (fun a b => a == b) [x, y] = [x, y] := by
  unfold List.eraseDupsBy
  simp [List.eraseDupsBy.loop, beq_ne h, beq_ne (Ne.symm h)]
theorem ed3 {x y z : Str} (h : x ≠ y) (h2 : x ≠ z) (h3 : y ≠ z) : List.eraseDupsBy (fun a b => a == b) [x, y, z] = [x, y, z] := by
  unfold List.eraseDupsBy
  simp [List.eraseDupsBy.loop, beq_ne h, beq_ne (Ne.symm h), beq_ne h2, beq_ne (Ne.symm h2), beq_ne h3, beq_ne (Ne.symm h3)]
theorem st_two {x y : Str} {px py pt pt2 : Pos} {kt k2 : Nat} {pa pb : Expr} (hk : env.scope.kind = .function) (hx : env.scope.names.lookup x = some .local) (hy : env.scope.names.lookup y = some .local) (hxy : x ≠ y) (hl : (px.line == py.line) = true)
    (h1 : isStar pa = false) (h2 : isStar pb = false) (h3 : [pa, pb].all (foldedForSure 8) = false) (h4 : [pa, pb].all (constantsAlone 8) = false) : swappedStores [.Tuple [.Name x px, .Name y py] kt pt] (.Tuple [pa, pb] k2 pt2) env = pure (some [x, y]) := by
  have e1 : env.kindOf x = some .local := hx
  have e2 : env.kindOf y = some .local := hy
  have l : px.line = py.line := by simpa using hl
  unfold swappedStores
  simp only [blk_kind hk, List.length_cons, List.length_nil]
  simp [e1, e2, l, Expr.pos, h3, h4, List.eraseDups, ed2 hxy]
  intro z
  exfalso
  rcases z with z | z
  · exact star_no h1 (by cases pa <;> first | rfl | (exfalso; exact Bool.false_ne_true z))
  · exact star_no h2 (by cases pb <;> first | rfl | (exfalso; exact Bool.false_ne_true z))
theorem st_three {x y z : Str} {px py pz pt pt2 : Pos} {kt k2 : Nat} {pa pb pc : Expr} (hk : env.scope.kind = .function) (hx : env.scope.names.lookup x = some .local) (hy : env.scope.names.lookup y = some .local) (hz : env.scope.names.lookup z = some .local) (hxy : x ≠ y) (hxz : x ≠ z) (hyz : y ≠ z) (hl : (px.line == py.line) = true) (hl2 : (px.line == pz.line) = true)
    (h1 : isStar pa = false) (h2 : isStar pb = false) (h5 : isStar pc = false) (h3 : [pa, pb, pc].all (foldedForSure 8) = false) (h4 : [pa, pb, pc].all (constantsAlone 8) = false) : swappedStores [.Tuple [.Name x px, .Name y py, .Name z pz] kt pt] (.Tuple [pa, pb, pc] k2 pt2) env = pure (some [x, y, z]) := by
  have e1 : env.kindOf x = some .local := hx
  have e2 : env.kindOf y = some .local := hy
  have e3 : env.kindOf z = some .local := hz
  have l : py.line = px.line := by simpa using Eq.symm (of_decide_eq_true (by simpa using hl))
  have l2 : pz.line = px.line := by simpa using Eq.symm (of_decide_eq_true (by simpa using hl2))
  unfold swappedStores
  simp only [blk_kind hk, List.length_cons, List.length_nil]
  simp [e1, e2, e3, l, l2, Expr.pos, h3, h4, List.eraseDups, ed3 hxy hxz hyz]
  intro z
  exfalso
  rcases z with z | z | z
  · exact star_no h1 (by cases pa <;> first | rfl | (exfalso; exact Bool.false_ne_true z))
  · exact star_no h2 (by cases pb <;> first | rfl | (exfalso; exact Bool.false_ne_true z))
  · exact star_no h5 (by cases pc <;> first | rfl | (exfalso; exact Bool.false_ne_true z))
end
section
variable {c : Ck} {N : List Str} {k : Nat}
mutual
theorem sS : ∀ (s : S) {X : Cx} {q : Qm} {ps : Stmt}, CxOk c N k X q → (∀ x, X.env.scope.names.lookup x = some .cell → X.fn x = true) → kS c N s X.env.scope ps = true → PS X ps (tS X.K q s)
  | .asg t e, X, q, ps, C, hf, h => by
    simp only [kS] at h
    split at h
    · rename_i pt pe pos
      split at h
      · rename_i hsw
        simp only [Bool.and_eq_true] at h
        obtain ⟨⟨⟨h1, h2⟩, h3⟩, h4⟩ := h
        cases t with
        | idx _ _ => cases h1
        | tup _ => cases h1
        | var i =>
          -- the target's name, the comprehension
          cases pt <;> first
            | (simp [swB] at hsw; done)
            | skip
          rename_i y py
          cases pe <;> first
            | (simp [swB] at hsw; done)
            | skip
          rename_i elt gens s2 p2
          have hl := hsw
          simp only [swB, Bool.and_eq_true] at hl
          simp only [kG, Bool.and_eq_true, decide_eq_true_eq] at h3
          have hy : X.N[i]? = some y := by rw [C.N]; exact h3.1
          have hyl := lcl_of hl.1.1
          split at h2
          · rename_i own elt' tg it oc
            simp only [kE] at h4
            split at h4
            · rename_i pelt ptg pit pifs s2' pos' heq
              injection heq with g1 g2 g3 g4
              subst g1 g2 g3 g4
              have P := z_asgLc (q := q) false (sLc own elt' tg it oc C h4) hy hyl (sw_lc C.kind hsw) (pos := pos) (py := py)
              rw [ownN_snd] at P
              exact P
            · cases h4
          · rename_i own elt' tg it oc
            simp only [kE, Bool.and_eq_true] at h4
            obtain ⟨_, h4⟩ := h4
            split at h4
            · rename_i pelt ptg pit pifs s2' pos' heq
              injection heq with g1 g2 g3 g4
              subst g1 g2 g3 g4
              have P := z_asgLc (q := q) true (sLc own elt' tg it oc C h4) hy hyl (sw_lc C.kind hsw) (pos := pos) (py := py)
              rw [ownN_snd] at P
              exact P
            · cases h4
          · rename_i own own1 elt' tg it oc tg1 it1 oc1
            simp only [kE] at h4
            split at h4
            · rename_i pelt ptg pit pifs ptg1 pit1 pifs1 s2' pos' heq
              injection heq with g1 g2 g3 g4
              subst g1 g2 g3 g4
              have P := z_asgLc2 (q := q) false (sLc2 own own1 elt' tg it oc tg1 it1 oc1 C h4) hy hyl (sw_lc C.kind hsw) (pos := pos) (py := py)
              rw [ownN_snd] at P
              exact P
            · cases h4
          · rename_i own own1 elt' tg it oc tg1 it1 oc1
            simp only [kE, Bool.and_eq_true] at h4
            obtain ⟨_, h4⟩ := h4
            split at h4
            · rename_i pelt ptg pit pifs ptg1 pit1 pifs1 s2' pos' heq
              injection heq with g1 g2 g3 g4
              subst g1 g2 g3 g4
              have P := z_asgLc2 (q := q) true (sLc2 own own1 elt' tg it oc tg1 it1 oc1 C (by simpa only [Bool.and_eq_true] using h4)) hy hyl (sw_lc C.kind hsw) (pos := pos) (py := py)
              rw [ownN_snd] at P
              exact P
            · cases h4
          · cases h2
      · rename_i hsw
        simp only [Bool.and_eq_true, Bool.not_eq_true', Bool.or_eq_true] at h
        obtain ⟨⟨⟨⟨h1, h2⟩, h3⟩, h4⟩, h5⟩ := h
        refine z_asg (sE e C h5).v (sG t C hf h4) (sw_one C.kind (by simpa using hsw) h2) ?_ ?_
        · rcases h3 with h3 | h3
          · exact st_none h3
          · split at h3
            · rename_i vs k2 p2
              rcases (Bool.or_eq_true _ _).mp h3 with h3 | h3
              · exact st_none2 h3
              · exact st_none3 h3
            · rename_i hh
              refine st_none2 ?_
              split
              · rename_i vs k2 p2
                exact absurd rfl (hh vs k2 p2)
              · rfl
        · rw [asg_cons h1]
          rfl
    · cases h
  | .par is es, X, q, ps, C, hf, h => by
    simp only [kS] at h
    split at h
    · rename_i x p1 y p2 kt pt pa pb k2 pt2 pos
      split at h
      · rename_i i j
        simp only [Bool.and_eq_true, decide_eq_true_eq, Bool.not_eq_true'] at h
        obtain ⟨⟨⟨⟨⟨⟨⟨⟨⟨h1, h2⟩, h3⟩, h4⟩, h5⟩, h6⟩, h7⟩, h8⟩, h9⟩, h10⟩ := h
        have A := sEs es C h10
        have st : isStar pa = false ∧ isStar pb = false := by
          cases es with
          | nil => simp [kEs] at h10
          | cons e es =>
            cases es with
            | nil => simp [kEs] at h10
            | cons e2 es =>
              simp only [kEs, Bool.and_eq_true, Bool.not_eq_true'] at h10
              exact ⟨h10.1.1, h10.2.1.1⟩
        exact z_par2 C.calm C.nd (by rw [C.N]; exact h1) (by rw [C.N]; exact h2) h3 (lcl_of h5) (lcl_of h6) A (st_two C.kind (lcl_of h5) (lcl_of h6) h4 h7 st.1 st.2 h8 h9) rfl
      · cases h
    · rename_i x p1 y p2 z p3 kt pt pa pb pc k2 pt2 pos
      split at h
      · rename_i i j l
        simp only [Bool.and_eq_true, decide_eq_true_eq, Bool.not_eq_true'] at h
        obtain ⟨⟨⟨⟨⟨⟨⟨⟨⟨⟨⟨⟨⟨⟨⟨⟨h1, h2⟩, h3⟩, h4⟩, h5⟩, h6⟩, h7⟩, h8⟩, h9⟩, h10⟩, h11⟩, h12⟩, h13⟩, h14⟩, h15⟩, h16⟩, h17⟩ := h
        have A := sEs es C h17
        have st : isStar pa = false ∧ isStar pb = false ∧ isStar pc = false := by
          cases es with
          | nil => simp [kEs] at h17
          | cons e es =>
            cases es with
            | nil => simp [kEs] at h17
            | cons e2 es =>
              cases es with
              | nil => simp [kEs] at h17
              | cons e3 es =>
                simp only [kEs, Bool.and_eq_true, Bool.not_eq_true'] at h17
                exact ⟨h17.1.1, h17.2.1.1, h17.2.2.1.1⟩
        exact z_par3 C.calm C.nd (by rw [C.N]; exact h1) (by rw [C.N]; exact h2) (by rw [C.N]; exact h3) h4 h5 h6 (lcl_of h10) (lcl_of h11) (lcl_of h12) A (st_three C.kind (lcl_of h10) (lcl_of h11) (lcl_of h12) h7 h8 h9 h13 h14 st.1 st.2.1 st.2.2 h15 h16) rfl
      · cases h
    · cases h
  | .ifs d a b, X, q, ps, C, hf, h => by
    simp only [kS] at h
    split at h
    · simp only [Bool.and_eq_true] at h
      obtain ⟨⟨⟨h1, h2⟩, h3⟩, h4⟩ := h
      exact z_if ((sE d C h2).t h1) (sSs a C hf h3) (sSs b C hf h4)
    · cases h
  | .whl d b, X, q, ps, C, hf, h => by
    simp only [kS] at h
    split at h
    · simp only [Bool.and_eq_true] at h
      obtain ⟨⟨h1, h2⟩, h3⟩ := h
      exact z_while C.pas ((sE d C h2).t h1) (sSs b C hf h3)
    · cases h
  | .fr t it b, X, q, ps, C, hf, h => by
    simp only [kS] at h
    split at h
    · simp only [Bool.and_eq_true, Bool.not_eq_true'] at h
      obtain ⟨⟨⟨h1, h2⟩, h3⟩, h4⟩ := h
      exact z_for C.pas C.calm (sI it C h2) (sG t C hf h3) (sSs b C hf h4) (fold_of h1)
    · cases h
  | .ret e, X, q, ps, C, hf, h => by
    simp only [kS] at h
    split at h
    · exact z_ret (sE e C h).v
    · cases h
  | .retn, X, q, ps, C, hf, h => by
    simp only [kS] at h
    split at h
    · exact z_retn
    · cases h
  | .exp e, X, q, ps, C, hf, h => by
    simp only [kS] at h
    split at h
    · simp only [Bool.and_eq_true, Bool.not_eq_true'] at h
      exact z_exp (sE e C h.2).v (sw_drop h.1)
    · cases h
  | .pas, X, q, ps, C, hf, h => by
    simp only [kS] at h
    split at h
    · exact z_pas
    · cases h
  | .brk, X, q, ps, C, hf, h => by
    simp only [kS] at h
    split at h
    · exact z_brk
    · cases h
  | .cnt, X, q, ps, C, hf, h => by
    simp only [kS] at h
    split at h
    · exact z_cnt
    · cases h
  | .nev, X, q, ps, C, hf, h => z_nev
theorem sSs : ∀ (ss : Ss) {X : Cx} {q : Qm} {pss : List Stmt}, CxOk c N k X q → (∀ x, X.env.scope.names.lookup x = some .cell → X.fn x = true) → kSs c N ss X.env.scope pss = true → PSs X pss (tSs X.K q ss)
  | .nil, X, q, pss, C, hf, h => by
    cases pss with
    | nil => exact z_nil
    | cons p r => simp [kSs] at h
  | .cons s ss, X, q, pss, C, hf, h => by
    cases pss with
    | nil => simp [kSs] at h
    | cons p r =>
      simp only [kSs, Bool.and_eq_true] at h
      exact z_cons (sS s C hf h.1) (sSs ss C hf h.2)
end
end
end PL

set_option Elab.async false
set_option linter.all false
set_option maxRecDepth 100000
set_option maxHeartbeats 4000000
/-! Every def of the table does what the interpreter says. -/
namespace PL
open PySem PySem.Spec PyProof.Rows L2
section
variable {K : PySem.W.Frag} {fa : Nat → Addr} {H H' : Hp} {m m' : Addr → Prop} {β ρ ρ' : List Addr} {n : Nat}
mutual
theorem RD.shrink (hρ : ∀ i, i < n → ∀ a, ρ'[i]? = some a → ρ[i]? = some a) (hm : ∀ a, m' a → m a) : ∀ {d : D} {v : V}, RD K fa H m β ρ' n d v → RD K fa H m' β ρ n d v
  | _, _, .non => .non
  | _, _, .bl b => .bl b
  | _, _, .int i => .int i
  | _, _, .str s => .str s
  | _, _, .tupH h1 h2 h3 h4 => .tupH h1 (fun z => h2 (hm _ z)) h3 (RDs.shrink hρ hm h4)
  | _, _, .tupK h1 h4 => .tupK h1 (RDs.shrink hρ hm h4)
  | _, _, .frz h1 h2 h3 h4 => .frz h1 (fun z => h2 (hm _ z)) h3 (RDs.shrink hρ hm h4)
  | _, _, .scrH h1 h2 h3 h4 => .scrH h1 (fun z => h2 (hm _ z)) h3 (RDs.shrink hρ hm h4)
  | _, _, .scrK h1 h4 => .scrK h1 (RDs.shrink hρ hm h4)
  | _, _, .lst h1 h2 => .lst h1 (hρ _ h1 _ h2)
  | _, _, .fn k => .fn k
theorem RDs.shrink (hρ : ∀ i, i < n → ∀ a, ρ'[i]? = some a → ρ[i]? = some a) (hm : ∀ a, m' a → m a) : ∀ {ds : List D} {vs : List V}, RDs K fa H m β ρ' n ds vs → RDs K fa H m' β ρ n ds vs
  | _, _, .nil => .nil
  | _, _, .cons h t => .cons (RD.shrink hρ hm h) (RDs.shrink hρ hm t)
end
end
/-- what a call leaves: the callee's lists forgotten -/
theorem back_ok {K : PySem.W.Frag} {fa : Nat → Addr} {H : Hp} {β ρ : List Addr} {st st' : Sto} {d : D} {Q : VK} {Xx : Nat → D → Sto → Prop} (S : RS K fa β ρ st H) (h : RP (back st.length d st') (fun d st' => Post K fa β ρ st H d st' Q) Xx) :
    Post K fa β ρ st H d st' Q := by
  unfold back at h
  split at h
  · exact h
  · split at h
    · rename_i hr
      intro v H' ρ' a S' r
      obtain ⟨t, rfl⟩ := a.pre
      have hl : ρ.length = st.length := S.len
      have le := a.le
      have at' : ∀ i, i < st.length → ∀ p, (ρ ++ t)[i]? = some p → ρ[i]? = some p := fun i hi p e => by
        rw [List.getElem?_append_left (by omega)] at e
        exact e
      have tk : ∀ i, i < st.length → (st'.take st.length)[i]? = st'[i]? := fun i hi => List.getElem?_take_of_lt hi
      have tl : (st'.take st.length).length = st.length := by rw [List.length_take]; omega
      have mu : ∀ p, Mu ρ (st'.take st.length) p → Mu (ρ ++ t) st' p := fun p ⟨i, o, h1, h2, h3⟩ => by
        have hi : i < st.length := by
          have := (List.getElem?_eq_some_iff.mp h2).1
          omega
        exact ⟨i, o, by rw [List.getElem?_append_left (by omega)]; exact h1, by rw [← tk i hi]; exact h2, h3⟩
      refine h v H' ρ ⟨⟨[], by simp⟩, by rw [tl]; exact Nat.le_refl _, fun p o e nm => ?_, fun i ds e => ?_⟩ ⟨S.nd, by rw [tl]; exact hl, fun i o e => ?_, fun b hb => ?_⟩ ?_
      · obtain ⟨k1, k2⟩ := a.keep p o e nm
        exact ⟨k1, fun z => k2 (mu p z)⟩
      · rw [tk i (its_get e)]
        exact a.lck i ds e
      · have hi : i < st.length := by
          have := (List.getElem?_eq_some_iff.mp e).1
          omega
        rw [tk i hi] at e
        obtain ⟨p, vs, e1, e2, e3⟩ := S'.obj i o e
        exact ⟨p, vs, at' i hi p e1, e2, e3.shrink (fun j hj q hq => at' j (by omega) q hq) mu⟩
      · obtain ⟨x1, x2⟩ := S'.busy b hb
        exact ⟨x1, fun z => x2 (List.mem_append_left _ z)⟩
      · rw [tl]
        exact (r.older hr).shrink at' mu
    · exact h
/-- a def of the program against its own term -/
def DefOk (c : Ck) (K : PySem.W.Frag) (fa : Nat → Addr) (f : Nat) (F : Fd) : Prop := ∃ (x qual : Str) (params : Arguments) (body : List Stmt) (scope : Scope) (fd : FuncData) (N ps : List Str),
  FunD K x qual params body scope [] [] (fa f) fd ∧ FnScope N ps scope ∧ ps.length = F.ps ∧ N.length = F.nl ∧ kSs c N F.body scope body = true ∧ Binds K fd ps [] ∧ ∀ n ks pm, (f, n, ks, pm) ∈ c.kws → KBn K fd ps n ks (gK Value.none pm) (gK V.non pm)
structure TabOk (c : Ck) (K : PySem.W.Frag) (mg : Str → Option Value) (fa : Nat → Addr) (T : Nat → Option Fd) (G : Nat → D) : Prop where
  defs : ∀ f F, T f = some F → DefOk c K fa f F
  fns : ∀ x f np, c.fns.lookup x = some (f, np) → mg x = some (.ref (fa f)) ∧ ∃ F, T f = some F ∧ F.ps = np
  nam : ∀ f F, T f = some F → ∃ x, c.fns.lookup x = some (f, F.ps)
  gls : ∀ x i, c.gls.lookup x = some i → ∃ u v, mg x = some u ∧ RelV v u ∧ ∀ H m β ρ n, RD K fa H m β ρ n (G i) v
  bln : ∀ x ∈ blNames, mg x = none
  ims : ∀ x f, c.ims.lookup x = some f → mg x = some (imV f)
  prm : c.perm = true → mg "permutations" = some (.type "itertools.permutations")
section
variable {P : Program} {w : World} {K : PySem.W.Frag} {mg : Str → Option Value} {base : Heap} {c : Ck} {fa : Nat → Addr} {T : Nat → Option Fd} {G : Nat → D} {W : Nat} {ca : Nat → Addr} {xn : Nat → Str}
theorem call_some {n f : Nat} {ds : List D} {st : Sto} {A : D → Sto → Prop} {B : Nat → D → Sto → Prop} (h : RP (PL.call T G W n f ds st) A B) : ∃ F, T f = some F ∧ ds.length = F.ps := by
  cases n with
  | zero => exact h.elim
  | succ n =>
    unfold PL.call at h
    cases hT : T f with
    | none => rw [hT] at h; exact h.elim
    | some F =>
      rw [hT] at h
      by_cases hl : ds.length = F.ps
      · exact ⟨F, rfl, hl⟩
      · have h : RP (if ds.length = F.ps then fin st.length (exs (PL.call T G W n) G W F.body (ds.map some ++ List.replicate (F.nl - F.ps) none) st) else .bad) A B := h
        rw [if_neg hl] at h
        exact h.elim
theorem start_re {N : List Str} {vs : List V} {ds : List D} {H : Hp} {β ρ : List Addr} {st : Sto} {F : Fd} (r : RDs K fa H (Mu ρ st) β ρ st.length ds vs) (hl : ds.length = F.ps) (hn : N.length = F.nl) (hle : F.ps ≤ F.nl) :
    RE K fa β ρ (ds.map some ++ List.replicate (F.nl - F.ps) none) st (L2.start N vs) H := by
  have e := r.length
  refine ⟨?_, fun i d h => ?_⟩
  · unfold L2.start
    simp only [List.length_append, List.length_map, List.length_replicate]
    omega
  · have hi : i < ds.length := by
      by_cases hi : i < ds.length
      · exact hi
      · rw [List.getElem?_append_right (by simpa using hi), List.getElem?_replicate] at h
        split at h <;> cases h
    rw [List.getElem?_append_left (by simpa using hi), List.getElem?_map] at h
    cases hd : ds[i]? with
    | none => rw [hd] at h; cases h
    | some d' =>
      rw [hd] at h
      cases h
      obtain ⟨v, hv, rv⟩ := r.get hd
      refine ⟨v, ?_, rv⟩
      unfold L2.start
      rw [List.getElem?_append_left (by rw [List.length_map, ← e]; exact hi), List.getElem?_map, hv]
      rfl
/-- what a def of the table promises, so many calls deep -/
def Keeps (P : Program) (w : World) (K : PySem.W.Frag) (mg : Str → Option Value) (base : Heap) (c : Ck) (fa : Nat → Addr) (T : Nat → Option Fd) (G : Nat → D) (W : Nat) (ca : Nat → Addr) (xn : Nat → Str) (n f np : Nat) (fd : FuncData) (ps : List Str) : Prop :=
  FnOk P w K mg base (L2.CX P w) n (fa f) fd ps (spC K ⟨fa, ca, xn, PL.call T G W n, G, W, fun _ _ _ => False⟩ (PL.call T G W n) f np)
theorem fn_one (hT : TabOk c K mg fa T G) {n f : Nat} {F : Fd} (hF : T f = some F)
    (ih : ∀ (f : Nat) (F : Fd), T f = some F → ∃ fd ps, Keeps P w K mg base c fa T G W ca xn n f F.ps fd ps ∧ PySem.W.keepIn K (.ref (fa f)) = true ∧ Binds K fd ps [] ∧ ∀ n ks pm, (f, n, ks, pm) ∈ c.kws → KBn K fd ps n ks (gK Value.none pm) (gK V.non pm))
    {x qual : Str} {params : Arguments} {body : List Stmt} {scope : Scope} {fd : FuncData} {N ps : List Str} (FD : FunD K x qual params body scope [] [] (fa f) fd) (S : FnScope N ps scope) (hp : ps.length = F.ps) (hn : N.length = F.nl) (hk : kSs c N F.body scope body = true) :
    Keeps P w K mg base c fa T G W ca xn (n + 1) f F.ps fd ps := by
  have hle : F.ps ≤ F.nl := by
    rw [← hp, ← hn]
    have := congrArg List.length S.pre
    rw [List.length_take] at this
    omega
  refine FD.ok S (fun vs H Q E h => ?_) fun cdv A outer s H vs Q E hr h => ?_
  · obtain ⟨β, ρ, st, ds, _, r, hl, _⟩ := h
    rw [← r.length, hl, hp]
  · obtain ⟨β, ρ, st, ds, Sr, r, hl, g⟩ := h
    let X := cxOf (L2.CX P w) P w K mg base N qual scope (fa f) cdv A outer s H E
    have C : CxOk c N n X ⟨fa, ca, xn, PL.call T G W n, G, W, E⟩ := by
      exact {
        N := rfl
        nd := S.nd
        calm := rfl
        units := by
          have := hr.un
          show (A.deeper _).units + 65 < cLine
          omega
        room := hr
        pas := passes_of rfl
        cx := passes_call (W := fun cls d _ H => E cls d H) (takes_of rfl rfl rfl rfl) fun _ _ _ _ z => z
        kind := S.kind
        fns := fun x f np hx => by
          obtain ⟨hm, F', hF', rfl⟩ := hT.fns x f np hx
          obtain ⟨fd', ps', h1, h2, h3, h4⟩ := ih f F' hF'
          refine ⟨hm, h2, fun ds st hc => ?_, fd', ps', h1, h3, h4⟩
          obtain ⟨F2, e2, e3⟩ := call_some hc
          rw [hF'] at e2
          cases e2
          exact e3
        any := fun f ds st hc => by
          obtain ⟨F2, e2, e3⟩ := call_some hc
          obtain ⟨x, hx⟩ := hT.nam f F2 e2
          exact ⟨x, by rw [e3]; exact hx⟩
        gls := hT.gls
        bln := hT.bln
        ims := hT.ims
        prm := hT.prm }
    refine ⟨tSs K ⟨fa, ca, xn, PL.call T G W n, G, W, E⟩ F.body, sSs F.body C (fun x hx => rfl) hk, β, ρ, _, st, start_re r hl hn hle, Sr, ?_⟩
    unfold PL.call at g
    rw [hF] at g
    have g : RP (if ds.length = F.ps then fin st.length (exs (PL.call T G W n) G W F.body (ds.map some ++ List.replicate (F.nl - F.ps) none) st) else .bad) _ _ := g
    rw [if_pos hl] at g
    unfold fin at g
    refine g.bind.imp (fun fl st' g2 => ?_) fun c d st' g2 => g2
    cases fl with
    | rt d => exact back_ok Sr g2
    | nx env' =>
      have g3 := back_ok Sr g2
      exact fun σ' H' ρ' a S' e' => g3 .non H' ρ' a S' .non
    | bk env' => exact g2.elim
    | ct env' => exact g2.elim
theorem fn_ok (hT : TabOk c K mg fa T G) : ∀ (n f : Nat) (F : Fd), T f = some F → ∃ fd ps, Keeps P w K mg base c fa T G W ca xn n f F.ps fd ps ∧ PySem.W.keepIn K (.ref (fa f)) = true ∧ Binds K fd ps [] ∧
    ∀ n ks pm, (f, n, ks, pm) ∈ c.kws → KBn K fd ps n ks (gK Value.none pm) (gK V.non pm)
  | 0, f, F, hF => by
    obtain ⟨x, qual, params, body, scope, fd, N, ps, FD, S, hp, hn, hk, hb, hkw⟩ := hT.defs f F hF
    refine ⟨fd, ps, ⟨fun vs H Q E h => ?_, fun A outer s H args us vs Q E hr e0 hb r h => ?_⟩, FD.kp, hb, hkw⟩
    · obtain ⟨_, _, _, _, _, _, _, z⟩ := h
      exact z.elim
    · obtain ⟨_, _, _, _, _, _, _, z⟩ := h
      exact z.elim
  | n + 1, f, F, hF => by
    obtain ⟨x, qual, params, body, scope, fd, N, ps, FD, S, hp, hn, hk, hb, hkw⟩ := hT.defs f F hF
    exact ⟨fd, ps, fn_one hT hF (fn_ok hT n) FD S hp hn hk, FD.kp, hb, hkw⟩
theorem keeps_cx {CX CX' : CXT} {k : Nat} {f : Addr} {fd : FuncData} {ps : List Str} {sp : Sp} (F : FnOk P w K mg base CX k f fd ps sp) (h : ∀ o H s E e s', CX o H s E e s' → CX' o H s E e s') : FnOk P w K mg base CX' k f fd ps sp :=
  ⟨F.len, fun A outer s H args us vs Q E a b d e g => codeAny_mono (F.run A outer s H args us vs Q E a b d e g) fun r s' q => by
    cases r with
    | error e => exact h _ _ _ _ _ _ q
    | ok fl => cases fl <;> exact q⟩
end
end PL

set_option Elab.async false
set_option linter.all false
set_option maxRecDepth 100000
set_option maxHeartbeats 1000000
/-! How the interpreter is reasoned about. -/
namespace PL
theorem back_self (d : D) (st : Sto) : back st.length d st = .ok d st := if_pos rfl
theorem back_len {d : D} {st st' : Sto} (h : st'.length = st.length) : back st.length d st' = .ok d st' := if_pos h
section
variable {T : Nat → Option Fd} {G : Nat → D} {W : Nat} {C : Nat → List D → Sto → R D}
/-- a call that leaves the store as it is -/
def Cl (T : Nat → Option Fd) (G : Nat → D) (W k f : Nat) (as : List D) (d : D) : Prop := ∀ n, k ≤ n → ∀ st, call T G W n f as st = .ok d st
theorem call_eq {n f : Nat} {as : List D} {st : Sto} {F : Fd} (hT : T f = some F) (hl : as.length = F.ps) : call T G W (n + 1) f as st = fin st.length (exs (call T G W n) G W F.body (as.map some ++ List.replicate (F.nl - F.ps) none) st) := by
  show (match T f with
    | none => R.bad
    | some F => if as.length = F.ps then fin st.length (exs (call T G W n) G W F.body (as.map some ++ List.replicate (F.nl - F.ps) none) st) else .bad) = _
  rw [hT]
  exact if_pos hl
theorem call_rt {n f : Nat} {as : List D} {st st' : Sto} {F : Fd} {d : D} (hT : T f = some F) (hl : as.length = F.ps) (hs : st'.length = st.length) (h : exs (call T G W n) G W F.body (as.map some ++ List.replicate (F.nl - F.ps) none) st = .ok (.rt d) st') : call T G W (n + 1) f as st = .ok d st' := by
  rw [call_eq hT hl, h]
  exact back_len hs
theorem call_nx {n f : Nat} {as : List D} {st st' : Sto} {F : Fd} {e : Env} (hT : T f = some F) (hl : as.length = F.ps) (hs : st'.length = st.length) (h : exs (call T G W n) G W F.body (as.map some ++ List.replicate (F.nl - F.ps) none) st = .ok (.nx e) st') : call T G W (n + 1) f as st = .ok .non st' := by
  rw [call_eq hT hl, h]
  exact back_len hs
theorem Cl.rt {k f : Nat} {as : List D} {F : Fd} {d : D} (hT : T f = some F) (hl : as.length = F.ps) (h : ∀ n, k ≤ n → ∀ st, exs (call T G W n) G W F.body (as.map some ++ List.replicate (F.nl - F.ps) none) st = .ok (.rt d) st) : Cl T G W (k + 1) f as d := fun n hn st => by
  obtain ⟨m, rfl⟩ : ∃ m, n = m + 1 := ⟨n - 1, by omega⟩
  exact call_rt hT hl rfl (h m (by omega) st)
theorem Cl.nx {k f : Nat} {as : List D} {F : Fd} (hT : T f = some F) (hl : as.length = F.ps) (h : ∀ n, k ≤ n → ∀ st, ∃ e, exs (call T G W n) G W F.body (as.map some ++ List.replicate (F.nl - F.ps) none) st = .ok (.nx e) st) : Cl T G W (k + 1) f as .non := fun n hn st => by
  obtain ⟨m, rfl⟩ : ∃ m, n = m + 1 := ⟨n - 1, by omega⟩
  obtain ⟨e, h⟩ := h m (by omega) st
  exact call_nx hT hl rfl h
theorem Cl.le {j k f : Nat} {as : List D} {d : D} (h : Cl T G W j f as d) (l : j ≤ k) : Cl T G W k f as d := fun n hn => h n (Nat.le_trans l hn)
/-! ### loops -/
theorem compL_eq {f : D → Sto → R (Option D)} {st : Sto} (g : D → Option D) : ∀ {ds : List D}, (∀ d ∈ ds, f d st = .ok (g d) st) → compL f ds st = .ok (ds.filterMap g) st
  | [], _ => rfl
  | d :: ds, h => by
    have e := compL_eq g (ds := ds) fun x hx => h x (List.mem_cons_of_mem _ hx)
    simp only [compL, h d (List.mem_cons_self ..), R.bind]
    cases hg : g d with
    | none => simp only [e, List.filterMap_cons, hg]
    | some y => simp only [e, List.filterMap_cons, hg]
def compB (C : Nat → List D → Sto → R D) (G : Nat → D) (own : List Nat) (elt : E) (tg : Tg) (c : Oe) (env : Env) (x : D) (s2 : Sto) : R (Option D) := (evt C G tg x (wipe env own) s2).bind fun env2 s3 => (evc C G c env2 s3).bind fun b s4 => if b then (ev C G elt env2 s4).bind fun y s5 => .ok (some y) s5 else .ok none s4
theorem ev_lc {own : List Nat} {elt : E} {tg : Tg} {it : It} {c : Oe} {env : Env} {st : Sto} {ds : List D} (g : D → Option D) (hit : evi C G it env st = .ok (ds, []) st) (hz : szOk ds.length = true) (h : ∀ d ∈ ds, compB C G own elt tg c env d st = .ok (g d) st) :
    ev C G (.comp own elt tg it c) env st = .ok (.frz (ds.filterMap g)) st := by
  simp only [ev, hit, R.bind]
  rw [if_pos hz]
  have e := compL_eq g h
  show (((compL (compB C G own elt tg c env) ds st).noX.unl []).bind fun ds s6 => R.ok (D.frz ds) s6) = _
  rw [e]
  rfl
theorem forL_nx {f : D → Env → Sto → R Fl} (P : Nat → Env → Sto → Prop) : ∀ {ds : List D} {k : Nat} {env : Env} {st : Sto}, P k env st → (∀ i d, ds[i]? = some d → ∀ env st, P (k + i) env st → ∃ env' st', (f d env st = .ok (.nx env') st' ∨ f d env st = .ok (.ct env') st') ∧ P (k + i + 1) env' st') →
    ∃ env' st', forL f ds env st = .ok (.nx env') st' ∧ P (k + ds.length) env' st'
  | [], k, env, st, h0, _ => ⟨env, st, rfl, h0⟩
  | d :: ds, k, env, st, h0, hs => by
    obtain ⟨e1, s1, h1, p1⟩ := hs 0 d rfl env st h0
    obtain ⟨e2, s2, h2, p2⟩ := forL_nx P (k := k + 1) (ds := ds) p1 (fun i x hx env st p => by
      have q := hs (i + 1) x (by simpa using hx) env st (by rw [show k + (i + 1) = k + 1 + i by omega]; exact p)
      rw [show k + (i + 1) + 1 = k + 1 + i + 1 by omega] at q
      exact q)
    refine ⟨e2, s2, ?_, by rw [show k + (d :: ds).length = k + 1 + ds.length by simp; omega]; exact p2⟩
    rcases h1 with h1 | h1 <;> simp only [forL, h1, R.bind, h2]
/-- a for over what needs no lock -/
theorem ex_for {t : Tg} {it : It} {b : Ss} {env : Env} {st : Sto} {ds : List D} (P : Nat → Env → Sto → Prop) (hit : evi C G it env st = .ok (ds, []) st) (h0 : P 0 env st)
    (hs : ∀ i d, ds[i]? = some d → ∀ env st, P i env st → ∃ env' st', (((evt C G t d env st).bind fun env2 s3 => exs C G W b env2 s3) = .ok (.nx env') st' ∨ ((evt C G t d env st).bind fun env2 s3 => exs C G W b env2 s3) = .ok (.ct env') st') ∧ P (i + 1) env' st') :
    ∃ env' st', ex C G W (.fr t it b) env st = .ok (.nx env') st' ∧ P ds.length env' st' := by
  obtain ⟨e, s, h, p⟩ := forL_nx (f := fun x env s2 => (evt C G t x env s2).bind fun env2 s3 => exs C G W b env2 s3) P (k := 0) (ds := ds) h0 (fun i d hd env st p => by
    simp only [Nat.zero_add] at p ⊢
    exact hs i d hd env st p)
  refine ⟨e, s, ?_, by simpa using p⟩
  simp only [ex, hit, R.bind]
  show ((forL (fun x env s2 => (evt C G t x env s2).bind fun env2 s3 => exs C G W b env2 s3) ds env st).unl []) = _
  rw [h]
  rfl
theorem exs_cons {s : S} {ss : Ss} {env env' : Env} {st st' : Sto} (h : ex C G W s env st = .ok (.nx env') st') : exs C G W (.cons s ss) env st = exs C G W ss env' st' := by
  simp only [exs, h, R.bind]
theorem exs_rt {s : S} {ss : Ss} {env : Env} {st st' : Sto} {d : D} (h : ex C G W s env st = .ok (.rt d) st') : exs C G W (.cons s ss) env st = .ok (.rt d) st' := by
  simp only [exs, h, R.bind]
end
/-! ### the steps, for simp -/
section
variable {C : Nat → List D → Sto → R D} {G : Nat → D} {W : Nat} {env : Env} {st : Sto}
@[simp] theorem bind_ok {α β : Type} {a : α} {s : Sto} {f : α → Sto → R β} : (R.ok a s).bind f = f a s := Eq.trans rfl rfl
@[simp] theorem bind_exn {α β : Type} {c : Nat} {d : D} {s : Sto} {f : α → Sto → R β} : (R.exn c d s : R α).bind f = .exn c d s := Eq.trans rfl rfl
@[simp] theorem bind_bad {α β : Type} {f : α → Sto → R β} : (R.bad : R α).bind f = .bad := Eq.trans rfl rfl
@[simp] theorem tru_bl {b : Bool} : tru (.bl b) st = .ok b st := Eq.trans rfl rfl
@[simp] theorem toI_int {i : Int} : toI (.int i) st = .ok i st := Eq.trans rfl rfl
@[simp] theorem oD_some {α : Type} {a : α} : oD (some a) st = .ok a st := Eq.trans rfl rfl
@[simp] theorem x_non : ev C G .non env st = .ok .non st := by simp only [ev]
@[simp] theorem x_bl {b : Bool} : ev C G (.bl b) env st = .ok (.bl b) st := by simp only [ev]
@[simp] theorem x_int {i : Int} : ev C G (.int i) env st = .ok (.int i) st := by simp only [ev]
@[simp] theorem x_str {z : List Nat} : ev C G (.str z) env st = .ok (.str z) st := by simp only [ev]
@[simp] theorem x_var {i : Nat} : ev C G (.var i) env st = (match env[i]? with | some (some d) => .ok d st | _ => .bad) := by
  simp only [ev]
  try rfl
@[simp] theorem x_glb {k : Nat} : ev C G (.glb k) env st = .ok (G k) st := by simp only [ev]
@[simp] theorem x_fnv {k : Nat} : ev C G (.fnv k) env st = .ok (.fn k) st := by simp only [ev]
@[simp] theorem x_bin {o : Op} {a b : E} : ev C G (.bin o a b) env st = (ev C G a env st).bind fun x s1 => (ev C G b env s1).bind fun y s2 => oD (bop s2 o x y) s2 := by simp only [ev]
@[simp] theorem x_neg {a : E} : ev C G (.neg a) env st = (ev C G a env st).bind fun x s1 => (toI x s1).bind fun i s2 => .ok (.int (-i)) s2 := by simp only [ev]
@[simp] theorem x_not {a : E} : ev C G (.not a) env st = (ev C G a env st).bind fun x s1 => (tru x s1).bind fun b s2 => .ok (.bl (!b)) s2 := by simp only [ev]
@[simp] theorem x_and {a b : E} : ev C G (.and a b) env st = (ev C G a env st).bind fun x s1 => (tru x s1).bind fun c s2 => if c then ev C G b env s2 else .ok (.bl false) s2 := by simp only [ev]
@[simp] theorem x_or {a b : E} : ev C G (.or a b) env st = (ev C G a env st).bind fun x s1 => (tru x s1).bind fun c s2 => if c then .ok (.bl true) s2 else ev C G b env s2 := by simp only [ev]
@[simp] theorem x_cmp {o : Cm} {a b : E} : ev C G (.cmp o a b) env st = (ev C G a env st).bind fun x s1 => (ev C G b env s1).bind fun y s2 => (oD (cop s2 o x y) s2).bind fun c s3 => .ok (.bl c) s3 := by simp only [ev]
@[simp] theorem x_chn {o p : Cm} {a b c : E} : ev C G (.chn o p a b c) env st = (ev C G a env st).bind fun x s1 => (ev C G b env s1).bind fun y s2 => (oD (cop s2 o x y) s2).bind fun q s3 => if q then (ev C G c env s3).bind fun z s4 => (oD (cop s4 p y z) s4).bind fun r s5 => .ok (.bl r) s5 else .ok (.bl false) s3 := by simp only [ev]
@[simp] theorem x_ife {c a b : E} : ev C G (.ife c a b) env st = (ev C G c env st).bind fun x s1 => (tru x s1).bind fun q s2 => if q then ev C G a env s2 else ev C G b env s2 := by simp only [ev]
@[simp] theorem x_call {f : Nat} {as : Es} : ev C G (.call f as) env st = (evs C G as env st).bind fun ds s1 => C f ds s1 := by simp only [ev]
@[simp] theorem x_callk {f : Nat} {as ks : Es} {pm : List Nat} : ev C G (.callk f as ks pm) env st = (evs C G as env st).bind fun ds s1 => (evs C G ks env s1).bind fun es s2 => C f (pm.map fun j => (ds ++ es).getD j .non) s2 := by simp only [ev]
@[simp] theorem x_callv {i : Nat} {as : Es} : ev C G (.callv i as) env st = (match env[i]? with | some (some (.fn f)) => (evs C G as env st).noX.bind fun ds s1 => C f ds s1 | _ => .bad) := by
  simp only [ev]
  try rfl
@[simp] theorem noX_okk {α : Type} {a : α} : (R.ok a st).noX = .ok a st := Eq.trans rfl rfl
@[simp] theorem x_blt {b : Bl} {as : Es} : ev C G (.blt b as) env st = (evs C G as env st).bind fun ds s1 => oD (bcall s1 b ds) s1 := by simp only [ev]
@[simp] theorem x_isi {a : E} {t : Ty} : ev C G (.isi a t) env st = (ev C G a env st).bind fun x s1 => oD ((isInst t x).map .bl) s1 := by simp only [ev]
@[simp] theorem x_mth {m : Mt} {o : E} {as : Es} : ev C G (.mth m o as) env st = (ev C G o env st).bind fun x s1 => if mOk m x then (evs C G as env s1).bind fun ds s2 => mcall s2 m x ds else .bad := by simp only [ev]
@[simp] theorem x_idx {a b : E} : ev C G (.idx a b) env st = (ev C G a env st).bind fun x s1 => (ev C G b env s1).bind fun y s2 => (toI y s2).bind fun i s3 => oD (ixD s3 x i) s3 := by simp only [ev]
@[simp] theorem x_slc {a : E} {lo hi : Oe} : ev C G (.slc a lo hi) env st = (ev C G a env st).bind fun x s1 => (evo C G lo env s1).bind fun l s2 => (evo C G hi env s2).bind fun h s3 => oD (slD s3 x l h) s3 := by simp only [ev]
@[simp] theorem x_tup {as : Es} : ev C G (.tup as) env st = (evs C G as env st).bind fun ds s1 => if szOk ds.length then .ok (.tup ds) s1 else .bad := by simp only [ev]
@[simp] theorem x_list {as : Es} : ev C G (.list as) env st = (evs C G as env st).bind fun ds s1 => if szOk ds.length then .ok (.frz ds) s1 else .bad := by simp only [ev]
@[simp] theorem x_thaw {a : E} : ev C G (.thaw a) env st = (ev C G a env st).bind fun x s1 => thawD x s1 := by simp only [ev]
@[simp] theorem x_frz {a : E} : ev C G (.frz a) env st = (ev C G a env st).bind fun x s1 => frzD x s1 := by simp only [ev]
@[simp] theorem thaw_frz {ds : List D} : thawD (.frz ds) st = .ok (.lst st.length) (st ++ [.lst ds]) := Eq.trans rfl rfl
@[simp] theorem x_rgv {tp : Bool} {lo : Oe} {b : E} : ev C G (.rgv tp lo b) env st = (evo C G lo env st).bind fun l s1 => (ev C G b env s1).bind fun y s2 => (toI y s2).bind fun j s3 => if rngOk (l.getD 0) && (rngOk j && szOk (j - l.getD 0).toNat) then .ok (if tp then .tup (rngD (l.getD 0) (j - l.getD 0).toNat) else .frz (rngD (l.getD 0) (j - l.getD 0).toNat)) s3 else .bad := by simp only [ev]
@[simp] theorem xs_nil : evs C G .nil env st = .ok [] st := by simp only [evs]
@[simp] theorem xs_cons {e : E} {es : Es} : evs C G (.cons e es) env st = (ev C G e env st).bind fun x s1 => (evs C G es env s1).bind fun xs s2 => .ok (x :: xs) s2 := by simp only [evs]
@[simp] theorem xo_none : evo C G .none env st = .ok none st := by simp only [evo]
@[simp] theorem xo_some {e : E} : evo C G (.some e) env st = (ev C G e env st).bind fun x s1 => (toI x s1).bind fun i s2 => .ok (some i) s2 := by simp only [evo]
@[simp] theorem xc_none : evc C G .none env st = .ok true st := by simp only [evc]
@[simp] theorem xc_some {e : E} : evc C G (.some e) env st = (ev C G e env st).bind fun x s1 => tru x s1 := by simp only [evc]
@[simp] theorem xi_val {e : E} : evi C G (.val e) env st = (ev C G e env st).bind fun x s1 => oD (walk s1 x) s1 := by simp only [evi]
@[simp] theorem xi_rng1 {a : E} : evi C G (.rng1 a) env st = (ev C G a env st).bind fun x s1 => (toI x s1).bind fun i s2 => if rngOk i then .ok (rngD 0 i.toNat, []) s2 else .bad := by simp only [evi]
@[simp] theorem xi_rng2 {a b : E} : evi C G (.rng2 a b) env st = (ev C G a env st).bind fun x s1 => (ev C G b env s1).bind fun y s2 => (toI x s2).bind fun i s3 => (toI y s3).bind fun j s4 => if rngOk i && rngOk j then .ok (rngD i (j - i).toNat, []) s4 else .bad := by simp only [evi]
@[simp] theorem xi_enum {e : E} : evi C G (.enum e) env st = (ev C G e env st).bind fun x s1 => (oD (walk s1 x) s1).bind fun p s2 => .ok (enumD p.1, p.2) s2 := by simp only [evi]
@[simp] theorem xi_zip {a b : E} : evi C G (.zip a b) env st = (ev C G a env st).bind fun x s1 => (ev C G b env s1).bind fun y s2 => (oD (walk s2 x) s2).bind fun p s3 => (oD (walk (lock s3 p.2) y) s3).bind fun q s4 => .ok (zipD p.1 q.1, p.2 ++ q.2) s4 := by simp only [evi]
@[simp] theorem lock_nil : lock st [] = st := Eq.trans rfl rfl
@[simp] theorem xt_var {i : Nat} {d : D} : evt C G (.var i) d env st = if i < env.length then .ok (env.set i (some d)) st else .bad := by simp only [evt]
@[simp] theorem xt_idx {a b : E} {d : D} : evt C G (.idx a b) d env st = (ev C G a env st).bind fun x s1 => (ev C G b env s1).bind fun y s2 => (toI y s2).bind fun k s3 => (match x with
      | .lst i => (match s3[i]? with
        | some (.lst ds) => if refsLt i d then (match ixN ds.length k with | some j => .ok env (s3.set i (.lst (ds.set j d))) | none => .bad) else .bad
        | _ => .bad)
      | _ => .bad) := by
  simp only [evt]
  try rfl
@[simp] theorem xt_tup {ts : Tgs} {ds : List D} : evt C G (.tup ts) (.tup ds) env st = if ds.length = tgLen ts then evts C G ts ds env st else .bad := by simp only [evt]
@[simp] theorem xts_nil : evts C G .nil [] env st = .ok env st := by simp only [evts]
@[simp] theorem xts_cons {t : Tg} {ts : Tgs} {d : D} {r : List D} : evts C G (.cons t ts) (d :: r) env st = (evt C G t d env st).bind fun env1 s1 => evts C G ts r env1 s1 := by simp only [evts]
@[simp] theorem tg_nil : tgLen .nil = 0 := Eq.trans rfl rfl
@[simp] theorem tg_cons {t : Tg} {ts : Tgs} : tgLen (.cons t ts) = tgLen ts + 1 := Eq.trans rfl rfl
@[simp] theorem e_asg {t : Tg} {e : E} : ex C G W (.asg t e) env st = (ev C G e env st).bind fun x s1 => (evt C G t x env s1).bind fun env1 s2 => .ok (.nx env1) s2 := by simp only [ex]
@[simp] theorem e_par {is : List Nat} {es : Es} : ex C G W (.par is es) env st = (evs C G es env st).bind fun ds s1 => if ds.length = is.length then .ok (.nx (asgs is ds env)) s1 else .bad := by simp only [ex]
@[simp] theorem e_ifs {c : E} {a b : Ss} : ex C G W (.ifs c a b) env st = (ev C G c env st).bind fun x s1 => (tru x s1).bind fun q s2 => if q then exs C G W a env s2 else exs C G W b env s2 := by simp only [ex]
@[simp] theorem e_ret {e : E} : ex C G W (.ret e) env st = (ev C G e env st).bind fun x s1 => .ok (.rt x) s1 := by simp only [ex]
@[simp] theorem e_retn : ex C G W .retn env st = .ok (.rt .non) st := by simp only [ex]
@[simp] theorem e_exp {e : E} : ex C G W (.exp e) env st = (ev C G e env st).bind fun _ s1 => .ok (.nx env) s1 := by simp only [ex]
@[simp] theorem e_pas : ex C G W .pas env st = .ok (.nx env) st := by simp only [ex]
@[simp] theorem es_nil : exs C G W .nil env st = .ok (.nx env) st := by simp only [exs]
@[simp] theorem es_cons {s : S} {ss : Ss} : exs C G W (.cons s ss) env st = (ex C G W s env st).bind fun fl s1 => match fl with
    | .nx env1 => exs C G W ss env1 s1
    | fl => .ok fl s1 := by
  simp only [exs]
  try rfl
@[simp] theorem asgs_nil {ds : List D} : asgs [] ds env = env := Eq.trans rfl rfl
@[simp] theorem asgs_cons {i : Nat} {is : List Nat} {d : D} {ds : List D} : asgs (i :: is) (d :: ds) env = asgs is ds (env.set i (some d)) := Eq.trans rfl rfl
@[simp] theorem o_int {o : Op} {i j : Int} : bop st o (.int i) (.int j) = (iop o i j).map .int := Eq.trans rfl rfl
@[simp] theorem i_add {i j : Int} : iop .add i j = some (i + j) := Eq.trans rfl rfl
@[simp] theorem i_sub {i j : Int} : iop .sub i j = some (i - j) := Eq.trans rfl rfl
@[simp] theorem i_mul {i j : Int} : iop .mul i j = if small i || small j then some (i * j) else none := Eq.trans rfl rfl
@[simp] theorem i_fdiv {i j : Int} : iop .fdiv i j = if decide (0 < j) && decide (j < 1073741824) then some (i / j) else none := Eq.trans rfl rfl
@[simp] theorem i_mod {i j : Int} : iop .mod i j = if 0 < j then some (i % j) else none := Eq.trans rfl rfl
@[simp] theorem o_str {a b : List Nat} : bop st .add (.str a) (.str b) = if szOk (a.length + b.length) then some (.str (a ++ b)) else none := Eq.trans rfl rfl
@[simp] theorem o_tup {a b : List D} : bop st .add (.tup a) (.tup b) = if szOk (a.length + b.length) then some (.tup (a ++ b)) else none := Eq.trans rfl rfl
@[simp] theorem o_frz {a b : List D} : bop st .add (.frz a) (.frz b) = if szOk (a.length + b.length) then some (.frz (a ++ b)) else none := Eq.trans rfl rfl
@[simp] theorem o_rep {a : List D} {k : Int} : bop st .mul (.frz a) (.int k) = rep a k := Eq.trans rfl rfl
@[simp] theorem c_lt {i j : Int} : cop st .lt (.int i) (.int j) = some (decide (i < j)) := Eq.trans rfl rfl
@[simp] theorem c_gt {i j : Int} : cop st .gt (.int i) (.int j) = some (decide (j < i)) := Eq.trans rfl rfl
@[simp] theorem c_le {i j : Int} : cop st .le (.int i) (.int j) = some (decide (i ≤ j)) := Eq.trans rfl rfl
@[simp] theorem c_ge {i j : Int} : cop st .ge (.int i) (.int j) = some (decide (j ≤ i)) := Eq.trans rfl rfl
@[simp] theorem c_eqI {i j : Int} : cop st .eq (.int i) (.int j) = some (i == j) := Eq.trans rfl rfl
@[simp] theorem c_neI {i j : Int} : cop st .ne (.int i) (.int j) = some (!(i == j)) := Eq.trans rfl rfl
@[simp] theorem c_eqB {i j : Bool} : cop st .eq (.bl i) (.bl j) = some (i == j) := Eq.trans rfl rfl
@[simp] theorem c_neB {i j : Bool} : cop st .ne (.bl i) (.bl j) = some (!(i == j)) := Eq.trans rfl rfl
@[simp] theorem c_isN {x : D} : cop st .is x .non = some (isNon x) := Eq.trans rfl rfl
@[simp] theorem c_isnN {x : D} : cop st .isn x .non = some (!(isNon x)) := Eq.trans rfl rfl
@[simp] theorem c_isB {a b : Bool} : cop st .is (.bl a) (.bl b) = some (a == b) := Eq.trans rfl rfl
@[simp] theorem c_isnB {a b : Bool} : cop st .isn (.bl a) (.bl b) = some (!(a == b)) := Eq.trans rfl rfl
@[simp] theorem isNon_int {i : Int} : isNon (.int i) = false := Eq.trans rfl rfl
@[simp] theorem isNon_non : isNon .non = true := Eq.trans rfl rfl
@[simp] theorem lv_frz {ds : List D} : lv st (.frz ds) = some ds := Eq.trans rfl rfl
@[simp] theorem lv_scr {ds : List D} : lv st (.scr ds) = some ds := Eq.trans rfl rfl
@[simp] theorem sv_frz {ds : List D} : sv st (.frz ds) = some ds := Eq.trans rfl rfl
@[simp] theorem sv_scr {ds : List D} : sv st (.scr ds) = some ds := Eq.trans rfl rfl
@[simp] theorem sv_tup {ds : List D} : sv st (.tup ds) = some ds := Eq.trans rfl rfl
@[simp] theorem sv_lst {i : Nat} : sv st (.lst i) = lv st (.lst i) := Eq.trans rfl rfl
theorem lv_lst {i : Nat} {ds : List D} (h : st[i]? = some (.lst ds)) : lv st (.lst i) = some ds := by
  show (match st[i]? with | some o => some o.its | none => none) = _
  rw [h]
  rfl
@[simp] theorem walk_tup {ds : List D} : walk st (.tup ds) = some (ds, []) := Eq.trans rfl rfl
@[simp] theorem walk_frz {ds : List D} : walk st (.frz ds) = some (ds, []) := Eq.trans rfl rfl
@[simp] theorem walk_scr {ds : List D} : walk st (.scr ds) = some (ds, []) := Eq.trans rfl rfl
@[simp] theorem walk_str {z : List Nat} : walk st (.str z) = some (z.map fun c => .str [c], []) := Eq.trans rfl rfl
@[simp] theorem ix_tup {ds : List D} {i : Int} : ixD st (.tup ds) i = atI ds i := Eq.trans rfl rfl
@[simp] theorem ix_frz {ds : List D} {i : Int} : ixD st (.frz ds) i = atI ds i := Eq.trans rfl rfl
@[simp] theorem ix_scr {ds : List D} {i : Int} : ixD st (.scr ds) i = atI ds i := Eq.trans rfl rfl
@[simp] theorem ix_str {z : List Nat} {i : Int} : ixD st (.str z) i = if szOk z.length then (atI z i).map fun c => .str [c] else none := Eq.trans rfl rfl
theorem ix_lst {i : Nat} {ds : List D} {k : Int} (h : st[i]? = some (.lst ds)) : ixD st (.lst i) k = atI ds k := by
  show (lv st (.lst i)).bind (fun ds => atI ds k) = _
  rw [lv_lst h]
  rfl
theorem at_nat {α : Type} {xs : List α} {k : Nat} (h : k < xs.length) : atI xs (k : Nat) = xs[k]? := by
  unfold atI ixN
  rw [if_pos (by omega), if_pos (by omega)]
  rfl
@[simp] theorem b_len {d : D} : bcall st .len [d] = (lenD st d).map .int := Eq.trans rfl rfl
@[simp] theorem len_tup {ds : List D} : lenD st (.tup ds) = some (ds.length : Int) := Eq.trans rfl rfl
@[simp] theorem len_frz {ds : List D} : lenD st (.frz ds) = some (ds.length : Int) := Eq.trans rfl rfl
@[simp] theorem len_scr {ds : List D} : lenD st (.scr ds) = some (ds.length : Int) := Eq.trans rfl rfl
@[simp] theorem len_str {z : List Nat} : lenD st (.str z) = if szOk z.length then some (z.length : Int) else none := Eq.trans rfl rfl
theorem len_lst {i : Nat} {ds : List D} (h : st[i]? = some (.lst ds)) : lenD st (.lst i) = some (ds.length : Int) := by
  show (lv st (.lst i)).map _ = _
  rw [lv_lst h]
  rfl
@[simp] theorem b_sum {d : D} : bcall st .sum [d] = ((sv st d).bind intsOf).map fun ns => .int ns.sum := Eq.trans rfl rfl
@[simp] theorem b_all {d : D} : bcall st .all [d] = ((lv st d).bind blsOf).map fun bs => .bl (bs.all id) := Eq.trans rfl rfl
@[simp] theorem b_any {d : D} : bcall st .any [d] = ((lv st d).bind blsOf).map fun bs => .bl (bs.any id) := Eq.trans rfl rfl
@[simp] theorem b_intI {i : Int} : bcall st .int [.int i] = some (.int i) := Eq.trans rfl rfl
@[simp] theorem b_abs {i : Int} : bcall st .abs [.int i] = some (.int (if i < 0 then -i else i)) := Eq.trans rfl rfl
@[simp] theorem b_min {i j : Int} : bcall st .min2 [.int i, .int j] = some (.int (if j < i then j else i)) := Eq.trans rfl rfl
@[simp] theorem b_max {i j : Int} : bcall st .max2 [.int i, .int j] = some (.int (if j > i then j else i)) := Eq.trans rfl rfl
@[simp] theorem b_divmod {i j : Int} : bcall st .divmod [.int i, .int j] = if decide (0 < j) && decide (j < 1073741824) then some (.tup [.int (i / j), .int (i % j)]) else none := Eq.trans rfl rfl
@[simp] theorem b_tuple {d : D} : bcall st .tuple [d] = (sv st d).map .tup := Eq.trans rfl rfl
@[simp] theorem b_list {d : D} : bcall st .list [d] = (sv st d).map .frz := Eq.trans rfl rfl
@[simp] theorem refs_int {i : Nat} {j : Int} : refsLt i (.int j) = true := Eq.trans rfl rfl
theorem ints_map (ns : List Int) : intsOf (ns.map .int) = some ns := by
  induction ns with
  | nil => rfl
  | cons a r ih => simp [intsOf, ih]
theorem bls_map (ns : List Bool) : blsOf (ns.map .bl) = some ns := by
  induction ns with
  | nil => rfl
  | cons a r ih => simp [blsOf, ih]
end
@[simp] theorem szOk_iff {n : Nat} : (szOk n = true) = (n ≤ 16777216) := propext ⟨fun h => Nat.le_of_ble_eq_true h, fun h => Nat.ble_eq_true_of_le h⟩
theorem szOk_of {n : Nat} (h : n ≤ 16777216) : szOk n = true := Nat.ble_eq_true_of_le h
theorem szLt_of {n : Nat} (h : n < 16777216) : szLt n = true := by simpa [szLt] using h
theorem cut_map {α β : Type} (f : α → β) (xs : List α) (lo hi : Option Int) : cut (xs.map f) lo hi = (cut xs lo hi).map f := by
  unfold cut
  simp [List.map_take, List.map_drop]
theorem cut_le {α : Type} (xs : List α) (lo hi : Option Int) : (cut xs lo hi).length ≤ xs.length := by
  unfold cut
  rw [List.length_take, List.length_drop]
  omega
section
variable {C : Nat → List D → Sto → R D} {G : Nat → D} {W : Nat} {env : Env} {st : Sto}
@[simp] theorem sl_scr {ds : List D} {lo hi : Option Int} : slD st (.scr ds) lo hi = some (.frz (cut ds lo hi)) := Eq.trans rfl rfl
@[simp] theorem sl_frz {ds : List D} {lo hi : Option Int} : slD st (.frz ds) lo hi = some (.frz (cut ds lo hi)) := Eq.trans rfl rfl
@[simp] theorem sl_tup {ds : List D} {lo hi : Option Int} : slD st (.tup ds) lo hi = some (.tup (cut ds lo hi)) := Eq.trans rfl rfl
@[simp] theorem sl_str {z : List Nat} {lo hi : Option Int} : slD st (.str z) lo hi = if szOk z.length then some (.str (cut z lo hi)) else none := Eq.trans rfl rfl
@[simp] theorem is_int {t : Ty} {i : Int} : isInst t (.int i) = some (match t with | .int => true | _ => false) := Eq.trans rfl rfl
@[simp] theorem is_bl {t : Ty} {i : Bool} : isInst t (.bl i) = some (match t with | .int => true | .bool => true | _ => false) := Eq.trans rfl rfl
@[simp] theorem is_str {t : Ty} {i : List Nat} : isInst t (.str i) = some (match t with | .str => true | _ => false) := Eq.trans rfl rfl
@[simp] theorem is_tup {t : Ty} {i : List D} : isInst t (.tup i) = some (match t with | .tuple => true | _ => false) := Eq.trans rfl rfl
@[simp] theorem is_frz {t : Ty} {i : List D} : isInst t (.frz i) = some (match t with | .list => true | _ => false) := Eq.trans rfl rfl
@[simp] theorem is_non {t : Ty} : isInst t .non = some false := Eq.trans rfl rfl
/-- a for whose names stay -/
theorem rng_len (lo : Int) (n : Nat) : (rngD lo n).length = n := by simp [rngD]
theorem rng_get {lo : Int} {n i : Nat} {d : D} (h : (rngD lo n)[i]? = some d) : i < n ∧ d = .int (lo + (i : Nat)) := by
  have hi : i < n := by
    have := (List.getElem?_eq_some_iff.mp h).1
    simpa [rngD] using this
  refine ⟨hi, ?_⟩
  unfold rngD at h
  rw [List.getElem?_map, List.getElem?_range hi] at h
  exact (Option.some.inj h).symm
theorem mem_rng {lo : Int} {n : Nat} {d : D} (h : d ∈ rngD lo n) : ∃ i, i < n ∧ d = .int (lo + (i : Nat)) := by
  obtain ⟨i, hi⟩ := List.mem_iff_getElem?.mp h
  exact ⟨i, rng_get hi⟩
end
section
variable {C : Nat → List D → Sto → R D} {G : Nat → D} {W : Nat} {env : Env} {st : Sto}
theorem fm_map {α β γ : Type} (φ : α → β) (h : β → Option γ) : ∀ xs : List α, (xs.map φ).filterMap h = xs.filterMap fun a => h (φ a)
  | [] => rfl
  | x :: xs => by simp [List.filterMap_cons, fm_map φ h xs]
theorem ev_lcm {α : Type} (φ : α → D) (xs : List α) (g : α → Option D) {own : List Nat} {elt : E} {tg : Tg} {it : It} {c : Oe} (hit : evi C G it env st = .ok (xs.map φ, []) st) (hz : xs.length ≤ 16777216) (h : ∀ a ∈ xs, compB C G own elt tg c env (φ a) st = .ok (g a) st) :
    ev C G (.comp own elt tg it c) env st = .ok (.frz (xs.filterMap g)) st := by
  simp only [ev, hit, bind_ok]
  rw [if_pos (show szOk (xs.map φ).length = true from szOk_of (by simpa using hz))]
  have e : ∀ ys : List α, (∀ a ∈ ys, compB C G own elt tg c env (φ a) st = .ok (g a) st) → compL (compB C G own elt tg c env) (ys.map φ) st = .ok (ys.filterMap g) st := by
    intro ys
    induction ys with
    | nil => intro _; rfl
    | cons y ys ih =>
      intro hy
      have e2 := ih fun a ha => hy a (List.mem_cons_of_mem _ ha)
      simp only [List.map_cons, compL, hy y (List.mem_cons_self ..), bind_ok]
      cases hg : g y with
      | none => simp only [e2, List.filterMap_cons, hg]
      | some z => simp only [e2, List.filterMap_cons, hg, bind_ok]
  show (((compL (compB C G own elt tg c env) (xs.map φ) st).noX.unl []).bind fun ds s6 => R.ok (D.frz ds) s6) = _
  rw [e xs h]
  rfl
theorem rng_map (lo : Int) (n : Nat) : rngD lo n = (List.range n).map fun k => .int (lo + (k : Nat)) := rfl
theorem enum_map {α : Type} (φ : α → D) (xs : List α) : enumD (xs.map φ) = xs.zipIdx.map fun p => .tup [.int (p.2 : Nat), φ p.1] := by
  unfold enumD
  rw [List.zipIdx_map, List.map_map]
  rfl
@[simp] theorem bls_m {α : Type} (p : α → Bool) (xs : List α) : blsOf (xs.map fun a => .bl (p a)) = some (xs.map p) := by
  induction xs with
  | nil => rfl
  | cons x xs ih => simp [blsOf, ih]
@[simp] theorem ints_m {α : Type} (p : α → Int) (xs : List α) : intsOf (xs.map fun a => .int (p a)) = some (xs.map p) := by
  induction xs with
  | nil => rfl
  | cons x xs ih => simp [intsOf, ih]
@[simp] theorem strs_m {α : Type} (p : α → List Nat) (xs : List α) : strsOf (xs.map fun a => .str (p a)) = some (xs.map p) := by
  induction xs with
  | nil => rfl
  | cons x xs ih => simp [strsOf, ih]
theorem fm_if {α β : Type} (q : α → Bool) (p : α → β) : ∀ xs : List α, (xs.filterMap fun a => if q a then some (p a) else none) = (xs.filter q).map p
  | [] => rfl
  | x :: xs => by
    by_cases h : q x = true
    · simp [fm_if q p xs, h, List.filterMap_cons]
    · simp [fm_if q p xs, h, List.filterMap_cons]
@[simp] theorem isNon_bl {b : Bool} : isNon (.bl b) = false := Eq.trans rfl rfl
@[simp] theorem isNon_str {b : List Nat} : isNon (.str b) = false := Eq.trans rfl rfl
theorem fm_some {α β : Type} (p : α → β) (xs : List α) : (xs.filterMap fun a => some (p a)) = xs.map p := by
  induction xs with
  | nil => rfl
  | cons x xs ih => simp [ih]
/-- a test that holds or not -/
theorem compB_t {own : List Nat} {elt : E} {tg : Tg} {x : D} {env2 : Env} {y : D} (h1 : evt C G tg x (wipe env own) st = .ok env2 st) (h2 : ev C G elt env2 st = .ok y st) : compB C G own elt tg .none env x st = .ok (some y) st := by
  simp [compB, h1, h2]
end
/-- the callee's own lists go -/
theorem call_tk {T : Nat → Option Fd} {G : Nat → D} {W : Nat} {n f : Nat} {as : List D} {st ext : Sto} {F : Fd} {d : D} (hT : T f = some F) (hl : as.length = F.ps) (hr : refsLt st.length d = true) (h : exs (call T G W n) G W F.body (as.map some ++ List.replicate (F.nl - F.ps) none) st = .ok (.rt d) (st ++ ext)) : call T G W (n + 1) f as st = .ok d st := by
  rw [call_eq hT hl, h]
  show back st.length d (st ++ ext) = _
  unfold back
  split
  · rename_i e
    have : ext = [] := by
      rw [List.length_append] at e
      exact List.eq_nil_of_length_eq_zero (by omega)
    rw [this, List.append_nil]
  · rw [List.take_left]
theorem Cl.tk {T : Nat → Option Fd} {G : Nat → D} {W k f : Nat} {as : List D} {F : Fd} {d : D} (hT : T f = some F) (hl : as.length = F.ps) (hr : ∀ n, refsLt n d = true) (h : ∀ n, k ≤ n → ∀ st, ∃ ext, exs (call T G W n) G W F.body (as.map some ++ List.replicate (F.nl - F.ps) none) st = .ok (.rt d) (st ++ ext)) : Cl T G W (k + 1) f as d := fun n hn st => by
  obtain ⟨m, rfl⟩ : ∃ m, n = m + 1 := ⟨n - 1, by omega⟩
  obtain ⟨ext, h⟩ := h m (by omega) st
  exact call_tk hT hl (hr _) h
theorem refs_ints (n : Nat) (ns : List Int) : refsLts n (ns.map .int) = true := by
  induction ns with
  | nil => rfl
  | cons a r ih => simp [refsLts, refsLt, ih]
theorem last_at {st : Sto} {o : Obj} : (st ++ [o])[st.length]? = some o := by simp
theorem last_set {st : Sto} {o o' : Obj} : (st ++ [o]).set st.length o' = st ++ [o'] := by simp
theorem rep_one {d : D} {k : Nat} (h : k ≤ 1000) : rep [d] (k : Nat) = some (.frz (List.replicate k d)) := by
  unfold rep
  have e : (List.replicate k [d]).flatten = List.replicate k d := by
    clear h
    induction k with
    | zero => rfl
    | succ k ih => rw [List.replicate_succ, List.flatten_cons, ih, List.replicate_succ]; rfl
  rw [if_pos]
  · rw [Int.toNat_natCast, e]
  · simp only [Bool.and_eq_true, decide_eq_true_eq, Int.toNat_natCast, szOk_iff, List.length_cons, List.length_nil]
    omega
/-! ### a bag of numbers to draw from -/
def pot3 (a b c : Int) : Obj := .lst [.int a, .int b, .int c]
end PL

set_option Elab.async false
set_option linter.all false
set_option maxRecDepth 100000
/-! What is looked at when the module's head has run: the defs, the names, more. -/
namespace PL
open PySem PySem.Spec PyProof.Rows L2
def obsE (fa : List He.Fa) (fn : List He.DefD) (ex : List (PySem.W.Frag → Bool)) (K : PySem.W.Frag) : He.AlD × Bool := (He.obsD fa fn K, ex.all fun e => e K)
def SaysE (fa : List He.Fa) (fn : List He.DefD) (ex : List (PySem.W.Frag → Bool)) (K : PySem.W.Frag) : Prop := obsE fa fn ex K = (He.valD fn, true)
def obsEG (n : Nat) (fa : List He.Fa) (fn : List He.DefD) (ex : List (PySem.W.Frag → Bool)) (g : Addr → Option PySem.Obj) : He.AlD × Bool := obsE fa fn ex (He.frG g (He.asD g n))
def hookE (n : Nat) (fa : List He.Fa) (fn : List He.DefD) (ex : List (PySem.W.Frag → Bool)) : PySem.W.Hook where
  α := He.AlD × Bool
  obs := fun s => obsEG n fa fn ex s.heap.get?
  val := fun _ => (He.valD fn, true)
  says := fun _ h => ∃ K : PySem.W.Frag, K.In h ∧ SaysE fa fn ex K
  of := fun _ _ e => ⟨_, He.frG_in, e⟩
  keeps := fun _ _ _ ⟨K, hK, c⟩ k => ⟨K, PySem.W.Frag.In.keeps hK k, c⟩
theorem obsEG_eq {n : Nat} {fa : List He.Fa} {fn : List He.DefD} {ex : List (PySem.W.Frag → Bool)} {g : Addr → Option PySem.Obj} {s : Shared} (h : ∀ a, g a = s.heap.get? a) : obsEG n fa fn ex g = (hookE n fa fn ex).obs s := by
  have e : g = s.heap.get? := funext h
  rw [e]
  rfl
section
variable {fa : List He.Fa} {fn : List He.DefD} {ex : List (PySem.W.Frag → Bool)} {K : PySem.W.Frag}
theorem SaysE.d (c : SaysE fa fn ex K) : He.SaysD fa fn K := congrArg (fun z : He.AlD × Bool => z.1) c
theorem SaysE.more (c : SaysE fa fn ex K) (i : Nat) {e : PySem.W.Frag → Bool} (h : ex[i]? = some e := by rfl) : e K = true := by
  have c1 : (ex.all fun e => e K) = true := congrArg (fun z : He.AlD × Bool => z.2) c
  exact List.all_eq_true.mp c1 e (List.mem_of_getElem? h)
end
/-- a name of the module stands for a value -/
def nameB (x : Str) (v : Value) (K : PySem.W.Frag) : Bool := He.eqO (PySem.W.nsIn K mainGlobals x) (some (some v))
theorem nameB_ok {K : PySem.W.Frag} {h : Heap} {mg : Str → Option Value} (X : K.In h) (G : h.Ns mainGlobals mg) {x : Str} {v : Value} (c : nameB x v K = true) : mg x = some v := PySem.W.mg_of X G (He.eqO_ok c)
end PL
namespace PL
open PySem PySem.Spec PyProof.Rows L2
theorem stT_of {K : PySem.W.Frag} {a : Addr} {vs : List V} (h : SqT K (fun _ => none) a vs) : StT K a vs := by
  rcases h with (h | ⟨o, h⟩) | h
  · cases h
  · cases h
  · exact h
end PL

set_option Elab.async false
set_option linter.all false
set_option maxRecDepth 100000
namespace Lw
open PL
/-- is_whole -/
def b0 : Ss := (.cons (.ret (.and (.isi (.var 0) .int) (.not (.isi (.var 0) .bool)))) .nil)
/-- is_between -/
def b1 : Ss := (.cons (.ret (.and (.call 0 (.cons (.var 0) .nil)) (.chn .le .le (.var 1) (.var 0) (.var 2)))) .nil)
/-- is_text_of -/
def b2 : Ss := (.cons (.ret (.and (.isi (.var 0) .str) (.blt .all (.cons (.comp [2] (.cmp .mem (.var 2) (.var 1)) (.var 2) (.val (.var 0)) .none) .nil)))) .nil)
/-- order_count -/
def b3 : Ss := (.cons (.asg (.var 1) (.int 1)) (.cons (.fr (.var 2) (.rng2 (.int 1) (.bin .add (.var 0) (.int 1))) (.cons (.asg (.var 1) (.bin .mul (.var 1) (.var 2))) .nil)) (.cons (.ret (.var 1)) .nil)))
/-- is_lot_number -/
def b4 : Ss := (.cons (.ret (.call 1 (.cons (.var 0) (.cons (.int 1) (.cons (.glb 1) .nil))))) .nil)
/-- place_count -/
def b5 : Ss := (.cons (.ret (.bin .shl (.int 1) (.var 0))) .nil)
/-- is_picture_of -/
def b6 : Ss := (.cons (.ifs (.or (.not (.isi (.var 1) .tuple)) (.cmp .ne (.blt .len (.cons (.var 1) .nil)) (.call 5 (.cons (.var 0) .nil)))) (.cons (.ret (.bl false)) .nil) .nil) (.cons (.ret (.blt .all (.cons (.comp [2] (.call 1 (.cons (.var 2) (.cons (.int 0) (.cons (.glb 2) .nil)))) (.var 2) (.val (.var 1)) .none) .nil))) .nil))
/-- is_pictured -/
def b7 : Ss := (.cons (.ret (.blt .any (.cons (.comp [1] (.call 6 (.cons (.var 1) (.cons (.var 0) .nil))) (.var 1) (.rng2 (.int 1) (.bin .add (.glb 1) (.int 1))) .none) .nil))) .nil)
/-- is_choice_of -/
def b8 : Ss := (.cons (.ret (.and (.call 2 (.cons (.var 1) (.cons (.slc (.glb 0) .none (.some (.var 0))) .nil))) (.blt .all (.cons (.comp [2, 3] (.cmp .lt (.var 2) (.var 3)) (.tup (.cons (.var 2) (.cons (.var 3) .nil))) (.zip (.var 1) (.slc (.var 1) (.some (.int 1)) .none)) .none) .nil)))) .nil)
/-- lot_count_of -/
def b9 : Ss := (.cons (.ret (.bin .sub (.mth .bitlen (.blt .len (.cons (.var 0) .nil)) .nil) (.int 1))) .nil)
/-- lot_of -/
def b10 : Ss := (.cons (.ret (.mth .index (.glb 0) (.cons (.var 0) .nil))) .nil)
/-- index_of -/
def b11 : Ss := (.cons (.ret (.blt .sum (.cons (.comp [1] (.bin .shl (.int 1) (.call 10 (.cons (.var 1) .nil))) (.var 1) (.val (.var 0)) .none) .nil))) .nil)
/-- choice_with -/
def b12 : Ss := (.cons (.ret (.mth .join (.str []) (.cons (.comp [1, 2] (.var 2) (.tup (.cons (.var 1) (.cons (.var 2) .nil))) (.enum (.glb 0)) (.some (.cmp .eq (.bin .band (.bin .shr (.var 0) (.var 1)) (.int 1)) (.int 1)))) .nil))) .nil)
/-- size_of -/
def b13 : Ss := (.cons (.ret (.blt .len (.cons (.call 12 (.cons (.var 0) .nil)) .nil))) .nil)
/-- has_all -/
def b14 : Ss := (.cons (.ret (.cmp .eq (.bin .band (.var 0) (.var 1)) (.var 1))) .nil)
/-- has_some -/
def b15 : Ss := (.cons (.ret (.cmp .ne (.bin .band (.var 0) (.var 1)) (.int 0))) .nil)
/-- things_of -/
def b16 : Ss := (.cons (.ret (.blt .sum (.cons (.var 0) .nil))) .nil)
/-- things_where -/
def b17 : Ss := (.cons (.ret (.blt .sum (.cons (.comp [3, 4] (.var 4) (.tup (.cons (.var 3) (.cons (.var 4) .nil))) (.enum (.var 0)) (.some (.callv 2 (.cons (.var 3) (.cons (.var 1) .nil))))) .nil))) .nil)
/-- meet_at -/
def b18 : Ss := (.cons (.ret (.call 17 (.cons (.var 0) (.cons (.var 1) (.cons (.fnv 14) .nil))))) .nil)
/-- join_at -/
def b19 : Ss := (.cons (.ret (.call 17 (.cons (.var 0) (.cons (.var 1) (.cons (.fnv 15) .nil))))) .nil)
/-- meets_of -/
def b20 : Ss := (.cons (.ret (.blt .tuple (.cons (.comp [1] (.call 18 (.cons (.var 0) (.cons (.var 1) .nil))) (.var 1) (.rng1 (.blt .len (.cons (.var 0) .nil))) .none) .nil))) .nil)
/-- by_sizes -/
def b21 : Ss := (.cons (.asg (.var 1) (.thaw (.bin .mul (.list (.cons (.int 0) .nil)) (.bin .add (.call 9 (.cons (.var 0) .nil)) (.int 1))))) (.cons (.fr (.tup (.cons (.var 2) (.cons (.var 3) .nil))) (.enum (.var 0)) (.cons (.asg (.idx (.var 1) (.call 13 (.cons (.var 2) .nil))) (.bin .add (.idx (.var 1) (.call 13 (.cons (.var 2) .nil))) (.var 3))) .nil)) (.cons (.ret (.frz (.var 1))) .nil)))
/-- levels_of -/
def b22 : Ss := (.cons (.ret (.call 21 (.cons (.var 0) .nil))) .nil)
/-- sums_of -/
def b23 : Ss := (.cons (.ret (.call 21 (.cons (.call 20 (.cons (.var 0) .nil)) .nil))) .nil)
/-- sign_by -/
def b24 : Ss := (.cons (.ret (.ife (.cmp .eq (.bin .mod (.var 0) (.int 2)) (.int 0)) (.int 1) (.neg (.int 1)))) .nil)
/-- picture_by_places -/
def b25 : Ss := (.cons (.ret (.blt .tuple (.cons (.comp [2] (.mth .count (.var 1) (.cons (.var 2) .nil)) (.var 2) (.rng1 (.call 5 (.cons (.var 0) .nil))) .none) .nil))) .nil)
/-- fixed_index -/
def b26 : Ss := (.cons (.ret (.blt .sum (.cons (.comp [1, 2] (.bin .shl (.int 1) (.var 1)) (.tup (.cons (.var 1) (.cons (.var 2) .nil))) (.enum (.var 0)) (.some (.cmp .eq (.var 1) (.var 2)))) .nil))) .nil)
/-- fixed_places_of -/
def b27 : Ss := (.cons (.ret (.call 25 (.cons (.var 0) (.cons (.comp [1] (.call 26 (.cons (.var 1) .nil)) (.var 1) (.perm (.var 0)) .none) .nil)))) .nil)
/-- moved_count -/
def b28 : Ss := (.cons (.ret (.blt .sum (.cons (.comp [1] (.bin .mul (.bin .mul (.call 24 (.cons (.var 1) .nil)) (.imp .comb (.cons (.var 0) (.cons (.var 1) .nil)))) (.call 3 (.cons (.bin .sub (.var 0) (.var 1)) .nil))) (.var 1) (.rng1 (.bin .add (.var 0) (.int 1))) .none) .nil))) .nil)
/-- fixed_count_of -/
def b29 : Ss := (.cons (.ret (.bin .mul (.imp .comb (.cons (.var 0) (.cons (.var 1) .nil))) (.call 28 (.cons (.bin .sub (.var 0) (.var 1)) .nil)))) .nil)
/-- all_rows -/
def b30 : Ss := (.cons (.asg (.var 2) (.list (.cons (.tup .nil) .nil))) (.cons (.fr (.var 3) (.rng1 (.var 0)) (.cons (.asg (.var 2) (.comp2 [4, 5] [5] (.tups (.star (.var 4) (.cons (.var 5) .nil))) (.var 4) (.val (.var 2)) .none (.var 5) (.rng1 (.var 1)) .none)) .nil)) (.cons (.ret (.var 2)) .nil)))
/-- missed_index -/
def b31 : Ss := (.cons (.ret (.blt .sum (.cons (.comp [2] (.bin .shl (.int 1) (.var 2)) (.var 2) (.rng1 (.var 1)) (.some (.cmp .nmem (.var 2) (.var 0)))) .nil))) .nil)
/-- missed_values_of -/
def b32 : Ss := (.cons (.ret (.call 25 (.cons (.var 1) (.cons (.comp [2] (.call 31 (.cons (.var 2) (.cons (.var 1) .nil))) (.var 2) (.val (.call 30 (.cons (.var 0) (.cons (.var 1) .nil)))) .none) .nil)))) .nil)
/-- power_of -/
def b33 : Ss := (.cons (.asg (.var 2) (.int 1)) (.cons (.fr (.var 3) (.rng1 (.var 1)) (.cons (.asg (.var 2) (.bin .mul (.var 2) (.var 0))) .nil)) (.cons (.ret (.var 2)) .nil)))
/-- full_rows_of -/
def b34 : Ss := (.cons (.ret (.blt .sum (.cons (.comp [2] (.bin .mul (.bin .mul (.call 24 (.cons (.var 2) .nil)) (.imp .comb (.cons (.var 1) (.cons (.var 2) .nil)))) (.call 33 (.cons (.bin .sub (.var 1) (.var 2)) (.cons (.var 0) .nil)))) (.var 2) (.rng1 (.bin .add (.var 1) (.int 1))) .none) .nil))) .nil)
/-- check_picture -/
def b35 : Ss := (.cons (.ifs (.not (.call 7 (.cons (.var 0) .nil))) (.cons .nev .nil) .nil) .nil)
/-- check_lots -/
def b36 : Ss := (.cons (.ifs (.not (.call 4 (.cons (.var 0) .nil))) (.cons .nev .nil) .nil) .nil)
/-- check_number -/
def b37 : Ss := (.cons (.ifs (.not (.call 1 (.cons (.var 0) (.cons (.var 1) (.cons (.var 2) .nil))))) (.cons .nev .nil) .nil) .nil)
/-- check_size -/
def b38 : Ss := (.cons (.ifs (.not (.call 1 (.cons (.var 0) (.cons (.var 1) (.cons (.var 2) .nil))))) (.cons .nev .nil) .nil) .nil)
/-- check_choice -/
def b39 : Ss := (.cons (.ifs (.not (.call 8 (.cons (.var 0) (.cons (.var 1) .nil)))) (.cons .nev .nil) .nil) .nil)
/-- check_picture_choice -/
def b40 : Ss := (.cons (.exp (.call 35 (.cons (.var 0) .nil))) (.cons (.exp (.call 39 (.cons (.call 9 (.cons (.var 0) .nil)) (.cons (.var 1) .nil)))) .nil))
/-- fixed_places -/
def b41 : Ss := (.cons (.exp (.call 36 (.cons (.var 0) .nil))) (.cons (.ret (.call 27 (.cons (.var 0) .nil))) .nil))
/-- fixed_count -/
def b42 : Ss := (.cons (.exp (.call 37 (.cons (.var 0) (.cons (.int 1) (.cons (.glb 3) .nil))))) (.cons (.exp (.call 38 (.cons (.var 1) (.cons (.int 0) (.cons (.var 0) .nil))))) (.cons (.ret (.call 29 (.cons (.var 0) (.cons (.var 1) .nil)))) .nil)))
/-- missed_values -/
def b43 : Ss := (.cons (.exp (.call 38 (.cons (.var 0) (.cons (.int 1) (.cons (.glb 4) .nil))))) (.cons (.exp (.call 36 (.cons (.var 1) .nil))) (.cons (.ret (.call 32 (.cons (.var 0) (.cons (.var 1) .nil)))) .nil)))
/-- full_rows -/
def b44 : Ss := (.cons (.exp (.call 38 (.cons (.var 0) (.cons (.int 1) (.cons (.glb 3) .nil))))) (.cons (.exp (.call 37 (.cons (.var 1) (.cons (.int 1) (.cons (.glb 3) .nil))))) (.cons (.ret (.call 34 (.cons (.var 0) (.cons (.var 1) .nil)))) .nil)))
/-- levels -/
def b45 : Ss := (.cons (.exp (.call 35 (.cons (.var 0) .nil))) (.cons (.ret (.blt .tuple (.cons (.call 22 (.cons (.var 0) .nil)) .nil))) .nil))
/-- sums -/
def b46 : Ss := (.cons (.exp (.call 35 (.cons (.var 0) .nil))) (.cons (.ret (.blt .tuple (.cons (.call 23 (.cons (.var 0) .nil)) .nil))) .nil))
/-- things -/
def b47 : Ss := (.cons (.exp (.call 35 (.cons (.var 0) .nil))) (.cons (.ret (.call 16 (.cons (.var 0) .nil))) .nil))
/-- outside -/
def b48 : Ss := (.cons (.exp (.call 40 (.cons (.var 0) (.cons (.var 1) .nil)))) (.cons (.ret (.bin .sub (.call 16 (.cons (.var 0) .nil)) (.call 19 (.cons (.var 0) (.cons (.call 11 (.cons (.var 1) .nil)) .nil))))) .nil))
/-- _law_pot -/
def b49 : Ss := (.cons (.asg (.var 2) (.ife (.cmp .lt (.var 1) (.blt .len (.cons (.var 0) .nil))) (.blt .int (.cons (.idx (.var 0) (.var 1)) .nil)) (.bin .add (.bin .add (.bin .mul (.int 7907) (.var 1)) (.int 37)) (.bin .mod (.blt .int (.cons (.blt .sum (.cons (.slc (.var 0) .none (.some (.int 3))) .nil)) .nil)) (.int 1000033))))) (.cons (.asg (.var 3) (.bin .add (.int 1002583) (.bin .mul (.int 10009) (.var 1)))) (.cons (.fr (.var 4) (.val (.bin .add (.slc (.var 0) .none (.some (.int 7))) (.list (.cons (.var 2) .nil)))) (.cons (.asg (.var 3) (.bin .mod (.blt .int (.cons (.bin .add (.bin .add (.bin .mul (.var 3) (.int 69621)) (.bin .mod (.blt .int (.cons (.var 4) .nil)) (.int 2147483563))) (.int 23)) .nil)) (.int 2147483563))) .nil)) (.cons (.ret (.thaw (.list (.cons (.ife (.or (.cmp .lt (.var 2) (.int 0)) (.cmp .ge (.var 2) (.bin .pow (.int 10) (.int 18)))) (.bin .mod (.blt .int (.cons (.blt .abs (.cons (.var 2) .nil)) .nil)) (.bin .pow (.int 10) (.int 64))) (.int 0)) (.cons (.var 3) (.cons (.int 0) .nil)))))) .nil))))
/-- _law_draw -/
def b50 : Ss := (.cons (.ifs (.cmp .gt (.idx (.var 0) (.int 0)) (.int 0)) (.cons (.asg (.tup (.cons (.idx (.var 0) (.int 0)) (.cons (.var 2) .nil))) (.blt .divmod (.cons (.idx (.var 0) (.int 0)) (.cons (.var 1) .nil)))) (.cons (.ret (.var 2)) .nil)) .nil) (.cons (.asg (.idx (.var 0) (.int 2)) (.bin .add (.idx (.var 0) (.int 2)) (.int 1))) (.cons (.asg (.idx (.var 0) (.int 1)) (.bin .mod (.blt .int (.cons (.bin .add (.bin .add (.bin .mul (.idx (.var 0) (.int 1)) (.bin .add (.bin .mod (.blt .int (.cons (.idx (.var 0) (.int 1)) .nil)) (.int 10007)) (.int 20011))) (.bin .mul (.int 60013) (.idx (.var 0) (.int 2)))) (.int 61)) .nil)) (.int 2147483563))) (.cons (.ret (.bin .mod (.blt .int (.cons (.bin .fdiv (.idx (.var 0) (.int 1)) (.int 97)) .nil)) (.var 1))) .nil))))
/-- _law_same -/
def b52 : Ss := (.cons (.ifs (.or (.and (.isi (.var 1) .tuple) (.isi (.var 0) .tuple)) (.and (.isi (.var 1) .list) (.isi (.var 0) .list))) (.cons (.ret (.and (.cmp .eq (.blt .len (.cons (.var 0) .nil)) (.blt .len (.cons (.var 1) .nil))) (.blt .all (.cons (.comp [2] (.call 52 (.cons (.idx (.var 0) (.var 2)) (.cons (.idx (.var 1) (.var 2)) .nil))) (.var 2) (.rng1 (.blt .len (.cons (.var 1) .nil))) .none) .nil)))) .nil) .nil) (.cons (.ifs (.or (.isi (.var 1) .tuple) (.or (.isi (.var 1) .list) (.cmp .ne (.isi (.var 1) .bool) (.isi (.var 0) .bool)))) (.cons (.ret (.bl false)) .nil) .nil) (.cons (.ifs (.or (.cmp .ne (.isi (.var 1) .int) (.isi (.var 0) .int)) (.cmp .ne (.isi (.var 1) .str) (.isi (.var 0) .str))) (.cons (.ret (.bl false)) .nil) .nil) (.cons (.ret (.ife (.cmp .is (.var 1) .non) (.cmp .is (.var 0) .non) (.cmp .eq (.var 0) (.var 1)))) .nil))))
/-- _law_orders -/
def b60 : Ss := (.cons (.asg (.var 1) (.list (.cons (.tup .nil) .nil))) (.cons (.fr (.var 2) (.rng1 (.var 0)) (.cons (.asg (.var 3) (.list .nil)) (.cons (.fr (.var 4) (.val (.var 1)) (.cons (.asg (.var 3) (.bin .add (.var 3) (.comp [5] (.bin .add (.var 4) (.tup (.cons (.var 5) .nil))) (.var 5) (.rng1 (.var 0)) (.some (.cmp .nmem (.var 5) (.var 4)))))) .nil)) (.cons (.asg (.var 1) (.var 3)) .nil)))) (.cons (.ret (.var 1)) .nil)))
/-- _law_binomial -/
def b61 : Ss := (.cons (.asg (.var 2) (.list (.cons (.int 1) .nil))) (.cons (.fr (.var 3) (.rng1 (.var 0)) (.cons (.asg (.var 2) (.bin .add (.bin .add (.list (.cons (.int 1) .nil)) (.comp [4] (.bin .add (.idx (.var 2) (.var 4)) (.idx (.var 2) (.bin .add (.var 4) (.int 1)))) (.var 4) (.rng1 (.bin .sub (.blt .len (.cons (.var 2) .nil)) (.int 1))) .none)) (.list (.cons (.int 1) .nil)))) .nil)) (.cons (.ret (.ife (.chn .le .le (.int 0) (.var 1) (.var 0)) (.idx (.var 2) (.var 1)) (.int 0))) .nil)))
/-- _law_none -/
def b62 : Ss := (.cons (.asg (.tup (.cons (.var 1) (.cons (.var 2) .nil))) (.tup (.cons (.int 1) (.cons (.int 0) .nil)))) (.cons (.fr (.var 3) (.rng2 (.int 2) (.bin .add (.var 0) (.int 1))) (.cons (.par [1, 2] (.cons (.var 2) (.cons (.bin .mul (.bin .sub (.var 3) (.int 1)) (.bin .add (.var 1) (.var 2))) .nil))) .nil)) (.cons (.ret (.ife (.cmp .eq (.var 0) (.int 0)) (.var 1) (.var 2))) .nil)))
/-- _law_power -/
def b63 : Ss := (.cons (.asg (.var 2) (.int 1)) (.cons (.fr (.var 3) (.rng1 (.var 1)) (.cons (.asg (.var 2) (.bin .mul (.var 2) (.var 0))) .nil)) (.cons (.ret (.var 2)) .nil)))
/-- _law_full -/
def b64 : Ss := (.cons (.asg (.var 2) (.int 0)) (.cons (.fr (.var 3) (.rng1 (.bin .add (.var 1) (.int 1))) (.cons (.asg (.var 4) (.ife (.cmp .eq (.bin .mod (.blt .int (.cons (.var 3) .nil)) (.int 2)) (.int 1)) (.neg (.int 1)) (.int 1))) (.cons (.asg (.var 2) (.bin .add (.var 2) (.bin .mul (.bin .mul (.var 4) (.call 61 (.cons (.var 1) (.cons (.var 3) .nil)))) (.call 63 (.cons (.bin .sub (.var 1) (.var 3)) (.cons (.var 0) .nil)))))) .nil))) (.cons (.ret (.var 2)) .nil)))
/-- _law_fixed_right -/
def b65 : Ss := (.cons (.asg (.var 1) (.thaw (.bin .mul (.list (.cons (.int 0) .nil)) (.bin .shl (.int 1) (.var 0))))) (.cons (.fr (.var 2) (.val (.call 60 (.cons (.var 0) .nil))) (.cons (.asg (.var 3) (.blt .sum (.cons (.comp [4] (.bin .shl (.int 1) (.var 4)) (.var 4) (.rng1 (.var 0)) (.some (.cmp .eq (.idx (.var 2) (.var 4)) (.var 4)))) .nil))) (.cons (.asg (.idx (.var 1) (.var 3)) (.bin .add (.idx (.var 1) (.var 3)) (.int 1))) .nil))) (.cons (.asg (.var 5) (.blt .tuple (.cons (.var 1) .nil))) (.cons (.ifs (.not (.call 52 (.cons (.list (.cons (.call 41 (.cons (.var 0) .nil)) (.cons (.callk 41 .nil (.cons (.var 0) .nil) [0]) .nil))) (.cons (.list (.cons (.var 5) (.cons (.var 5) .nil))) .nil)))) (.cons (.ret (.bl false)) .nil) .nil) (.cons (.par [6, 7] (.cons (.int 1) (.cons (.thaw (.list .nil)) .nil))) (.cons (.fr (.var 8) (.rng2 (.int 1) (.bin .add (.var 0) (.int 1))) (.cons (.asg (.var 6) (.bin .mul (.var 6) (.var 8))) .nil)) (.cons (.asg (.var 9) (.int 1)) (.cons (.fr (.var 8) (.rng1 (.bin .add (.var 0) (.int 1))) (.cons (.asg (.var 9) (.bin .mul (.var 9) (.blt .max2 (.cons (.int 1) (.cons (.var 8) .nil))))) (.cons (.exp (.mth .append (.var 7) (.cons (.bin .fdiv (.var 6) (.var 9)) .nil))) .nil))) (.cons (.ifs (.not (.call 52 (.cons (.list (.cons (.call 46 (.cons (.var 5) .nil)) (.cons (.call 47 (.cons (.var 5) .nil)) .nil))) (.cons (.list (.cons (.blt .tuple (.cons (.var 7) .nil)) (.cons (.var 6) .nil))) .nil)))) (.cons (.ret (.bl false)) .nil) .nil) (.cons (.ret (.call 52 (.cons (.call 45 (.cons (.var 5) .nil)) (.cons (.blt .tuple (.cons (.comp [10] (.call 42 (.cons (.var 0) (.cons (.var 10) .nil))) (.var 10) (.rng1 (.bin .add (.var 0) (.int 1))) .none) .nil)) .nil)))) .nil))))))))))
/-- _law_missed_right -/
def b66 : Ss := (.cons (.asg (.var 2) (.list (.cons (.tup .nil) .nil))) (.cons (.fr (.var 3) (.rng1 (.var 0)) (.cons (.asg (.var 4) (.list .nil)) (.cons (.fr (.var 5) (.val (.var 2)) (.cons (.asg (.var 4) (.bin .add (.var 4) (.comp [6] (.bin .add (.var 5) (.tup (.cons (.var 6) .nil))) (.var 6) (.rng1 (.var 1)) .none))) .nil)) (.cons (.asg (.var 2) (.var 4)) .nil)))) (.cons (.asg (.var 7) (.thaw (.bin .mul (.list (.cons (.int 0) .nil)) (.bin .shl (.int 1) (.var 1))))) (.cons (.fr (.var 5) (.val (.var 2)) (.cons (.asg (.var 8) (.blt .sum (.cons (.comp [6] (.bin .shl (.int 1) (.var 6)) (.var 6) (.rng1 (.var 1)) (.some (.cmp .nmem (.var 6) (.var 5)))) .nil))) (.cons (.asg (.idx (.var 7) (.var 8)) (.bin .add (.idx (.var 7) (.var 8)) (.int 1))) .nil))) (.cons (.asg (.var 9) (.blt .tuple (.cons (.var 7) .nil))) (.cons (.ifs (.not (.call 52 (.cons (.list (.cons (.call 43 (.cons (.var 0) (.cons (.var 1) .nil))) (.cons (.callk 43 .nil (.cons (.var 1) (.cons (.var 0) .nil)) [1, 0]) .nil))) (.cons (.list (.cons (.var 9) (.cons (.var 9) .nil))) .nil)))) (.cons (.ret (.bl false)) .nil) .nil) (.cons (.ret (.call 52 (.cons (.list (.cons (.idx (.call 45 (.cons (.var 9) .nil)) (.int 0)) (.cons (.call 48 (.cons (.var 9) (.cons (.slc (.str [65, 66, 67, 68]) .none (.some (.var 1))) .nil))) (.cons (.call 47 (.cons (.var 9) .nil)) .nil)))) (.cons (.bin .add (.bin .mul (.list (.cons (.call 44 (.cons (.var 0) (.cons (.var 1) .nil))) .nil)) (.int 2)) (.list (.cons (.blt .len (.cons (.var 2) .nil)) .nil))) .nil)))) .nil)))))))
/-- _law_right -/
def b67 : Ss := (.cons (.fr (.var 1) (.rng1 (.int 12)) (.cons (.par [2, 3] (.cons (.bin .add (.int 1) (.call 50 (.cons (.var 0) (.cons (.int 9) .nil)))) (.cons (.call 50 (.cons (.var 0) (.cons (.int 10) .nil))) .nil))) (.cons (.asg (.var 3) (.blt .min2 (.cons (.var 2) (.cons (.var 3) .nil)))) (.cons (.asg (.var 4) (.bin .mul (.call 61 (.cons (.var 2) (.cons (.var 3) .nil))) (.call 62 (.cons (.bin .sub (.var 2) (.var 3)) .nil)))) (.cons (.ifs (.not (.call 52 (.cons (.list (.cons (.call 42 (.cons (.var 2) (.cons (.var 3) .nil))) (.cons (.callk 42 .nil (.cons (.var 3) (.cons (.var 2) .nil)) [1, 0]) .nil))) (.cons (.list (.cons (.var 4) (.cons (.var 4) .nil))) .nil)))) (.cons (.ret (.bl false)) .nil) .nil) (.cons (.par [5, 6] (.cons (.bin .add (.int 1) (.call 50 (.cons (.var 0) (.cons (.int 9) .nil)))) (.cons (.bin .add (.int 1) (.call 50 (.cons (.var 0) (.cons (.int 9) .nil)))) .nil))) (.cons (.asg (.var 4) (.call 64 (.cons (.var 5) (.cons (.var 6) .nil)))) (.cons (.ifs (.or (.not (.call 52 (.cons (.list (.cons (.call 44 (.cons (.var 5) (.cons (.var 6) .nil))) (.cons (.callk 44 .nil (.cons (.var 6) (.cons (.var 5) .nil)) [1, 0]) .nil))) (.cons (.list (.cons (.var 4) (.cons (.var 4) .nil))) .nil)))) (.and (.cmp .lt (.var 5) (.var 6)) (.cmp .ne (.var 4) (.int 0)))) (.cons (.ret (.bl false)) .nil) .nil) .nil)))))))) (.cons (.ret (.bl true)) .nil))
/-- law -/
def b68 : Ss := (.cons (.ifs (.not (.blt .all (.cons (.comp [1] (.call 65 (.cons (.var 1) .nil)) (.var 1) (.val (.tup (.cons (.int 1) (.cons (.int 2) (.cons (.int 3) (.cons (.int 4) .nil)))))) .none) .nil))) (.cons (.ret (.bl false)) .nil) .nil) (.cons (.fr (.var 2) (.val (.tup (.cons (.int 1) (.cons (.int 2) (.cons (.int 3) .nil))))) (.cons (.ifs (.not (.blt .all (.cons (.comp [3] (.call 66 (.cons (.var 2) (.cons (.var 3) .nil))) (.var 3) (.val (.tup (.cons (.int 1) (.cons (.int 2) (.cons (.int 3) (.cons (.int 4) .nil)))))) .none) .nil))) (.cons (.ret (.bl false)) .nil) .nil) .nil)) (.cons (.fr (.var 1) (.rng2 (.int 1) (.int 10)) (.cons (.asg (.var 4) (.blt .sum (.cons (.comp [2] (.call 42 (.cons (.var 1) (.cons (.var 2) .nil))) (.var 2) (.rng1 (.bin .add (.var 1) (.int 1))) .none) .nil))) (.cons (.ifs (.cmp .ne (.var 4) (.call 44 (.cons (.var 1) (.cons (.var 1) .nil)))) (.cons (.ret (.bl false)) .nil) .nil) .nil))) (.cons (.ret (.blt .all (.cons (.comp [5] (.call 67 (.cons (.call 49 (.cons (.var 0) (.cons (.var 5) .nil))) .nil)) (.var 5) (.rng1 (.blt .max2 (.cons (.int 2) (.cons (.blt .min2 (.cons (.blt .len (.cons (.var 0) .nil)) (.cons (.int 4) .nil))) .nil)))) .none) .nil))) .nil))))
def T : Nat → Option Fd
  | 0 => some ⟨1, 1, b0⟩
  | 1 => some ⟨3, 3, b1⟩
  | 2 => some ⟨2, 3, b2⟩
  | 3 => some ⟨1, 3, b3⟩
  | 4 => some ⟨1, 1, b4⟩
  | 5 => some ⟨1, 1, b5⟩
  | 6 => some ⟨2, 3, b6⟩
  | 7 => some ⟨1, 2, b7⟩
  | 8 => some ⟨2, 4, b8⟩
  | 9 => some ⟨1, 1, b9⟩
  | 10 => some ⟨1, 1, b10⟩
  | 11 => some ⟨1, 2, b11⟩
  | 12 => some ⟨1, 3, b12⟩
  | 13 => some ⟨1, 1, b13⟩
  | 14 => some ⟨2, 2, b14⟩
  | 15 => some ⟨2, 2, b15⟩
  | 16 => some ⟨1, 1, b16⟩
  | 17 => some ⟨3, 5, b17⟩
  | 18 => some ⟨2, 2, b18⟩
  | 19 => some ⟨2, 2, b19⟩
  | 20 => some ⟨1, 2, b20⟩
  | 21 => some ⟨1, 4, b21⟩
  | 22 => some ⟨1, 1, b22⟩
  | 23 => some ⟨1, 1, b23⟩
  | 24 => some ⟨1, 1, b24⟩
  | 25 => some ⟨2, 3, b25⟩
  | 26 => some ⟨1, 3, b26⟩
  | 27 => some ⟨1, 2, b27⟩
  | 28 => some ⟨1, 2, b28⟩
  | 29 => some ⟨2, 2, b29⟩
  | 30 => some ⟨2, 6, b30⟩
  | 31 => some ⟨2, 3, b31⟩
  | 32 => some ⟨2, 3, b32⟩
  | 33 => some ⟨2, 4, b33⟩
  | 34 => some ⟨2, 3, b34⟩
  | 35 => some ⟨1, 1, b35⟩
  | 36 => some ⟨1, 1, b36⟩
  | 37 => some ⟨3, 3, b37⟩
  | 38 => some ⟨3, 3, b38⟩
  | 39 => some ⟨2, 2, b39⟩
  | 40 => some ⟨2, 2, b40⟩
  | 41 => some ⟨1, 1, b41⟩
  | 42 => some ⟨2, 2, b42⟩
  | 43 => some ⟨2, 2, b43⟩
  | 44 => some ⟨2, 2, b44⟩
  | 45 => some ⟨1, 1, b45⟩
  | 46 => some ⟨1, 1, b46⟩
  | 47 => some ⟨1, 1, b47⟩
  | 48 => some ⟨2, 2, b48⟩
  | 49 => some ⟨2, 5, b49⟩
  | 50 => some ⟨2, 3, b50⟩
  | 52 => some ⟨2, 3, b52⟩
  | 60 => some ⟨1, 6, b60⟩
  | 61 => some ⟨2, 5, b61⟩
  | 62 => some ⟨1, 4, b62⟩
  | 63 => some ⟨2, 4, b63⟩
  | 64 => some ⟨2, 5, b64⟩
  | 65 => some ⟨1, 11, b65⟩
  | 66 => some ⟨2, 10, b66⟩
  | 67 => some ⟨1, 7, b67⟩
  | 68 => some ⟨1, 6, b68⟩
  | _ => none
def Gc : Nat → D
  | 1 => .int 4
  | 2 => .int 99
  | 0 => .str [65, 66, 67, 68]
  | 3 => .int 9
  | 4 => .int 3
  | _ => .non
end Lw

set_option Elab.async false
set_option linter.all false
set_option maxRecDepth 100000
set_option maxHeartbeats 1000000
namespace Lw
open PL
theorem sp_draw {n : Nat} (hn : 1 ≤ n) {st : Sto} {i : Nat} {a b c m : Int} (hi : st[i]? = some (pot3 a b c)) (h0 : 0 < m) (h1 : m < 1073741824) :
    ∃ a' b' c' r, 0 ≤ r ∧ r < m ∧ PL.call T Gc 100000 n 50 [.lst i, .int m] st = .ok (.int r) (st.set i (pot3 a' b' c')) := by
  obtain ⟨k, rfl⟩ : ∃ k, n = k + 1 := ⟨n - 1, by omega⟩
  have hl : i < st.length := (List.getElem?_eq_some_iff.mp hi).1
  have hs : ∀ o : Obj, (st.set i o)[i]? = some o := fun o => List.getElem?_set_self hl
  have ix : ∀ k : Int, ixD st (.lst i) k = atI [.int a, .int b, .int c] k := fun k => ix_lst hi
  have ixs : ∀ (ds : List D) (k : Int), ixD (st.set i (.lst ds)) (.lst i) k = atI ds k := fun ds k => ix_lst (hs _)
  by_cases ha : 0 < a
  · refine ⟨a / m, b, c, a % m, Int.emod_nonneg _ (by omega), Int.emod_lt_of_pos _ h0, call_rt (F := ⟨2, 3, b50⟩) rfl rfl (by simp) ?_⟩
    simp [b50, hi, pot3, ix, atI, ixN, ha, h0, h1]
  · have sm : small (b % 10007 + 20011) = true := by
      have := Int.emod_nonneg b (b := 10007) (by decide)
      have := Int.emod_lt_of_pos b (b := 10007) (by decide)
      simp [small]
      omega
    have s6 : small 60013 = true := rfl
    refine ⟨a, (b * (b % 10007 + 20011) + 60013 * (c + 1) + 61) % 2147483563, c + 1, _, Int.emod_nonneg ((b * (b % 10007 + 20011) + 60013 * (c + 1) + 61) % 2147483563 / 97) (by omega), Int.emod_lt_of_pos _ h0, call_rt (F := ⟨2, 3, b50⟩) rfl rfl (by simp) ?_⟩
    simp [b50, hi, hs, pot3, ix, ixs, atI, ixN, ha, h0, sm, s6]
def Plain : Nat → D → Prop
  | 0, d => (match d with | .int _ => True | .bl _ => True | .non => True | _ => False)
  | k + 1, d => (match d with | .int _ => True | .bl _ => True | .non => True | .tup ds => ds.length < 1000 ∧ ∀ d ∈ ds, Plain k d | .frz ds => ds.length < 1000 ∧ ∀ d ∈ ds, Plain k d | _ => False)
def eSame : E := .comp [2] (.call 52 (.cons (.idx (.var 0) (.var 2)) (.cons (.idx (.var 1) (.var 2)) .nil))) (.var 2) (.rng1 (.blt .len (.cons (.var 1) .nil))) .none
theorem rng_nat {n : Nat} (h : n < 1000000) : rngOk (n : Int) = true := by
  simp only [rngOk, Bool.and_eq_true, decide_eq_true_eq]
  omega
theorem same_leaf (k : Nat) (d : D) (h : (match d with | .int _ => True | .bl _ => True | .non => True | _ => False)) : Cl T Gc 100000 (k + 1) 52 [d, d] (.bl true) := by
  refine Cl.rt (F := ⟨2, 3, b52⟩) rfl rfl fun n hn st => ?_
  show exs _ _ _ b52 [some d, some d, none] st = _
  cases d with
  | int i => simp [b52]
  | bl i => simp [b52]
  | non => simp [b52]
  | _ => exact h.elim
theorem same_ev {C : Nat → List D → Sto → R D} {d : D} {ds : List D} {st : Sto} (hd : d = .tup ds ∨ d = .frz ds) (hl : ds.length < 1000) (ih : ∀ d ∈ ds, ∀ st, C 52 [d, d] st = .ok (.bl true) st) : exs C Gc 100000 b52 [some d, some d, none] st = .ok (.rt (.bl true)) st := by
  have hr := rng_nat (n := ds.length) (by omega)
  have hc : ev C Gc eSame [some d, some d, none] st = .ok (.frz ((List.range ds.length).filterMap fun _ => some (.bl true))) st := by
    refine ev_lcm (fun k => .int (k : Nat)) _ _ (by rcases hd with rfl | rfl <;> simp [hr, rng_map]) (by simp; omega) fun a ha => ?_
    have ha : a < ds.length := by simpa using ha
    rcases hd with rfl | rfl <;> simp [compB, wipe, at_nat ha, ha, ih]
  unfold eSame at hc
  rcases hd with rfl | rfl <;> simp [b52, hc]
theorem same_seq {k : Nat} {d : D} {ds : List D} (ih : ∀ d, Plain k d → Cl T Gc 100000 (k + 1) 52 [d, d] (.bl true)) (hd : d = .tup ds ∨ d = .frz ds) (hl : ds.length < 1000) (h : ∀ d ∈ ds, Plain k d) : Cl T Gc 100000 (k + 1 + 1) 52 [d, d] (.bl true) :=
  Cl.rt (F := ⟨2, 3, b52⟩) rfl rfl fun n hn st => same_ev hd hl fun d hd st => ih d (h d hd) n hn st
theorem sp_same (k : Nat) : ∀ d : D, Plain k d → Cl T Gc 100000 (k + 1) 52 [d, d] (.bl true) := by
  induction k with
  | zero => exact fun d h => same_leaf 0 d h
  | succ k ih =>
    intro d h
    cases d with
    | int i => exact same_leaf _ _ trivial
    | bl i => exact same_leaf _ _ trivial
    | non => exact same_leaf _ _ trivial
    | tup ds => exact same_seq ih (.inl rfl) h.1 h.2
    | frz ds => exact same_seq ih (.inr rfl) h.1 h.2
    | _ => exact h.elim
theorem sp_whole (i : Int) : Cl T Gc 100000 1 0 [.int i] (.bl true) := Cl.rt (F := ⟨1, 1, b0⟩) rfl rfl fun n hn st => by
  show exs _ _ _ b0 [some (.int i)] st = _
  simp [b0]
theorem sp_between (v lo hi : Int) : Cl T Gc 100000 2 1 [.int v, .int lo, .int hi] (.bl (decide (lo ≤ v) && decide (v ≤ hi))) := Cl.rt (k := 1) (F := ⟨3, 3, b1⟩) rfl rfl fun n hn st => by
  show exs _ _ _ b1 [some (.int v), some (.int lo), some (.int hi)] st = _
  have h := sp_whole v n hn
  by_cases h1 : lo ≤ v <;> simp [b1, h, h1]
theorem shl_one {m : Nat} (h : m ≤ 100) : iop .shl 1 (m : Int) = some (2 ^ m) := by
  show (if decide (0 ≤ (m : Int)) && (decide ((m : Int) ≤ 1000000) && decide ((1 : Int).natAbs < 2 ^ 64)) then some ((1 : Int) * 2 ^ ((m : Int).toNat)) else none) = _
  rw [if_pos]
  · simp
  · simp
    omega
theorem sp_sign (k : Nat) : Cl T Gc 100000 1 24 [.int (k : Nat)] (.int (if k % 2 = 0 then 1 else -1)) := Cl.rt (F := ⟨1, 1, b24⟩) rfl rfl fun n hn st => by
  show exs _ _ _ b24 [some (.int (k : Nat))] st = _
  by_cases h : k % 2 = 0
  · have e : ((k : Int) % 2 == 0) = true := by
      have : (k : Int) % 2 = 0 := by omega
      rw [this]; rfl
    simp [b24, e, h]
  · have e : ((k : Int) % 2 == 0) = false := beq_false_of_ne (by omega)
    simp [b24, e, h]
theorem set_left {st ext : Sto} {i : Nat} {o o' : Obj} (h : i < st.length) : (st.set i o ++ ext).set i o' = st.set i o' ++ ext := by
  rw [List.set_append_left _ _ (by simpa using h), List.set_set]
theorem get_left {st ext : Sto} {i : Nat} {o : Obj} (h : i < st.length) : (st.set i o ++ ext)[i]? = some o := by
  rw [List.getElem?_append_left (by simpa using h), List.getElem?_set_self h]
theorem forL_fold {α β : Type} {f : D → Env → Sto → R Fl} (φ : α → D) (P : β → Env → Sto → Prop) (step : β → α → β) : ∀ (xs : List α) {b : β} {env : Env} {st : Sto}, P b env st →
    (∀ a ∈ xs, ∀ b e s, P b e s → ∃ e' s', (f (φ a) e s = .ok (.nx e') s' ∨ f (φ a) e s = .ok (.ct e') s') ∧ P (step b a) e' s') →
    ∃ e' s', forL f (xs.map φ) env st = .ok (.nx e') s' ∧ P (xs.foldl step b) e' s'
  | [], b, env, st, h0, _ => ⟨env, st, rfl, h0⟩
  | x :: xs, b, env, st, h0, hs => by
    obtain ⟨e1, s1, h1, p1⟩ := hs x (List.mem_cons_self ..) b env st h0
    obtain ⟨e2, s2, h2, p2⟩ := forL_fold φ P step xs p1 fun a ha => hs a (List.mem_cons_of_mem _ ha)
    refine ⟨e2, s2, ?_, p2⟩
    rw [List.map_cons]
    rcases h1 with h1 | h1 <;> simp only [forL, h1, R.bind, h2]
theorem ex_fold {α β : Type} {C : Nat → List D → Sto → R D} {G : Nat → D} {W : Nat} {t : Tg} {it : It} {b : Ss} {env : Env} {st : Sto} (φ : α → D) (xs : List α) (P : β → Env → Sto → Prop) (step : β → α → β) (b0 : β) (hit : evi C G it env st = .ok (xs.map φ, []) st) (h0 : P b0 env st)
    (hs : ∀ a ∈ xs, ∀ y e s, P y e s → ∃ e' s', (((evt C G t (φ a) e s).bind fun env2 s3 => exs C G W b env2 s3) = .ok (.nx e') s' ∨ ((evt C G t (φ a) e s).bind fun env2 s3 => exs C G W b env2 s3) = .ok (.ct e') s') ∧ P (step y a) e' s') :
    ∃ e' s', ex C G W (.fr t it b) env st = .ok (.nx e') s' ∧ P (xs.foldl step b0) e' s' := by
  obtain ⟨e, s, h, p⟩ := forL_fold (f := fun x env s2 => (evt C G t x env s2).bind fun env2 s3 => exs C G W b env2 s3) φ P step xs h0 hs
  refine ⟨e, s, ?_, p⟩
  simp only [ex, hit, R.bind]
  show ((forL (fun x env s2 => (evt C G t x env s2).bind fun env2 s3 => exs C G W b env2 s3) (xs.map φ) env st).unl []) = _
  rw [h]
  rfl
theorem ex_fold2 {α β : Type} {C : Nat → List D → Sto → R D} {G : Nat → D} {W : Nat} {t : Tg} {it : It} {b : Ss} {env : Env} {st st0 : Sto} (φ : α → D) (xs : List α) (P : β → Env → Sto → Prop) (step : β → α → β) (b0 : β) (hit : evi C G it env st = .ok (xs.map φ, []) st0) (h0 : P b0 env st0)
    (hs : ∀ a ∈ xs, ∀ y e s, P y e s → ∃ e' s', (((evt C G t (φ a) e s).bind fun env2 s3 => exs C G W b env2 s3) = .ok (.nx e') s' ∨ ((evt C G t (φ a) e s).bind fun env2 s3 => exs C G W b env2 s3) = .ok (.ct e') s') ∧ P (step y a) e' s') :
    ∃ e' s', ex C G W (.fr t it b) env st = .ok (.nx e') s' ∧ P (xs.foldl step b0) e' s' := by
  obtain ⟨e, s, h, p⟩ := forL_fold (f := fun x env s2 => (evt C G t x env s2).bind fun env2 s3 => exs C G W b env2 s3) φ P step xs h0 hs
  refine ⟨e, s, ?_, p⟩
  simp only [ex, hit, R.bind]
  show ((forL (fun x env s2 => (evt C G t x env s2).bind fun env2 s3 => exs C G W b env2 s3) (xs.map φ) env st0).unl []) = _
  rw [h]
  rfl
theorem ex_for2 {C : Nat → List D → Sto → R D} {G : Nat → D} {W : Nat} {t : Tg} {it : It} {b : Ss} {env : Env} {st st0 : Sto} {ds : List D} (P : Nat → Env → Sto → Prop) (hit : evi C G it env st = .ok (ds, []) st0) (h0 : P 0 env st0)
    (hs : ∀ i d, ds[i]? = some d → ∀ env st, P i env st → ∃ env' st', (((evt C G t d env st).bind fun env2 s3 => exs C G W b env2 s3) = .ok (.nx env') st' ∨ ((evt C G t d env st).bind fun env2 s3 => exs C G W b env2 s3) = .ok (.ct env') st') ∧ P (i + 1) env' st') :
    ∃ env' st', ex C G W (.fr t it b) env st = .ok (.nx env') st' ∧ P ds.length env' st' := by
  obtain ⟨e, s, h, p⟩ := forL_nx (f := fun x env s2 => (evt C G t x env s2).bind fun env2 s3 => exs C G W b env2 s3) P (k := 0) (ds := ds) h0 (fun i d hd env st p => by
    simp only [Nat.zero_add] at p ⊢
    exact hs i d hd env st p)
  refine ⟨e, s, ?_, by simpa using p⟩
  simp only [ex, hit, R.bind]
  show ((forL (fun x env s2 => (evt C G t x env s2).bind fun env2 s3 => exs C G W b env2 s3) ds env st0).unl []) = _
  rw [h]
  rfl
theorem compL_all {f : D → Sto → R (Option D)} (P : Sto → Prop) (y : D) : ∀ {ds : List D} {st : Sto}, P st → (∀ d ∈ ds, ∀ st, P st → ∃ st', f d st = .ok (some y) st' ∧ P st') → ∃ st', compL f ds st = .ok (List.replicate ds.length y) st' ∧ P st'
  | [], st, h, _ => ⟨st, rfl, h⟩
  | d :: ds, st, h, hs => by
    obtain ⟨s1, h1, p1⟩ := hs d (List.mem_cons_self ..) st h
    obtain ⟨s2, h2, p2⟩ := compL_all P y (ds := ds) p1 fun d hd => hs d (List.mem_cons_of_mem _ hd)
    refine ⟨s2, ?_, p2⟩
    simp only [compL, h1, h2, bind_ok]
    rfl
theorem ev_all {C : Nat → List D → Sto → R D} {G : Nat → D} {own : List Nat} {elt : E} {tg : Tg} {it : It} {c : Oe} {env : Env} {st st0 : Sto} {ds : List D} (P : Sto → Prop) (y : D) (hit : evi C G it env st = .ok (ds, []) st0) (hz : ds.length ≤ 1000000) (h0 : P st0) (h : ∀ d ∈ ds, ∀ st, P st → ∃ st', compB C G own elt tg c env d st = .ok (some y) st' ∧ P st') :
    ∃ st', ev C G (.comp own elt tg it c) env st = .ok (.frz (List.replicate ds.length y)) st' ∧ P st' := by
  obtain ⟨st', e, p⟩ := compL_all P y h0 h
  refine ⟨st', ?_, p⟩
  simp only [ev, hit, bind_ok]
  rw [if_pos (szOk_of (by omega))]
  show (((compL (compB C G own elt tg c env) ds st0).noX.unl []).bind fun ds s6 => R.ok (D.frz ds) s6) = _
  rw [e]
  rfl
theorem all_true (n : Nat) (st : Sto) : bcall st .all [.frz (List.replicate n (.bl true))] = some (.bl true) := by
  rw [b_all, lv_frz]
  have : ∀ n, blsOf (List.replicate n (.bl true)) = some (List.replicate n true) := fun n => by
    induction n with
    | zero => rfl
    | succ n ih => simp [List.replicate_succ, blsOf, ih]
  simp [this]
theorem fdiv_nat {a b : Nat} (h : 0 < b) (h2 : b < 1073741824) : iop .fdiv (a : Int) (b : Int) = some ((a / b : Nat) : Int) := by
  rw [i_fdiv, if_pos]
  · rfl
  · simp only [Bool.and_eq_true, decide_eq_true_eq]
    omega
theorem mul_nat {a b : Nat} (h : b < 1000000) : iop .mul (a : Int) (b : Int) = some ((a * b : Nat) : Int) := by
  rw [i_mul, if_pos]
  · rw [Int.natCast_mul]
  · rw [Bool.or_eq_true]
    exact .inr (by simp only [small, Bool.and_eq_true, decide_eq_true_eq]; omega)
theorem mod_nat {a b : Nat} (h : 0 < b) : iop .mod (a : Int) (b : Int) = some ((a % b : Nat) : Int) := by
  rw [i_mod, if_pos (by omega)]
  rfl
theorem eq_nat {st : Sto} {a b : Nat} : cop st .eq (.int (a : Nat)) (.int (b : Nat)) = some (decide (a = b)) := by
  rw [c_eqI]
  congr 1
  by_cases h : a = b
  · subst h; simp
  · rw [beq_false_of_ne (fun e => h (by exact_mod_cast e))]
    simp [h]
theorem two_nat (k : Nat) : ((2 : Int) ^ k) = ((2 ^ k : Nat) : Int) := by simp
theorem set_self {st : Sto} {i : Nat} {o : Obj} (hi : st[i]? = some o) : st.set i o = st := by
  obtain ⟨h, e⟩ := List.getElem?_eq_some_iff.mp hi
  rw [← e]
  exact List.set_getElem_self h
def _root_.PL.Ss.app : Ss → Ss → Ss
  | .nil, q => q
  | .cons s p, q => .cons s (p.app q)
theorem exs_app {C : Nat → List D → Sto → R D} {G : Nat → D} {W : Nat} {q : Ss} {env' : Env} {st' : Sto} : ∀ {p : Ss} {env : Env} {st : Sto}, exs C G W p env st = .ok (.nx env') st' → exs C G W (p.app q) env st = exs C G W q env' st'
  | .nil, env, st, h => by
    rw [es_nil] at h
    injection h with h1 h2
    injection h1 with h1
    subst h1 h2
    rfl
  | .cons s p, env, st, h => by
    show exs C G W (.cons s (p.app q)) env st = _
    rw [es_cons] at h ⊢
    cases hs : ex C G W s env st with
    | ok fl s1 =>
      rw [hs] at h
      cases fl with
      | nx e1 => exact exs_app (p := p) h
      | rt d => simp at h
      | bk e1 => simp at h
      | ct e1 => simp at h
    | exn c d s1 => rw [hs] at h; simp at h
    | bad => rw [hs] at h; simp at h
end Lw

set_option Elab.async false
set_option linter.all false
set_option maxRecDepth 100000
set_option maxHeartbeats 1000000
namespace Lw
open PL
/-! ### what the functions of the numbers are -/
def factF (n : Nat) : Int := (List.range n).foldl (fun a k => a * ((1 + k : Nat) : Int)) 1
def signF (k : Nat) : Int := if k % 2 = 0 then 1 else -1
def movedF (n : Nat) : Int := ((List.range (n + 1)).map fun k => signF k * combV n k * factF (n - k)).sum
def powF (b : Int) (n : Nat) : Int := (List.range n).foldl (fun a _ => a * b) 1
def rowStep (r : List Int) : List Int := 1 :: ((List.range (r.length - 1)).map fun k => r.getD k 0 + r.getD (k + 1) 0) ++ [1]
def rowF (n : Nat) : List Int := (List.range n).foldl (fun r _ => rowStep r) [1]
def binF (n k : Nat) : Int := if k ≤ n then (rowF n).getD k 0 else 0
def noneF (n : Nat) : Int := if n = 0 then 1 else ((List.range (n - 1)).foldl (fun (p : Int × Int) k => (p.2, ((1 + k : Nat) : Int) * (p.1 + p.2))) (1, 0)).2
def fullF (s n : Nat) : Int := (List.range (n + 1)).foldl (fun w k => w + (if k % 2 = 1 then -1 else 1) * binF n k * powF ((n : Int) - (k : Int)) s) 0
def rowsF (s n : Nat) : Int := ((List.range (n + 1)).map fun k => signF k * combV n k * powF ((n : Int) - (k : Int)) s).sum
theorem small_of {i : Int} (h : i.natAbs < 1000000000) : small i = true := by
  simp only [small, Bool.and_eq_true, decide_eq_true_eq]
  omega
theorem mul_l {i j : Int} (h : i.natAbs < 1000000000) : iop .mul i j = some (i * j) := by
  rw [i_mul, if_pos (by rw [small_of h]; rfl)]
theorem mul_r {i j : Int} (h : j.natAbs < 1000000000) : iop .mul i j = some (i * j) := by
  rw [i_mul, if_pos (by rw [small_of h, Bool.or_true])]
theorem fact_small : ∀ n < 10, (factF n).natAbs < 1000000000 := by decide +kernel
theorem sc_small : ∀ n < 10, ∀ k < 10, (signF k * combV n k).natAbs < 1000000000 ∧ (combV n k).natAbs < 1000000000 := by decide +kernel
theorem sb_small : ∀ n < 10, ∀ k < 10, ((if k % 2 = 1 then (-1 : Int) else 1) * binF n k).natAbs < 1000000000 := by decide +kernel
theorem sub_nat {a b : Nat} (h : b ≤ a) : iop .sub (a : Int) (b : Int) = some ((a - b : Nat) : Int) := by
  exact i_sub.trans (congrArg some (by omega))
theorem add_one' (a : Nat) : iop .add (a : Int) 1 = some ((a + 1 : Nat) : Int) := by
  rw [i_add]
  simp
theorem comb_im {n k : Nat} (hn : n < 33) (hk : k < 33) : imcall .comb [.int (n : Nat), .int (k : Nat)] = some (.int (combV n k)) := by
  show (if decide (0 ≤ (n : Int)) && (decide ((n : Int) < 33) && (decide (0 ≤ (k : Int)) && decide ((k : Int) < 33))) then some (D.int (combV ((n : Int)).toNat ((k : Int)).toNat)) else none) = _
  rw [if_pos]
  · rfl
  · simp only [Bool.and_eq_true, decide_eq_true_eq]
    omega
theorem x_imp {C : Nat → List D → Sto → R D} {G : Nat → D} {env : Env} {st : Sto} {f : Im} {as : Es} : ev C G (.imp f as) env st = (evs C G as env st).bind fun ds s1 => oD (imcall f ds) s1 := by simp only [ev]
theorem rng_one (n : Nat) : rngD 1 n = (List.range n).map fun k => D.int ((1 + k : Nat) : Int) := by
  unfold rngD
  apply List.map_congr_left
  intro k _
  simp
theorem rng_two (n : Nat) : rngD 2 n = (List.range n).map fun k => D.int ((2 + k : Nat) : Int) := by
  unfold rngD
  apply List.map_congr_left
  intro k _
  simp
theorem rng_zero (n : Nat) : rngD 0 n = (List.range n).map fun k => D.int (k : Nat) := by
  unfold rngD
  apply List.map_congr_left
  intro k _
  simp
theorem sp_fact {m : Nat} (h : m ≤ 9) : Cl T Gc 100000 1 3 [.int (m : Nat)] (.int (factF m)) := Cl.rt (F := ⟨1, 3, b3⟩) rfl rfl fun n hn st => by
  show exs _ _ _ (.cons _ (.cons _ _)) [some (.int (m : Nat)), none, none] st = _
  have r1 : rngOk 1 = true := rfl
  have r2 := rng_nat (n := m + 1) (by omega)
  have e0 : ((m + 1 : Nat) : Int) - 1 = (m : Int) := by omega
  obtain ⟨e, s, he, ⟨y, hq⟩, hs⟩ := ex_fold (C := PL.call T Gc 100000 n) (G := Gc) (W := 100000) (t := .var 2) (it := .rng2 (.int 1) (.bin .add (.var 0) (.int 1))) (b := .cons (.asg (.var 1) (.bin .mul (.var 1) (.var 2))) .nil)
    (env := [some (.int (m : Nat)), some (.int 1), none]) (st := st) (fun k : Nat => D.int ((1 + k : Nat) : Int)) (List.range m) (fun (a : Int) e s => (∃ y, e = [some (.int (m : Nat)), some (.int a), y]) ∧ s = st) (fun a k => a * ((1 + k : Nat) : Int)) 1
    (by simp only [Nat.zero_add, Nat.reduceAdd, Nat.reduceLT, Nat.reduceSub, ↓reduceIte, Int.reduceBEq, es_cons, es_nil, e_asg, e_par, e_ifs, e_ret, e_retn, e_exp, e_pas, x_non, x_bl, x_int, x_str, x_var, x_glb, x_fnv, x_bin, x_neg, x_not, x_and, x_or, x_cmp, x_chn, x_ife, x_call, x_callk, x_blt, x_isi, x_mth, x_idx, x_slc, x_tup, x_list, x_thaw, x_frz, x_rgv, xs_nil, xs_cons, xo_none, xo_some, xc_none, xc_some, xt_var, xt_idx, xt_tup, xts_nil, xts_cons, tg_nil, tg_cons, asgs_nil, asgs_cons, bind_ok, tru_bl, toI_int, oD_some, o_int, Option.map_some, Option.bind_some, List.getElem?_cons_zero, List.getElem?_cons_succ, List.set_cons_zero, List.set_cons_succ, List.length_cons, List.length_nil, List.map_cons, List.map_nil, List.nil_append, List.cons_append, Bool.not_true, Bool.not_false, Bool.true_and, Bool.and_true, Bool.false_and, Bool.true_or, Bool.false_or, reduceCtorEq, decide_true, decide_false, b_intI, b_len, b_sum, b_all, b_any, b_tuple, b_list, b_abs, len_tup, len_frz, len_scr, ix_tup, ix_frz, ix_scr, sv_frz, sv_tup, sv_scr, lv_frz, lv_scr, sl_tup, sl_frz, sl_scr, walk_tup, walk_frz, walk_scr, walk_str, xi_val, xi_rng1, xi_rng2, xi_enum, xi_zip, lock_nil, noX_okk, thaw_frz, add_one', r1, r2, e0, Int.toNat_natCast, rng_one]) ⟨⟨_, rfl⟩, rfl⟩ (fun k hk a e s ⟨⟨y, he⟩, hs⟩ => by
      subst he hs
      have hk : k < m := by simpa using hk
      exact ⟨[some (.int (m : Nat)), some (.int (a * ((1 + k : Nat) : Int))), some (.int ((1 + k : Nat) : Int))], _, .inl (by simp only [Nat.zero_add, Nat.reduceAdd, Nat.reduceLT, Nat.reduceSub, ↓reduceIte, Int.reduceBEq, es_cons, es_nil, e_asg, e_par, e_ifs, e_ret, e_retn, e_exp, e_pas, x_non, x_bl, x_int, x_str, x_var, x_glb, x_fnv, x_bin, x_neg, x_not, x_and, x_or, x_cmp, x_chn, x_ife, x_call, x_callk, x_blt, x_isi, x_mth, x_idx, x_slc, x_tup, x_list, x_thaw, x_frz, x_rgv, xs_nil, xs_cons, xo_none, xo_some, xc_none, xc_some, xt_var, xt_idx, xt_tup, xts_nil, xts_cons, tg_nil, tg_cons, asgs_nil, asgs_cons, bind_ok, tru_bl, toI_int, oD_some, o_int, Option.map_some, Option.bind_some, List.getElem?_cons_zero, List.getElem?_cons_succ, List.set_cons_zero, List.set_cons_succ, List.length_cons, List.length_nil, List.map_cons, List.map_nil, List.nil_append, List.cons_append, Bool.not_true, Bool.not_false, Bool.true_and, Bool.and_true, Bool.false_and, Bool.true_or, Bool.false_or, reduceCtorEq, decide_true, decide_false, b_intI, b_len, b_sum, b_all, b_any, b_tuple, b_list, b_abs, len_tup, len_frz, len_scr, ix_tup, ix_frz, ix_scr, sv_frz, sv_tup, sv_scr, lv_frz, lv_scr, sl_tup, sl_frz, sl_scr, walk_tup, walk_frz, walk_scr, walk_str, xi_val, xi_rng1, xi_rng2, xi_enum, xi_zip, lock_nil, noX_okk, thaw_frz, mul_r (show (((1 + k : Nat) : Int)).natAbs < 1000000000 by omega)]), ⟨_, rfl⟩, rfl⟩)
  rw [exs_cons (env' := [some (.int (m : Nat)), some (.int 1), none]) (st' := st) (by simp only [Nat.zero_add, Nat.reduceAdd, Nat.reduceLT, Nat.reduceSub, ↓reduceIte, Int.reduceBEq, es_cons, es_nil, e_asg, e_par, e_ifs, e_ret, e_retn, e_exp, e_pas, x_non, x_bl, x_int, x_str, x_var, x_glb, x_fnv, x_bin, x_neg, x_not, x_and, x_or, x_cmp, x_chn, x_ife, x_call, x_callk, x_blt, x_isi, x_mth, x_idx, x_slc, x_tup, x_list, x_thaw, x_frz, x_rgv, xs_nil, xs_cons, xo_none, xo_some, xc_none, xc_some, xt_var, xt_idx, xt_tup, xts_nil, xts_cons, tg_nil, tg_cons, asgs_nil, asgs_cons, bind_ok, tru_bl, toI_int, oD_some, o_int, Option.map_some, Option.bind_some, List.getElem?_cons_zero, List.getElem?_cons_succ, List.set_cons_zero, List.set_cons_succ, List.length_cons, List.length_nil, List.map_cons, List.map_nil, List.nil_append, List.cons_append, Bool.not_true, Bool.not_false, Bool.true_and, Bool.and_true, Bool.false_and, Bool.true_or, Bool.false_or, reduceCtorEq, decide_true, decide_false, b_intI, b_len, b_sum, b_all, b_any, b_tuple, b_list, b_abs, len_tup, len_frz, len_scr, ix_tup, ix_frz, ix_scr, sv_frz, sv_tup, sv_scr, lv_frz, lv_scr, sl_tup, sl_frz, sl_scr, walk_tup, walk_frz, walk_scr, walk_str, xi_val, xi_rng1, xi_rng2, xi_enum, xi_zip, lock_nil, noX_okk, thaw_frz]), exs_cons he, hq, hs]
  simp only [Nat.zero_add, Nat.reduceAdd, Nat.reduceLT, Nat.reduceSub, ↓reduceIte, Int.reduceBEq, es_cons, es_nil, e_asg, e_par, e_ifs, e_ret, e_retn, e_exp, e_pas, x_non, x_bl, x_int, x_str, x_var, x_glb, x_fnv, x_bin, x_neg, x_not, x_and, x_or, x_cmp, x_chn, x_ife, x_call, x_callk, x_blt, x_isi, x_mth, x_idx, x_slc, x_tup, x_list, x_thaw, x_frz, x_rgv, xs_nil, xs_cons, xo_none, xo_some, xc_none, xc_some, xt_var, xt_idx, xt_tup, xts_nil, xts_cons, tg_nil, tg_cons, asgs_nil, asgs_cons, bind_ok, tru_bl, toI_int, oD_some, o_int, Option.map_some, Option.bind_some, List.getElem?_cons_zero, List.getElem?_cons_succ, List.set_cons_zero, List.set_cons_succ, List.length_cons, List.length_nil, List.map_cons, List.map_nil, List.nil_append, List.cons_append, Bool.not_true, Bool.not_false, Bool.true_and, Bool.and_true, Bool.false_and, Bool.true_or, Bool.false_or, reduceCtorEq, decide_true, decide_false, b_intI, b_len, b_sum, b_all, b_any, b_tuple, b_list, b_abs, len_tup, len_frz, len_scr, ix_tup, ix_frz, ix_scr, sv_frz, sv_tup, sv_scr, lv_frz, lv_scr, sl_tup, sl_frz, sl_scr, walk_tup, walk_frz, walk_scr, walk_str, xi_val, xi_rng1, xi_rng2, xi_enum, xi_zip, lock_nil, noX_okk, thaw_frz, factF]
theorem sp_sgn (k : Nat) : Cl T Gc 100000 1 24 [.int (k : Nat)] (.int (signF k)) := sp_sign k
theorem sp_moved {m : Nat} (h : m ≤ 9) : Cl T Gc 100000 2 28 [.int (m : Nat)] (.int (movedF m)) := Cl.rt (k := 1) (F := ⟨1, 2, b28⟩) rfl rfl fun n hn st => by
  show exs _ _ _ b28 [some (.int (m : Nat)), none] st = _
  have r2 := rng_nat (n := m + 1) (by omega)
  have hc : ev (PL.call T Gc 100000 n) Gc (.comp [1] (.bin .mul (.bin .mul (.call 24 (.cons (.var 1) .nil)) (.imp .comb (.cons (.var 0) (.cons (.var 1) .nil)))) (.call 3 (.cons (.bin .sub (.var 0) (.var 1)) .nil))) (.var 1) (.rng1 (.bin .add (.var 0) (.int 1))) .none) [some (.int (m : Nat)), none] st =
      .ok (.frz ((List.range (m + 1)).filterMap fun k => some (.int (signF k * combV m k * factF (m - k))))) st := by
    refine ev_lcm (fun k : Nat => .int (k : Nat)) _ _ (by simp only [Nat.zero_add, Nat.reduceAdd, Nat.reduceLT, Nat.reduceSub, ↓reduceIte, Int.reduceBEq, es_cons, es_nil, e_asg, e_par, e_ifs, e_ret, e_retn, e_exp, e_pas, x_non, x_bl, x_int, x_str, x_var, x_glb, x_fnv, x_bin, x_neg, x_not, x_and, x_or, x_cmp, x_chn, x_ife, x_call, x_callk, x_blt, x_isi, x_mth, x_idx, x_slc, x_tup, x_list, x_thaw, x_frz, x_rgv, xs_nil, xs_cons, xo_none, xo_some, xc_none, xc_some, xt_var, xt_idx, xt_tup, xts_nil, xts_cons, tg_nil, tg_cons, asgs_nil, asgs_cons, bind_ok, tru_bl, toI_int, oD_some, o_int, Option.map_some, Option.bind_some, List.getElem?_cons_zero, List.getElem?_cons_succ, List.set_cons_zero, List.set_cons_succ, List.length_cons, List.length_nil, List.map_cons, List.map_nil, List.nil_append, List.cons_append, Bool.not_true, Bool.not_false, Bool.true_and, Bool.and_true, Bool.false_and, Bool.true_or, Bool.false_or, reduceCtorEq, decide_true, decide_false, b_intI, b_len, b_sum, b_all, b_any, b_tuple, b_list, b_abs, len_tup, len_frz, len_scr, ix_tup, ix_frz, ix_scr, sv_frz, sv_tup, sv_scr, lv_frz, lv_scr, sl_tup, sl_frz, sl_scr, walk_tup, walk_frz, walk_scr, walk_str, xi_val, xi_rng1, xi_rng2, xi_enum, xi_zip, lock_nil, noX_okk, thaw_frz, add_one', r2, Int.toNat_natCast, rng_zero]) (by simp; omega) fun k hk => ?_
    have hk : k < m + 1 := by simpa using hk
    simp only [compB, wipe, Nat.zero_add, Nat.reduceAdd, Nat.reduceLT, Nat.reduceSub, ↓reduceIte, Int.reduceBEq, es_cons, es_nil, e_asg, e_par, e_ifs, e_ret, e_retn, e_exp, e_pas, x_non, x_bl, x_int, x_str, x_var, x_glb, x_fnv, x_bin, x_neg, x_not, x_and, x_or, x_cmp, x_chn, x_ife, x_call, x_callk, x_blt, x_isi, x_mth, x_idx, x_slc, x_tup, x_list, x_thaw, x_frz, x_rgv, xs_nil, xs_cons, xo_none, xo_some, xc_none, xc_some, xt_var, xt_idx, xt_tup, xts_nil, xts_cons, tg_nil, tg_cons, asgs_nil, asgs_cons, bind_ok, tru_bl, toI_int, oD_some, o_int, Option.map_some, Option.bind_some, List.getElem?_cons_zero, List.getElem?_cons_succ, List.set_cons_zero, List.set_cons_succ, List.length_cons, List.length_nil, List.map_cons, List.map_nil, List.nil_append, List.cons_append, Bool.not_true, Bool.not_false, Bool.true_and, Bool.and_true, Bool.false_and, Bool.true_or, Bool.false_or, reduceCtorEq, decide_true, decide_false, b_intI, b_len, b_sum, b_all, b_any, b_tuple, b_list, b_abs, len_tup, len_frz, len_scr, ix_tup, ix_frz, ix_scr, sv_frz, sv_tup, sv_scr, lv_frz, lv_scr, sl_tup, sl_frz, sl_scr, walk_tup, walk_frz, walk_scr, walk_str, xi_val, xi_rng1, xi_rng2, xi_enum, xi_zip, lock_nil, noX_okk, thaw_frz, x_imp, sp_sgn k n (by omega), comb_im (show m < 33 by omega) (show k < 33 by omega), mul_r (sc_small m (by omega) k (by omega)).2, sub_nat (show k ≤ m by omega), sp_fact (show m - k ≤ 9 by omega) n (by omega), mul_l (sc_small m (by omega) k (by omega)).1]
  rw [fm_some] at hc
  simp only [b28, Nat.zero_add, Nat.reduceAdd, Nat.reduceLT, Nat.reduceSub, ↓reduceIte, Int.reduceBEq, es_cons, es_nil, e_asg, e_par, e_ifs, e_ret, e_retn, e_exp, e_pas, x_non, x_bl, x_int, x_str, x_var, x_glb, x_fnv, x_bin, x_neg, x_not, x_and, x_or, x_cmp, x_chn, x_ife, x_call, x_callk, x_blt, x_isi, x_mth, x_idx, x_slc, x_tup, x_list, x_thaw, x_frz, x_rgv, xs_nil, xs_cons, xo_none, xo_some, xc_none, xc_some, xt_var, xt_idx, xt_tup, xts_nil, xts_cons, tg_nil, tg_cons, asgs_nil, asgs_cons, bind_ok, tru_bl, toI_int, oD_some, o_int, Option.map_some, Option.bind_some, List.getElem?_cons_zero, List.getElem?_cons_succ, List.set_cons_zero, List.set_cons_succ, List.length_cons, List.length_nil, List.map_cons, List.map_nil, List.nil_append, List.cons_append, Bool.not_true, Bool.not_false, Bool.true_and, Bool.and_true, Bool.false_and, Bool.true_or, Bool.false_or, reduceCtorEq, decide_true, decide_false, b_intI, b_len, b_sum, b_all, b_any, b_tuple, b_list, b_abs, len_tup, len_frz, len_scr, ix_tup, ix_frz, ix_scr, sv_frz, sv_tup, sv_scr, lv_frz, lv_scr, sl_tup, sl_frz, sl_scr, walk_tup, walk_frz, walk_scr, walk_str, xi_val, xi_rng1, xi_rng2, xi_enum, xi_zip, lock_nil, noX_okk, thaw_frz, hc, ints_m, movedF]
theorem ck_num (k lo hi v : Int) (b : Ss) (f : Nat) (hb : b = (.cons (.ifs (.not (.call 1 (.cons (.var 0) (.cons (.var 1) (.cons (.var 2) .nil))))) (.cons .nev .nil) .nil) .nil)) (hT : T f = some ⟨3, 3, b⟩) (h1 : lo ≤ v) (h2 : v ≤ hi) : Cl T Gc 100000 3 f [.int v, .int lo, .int hi] .non := Cl.nx (k := 2) (F := ⟨3, 3, b⟩) hT rfl fun n hn st => by
  refine ⟨[some (.int v), some (.int lo), some (.int hi)], ?_⟩
  show exs _ _ _ b [some (.int v), some (.int lo), some (.int hi)] st = _
  subst hb
  have h := sp_between v lo hi n hn st
  rw [decide_eq_true h1, decide_eq_true h2] at h
  simp only [Nat.zero_add, Nat.reduceAdd, Nat.reduceLT, Nat.reduceSub, ↓reduceIte, Int.reduceBEq, es_cons, es_nil, e_asg, e_par, e_ifs, e_ret, e_retn, e_exp, e_pas, x_non, x_bl, x_int, x_str, x_var, x_glb, x_fnv, x_bin, x_neg, x_not, x_and, x_or, x_cmp, x_chn, x_ife, x_call, x_callk, x_blt, x_isi, x_mth, x_idx, x_slc, x_tup, x_list, x_thaw, x_frz, x_rgv, xs_nil, xs_cons, xo_none, xo_some, xc_none, xc_some, xt_var, xt_idx, xt_tup, xts_nil, xts_cons, tg_nil, tg_cons, asgs_nil, asgs_cons, bind_ok, tru_bl, toI_int, oD_some, o_int, Option.map_some, Option.bind_some, List.getElem?_cons_zero, List.getElem?_cons_succ, List.set_cons_zero, List.set_cons_succ, List.length_cons, List.length_nil, List.map_cons, List.map_nil, List.nil_append, List.cons_append, Bool.not_true, Bool.not_false, Bool.true_and, Bool.and_true, Bool.false_and, Bool.true_or, Bool.false_or, reduceCtorEq, decide_true, decide_false, b_intI, b_len, b_sum, b_all, b_any, b_tuple, b_list, b_abs, len_tup, len_frz, len_scr, ix_tup, ix_frz, ix_scr, sv_frz, sv_tup, sv_scr, lv_frz, lv_scr, sl_tup, sl_frz, sl_scr, walk_tup, walk_frz, walk_scr, walk_str, xi_val, xi_rng1, xi_rng2, xi_enum, xi_zip, lock_nil, noX_okk, thaw_frz, h]
theorem sp_fixedof {m s : Nat} (h : m ≤ 9) (hs : s ≤ m) : Cl T Gc 100000 3 29 [.int (m : Nat), .int (s : Nat)] (.int (combV m s * movedF (m - s))) := Cl.rt (k := 2) (F := ⟨2, 2, b29⟩) rfl rfl fun n hn st => by
  show exs _ _ _ b29 [some (.int (m : Nat)), some (.int (s : Nat))] st = _
  simp only [b29, Nat.zero_add, Nat.reduceAdd, Nat.reduceLT, Nat.reduceSub, ↓reduceIte, Int.reduceBEq, es_cons, es_nil, e_asg, e_par, e_ifs, e_ret, e_retn, e_exp, e_pas, x_non, x_bl, x_int, x_str, x_var, x_glb, x_fnv, x_bin, x_neg, x_not, x_and, x_or, x_cmp, x_chn, x_ife, x_call, x_callk, x_blt, x_isi, x_mth, x_idx, x_slc, x_tup, x_list, x_thaw, x_frz, x_rgv, xs_nil, xs_cons, xo_none, xo_some, xc_none, xc_some, xt_var, xt_idx, xt_tup, xts_nil, xts_cons, tg_nil, tg_cons, asgs_nil, asgs_cons, bind_ok, tru_bl, toI_int, oD_some, o_int, Option.map_some, Option.bind_some, List.getElem?_cons_zero, List.getElem?_cons_succ, List.set_cons_zero, List.set_cons_succ, List.length_cons, List.length_nil, List.map_cons, List.map_nil, List.nil_append, List.cons_append, Bool.not_true, Bool.not_false, Bool.true_and, Bool.and_true, Bool.false_and, Bool.true_or, Bool.false_or, reduceCtorEq, decide_true, decide_false, b_intI, b_len, b_sum, b_all, b_any, b_tuple, b_list, b_abs, len_tup, len_frz, len_scr, ix_tup, ix_frz, ix_scr, sv_frz, sv_tup, sv_scr, lv_frz, lv_scr, sl_tup, sl_frz, sl_scr, walk_tup, walk_frz, walk_scr, walk_str, xi_val, xi_rng1, xi_rng2, xi_enum, xi_zip, lock_nil, noX_okk, thaw_frz, x_imp, comb_im (show m < 33 by omega) (show s < 33 by omega), sub_nat hs, sp_moved (show m - s ≤ 9 by omega) n (by omega), mul_l (sc_small m (by omega) s (by omega)).2]
theorem sp_fixed {m s : Nat} (h1 : 1 ≤ m) (h : m ≤ 9) (hs : s ≤ m) : Cl T Gc 100000 4 42 [.int (m : Nat), .int (s : Nat)] (.int (combV m s * movedF (m - s))) := Cl.rt (k := 3) (F := ⟨2, 2, b42⟩) rfl rfl fun n hn st => by
  show exs _ _ _ b42 [some (.int (m : Nat)), some (.int (s : Nat))] st = _
  have g : Gc 3 = .int 9 := rfl
  have c1 := ck_num 0 1 9 (m : Int) b37 37 rfl rfl (by omega) (by omega) n hn st
  have c2 := ck_num 0 0 (m : Int) (s : Int) b38 38 rfl rfl (by omega) (by omega) n hn st
  simp only [b42, Nat.zero_add, Nat.reduceAdd, Nat.reduceLT, Nat.reduceSub, ↓reduceIte, Int.reduceBEq, es_cons, es_nil, e_asg, e_par, e_ifs, e_ret, e_retn, e_exp, e_pas, x_non, x_bl, x_int, x_str, x_var, x_glb, x_fnv, x_bin, x_neg, x_not, x_and, x_or, x_cmp, x_chn, x_ife, x_call, x_callk, x_blt, x_isi, x_mth, x_idx, x_slc, x_tup, x_list, x_thaw, x_frz, x_rgv, xs_nil, xs_cons, xo_none, xo_some, xc_none, xc_some, xt_var, xt_idx, xt_tup, xts_nil, xts_cons, tg_nil, tg_cons, asgs_nil, asgs_cons, bind_ok, tru_bl, toI_int, oD_some, o_int, Option.map_some, Option.bind_some, List.getElem?_cons_zero, List.getElem?_cons_succ, List.set_cons_zero, List.set_cons_succ, List.length_cons, List.length_nil, List.map_cons, List.map_nil, List.nil_append, List.cons_append, Bool.not_true, Bool.not_false, Bool.true_and, Bool.and_true, Bool.false_and, Bool.true_or, Bool.false_or, reduceCtorEq, decide_true, decide_false, b_intI, b_len, b_sum, b_all, b_any, b_tuple, b_list, b_abs, len_tup, len_frz, len_scr, ix_tup, ix_frz, ix_scr, sv_frz, sv_tup, sv_scr, lv_frz, lv_scr, sl_tup, sl_frz, sl_scr, walk_tup, walk_frz, walk_scr, walk_str, xi_val, xi_rng1, xi_rng2, xi_enum, xi_zip, lock_nil, noX_okk, thaw_frz, g, c1, c2, sp_fixedof h hs n (by omega)]
theorem sp_pow (f : Nat) (hT : T f = some ⟨2, 4, b33⟩) (b : Int) (hb : b.natAbs < 1000) {m : Nat} (h : m ≤ 20) : Cl T Gc 100000 1 f [.int b, .int (m : Nat)] (.int (powF b m)) := Cl.rt (F := ⟨2, 4, b33⟩) hT rfl fun n hn st => by
  show exs _ _ _ (.cons _ (.cons _ _)) [some (.int b), some (.int (m : Nat)), none, none] st = _
  have r2 := rng_nat (n := m) (by omega)
  obtain ⟨e, s, he, ⟨y, hq⟩, hs⟩ := ex_fold (C := PL.call T Gc 100000 n) (G := Gc) (W := 100000) (t := .var 3) (it := .rng1 (.var 1)) (b := .cons (.asg (.var 2) (.bin .mul (.var 2) (.var 0))) .nil)
    (env := [some (.int b), some (.int (m : Nat)), some (.int 1), none]) (st := st) (fun k : Nat => D.int (k : Nat)) (List.range m) (fun (a : Int) e s => (∃ y, e = [some (.int b), some (.int (m : Nat)), some (.int a), y]) ∧ s = st) (fun a k => a * b) 1
    (by simp only [Nat.zero_add, Nat.reduceAdd, Nat.reduceLT, Nat.reduceSub, ↓reduceIte, Int.reduceBEq, es_cons, es_nil, e_asg, e_par, e_ifs, e_ret, e_retn, e_exp, e_pas, x_non, x_bl, x_int, x_str, x_var, x_glb, x_fnv, x_bin, x_neg, x_not, x_and, x_or, x_cmp, x_chn, x_ife, x_call, x_callk, x_blt, x_isi, x_mth, x_idx, x_slc, x_tup, x_list, x_thaw, x_frz, x_rgv, xs_nil, xs_cons, xo_none, xo_some, xc_none, xc_some, xt_var, xt_idx, xt_tup, xts_nil, xts_cons, tg_nil, tg_cons, asgs_nil, asgs_cons, bind_ok, tru_bl, toI_int, oD_some, o_int, Option.map_some, Option.bind_some, List.getElem?_cons_zero, List.getElem?_cons_succ, List.set_cons_zero, List.set_cons_succ, List.length_cons, List.length_nil, List.map_cons, List.map_nil, List.nil_append, List.cons_append, Bool.not_true, Bool.not_false, Bool.true_and, Bool.and_true, Bool.false_and, Bool.true_or, Bool.false_or, reduceCtorEq, decide_true, decide_false, b_intI, b_len, b_sum, b_all, b_any, b_tuple, b_list, b_abs, len_tup, len_frz, len_scr, ix_tup, ix_frz, ix_scr, sv_frz, sv_tup, sv_scr, lv_frz, lv_scr, sl_tup, sl_frz, sl_scr, walk_tup, walk_frz, walk_scr, walk_str, xi_val, xi_rng1, xi_rng2, xi_enum, xi_zip, lock_nil, noX_okk, thaw_frz, r2, Int.toNat_natCast, rng_zero]) ⟨⟨_, rfl⟩, rfl⟩ (fun k hk a e s ⟨⟨y, he⟩, hs⟩ => by
      subst he hs
      exact ⟨[some (.int b), some (.int (m : Nat)), some (.int (a * b)), some (.int (k : Nat))], _, .inl (by simp only [Nat.zero_add, Nat.reduceAdd, Nat.reduceLT, Nat.reduceSub, ↓reduceIte, Int.reduceBEq, es_cons, es_nil, e_asg, e_par, e_ifs, e_ret, e_retn, e_exp, e_pas, x_non, x_bl, x_int, x_str, x_var, x_glb, x_fnv, x_bin, x_neg, x_not, x_and, x_or, x_cmp, x_chn, x_ife, x_call, x_callk, x_blt, x_isi, x_mth, x_idx, x_slc, x_tup, x_list, x_thaw, x_frz, x_rgv, xs_nil, xs_cons, xo_none, xo_some, xc_none, xc_some, xt_var, xt_idx, xt_tup, xts_nil, xts_cons, tg_nil, tg_cons, asgs_nil, asgs_cons, bind_ok, tru_bl, toI_int, oD_some, o_int, Option.map_some, Option.bind_some, List.getElem?_cons_zero, List.getElem?_cons_succ, List.set_cons_zero, List.set_cons_succ, List.length_cons, List.length_nil, List.map_cons, List.map_nil, List.nil_append, List.cons_append, Bool.not_true, Bool.not_false, Bool.true_and, Bool.and_true, Bool.false_and, Bool.true_or, Bool.false_or, reduceCtorEq, decide_true, decide_false, b_intI, b_len, b_sum, b_all, b_any, b_tuple, b_list, b_abs, len_tup, len_frz, len_scr, ix_tup, ix_frz, ix_scr, sv_frz, sv_tup, sv_scr, lv_frz, lv_scr, sl_tup, sl_frz, sl_scr, walk_tup, walk_frz, walk_scr, walk_str, xi_val, xi_rng1, xi_rng2, xi_enum, xi_zip, lock_nil, noX_okk, thaw_frz, mul_r (show b.natAbs < 1000000000 by omega)]), ⟨_, rfl⟩, rfl⟩)
  rw [exs_cons (env' := [some (.int b), some (.int (m : Nat)), some (.int 1), none]) (st' := st) (by simp only [Nat.zero_add, Nat.reduceAdd, Nat.reduceLT, Nat.reduceSub, ↓reduceIte, Int.reduceBEq, es_cons, es_nil, e_asg, e_par, e_ifs, e_ret, e_retn, e_exp, e_pas, x_non, x_bl, x_int, x_str, x_var, x_glb, x_fnv, x_bin, x_neg, x_not, x_and, x_or, x_cmp, x_chn, x_ife, x_call, x_callk, x_blt, x_isi, x_mth, x_idx, x_slc, x_tup, x_list, x_thaw, x_frz, x_rgv, xs_nil, xs_cons, xo_none, xo_some, xc_none, xc_some, xt_var, xt_idx, xt_tup, xts_nil, xts_cons, tg_nil, tg_cons, asgs_nil, asgs_cons, bind_ok, tru_bl, toI_int, oD_some, o_int, Option.map_some, Option.bind_some, List.getElem?_cons_zero, List.getElem?_cons_succ, List.set_cons_zero, List.set_cons_succ, List.length_cons, List.length_nil, List.map_cons, List.map_nil, List.nil_append, List.cons_append, Bool.not_true, Bool.not_false, Bool.true_and, Bool.and_true, Bool.false_and, Bool.true_or, Bool.false_or, reduceCtorEq, decide_true, decide_false, b_intI, b_len, b_sum, b_all, b_any, b_tuple, b_list, b_abs, len_tup, len_frz, len_scr, ix_tup, ix_frz, ix_scr, sv_frz, sv_tup, sv_scr, lv_frz, lv_scr, sl_tup, sl_frz, sl_scr, walk_tup, walk_frz, walk_scr, walk_str, xi_val, xi_rng1, xi_rng2, xi_enum, xi_zip, lock_nil, noX_okk, thaw_frz]), exs_cons he, hq, hs]
  simp only [Nat.zero_add, Nat.reduceAdd, Nat.reduceLT, Nat.reduceSub, ↓reduceIte, Int.reduceBEq, es_cons, es_nil, e_asg, e_par, e_ifs, e_ret, e_retn, e_exp, e_pas, x_non, x_bl, x_int, x_str, x_var, x_glb, x_fnv, x_bin, x_neg, x_not, x_and, x_or, x_cmp, x_chn, x_ife, x_call, x_callk, x_blt, x_isi, x_mth, x_idx, x_slc, x_tup, x_list, x_thaw, x_frz, x_rgv, xs_nil, xs_cons, xo_none, xo_some, xc_none, xc_some, xt_var, xt_idx, xt_tup, xts_nil, xts_cons, tg_nil, tg_cons, asgs_nil, asgs_cons, bind_ok, tru_bl, toI_int, oD_some, o_int, Option.map_some, Option.bind_some, List.getElem?_cons_zero, List.getElem?_cons_succ, List.set_cons_zero, List.set_cons_succ, List.length_cons, List.length_nil, List.map_cons, List.map_nil, List.nil_append, List.cons_append, Bool.not_true, Bool.not_false, Bool.true_and, Bool.and_true, Bool.false_and, Bool.true_or, Bool.false_or, reduceCtorEq, decide_true, decide_false, b_intI, b_len, b_sum, b_all, b_any, b_tuple, b_list, b_abs, len_tup, len_frz, len_scr, ix_tup, ix_frz, ix_scr, sv_frz, sv_tup, sv_scr, lv_frz, lv_scr, sl_tup, sl_frz, sl_scr, walk_tup, walk_frz, walk_scr, walk_str, xi_val, xi_rng1, xi_rng2, xi_enum, xi_zip, lock_nil, noX_okk, thaw_frz, powF]
theorem sp_rowsof {s m : Nat} (hs : s ≤ 9) (h : m ≤ 9) : Cl T Gc 100000 2 34 [.int (s : Nat), .int (m : Nat)] (.int (rowsF s m)) := Cl.rt (k := 1) (F := ⟨2, 3, b34⟩) rfl rfl fun n hn st => by
  show exs _ _ _ b34 [some (.int (s : Nat)), some (.int (m : Nat)), none] st = _
  have r2 := rng_nat (n := m + 1) (by omega)
  have hc : ev (PL.call T Gc 100000 n) Gc (.comp [2] (.bin .mul (.bin .mul (.call 24 (.cons (.var 2) .nil)) (.imp .comb (.cons (.var 1) (.cons (.var 2) .nil)))) (.call 33 (.cons (.bin .sub (.var 1) (.var 2)) (.cons (.var 0) .nil)))) (.var 2) (.rng1 (.bin .add (.var 1) (.int 1))) .none) [some (.int (s : Nat)), some (.int (m : Nat)), none] st =
      .ok (.frz ((List.range (m + 1)).filterMap fun k => some (.int (signF k * combV m k * powF ((m : Int) - (k : Int)) s)))) st := by
    refine ev_lcm (fun k : Nat => .int (k : Nat)) _ _ (by simp only [Nat.zero_add, Nat.reduceAdd, Nat.reduceLT, Nat.reduceSub, ↓reduceIte, Int.reduceBEq, es_cons, es_nil, e_asg, e_par, e_ifs, e_ret, e_retn, e_exp, e_pas, x_non, x_bl, x_int, x_str, x_var, x_glb, x_fnv, x_bin, x_neg, x_not, x_and, x_or, x_cmp, x_chn, x_ife, x_call, x_callk, x_blt, x_isi, x_mth, x_idx, x_slc, x_tup, x_list, x_thaw, x_frz, x_rgv, xs_nil, xs_cons, xo_none, xo_some, xc_none, xc_some, xt_var, xt_idx, xt_tup, xts_nil, xts_cons, tg_nil, tg_cons, asgs_nil, asgs_cons, bind_ok, tru_bl, toI_int, oD_some, o_int, Option.map_some, Option.bind_some, List.getElem?_cons_zero, List.getElem?_cons_succ, List.set_cons_zero, List.set_cons_succ, List.length_cons, List.length_nil, List.map_cons, List.map_nil, List.nil_append, List.cons_append, Bool.not_true, Bool.not_false, Bool.true_and, Bool.and_true, Bool.false_and, Bool.true_or, Bool.false_or, reduceCtorEq, decide_true, decide_false, b_intI, b_len, b_sum, b_all, b_any, b_tuple, b_list, b_abs, len_tup, len_frz, len_scr, ix_tup, ix_frz, ix_scr, sv_frz, sv_tup, sv_scr, lv_frz, lv_scr, sl_tup, sl_frz, sl_scr, walk_tup, walk_frz, walk_scr, walk_str, xi_val, xi_rng1, xi_rng2, xi_enum, xi_zip, lock_nil, noX_okk, thaw_frz, add_one', r2, Int.toNat_natCast, rng_zero]) (by simp; omega) fun k hk => ?_
    have hk : k < m + 1 := by simpa using hk
    simp only [compB, wipe, Nat.zero_add, Nat.reduceAdd, Nat.reduceLT, Nat.reduceSub, ↓reduceIte, Int.reduceBEq, es_cons, es_nil, e_asg, e_par, e_ifs, e_ret, e_retn, e_exp, e_pas, x_non, x_bl, x_int, x_str, x_var, x_glb, x_fnv, x_bin, x_neg, x_not, x_and, x_or, x_cmp, x_chn, x_ife, x_call, x_callk, x_blt, x_isi, x_mth, x_idx, x_slc, x_tup, x_list, x_thaw, x_frz, x_rgv, xs_nil, xs_cons, xo_none, xo_some, xc_none, xc_some, xt_var, xt_idx, xt_tup, xts_nil, xts_cons, tg_nil, tg_cons, asgs_nil, asgs_cons, bind_ok, tru_bl, toI_int, oD_some, o_int, Option.map_some, Option.bind_some, List.getElem?_cons_zero, List.getElem?_cons_succ, List.set_cons_zero, List.set_cons_succ, List.length_cons, List.length_nil, List.map_cons, List.map_nil, List.nil_append, List.cons_append, Bool.not_true, Bool.not_false, Bool.true_and, Bool.and_true, Bool.false_and, Bool.true_or, Bool.false_or, reduceCtorEq, decide_true, decide_false, b_intI, b_len, b_sum, b_all, b_any, b_tuple, b_list, b_abs, len_tup, len_frz, len_scr, ix_tup, ix_frz, ix_scr, sv_frz, sv_tup, sv_scr, lv_frz, lv_scr, sl_tup, sl_frz, sl_scr, walk_tup, walk_frz, walk_scr, walk_str, xi_val, xi_rng1, xi_rng2, xi_enum, xi_zip, lock_nil, noX_okk, thaw_frz, x_imp, i_sub, sp_sgn k n (by omega), comb_im (show m < 33 by omega) (show k < 33 by omega), mul_r (sc_small m (by omega) k (by omega)).2, sp_pow 33 rfl ((m : Int) - (k : Int)) (by omega) (show s ≤ 20 by omega) n (by omega), mul_l (sc_small m (by omega) k (by omega)).1]
  rw [fm_some] at hc
  simp only [b34, Nat.zero_add, Nat.reduceAdd, Nat.reduceLT, Nat.reduceSub, ↓reduceIte, Int.reduceBEq, es_cons, es_nil, e_asg, e_par, e_ifs, e_ret, e_retn, e_exp, e_pas, x_non, x_bl, x_int, x_str, x_var, x_glb, x_fnv, x_bin, x_neg, x_not, x_and, x_or, x_cmp, x_chn, x_ife, x_call, x_callk, x_blt, x_isi, x_mth, x_idx, x_slc, x_tup, x_list, x_thaw, x_frz, x_rgv, xs_nil, xs_cons, xo_none, xo_some, xc_none, xc_some, xt_var, xt_idx, xt_tup, xts_nil, xts_cons, tg_nil, tg_cons, asgs_nil, asgs_cons, bind_ok, tru_bl, toI_int, oD_some, o_int, Option.map_some, Option.bind_some, List.getElem?_cons_zero, List.getElem?_cons_succ, List.set_cons_zero, List.set_cons_succ, List.length_cons, List.length_nil, List.map_cons, List.map_nil, List.nil_append, List.cons_append, Bool.not_true, Bool.not_false, Bool.true_and, Bool.and_true, Bool.false_and, Bool.true_or, Bool.false_or, reduceCtorEq, decide_true, decide_false, b_intI, b_len, b_sum, b_all, b_any, b_tuple, b_list, b_abs, len_tup, len_frz, len_scr, ix_tup, ix_frz, ix_scr, sv_frz, sv_tup, sv_scr, lv_frz, lv_scr, sl_tup, sl_frz, sl_scr, walk_tup, walk_frz, walk_scr, walk_str, xi_val, xi_rng1, xi_rng2, xi_enum, xi_zip, lock_nil, noX_okk, thaw_frz, hc, ints_m, rowsF]
theorem sp_rows {s m : Nat} (s1 : 1 ≤ s) (hs : s ≤ 9) (m1 : 1 ≤ m) (h : m ≤ 9) : Cl T Gc 100000 4 44 [.int (s : Nat), .int (m : Nat)] (.int (rowsF s m)) := Cl.rt (k := 3) (F := ⟨2, 2, b44⟩) rfl rfl fun n hn st => by
  show exs _ _ _ b44 [some (.int (s : Nat)), some (.int (m : Nat))] st = _
  have g : Gc 3 = .int 9 := rfl
  have c1 := ck_num 0 1 9 (s : Int) b38 38 rfl rfl (by omega) (by omega) n hn st
  have c2 := ck_num 0 1 9 (m : Int) b37 37 rfl rfl (by omega) (by omega) n hn st
  simp only [b44, Nat.zero_add, Nat.reduceAdd, Nat.reduceLT, Nat.reduceSub, ↓reduceIte, Int.reduceBEq, es_cons, es_nil, e_asg, e_par, e_ifs, e_ret, e_retn, e_exp, e_pas, x_non, x_bl, x_int, x_str, x_var, x_glb, x_fnv, x_bin, x_neg, x_not, x_and, x_or, x_cmp, x_chn, x_ife, x_call, x_callk, x_blt, x_isi, x_mth, x_idx, x_slc, x_tup, x_list, x_thaw, x_frz, x_rgv, xs_nil, xs_cons, xo_none, xo_some, xc_none, xc_some, xt_var, xt_idx, xt_tup, xts_nil, xts_cons, tg_nil, tg_cons, asgs_nil, asgs_cons, bind_ok, tru_bl, toI_int, oD_some, o_int, Option.map_some, Option.bind_some, List.getElem?_cons_zero, List.getElem?_cons_succ, List.set_cons_zero, List.set_cons_succ, List.length_cons, List.length_nil, List.map_cons, List.map_nil, List.nil_append, List.cons_append, Bool.not_true, Bool.not_false, Bool.true_and, Bool.and_true, Bool.false_and, Bool.true_or, Bool.false_or, reduceCtorEq, decide_true, decide_false, b_intI, b_len, b_sum, b_all, b_any, b_tuple, b_list, b_abs, len_tup, len_frz, len_scr, ix_tup, ix_frz, ix_scr, sv_frz, sv_tup, sv_scr, lv_frz, lv_scr, sl_tup, sl_frz, sl_scr, walk_tup, walk_frz, walk_scr, walk_str, xi_val, xi_rng1, xi_rng2, xi_enum, xi_zip, lock_nil, noX_okk, thaw_frz, g, c1, c2, sp_rowsof hs h n (by omega)]
/-! the law's own -/
theorem row_len : ∀ n : Nat, (rowF n).length = n + 1 := by
  have : ∀ (l : List Nat) (r : List Int), 1 ≤ r.length → (l.foldl (fun r _ => rowStep r) r).length = r.length + l.length := by
    intro l
    induction l with
    | nil => intro r _; rfl
    | cons a l ih =>
      intro r hr
      have e : (rowStep r).length = r.length + 1 := by
        simp [rowStep]
        omega
      rw [List.foldl_cons, ih _ (by omega), e, List.length_cons]
      omega
  intro n
  unfold rowF
  rw [this _ _ (by simp)]
  simp
  omega
theorem row_ev {C : Nat → List D → Sto → R D} {m : Nat} {z1 z3 z4 : Option D} {st : Sto} (r : List Int) (h1 : 1 ≤ r.length) (h2 : r.length ≤ 100) : ev C Gc (.bin .add (.bin .add (.list (.cons (.int 1) .nil)) (.comp [4] (.bin .add (.idx (.var 2) (.var 4)) (.idx (.var 2) (.bin .add (.var 4) (.int 1)))) (.var 4) (.rng1 (.bin .sub (.blt .len (.cons (.var 2) .nil)) (.int 1))) .none)) (.list (.cons (.int 1) .nil))) [some (.int (m : Nat)), z1, some (.frz (r.map D.int)), z3, z4] st =
    .ok (.frz ((rowStep r).map D.int)) st := by
  have r2 := rng_nat (n := r.length - 1) (by omega)
  have e1 : iop .sub ((r.length : Nat) : Int) 1 = some ((r.length - 1 : Nat) : Int) := sub_nat (b := 1) h1
  have hc : ev C Gc (.comp [4] (.bin .add (.idx (.var 2) (.var 4)) (.idx (.var 2) (.bin .add (.var 4) (.int 1)))) (.var 4) (.rng1 (.bin .sub (.blt .len (.cons (.var 2) .nil)) (.int 1))) .none) [some (.int (m : Nat)), z1, some (.frz (r.map D.int)), z3, z4] st =
      .ok (.frz ((List.range (r.length - 1)).filterMap fun k => some (.int (r.getD k 0 + r.getD (k + 1) 0)))) st := by
    refine ev_lcm (fun k : Nat => .int (k : Nat)) _ _ (by simp only [Nat.zero_add, Nat.reduceAdd, Nat.reduceLT, Nat.reduceSub, ↓reduceIte, Int.reduceBEq, es_cons, es_nil, e_asg, e_par, e_ifs, e_ret, e_retn, e_exp, e_pas, x_non, x_bl, x_int, x_str, x_var, x_glb, x_fnv, x_bin, x_neg, x_not, x_and, x_or, x_cmp, x_chn, x_ife, x_call, x_callk, x_blt, x_isi, x_mth, x_idx, x_slc, x_tup, x_list, x_thaw, x_frz, x_rgv, xs_nil, xs_cons, xo_none, xo_some, xc_none, xc_some, xt_var, xt_idx, xt_tup, xts_nil, xts_cons, tg_nil, tg_cons, asgs_nil, asgs_cons, bind_ok, tru_bl, toI_int, oD_some, o_int, Option.map_some, Option.bind_some, List.getElem?_cons_zero, List.getElem?_cons_succ, List.set_cons_zero, List.set_cons_succ, List.length_cons, List.length_nil, List.map_cons, List.map_nil, List.nil_append, List.cons_append, Bool.not_true, Bool.not_false, Bool.true_and, Bool.and_true, Bool.false_and, Bool.true_or, Bool.false_or, reduceCtorEq, decide_true, decide_false, b_intI, b_len, b_sum, b_all, b_any, b_tuple, b_list, b_abs, len_tup, len_frz, len_scr, ix_tup, ix_frz, ix_scr, sv_frz, sv_tup, sv_scr, lv_frz, lv_scr, sl_tup, sl_frz, sl_scr, walk_tup, walk_frz, walk_scr, walk_str, xi_val, xi_rng1, xi_rng2, xi_enum, xi_zip, lock_nil, noX_okk, thaw_frz, List.length_map, e1, r2, Int.toNat_natCast, rng_zero]) (by simp; omega) fun k hk => ?_
    have hk : k < r.length - 1 := by simpa using hk
    have at_ : ∀ j, j < r.length → atI (r.map D.int) (j : Nat) = some (.int (r.getD j 0)) := fun j hj => by
      rw [at_nat (by rw [List.length_map]; exact hj), List.getElem?_map, List.getElem?_eq_getElem hj, List.getD_eq_getElem?_getD, List.getElem?_eq_getElem hj]
      rfl
    have a1 : atI (r.map D.int) ((k : Int) + 1) = some (.int (r.getD (k + 1) 0)) := at_ (k + 1) (by omega)
    simp only [compB, wipe, Nat.zero_add, Nat.reduceAdd, Nat.reduceLT, Nat.reduceSub, ↓reduceIte, Int.reduceBEq, es_cons, es_nil, e_asg, e_par, e_ifs, e_ret, e_retn, e_exp, e_pas, x_non, x_bl, x_int, x_str, x_var, x_glb, x_fnv, x_bin, x_neg, x_not, x_and, x_or, x_cmp, x_chn, x_ife, x_call, x_callk, x_blt, x_isi, x_mth, x_idx, x_slc, x_tup, x_list, x_thaw, x_frz, x_rgv, xs_nil, xs_cons, xo_none, xo_some, xc_none, xc_some, xt_var, xt_idx, xt_tup, xts_nil, xts_cons, tg_nil, tg_cons, asgs_nil, asgs_cons, bind_ok, tru_bl, toI_int, oD_some, o_int, Option.map_some, Option.bind_some, List.getElem?_cons_zero, List.getElem?_cons_succ, List.set_cons_zero, List.set_cons_succ, List.length_cons, List.length_nil, List.map_cons, List.map_nil, List.nil_append, List.cons_append, Bool.not_true, Bool.not_false, Bool.true_and, Bool.and_true, Bool.false_and, Bool.true_or, Bool.false_or, reduceCtorEq, decide_true, decide_false, b_intI, b_len, b_sum, b_all, b_any, b_tuple, b_list, b_abs, len_tup, len_frz, len_scr, ix_tup, ix_frz, ix_scr, sv_frz, sv_tup, sv_scr, lv_frz, lv_scr, sl_tup, sl_frz, sl_scr, walk_tup, walk_frz, walk_scr, walk_str, xi_val, xi_rng1, xi_rng2, xi_enum, xi_zip, lock_nil, noX_okk, thaw_frz, i_add, at_ k (by omega), a1]
  rw [fm_some] at hc
  have z1 : szOk 1 = true := rfl
  have z2 : szOk (1 + ((List.range (r.length - 1)).map fun k => D.int (r.getD k 0 + r.getD (k + 1) 0)).length) = true := szOk_of (by simp; omega)
  have z3 : szOk (([D.int 1] ++ (List.range (r.length - 1)).map fun k => D.int (r.getD k 0 + r.getD (k + 1) 0)).length + 1) = true := szOk_of (by simp; omega)
  simp only [x_bin, x_list, x_int, xs_cons, xs_nil, bind_ok, List.length_cons, List.length_nil, Nat.zero_add, z1, if_true, hc, o_frz, z2, oD_some]
  simp only [List.singleton_append] at z3 ⊢
  rw [if_pos z3]
  simp [rowStep]
theorem sp_bin {m k : Nat} (h : m ≤ 50) : Cl T Gc 100000 1 61 [.int (m : Nat), .int (k : Nat)] (.int (binF m k)) := Cl.rt (F := ⟨2, 5, b61⟩) rfl rfl fun n hn st => by
  show exs _ _ _ (.cons _ (.cons _ _)) [some (.int (m : Nat)), some (.int (k : Nat)), none, none, none] st = _
  have r2 := rng_nat (n := m) (by omega)
  have z1 : szOk 1 = true := rfl
  obtain ⟨e, s, he, ⟨⟨y, hq⟩, _⟩, hs⟩ := ex_for (C := PL.call T Gc 100000 n) (G := Gc) (W := 100000) (t := .var 3) (it := .rng1 (.var 0)) (b := .cons (.asg (.var 2) (.bin .add (.bin .add (.list (.cons (.int 1) .nil)) (.comp [4] (.bin .add (.idx (.var 2) (.var 4)) (.idx (.var 2) (.bin .add (.var 4) (.int 1)))) (.var 4) (.rng1 (.bin .sub (.blt .len (.cons (.var 2) .nil)) (.int 1))) .none)) (.list (.cons (.int 1) .nil)))) .nil)
    (env := [some (.int (m : Nat)), some (.int (k : Nat)), some (.frz ((rowF 0).map D.int)), none, none]) (st := st) (ds := rngD 0 m) (fun j e s => ((∃ y, e = [some (.int (m : Nat)), some (.int (k : Nat)), some (.frz ((rowF j).map D.int)), y, none]) ∧ j ≤ m) ∧ s = st)
    (by simp only [Nat.zero_add, Nat.reduceAdd, Nat.reduceLT, Nat.reduceSub, ↓reduceIte, Int.reduceBEq, es_cons, es_nil, e_asg, e_par, e_ifs, e_ret, e_retn, e_exp, e_pas, x_non, x_bl, x_int, x_str, x_var, x_glb, x_fnv, x_bin, x_neg, x_not, x_and, x_or, x_cmp, x_chn, x_ife, x_call, x_callk, x_blt, x_isi, x_mth, x_idx, x_slc, x_tup, x_list, x_thaw, x_frz, x_rgv, xs_nil, xs_cons, xo_none, xo_some, xc_none, xc_some, xt_var, xt_idx, xt_tup, xts_nil, xts_cons, tg_nil, tg_cons, asgs_nil, asgs_cons, bind_ok, tru_bl, toI_int, oD_some, o_int, Option.map_some, Option.bind_some, List.getElem?_cons_zero, List.getElem?_cons_succ, List.set_cons_zero, List.set_cons_succ, List.length_cons, List.length_nil, List.map_cons, List.map_nil, List.nil_append, List.cons_append, Bool.not_true, Bool.not_false, Bool.true_and, Bool.and_true, Bool.false_and, Bool.true_or, Bool.false_or, reduceCtorEq, decide_true, decide_false, b_intI, b_len, b_sum, b_all, b_any, b_tuple, b_list, b_abs, len_tup, len_frz, len_scr, ix_tup, ix_frz, ix_scr, sv_frz, sv_tup, sv_scr, lv_frz, lv_scr, sl_tup, sl_frz, sl_scr, walk_tup, walk_frz, walk_scr, walk_str, xi_val, xi_rng1, xi_rng2, xi_enum, xi_zip, lock_nil, noX_okk, thaw_frz, r2, Int.toNat_natCast]) ⟨⟨⟨_, rfl⟩, by omega⟩, rfl⟩ (fun j d hd e s ⟨⟨⟨y, he⟩, _⟩, hs⟩ => by
      subst he hs
      obtain ⟨hj, rfl⟩ := rng_get hd
      have e2 : rowF (j + 1) = rowStep (rowF j) := by
        unfold rowF
        rw [List.range_succ, List.foldl_append]
        rfl
      refine ⟨[some (.int (m : Nat)), some (.int (k : Nat)), some (.frz ((rowF (j + 1)).map D.int)), some (.int (0 + (j : Nat))), none], _, .inl ?_, ⟨⟨_, rfl⟩, by omega⟩, rfl⟩
      have hr := row_ev (C := PL.call T Gc 100000 n) (m := m) (z1 := some (.int (k : Nat))) (z3 := some (.int (0 + (j : Nat)))) (z4 := none) (st := s) (rowF j) (by rw [row_len]; omega) (by rw [row_len]; omega)
      simp only [es_cons, e_asg, xt_var, List.length_cons, List.length_nil, Nat.zero_add, Nat.reduceAdd, Nat.reduceLT, ↓reduceIte, if_true, bind_ok, List.set_cons_succ, List.set_cons_zero, hr, es_nil, e2])
  rw [rng_len] at hq
  rw [exs_cons (env' := [some (.int (m : Nat)), some (.int (k : Nat)), some (.frz ((rowF 0).map D.int)), none, none]) (st' := st) (by simp only [Nat.zero_add, Nat.reduceAdd, Nat.reduceLT, Nat.reduceSub, ↓reduceIte, Int.reduceBEq, es_cons, es_nil, e_asg, e_par, e_ifs, e_ret, e_retn, e_exp, e_pas, x_non, x_bl, x_int, x_str, x_var, x_glb, x_fnv, x_bin, x_neg, x_not, x_and, x_or, x_cmp, x_chn, x_ife, x_call, x_callk, x_blt, x_isi, x_mth, x_idx, x_slc, x_tup, x_list, x_thaw, x_frz, x_rgv, xs_nil, xs_cons, xo_none, xo_some, xc_none, xc_some, xt_var, xt_idx, xt_tup, xts_nil, xts_cons, tg_nil, tg_cons, asgs_nil, asgs_cons, bind_ok, tru_bl, toI_int, oD_some, o_int, Option.map_some, Option.bind_some, List.getElem?_cons_zero, List.getElem?_cons_succ, List.set_cons_zero, List.set_cons_succ, List.length_cons, List.length_nil, List.map_cons, List.map_nil, List.nil_append, List.cons_append, Bool.not_true, Bool.not_false, Bool.true_and, Bool.and_true, Bool.false_and, Bool.true_or, Bool.false_or, reduceCtorEq, decide_true, decide_false, b_intI, b_len, b_sum, b_all, b_any, b_tuple, b_list, b_abs, len_tup, len_frz, len_scr, ix_tup, ix_frz, ix_scr, sv_frz, sv_tup, sv_scr, lv_frz, lv_scr, sl_tup, sl_frz, sl_scr, walk_tup, walk_frz, walk_scr, walk_str, xi_val, xi_rng1, xi_rng2, xi_enum, xi_zip, lock_nil, noX_okk, thaw_frz, z1]; rfl), exs_cons he, hq, hs]
  by_cases hk : k ≤ m
  · have h1 : decide ((k : Int) ≤ (m : Int)) = true := decide_eq_true (by omega)
    have h0 : decide ((0 : Int) ≤ (k : Int)) = true := decide_eq_true (by omega)
    have ha : atI ((rowF m).map D.int) (k : Nat) = some (.int ((rowF m).getD k 0)) := by
      have hj : k < (rowF m).length := by rw [row_len]; omega
      rw [at_nat (by rw [List.length_map]; exact hj), List.getElem?_map, List.getElem?_eq_getElem hj, List.getD_eq_getElem?_getD, List.getElem?_eq_getElem hj]
      rfl
    simp only [Nat.zero_add, Nat.reduceAdd, Nat.reduceLT, Nat.reduceSub, ↓reduceIte, Int.reduceBEq, es_cons, es_nil, e_asg, e_par, e_ifs, e_ret, e_retn, e_exp, e_pas, x_non, x_bl, x_int, x_str, x_var, x_glb, x_fnv, x_bin, x_neg, x_not, x_and, x_or, x_cmp, x_chn, x_ife, x_call, x_callk, x_blt, x_isi, x_mth, x_idx, x_slc, x_tup, x_list, x_thaw, x_frz, x_rgv, xs_nil, xs_cons, xo_none, xo_some, xc_none, xc_some, xt_var, xt_idx, xt_tup, xts_nil, xts_cons, tg_nil, tg_cons, asgs_nil, asgs_cons, bind_ok, tru_bl, toI_int, oD_some, o_int, Option.map_some, Option.bind_some, List.getElem?_cons_zero, List.getElem?_cons_succ, List.set_cons_zero, List.set_cons_succ, List.length_cons, List.length_nil, List.map_cons, List.map_nil, List.nil_append, List.cons_append, Bool.not_true, Bool.not_false, Bool.true_and, Bool.and_true, Bool.false_and, Bool.true_or, Bool.false_or, reduceCtorEq, decide_true, decide_false, b_intI, b_len, b_sum, b_all, b_any, b_tuple, b_list, b_abs, len_tup, len_frz, len_scr, ix_tup, ix_frz, ix_scr, sv_frz, sv_tup, sv_scr, lv_frz, lv_scr, sl_tup, sl_frz, sl_scr, walk_tup, walk_frz, walk_scr, walk_str, xi_val, xi_rng1, xi_rng2, xi_enum, xi_zip, lock_nil, noX_okk, thaw_frz, c_le, h0, h1, ha, binF, if_pos hk]
  · have h1 : decide ((k : Int) ≤ (m : Int)) = false := decide_eq_false (by omega)
    have h0 : decide ((0 : Int) ≤ (k : Int)) = true := decide_eq_true (by omega)
    simp only [Nat.zero_add, Nat.reduceAdd, Nat.reduceLT, Nat.reduceSub, ↓reduceIte, Int.reduceBEq, es_cons, es_nil, e_asg, e_par, e_ifs, e_ret, e_retn, e_exp, e_pas, x_non, x_bl, x_int, x_str, x_var, x_glb, x_fnv, x_bin, x_neg, x_not, x_and, x_or, x_cmp, x_chn, x_ife, x_call, x_callk, x_blt, x_isi, x_mth, x_idx, x_slc, x_tup, x_list, x_thaw, x_frz, x_rgv, xs_nil, xs_cons, xo_none, xo_some, xc_none, xc_some, xt_var, xt_idx, xt_tup, xts_nil, xts_cons, tg_nil, tg_cons, asgs_nil, asgs_cons, bind_ok, tru_bl, toI_int, oD_some, o_int, Option.map_some, Option.bind_some, List.getElem?_cons_zero, List.getElem?_cons_succ, List.set_cons_zero, List.set_cons_succ, List.length_cons, List.length_nil, List.map_cons, List.map_nil, List.nil_append, List.cons_append, Bool.not_true, Bool.not_false, Bool.true_and, Bool.and_true, Bool.false_and, Bool.true_or, Bool.false_or, reduceCtorEq, decide_true, decide_false, b_intI, b_len, b_sum, b_all, b_any, b_tuple, b_list, b_abs, len_tup, len_frz, len_scr, ix_tup, ix_frz, ix_scr, sv_frz, sv_tup, sv_scr, lv_frz, lv_scr, sl_tup, sl_frz, sl_scr, walk_tup, walk_frz, walk_scr, walk_str, xi_val, xi_rng1, xi_rng2, xi_enum, xi_zip, lock_nil, noX_okk, thaw_frz, c_le, h0, h1, binF, if_neg hk, Bool.false_eq_true]
theorem sp_none {m : Nat} (h : m ≤ 20) : Cl T Gc 100000 1 62 [.int (m : Nat)] (.int (noneF m)) := Cl.rt (F := ⟨1, 4, b62⟩) rfl rfl fun n hn st => by
  show exs _ _ _ (.cons _ (.cons _ _)) [some (.int (m : Nat)), none, none, none] st = _
  have r1 : rngOk 2 = true := rfl
  have r2 := rng_nat (n := m + 1) (by omega)
  have z2 : szOk 2 = true := rfl
  have e0 : (((m + 1 : Nat) : Int) - 2).toNat = m - 1 := by omega
  obtain ⟨e, s, he, ⟨y, hq⟩, hs⟩ := ex_fold (C := PL.call T Gc 100000 n) (G := Gc) (W := 100000) (t := .var 3) (it := .rng2 (.int 2) (.bin .add (.var 0) (.int 1))) (b := .cons (.par [1, 2] (.cons (.var 2) (.cons (.bin .mul (.bin .sub (.var 3) (.int 1)) (.bin .add (.var 1) (.var 2))) .nil))) .nil)
    (env := [some (.int (m : Nat)), some (.int 1), some (.int 0), none]) (st := st) (fun k : Nat => D.int ((2 + k : Nat) : Int)) (List.range (m - 1)) (fun (p : Int × Int) e s => (∃ y, e = [some (.int (m : Nat)), some (.int p.1), some (.int p.2), y]) ∧ s = st) (fun p k => (p.2, ((1 + k : Nat) : Int) * (p.1 + p.2))) (1, 0)
    (by simp only [Nat.zero_add, Nat.reduceAdd, Nat.reduceLT, Nat.reduceSub, ↓reduceIte, Int.reduceBEq, es_cons, es_nil, e_asg, e_par, e_ifs, e_ret, e_retn, e_exp, e_pas, x_non, x_bl, x_int, x_str, x_var, x_glb, x_fnv, x_bin, x_neg, x_not, x_and, x_or, x_cmp, x_chn, x_ife, x_call, x_callk, x_blt, x_isi, x_mth, x_idx, x_slc, x_tup, x_list, x_thaw, x_frz, x_rgv, xs_nil, xs_cons, xo_none, xo_some, xc_none, xc_some, xt_var, xt_idx, xt_tup, xts_nil, xts_cons, tg_nil, tg_cons, asgs_nil, asgs_cons, bind_ok, tru_bl, toI_int, oD_some, o_int, Option.map_some, Option.bind_some, List.getElem?_cons_zero, List.getElem?_cons_succ, List.set_cons_zero, List.set_cons_succ, List.length_cons, List.length_nil, List.map_cons, List.map_nil, List.nil_append, List.cons_append, Bool.not_true, Bool.not_false, Bool.true_and, Bool.and_true, Bool.false_and, Bool.true_or, Bool.false_or, reduceCtorEq, decide_true, decide_false, b_intI, b_len, b_sum, b_all, b_any, b_tuple, b_list, b_abs, len_tup, len_frz, len_scr, ix_tup, ix_frz, ix_scr, sv_frz, sv_tup, sv_scr, lv_frz, lv_scr, sl_tup, sl_frz, sl_scr, walk_tup, walk_frz, walk_scr, walk_str, xi_val, xi_rng1, xi_rng2, xi_enum, xi_zip, lock_nil, noX_okk, thaw_frz, add_one', r1, r2, e0, rng_two]) ⟨⟨_, rfl⟩, rfl⟩ (fun k hk p e s ⟨⟨y, he⟩, hs⟩ => by
      subst he hs
      have hk : k < m - 1 := by simpa using hk
      have e1 : iop .sub ((2 + k : Nat) : Int) 1 = some ((1 + k : Nat) : Int) := i_sub.trans (congrArg some (by omega))
      refine ⟨[some (.int (m : Nat)), some (.int p.2), some (.int (((1 + k : Nat) : Int) * (p.1 + p.2))), some (.int ((2 + k : Nat) : Int))], _, .inl ?_, ⟨_, rfl⟩, rfl⟩
      simp only [Nat.zero_add, Nat.reduceAdd, Nat.reduceLT, Nat.reduceSub, ↓reduceIte, Int.reduceBEq, es_cons, es_nil, e_asg, e_par, e_ifs, e_ret, e_retn, e_exp, e_pas, x_non, x_bl, x_int, x_str, x_var, x_glb, x_fnv, x_bin, x_neg, x_not, x_and, x_or, x_cmp, x_chn, x_ife, x_call, x_callk, x_blt, x_isi, x_mth, x_idx, x_slc, x_tup, x_list, x_thaw, x_frz, x_rgv, xs_nil, xs_cons, xo_none, xo_some, xc_none, xc_some, xt_var, xt_idx, xt_tup, xts_nil, xts_cons, tg_nil, tg_cons, asgs_nil, asgs_cons, bind_ok, tru_bl, toI_int, oD_some, o_int, Option.map_some, Option.bind_some, List.getElem?_cons_zero, List.getElem?_cons_succ, List.set_cons_zero, List.set_cons_succ, List.length_cons, List.length_nil, List.map_cons, List.map_nil, List.nil_append, List.cons_append, Bool.not_true, Bool.not_false, Bool.true_and, Bool.and_true, Bool.false_and, Bool.true_or, Bool.false_or, reduceCtorEq, decide_true, decide_false, b_intI, b_len, b_sum, b_all, b_any, b_tuple, b_list, b_abs, len_tup, len_frz, len_scr, ix_tup, ix_frz, ix_scr, sv_frz, sv_tup, sv_scr, lv_frz, lv_scr, sl_tup, sl_frz, sl_scr, walk_tup, walk_frz, walk_scr, walk_str, xi_val, xi_rng1, xi_rng2, xi_enum, xi_zip, lock_nil, noX_okk, thaw_frz, e1, i_add, mul_l (show (((1 + k : Nat) : Int)).natAbs < 1000000000 by omega)])
  rw [exs_cons (env' := [some (.int (m : Nat)), some (.int 1), some (.int 0), none]) (st' := st) (by simp only [Nat.zero_add, Nat.reduceAdd, Nat.reduceLT, Nat.reduceSub, ↓reduceIte, Int.reduceBEq, es_cons, es_nil, e_asg, e_par, e_ifs, e_ret, e_retn, e_exp, e_pas, x_non, x_bl, x_int, x_str, x_var, x_glb, x_fnv, x_bin, x_neg, x_not, x_and, x_or, x_cmp, x_chn, x_ife, x_call, x_callk, x_blt, x_isi, x_mth, x_idx, x_slc, x_tup, x_list, x_thaw, x_frz, x_rgv, xs_nil, xs_cons, xo_none, xo_some, xc_none, xc_some, xt_var, xt_idx, xt_tup, xts_nil, xts_cons, tg_nil, tg_cons, asgs_nil, asgs_cons, bind_ok, tru_bl, toI_int, oD_some, o_int, Option.map_some, Option.bind_some, List.getElem?_cons_zero, List.getElem?_cons_succ, List.set_cons_zero, List.set_cons_succ, List.length_cons, List.length_nil, List.map_cons, List.map_nil, List.nil_append, List.cons_append, Bool.not_true, Bool.not_false, Bool.true_and, Bool.and_true, Bool.false_and, Bool.true_or, Bool.false_or, reduceCtorEq, decide_true, decide_false, b_intI, b_len, b_sum, b_all, b_any, b_tuple, b_list, b_abs, len_tup, len_frz, len_scr, ix_tup, ix_frz, ix_scr, sv_frz, sv_tup, sv_scr, lv_frz, lv_scr, sl_tup, sl_frz, sl_scr, walk_tup, walk_frz, walk_scr, walk_str, xi_val, xi_rng1, xi_rng2, xi_enum, xi_zip, lock_nil, noX_okk, thaw_frz, z2]), exs_cons he, hq, hs]
  by_cases h0 : m = 0
  · subst h0
    have c0 : cop st .eq (.int ((0 : Nat) : Int)) (.int 0) = some true := rfl
    simp only [Nat.zero_add, Nat.reduceAdd, Nat.reduceLT, Nat.reduceSub, ↓reduceIte, Int.reduceBEq, es_cons, es_nil, e_asg, e_par, e_ifs, e_ret, e_retn, e_exp, e_pas, x_non, x_bl, x_int, x_str, x_var, x_glb, x_fnv, x_bin, x_neg, x_not, x_and, x_or, x_cmp, x_chn, x_ife, x_call, x_callk, x_blt, x_isi, x_mth, x_idx, x_slc, x_tup, x_list, x_thaw, x_frz, x_rgv, xs_nil, xs_cons, xo_none, xo_some, xc_none, xc_some, xt_var, xt_idx, xt_tup, xts_nil, xts_cons, tg_nil, tg_cons, asgs_nil, asgs_cons, bind_ok, tru_bl, toI_int, oD_some, o_int, Option.map_some, Option.bind_some, List.getElem?_cons_zero, List.getElem?_cons_succ, List.set_cons_zero, List.set_cons_succ, List.length_cons, List.length_nil, List.map_cons, List.map_nil, List.nil_append, List.cons_append, Bool.not_true, Bool.not_false, Bool.true_and, Bool.and_true, Bool.false_and, Bool.true_or, Bool.false_or, reduceCtorEq, decide_true, decide_false, b_intI, b_len, b_sum, b_all, b_any, b_tuple, b_list, b_abs, len_tup, len_frz, len_scr, ix_tup, ix_frz, ix_scr, sv_frz, sv_tup, sv_scr, lv_frz, lv_scr, sl_tup, sl_frz, sl_scr, walk_tup, walk_frz, walk_scr, walk_str, xi_val, xi_rng1, xi_rng2, xi_enum, xi_zip, lock_nil, noX_okk, thaw_frz, c0, noneF, List.range_zero, List.foldl_nil, Nat.zero_sub]
  · have c0 : cop st .eq (.int (m : Nat)) (.int 0) = some false := (eq_nat (b := 0)).trans (by rw [decide_eq_false h0])
    simp only [Nat.zero_add, Nat.reduceAdd, Nat.reduceLT, Nat.reduceSub, ↓reduceIte, Int.reduceBEq, es_cons, es_nil, e_asg, e_par, e_ifs, e_ret, e_retn, e_exp, e_pas, x_non, x_bl, x_int, x_str, x_var, x_glb, x_fnv, x_bin, x_neg, x_not, x_and, x_or, x_cmp, x_chn, x_ife, x_call, x_callk, x_blt, x_isi, x_mth, x_idx, x_slc, x_tup, x_list, x_thaw, x_frz, x_rgv, xs_nil, xs_cons, xo_none, xo_some, xc_none, xc_some, xt_var, xt_idx, xt_tup, xts_nil, xts_cons, tg_nil, tg_cons, asgs_nil, asgs_cons, bind_ok, tru_bl, toI_int, oD_some, o_int, Option.map_some, Option.bind_some, List.getElem?_cons_zero, List.getElem?_cons_succ, List.set_cons_zero, List.set_cons_succ, List.length_cons, List.length_nil, List.map_cons, List.map_nil, List.nil_append, List.cons_append, Bool.not_true, Bool.not_false, Bool.true_and, Bool.and_true, Bool.false_and, Bool.true_or, Bool.false_or, reduceCtorEq, decide_true, decide_false, b_intI, b_len, b_sum, b_all, b_any, b_tuple, b_list, b_abs, len_tup, len_frz, len_scr, ix_tup, ix_frz, ix_scr, sv_frz, sv_tup, sv_scr, lv_frz, lv_scr, sl_tup, sl_frz, sl_scr, walk_tup, walk_frz, walk_scr, walk_str, xi_val, xi_rng1, xi_rng2, xi_enum, xi_zip, lock_nil, noX_okk, thaw_frz, c0, noneF, if_neg h0, Bool.false_eq_true]
theorem sp_full {s m : Nat} (hs : s ≤ 9) (h : m ≤ 9) : Cl T Gc 100000 2 64 [.int (s : Nat), .int (m : Nat)] (.int (fullF s m)) := Cl.rt (k := 1) (F := ⟨2, 5, b64⟩) rfl rfl fun n hn st => by
  show exs _ _ _ (.cons _ (.cons _ _)) [some (.int (s : Nat)), some (.int (m : Nat)), none, none, none] st = _
  have r2 := rng_nat (n := m + 1) (by omega)
  obtain ⟨e, s', he, ⟨y, y2, hq⟩, hs'⟩ := ex_fold (C := PL.call T Gc 100000 n) (G := Gc) (W := 100000) (t := .var 3) (it := .rng1 (.bin .add (.var 1) (.int 1))) (b := (.cons (.asg (.var 4) (.ife (.cmp .eq (.bin .mod (.blt .int (.cons (.var 3) .nil)) (.int 2)) (.int 1)) (.neg (.int 1)) (.int 1))) (.cons (.asg (.var 2) (.bin .add (.var 2) (.bin .mul (.bin .mul (.var 4) (.call 61 (.cons (.var 1) (.cons (.var 3) .nil)))) (.call 63 (.cons (.bin .sub (.var 1) (.var 3)) (.cons (.var 0) .nil)))))) .nil)))
    (env := [some (.int (s : Nat)), some (.int (m : Nat)), some (.int 0), none, none]) (st := st) (fun k : Nat => D.int (k : Nat)) (List.range (m + 1)) (fun (a : Int) e s' => (∃ y y2, e = [some (.int (s : Nat)), some (.int (m : Nat)), some (.int a), y, y2]) ∧ s' = st) (fun w k => w + (if k % 2 = 1 then -1 else 1) * binF m k * powF ((m : Int) - (k : Int)) s) 0
    (by simp only [Nat.zero_add, Nat.reduceAdd, Nat.reduceLT, Nat.reduceSub, ↓reduceIte, Int.reduceBEq, es_cons, es_nil, e_asg, e_par, e_ifs, e_ret, e_retn, e_exp, e_pas, x_non, x_bl, x_int, x_str, x_var, x_glb, x_fnv, x_bin, x_neg, x_not, x_and, x_or, x_cmp, x_chn, x_ife, x_call, x_callk, x_blt, x_isi, x_mth, x_idx, x_slc, x_tup, x_list, x_thaw, x_frz, x_rgv, xs_nil, xs_cons, xo_none, xo_some, xc_none, xc_some, xt_var, xt_idx, xt_tup, xts_nil, xts_cons, tg_nil, tg_cons, asgs_nil, asgs_cons, bind_ok, tru_bl, toI_int, oD_some, o_int, Option.map_some, Option.bind_some, List.getElem?_cons_zero, List.getElem?_cons_succ, List.set_cons_zero, List.set_cons_succ, List.length_cons, List.length_nil, List.map_cons, List.map_nil, List.nil_append, List.cons_append, Bool.not_true, Bool.not_false, Bool.true_and, Bool.and_true, Bool.false_and, Bool.true_or, Bool.false_or, reduceCtorEq, decide_true, decide_false, b_intI, b_len, b_sum, b_all, b_any, b_tuple, b_list, b_abs, len_tup, len_frz, len_scr, ix_tup, ix_frz, ix_scr, sv_frz, sv_tup, sv_scr, lv_frz, lv_scr, sl_tup, sl_frz, sl_scr, walk_tup, walk_frz, walk_scr, walk_str, xi_val, xi_rng1, xi_rng2, xi_enum, xi_zip, lock_nil, noX_okk, thaw_frz, add_one', r2, Int.toNat_natCast, rng_zero]) ⟨⟨_, _, rfl⟩, rfl⟩ (fun k hk a e s' ⟨⟨y, y2, he⟩, hs'⟩ => by
      subst he hs'
      have hk : k < m + 1 := by simpa using hk
      have e1 : iop .mod (k : Int) 2 = some ((k % 2 : Nat) : Int) := mod_nat (b := 2) (by decide)
      have e2 : cop s' .eq (.int ((k % 2 : Nat) : Int)) (.int 1) = some (decide (k % 2 = 1)) := eq_nat (b := 1)
      have e4 : (.neg (.int 1) : E) = .neg (.int 1) := rfl
      have sb := sb_small m (by omega) k (by omega)
      refine ⟨[some (.int (s : Nat)), some (.int (m : Nat)), some (.int (a + (if k % 2 = 1 then -1 else 1) * binF m k * powF ((m : Int) - (k : Int)) s)), some (.int (k : Nat)), some (.int (if k % 2 = 1 then -1 else 1))], _, .inl ?_, ⟨_, _, rfl⟩, rfl⟩
      have e3 : iop .mul (if k % 2 = 1 then (-1 : Int) else 1) (binF m k) = some ((if k % 2 = 1 then (-1 : Int) else 1) * binF m k) := mul_l (by split <;> decide)
      by_cases hb : k % 2 = 1
      · rw [if_pos hb] at e3 sb ⊢
        rw [decide_eq_true hb] at e2
        simp only [Nat.zero_add, Nat.reduceAdd, Nat.reduceLT, Nat.reduceSub, ↓reduceIte, Int.reduceBEq, es_cons, es_nil, e_asg, e_par, e_ifs, e_ret, e_retn, e_exp, e_pas, x_non, x_bl, x_int, x_str, x_var, x_glb, x_fnv, x_bin, x_neg, x_not, x_and, x_or, x_cmp, x_chn, x_ife, x_call, x_callk, x_blt, x_isi, x_mth, x_idx, x_slc, x_tup, x_list, x_thaw, x_frz, x_rgv, xs_nil, xs_cons, xo_none, xo_some, xc_none, xc_some, xt_var, xt_idx, xt_tup, xts_nil, xts_cons, tg_nil, tg_cons, asgs_nil, asgs_cons, bind_ok, tru_bl, toI_int, oD_some, o_int, Option.map_some, Option.bind_some, List.getElem?_cons_zero, List.getElem?_cons_succ, List.set_cons_zero, List.set_cons_succ, List.length_cons, List.length_nil, List.map_cons, List.map_nil, List.nil_append, List.cons_append, Bool.not_true, Bool.not_false, Bool.true_and, Bool.and_true, Bool.false_and, Bool.true_or, Bool.false_or, reduceCtorEq, decide_true, decide_false, b_intI, b_len, b_sum, b_all, b_any, b_tuple, b_list, b_abs, len_tup, len_frz, len_scr, ix_tup, ix_frz, ix_scr, sv_frz, sv_tup, sv_scr, lv_frz, lv_scr, sl_tup, sl_frz, sl_scr, walk_tup, walk_frz, walk_scr, walk_str, xi_val, xi_rng1, xi_rng2, xi_enum, xi_zip, lock_nil, noX_okk, thaw_frz, e1, e2, Int.reduceNeg, sp_bin (show m ≤ 50 by omega) n (by omega), e3, i_sub, sp_pow 63 rfl ((m : Int) - (k : Int)) (by omega) (show s ≤ 20 by omega) n (by omega), mul_l sb, i_add]
      · rw [if_neg hb] at e3 sb ⊢
        rw [decide_eq_false hb] at e2
        simp only [Nat.zero_add, Nat.reduceAdd, Nat.reduceLT, Nat.reduceSub, ↓reduceIte, Int.reduceBEq, es_cons, es_nil, e_asg, e_par, e_ifs, e_ret, e_retn, e_exp, e_pas, x_non, x_bl, x_int, x_str, x_var, x_glb, x_fnv, x_bin, x_neg, x_not, x_and, x_or, x_cmp, x_chn, x_ife, x_call, x_callk, x_blt, x_isi, x_mth, x_idx, x_slc, x_tup, x_list, x_thaw, x_frz, x_rgv, xs_nil, xs_cons, xo_none, xo_some, xc_none, xc_some, xt_var, xt_idx, xt_tup, xts_nil, xts_cons, tg_nil, tg_cons, asgs_nil, asgs_cons, bind_ok, tru_bl, toI_int, oD_some, o_int, Option.map_some, Option.bind_some, List.getElem?_cons_zero, List.getElem?_cons_succ, List.set_cons_zero, List.set_cons_succ, List.length_cons, List.length_nil, List.map_cons, List.map_nil, List.nil_append, List.cons_append, Bool.not_true, Bool.not_false, Bool.true_and, Bool.and_true, Bool.false_and, Bool.true_or, Bool.false_or, reduceCtorEq, decide_true, decide_false, b_intI, b_len, b_sum, b_all, b_any, b_tuple, b_list, b_abs, len_tup, len_frz, len_scr, ix_tup, ix_frz, ix_scr, sv_frz, sv_tup, sv_scr, lv_frz, lv_scr, sl_tup, sl_frz, sl_scr, walk_tup, walk_frz, walk_scr, walk_str, xi_val, xi_rng1, xi_rng2, xi_enum, xi_zip, lock_nil, noX_okk, thaw_frz, e1, e2, Bool.false_eq_true, sp_bin (show m ≤ 50 by omega) n (by omega), e3, i_sub, sp_pow 63 rfl ((m : Int) - (k : Int)) (by omega) (show s ≤ 20 by omega) n (by omega), mul_l sb, i_add])
  rw [exs_cons (env' := [some (.int (s : Nat)), some (.int (m : Nat)), some (.int 0), none, none]) (st' := st) (by simp only [Nat.zero_add, Nat.reduceAdd, Nat.reduceLT, Nat.reduceSub, ↓reduceIte, Int.reduceBEq, es_cons, es_nil, e_asg, e_par, e_ifs, e_ret, e_retn, e_exp, e_pas, x_non, x_bl, x_int, x_str, x_var, x_glb, x_fnv, x_bin, x_neg, x_not, x_and, x_or, x_cmp, x_chn, x_ife, x_call, x_callk, x_blt, x_isi, x_mth, x_idx, x_slc, x_tup, x_list, x_thaw, x_frz, x_rgv, xs_nil, xs_cons, xo_none, xo_some, xc_none, xc_some, xt_var, xt_idx, xt_tup, xts_nil, xts_cons, tg_nil, tg_cons, asgs_nil, asgs_cons, bind_ok, tru_bl, toI_int, oD_some, o_int, Option.map_some, Option.bind_some, List.getElem?_cons_zero, List.getElem?_cons_succ, List.set_cons_zero, List.set_cons_succ, List.length_cons, List.length_nil, List.map_cons, List.map_nil, List.nil_append, List.cons_append, Bool.not_true, Bool.not_false, Bool.true_and, Bool.and_true, Bool.false_and, Bool.true_or, Bool.false_or, reduceCtorEq, decide_true, decide_false, b_intI, b_len, b_sum, b_all, b_any, b_tuple, b_list, b_abs, len_tup, len_frz, len_scr, ix_tup, ix_frz, ix_scr, sv_frz, sv_tup, sv_scr, lv_frz, lv_scr, sl_tup, sl_frz, sl_scr, walk_tup, walk_frz, walk_scr, walk_str, xi_val, xi_rng1, xi_rng2, xi_enum, xi_zip, lock_nil, noX_okk, thaw_frz]), exs_cons he, hq, hs']
  simp only [Nat.zero_add, Nat.reduceAdd, Nat.reduceLT, Nat.reduceSub, ↓reduceIte, Int.reduceBEq, es_cons, es_nil, e_asg, e_par, e_ifs, e_ret, e_retn, e_exp, e_pas, x_non, x_bl, x_int, x_str, x_var, x_glb, x_fnv, x_bin, x_neg, x_not, x_and, x_or, x_cmp, x_chn, x_ife, x_call, x_callk, x_blt, x_isi, x_mth, x_idx, x_slc, x_tup, x_list, x_thaw, x_frz, x_rgv, xs_nil, xs_cons, xo_none, xo_some, xc_none, xc_some, xt_var, xt_idx, xt_tup, xts_nil, xts_cons, tg_nil, tg_cons, asgs_nil, asgs_cons, bind_ok, tru_bl, toI_int, oD_some, o_int, Option.map_some, Option.bind_some, List.getElem?_cons_zero, List.getElem?_cons_succ, List.set_cons_zero, List.set_cons_succ, List.length_cons, List.length_nil, List.map_cons, List.map_nil, List.nil_append, List.cons_append, Bool.not_true, Bool.not_false, Bool.true_and, Bool.and_true, Bool.false_and, Bool.true_or, Bool.false_or, reduceCtorEq, decide_true, decide_false, b_intI, b_len, b_sum, b_all, b_any, b_tuple, b_list, b_abs, len_tup, len_frz, len_scr, ix_tup, ix_frz, ix_scr, sv_frz, sv_tup, sv_scr, lv_frz, lv_scr, sl_tup, sl_frz, sl_scr, walk_tup, walk_frz, walk_scr, walk_str, xi_val, xi_rng1, xi_rng2, xi_enum, xi_zip, lock_nil, noX_okk, thaw_frz, fullF]
/-! they agree -/
theorem fix_agree : ∀ m < 10, ∀ s < 10, s ≤ m → 1 ≤ m → binF m s * noneF (m - s) = combV m s * movedF (m - s) ∧ (binF m s).natAbs < 1000000000 := by decide +kernel
theorem full_agree : ∀ s < 10, ∀ m < 10, 1 ≤ s → 1 ≤ m → fullF s m = rowsF s m ∧ (s < m → fullF s m = 0) := by decide +kernel
end Lw

set_option Elab.async false
set_option linter.all false
set_option maxRecDepth 100000
set_option maxHeartbeats 0
namespace Lw
open PL
/-! law: names 0=script 1=many 2=size 3=number 4=factor 5=turn -/
def s68_0 : S := (.ifs (.not (.blt .all (.cons (.comp [1] (.call 65 (.cons (.var 1) .nil)) (.var 1) (.val (.tup (.cons (.int 1) (.cons (.int 2) (.cons (.int 3) (.cons (.int 4) .nil)))))) .none) .nil))) (.cons (.ret (.bl false)) .nil) .nil)
def s68_1 : S := (.fr (.var 2) (.val (.tup (.cons (.int 1) (.cons (.int 2) (.cons (.int 3) .nil))))) (.cons (.ifs (.not (.blt .all (.cons (.comp [3] (.call 66 (.cons (.var 2) (.cons (.var 3) .nil))) (.var 3) (.val (.tup (.cons (.int 1) (.cons (.int 2) (.cons (.int 3) (.cons (.int 4) .nil)))))) .none) .nil))) (.cons (.ret (.bl false)) .nil) .nil) .nil))
def s68_2 : S := (.fr (.var 1) (.rng2 (.int 1) (.int 10)) (.cons (.asg (.var 4) (.blt .sum (.cons (.comp [2] (.call 42 (.cons (.var 1) (.cons (.var 2) .nil))) (.var 2) (.rng1 (.bin .add (.var 1) (.int 1))) .none) .nil))) (.cons (.ifs (.cmp .ne (.var 4) (.call 44 (.cons (.var 1) (.cons (.var 1) .nil)))) (.cons (.ret (.bl false)) .nil) .nil) .nil)))
def s68_3 : S := (.ret (.blt .all (.cons (.comp [5] (.call 67 (.cons (.call 49 (.cons (.var 0) (.cons (.var 5) .nil))) .nil)) (.var 5) (.rng1 (.blt .max2 (.cons (.int 2) (.cons (.blt .min2 (.cons (.blt .len (.cons (.var 0) .nil)) (.cons (.int 4) .nil))) .nil)))) .none) .nil)))
theorem b68_eq : b68 = (.cons s68_0 (.cons s68_1 (.cons s68_2 (.cons s68_3 .nil)))) := rfl
/-! _law_right: names 0=pot 1=lap 2=many 3=size 4=due 5=places 6=number -/
def s67_0 : S := (.fr (.var 1) (.rng1 (.int 12)) (.cons (.par [2, 3] (.cons (.bin .add (.int 1) (.call 50 (.cons (.var 0) (.cons (.int 9) .nil)))) (.cons (.call 50 (.cons (.var 0) (.cons (.int 10) .nil))) .nil))) (.cons (.asg (.var 3) (.blt .min2 (.cons (.var 2) (.cons (.var 3) .nil)))) (.cons (.asg (.var 4) (.bin .mul (.call 61 (.cons (.var 2) (.cons (.var 3) .nil))) (.call 62 (.cons (.bin .sub (.var 2) (.var 3)) .nil)))) (.cons (.ifs (.not (.call 52 (.cons (.list (.cons (.call 42 (.cons (.var 2) (.cons (.var 3) .nil))) (.cons (.callk 42 .nil (.cons (.var 3) (.cons (.var 2) .nil)) [1, 0]) .nil))) (.cons (.list (.cons (.var 4) (.cons (.var 4) .nil))) .nil)))) (.cons (.ret (.bl false)) .nil) .nil) (.cons (.par [5, 6] (.cons (.bin .add (.int 1) (.call 50 (.cons (.var 0) (.cons (.int 9) .nil)))) (.cons (.bin .add (.int 1) (.call 50 (.cons (.var 0) (.cons (.int 9) .nil)))) .nil))) (.cons (.asg (.var 4) (.call 64 (.cons (.var 5) (.cons (.var 6) .nil)))) (.cons (.ifs (.or (.not (.call 52 (.cons (.list (.cons (.call 44 (.cons (.var 5) (.cons (.var 6) .nil))) (.cons (.callk 44 .nil (.cons (.var 6) (.cons (.var 5) .nil)) [1, 0]) .nil))) (.cons (.list (.cons (.var 4) (.cons (.var 4) .nil))) .nil)))) (.and (.cmp .lt (.var 5) (.var 6)) (.cmp .ne (.var 4) (.int 0)))) (.cons (.ret (.bl false)) .nil) .nil) .nil))))))))
def s67_1 : S := (.ret (.bl true))
theorem b67_eq : b67 = (.cons s67_0 (.cons s67_1 .nil)) := rfl
theorem law_01 (ds : List D) : exs (PL.call T Gc 100000 59) Gc 100000 (.cons s68_0 (.cons s68_1 .nil)) [some (.scr ds), none, none, none, none, none] [] = .ok (.nx [some (.scr ds), none, some (.int 3), none, none, none]) [] := by kernel_rfl
end Lw

set_option Elab.async false
set_option linter.all false
set_option maxRecDepth 100000
set_option maxHeartbeats 1000000
namespace Lw
open PL
theorem sp_pot {n : Nat} (hn : 1 ≤ n) {st : Sto} {ns : List Int} {t : Nat} (hl : ns.length ≤ 63) (ht : t ≤ 100) :
    ∃ a b c, PL.call T Gc 100000 n 49 [.scr (ns.map D.int), .int t] st = .ok (.lst st.length) (st ++ [pot3 a b c]) := by
  obtain ⟨k, rfl⟩ : ∃ k, n = k + 1 := ⟨n - 1, by omega⟩
  have s1 : small 7907 = true := rfl
  have s2 : small 10009 = true := rfl
  have s3 : small 69621 = true := rfl
  have cell : ∃ c : Int, ex (PL.call T Gc 100000 k) Gc 100000 (.asg (.var 2) (.ife (.cmp .lt (.var 1) (.blt .len (.cons (.var 0) .nil))) (.blt .int (.cons (.idx (.var 0) (.var 1)) .nil)) (.bin .add (.bin .add (.bin .mul (.int 7907) (.var 1)) (.int 37)) (.bin .mod (.blt .int (.cons (.blt .sum (.cons (.slc (.var 0) .none (.some (.int 3))) .nil)) .nil)) (.int 1000033)))))
      [some (.scr (ns.map D.int)), some (.int t), none, none, none] st = .ok (.nx [some (.scr (ns.map D.int)), some (.int t), some (.int c), none, none]) st := by
    by_cases h : t < ns.length
    · refine ⟨ns[t], ?_⟩
      simp [h, at_nat]
    · simp [h, s1, cut_map, ints_map]
  obtain ⟨c, hc⟩ := cell
  have hlen : (cut ns none (some 7)).length ≤ 63 := Nat.le_trans (cut_le _ _ _) hl
  obtain ⟨e, s, he, ⟨q, x, hq⟩, hs⟩ := ex_for (C := PL.call T Gc 100000 k) (G := Gc) (W := 100000) (t := .var 4) (it := .val (.bin .add (.slc (.var 0) .none (.some (.int 7))) (.list (.cons (.var 2) .nil))))
    (b := .cons (.asg (.var 3) (.bin .mod (.blt .int (.cons (.bin .add (.bin .add (.bin .mul (.var 3) (.int 69621)) (.bin .mod (.blt .int (.cons (.var 4) .nil)) (.int 2147483563))) (.int 23)) .nil)) (.int 2147483563))) .nil)
    (env := [some (.scr (ns.map D.int)), some (.int t), some (.int c), some (.int (1002583 + 10009 * t)), none]) (st := st) (ds := (cut ns none (some 7) ++ [c]).map D.int)
    (fun _ e s => (∃ (q : Int) (x : Option D), e = [some (.scr (ns.map D.int)), some (.int t), some (.int c), some (.int q), x]) ∧ s = st)
    (by
      have h1 : (cut ns none (some 7)).length + 1 ≤ 16777216 := by omega
      simp [cut_map, h1]) ⟨⟨_, _, rfl⟩, rfl⟩ (fun i d hd e s ⟨⟨q, x, he⟩, hs⟩ => by
      subst he hs
      rw [List.getElem?_map] at hd
      obtain ⟨z, _, rfl⟩ := Option.map_eq_some_iff.mp hd
      exact ⟨_, _, .inl (by simp [s3]; exact ⟨rfl, rfl⟩), ⟨_, _, rfl⟩, rfl⟩)
  subst hq hs
  have s4 : small 10009 = true := rfl
  refine ⟨if decide (c < 0) || decide (1000000000000000000 ≤ c) then (if c < 0 then -c else c) % 10 ^ 64 else 0, q, 0, ?_⟩
  rw [call_eq (F := ⟨2, 5, b49⟩) rfl rfl]
  show fin _ (exs _ _ _ (.cons _ (.cons _ (.cons _ _))) [some (.scr (ns.map D.int)), some (.int t), none, none, none] _) = _
  rw [exs_cons hc, exs_cons (env' := [some (.scr (ns.map D.int)), some (.int t), some (.int c), some (.int (1002583 + 10009 * t)), none]) (st' := s) (by simp [s2]), exs_cons he]
  have p1 : iop .pow 10 18 = some 1000000000000000000 := rfl
  have p2 : iop .pow 10 64 = some (10 ^ 64) := rfl
  by_cases h1 : c < 0
  · simp [p1, p2, h1, fin, back, refsLt, pot3]
  · by_cases h2 : 1000000000000000000 ≤ c
    · simp [p1, p2, h1, h2, fin, back, refsLt, pot3]
    · simp [p1, p2, h1, h2, fin, back, refsLt, pot3]

theorem same2 (i : Int) {n : Nat} (hn : 2 ≤ n) (st : Sto) : PL.call T Gc 100000 n 52 [.frz [.int i, .int i], .frz [.int i, .int i]] st = .ok (.bl true) st :=
  sp_same 1 (.frz [.int i, .int i]) ⟨by simp, fun d hd => by
    simp only [List.mem_cons, List.not_mem_nil, or_false] at hd
    rcases hd with rfl | rfl <;> trivial⟩ n (by omega) st
theorem lap_ok {n i : Nat} {st : Sto} {a b c : Int} {z1 z2 z3 z4 z5 z6 : Option D} (hn : 6 ≤ n) (hi : st[i]? = some (pot3 a b c)) :
    ∃ a' b' c' y2 y3 y4 y5 y6, exs (PL.call T Gc 100000 n) Gc 100000 (match s67_0 with | .fr _ _ b => b | _ => .nil) [some (.lst i), z1, z2, z3, z4, z5, z6] st = .ok (.nx [some (.lst i), z1, y2, y3, y4, y5, y6]) (st.set i (pot3 a' b' c')) := by
  have hlt : i < st.length := (List.getElem?_eq_some_iff.mp hi).1
  have gs : ∀ o, (st.set i o)[i]? = some o := fun o => List.getElem?_set_self hlt
  obtain ⟨a1, b1, c1, r1, r10, r11, d1⟩ := sp_draw (n := n) (by omega) hi (m := 9) (by decide) (by decide)
  obtain ⟨q1, rfl⟩ : ∃ q : Nat, r1 = q := ⟨r1.toNat, by omega⟩
  obtain ⟨a2, b2, c2, r2, r20, r21, d2⟩ := sp_draw (n := n) (by omega) (gs (pot3 a1 b1 c1)) (m := 10) (by decide) (by decide)
  rw [List.set_set] at d2
  obtain ⟨q2, rfl⟩ : ∃ q : Nat, r2 = q := ⟨r2.toNat, by omega⟩
  obtain ⟨a3, b3, c3, r3, r30, r31, d3⟩ := sp_draw (n := n) (by omega) (gs (pot3 a2 b2 c2)) (m := 9) (by decide) (by decide)
  rw [List.set_set] at d3
  obtain ⟨q3, rfl⟩ : ∃ q : Nat, r3 = q := ⟨r3.toNat, by omega⟩
  obtain ⟨a4, b4, c4, r4, r40, r41, d4⟩ := sp_draw (n := n) (by omega) (gs (pot3 a3 b3 c3)) (m := 9) (by decide) (by decide)
  rw [List.set_set] at d4
  obtain ⟨q4, rfl⟩ : ∃ q : Nat, r4 = q := ⟨r4.toNat, by omega⟩
  have e1 : iop .add 1 (q1 : Int) = some ((1 + q1 : Nat) : Int) := i_add.trans (congrArg some (by omega))
  have e3 : iop .add 1 (q3 : Int) = some ((1 + q3 : Nat) : Int) := i_add.trans (congrArg some (by omega))
  have e4 : iop .add 1 (q4 : Int) = some ((1 + q4 : Nat) : Int) := i_add.trans (congrArg some (by omega))
  have em : (if (q2 : Int) < ((1 + q1 : Nat) : Int) then (q2 : Int) else ((1 + q1 : Nat) : Int)) = ((min (1 + q1) q2 : Nat) : Int) := by
    split <;> omega
  have hs : min (1 + q1) q2 ≤ 1 + q1 := Nat.min_le_left _ _
  obtain ⟨f1, f2⟩ := fix_agree (1 + q1) (by omega) (min (1 + q1) q2) (by omega) hs (by omega)
  obtain ⟨g1, g2⟩ := full_agree (1 + q3) (by omega) (1 + q4) (by omega) (by omega) (by omega)
  have z2' : szOk 2 = true := rfl
  refine ⟨a4, b4, c4, some (.int ((1 + q1 : Nat) : Int)), some (.int ((min (1 + q1) q2 : Nat) : Int)), some (.int (rowsF (1 + q3) (1 + q4))), some (.int ((1 + q3 : Nat) : Int)), some (.int ((1 + q4 : Nat) : Int)), ?_⟩
  have cn : ∀ s : Sto, (decide (((1 + q3 : Nat) : Int) < ((1 + q4 : Nat) : Int)) = true → cop s .ne (.int (rowsF (1 + q3) (1 + q4))) (.int 0) = some false) := fun s h => by
    have h := of_decide_eq_true h
    rw [← g1, g2 (by omega)]
    rfl
  show exs _ _ _ (.cons _ (.cons _ (.cons _ (.cons _ (.cons _ (.cons _ (.cons _ .nil))))))) _ _ = _
  by_cases hc : decide (((1 + q3 : Nat) : Int) < ((1 + q4 : Nat) : Int)) = true
  · simp only [Nat.zero_add, Nat.reduceAdd, Nat.reduceLT, Nat.reduceSub, ↓reduceIte, Int.reduceBEq, es_cons, es_nil, e_asg, e_par, e_ifs, e_ret, e_retn, e_exp, e_pas, x_non, x_bl, x_int, x_str, x_var, x_glb, x_fnv, x_bin, x_neg, x_not, x_and, x_or, x_cmp, x_chn, x_ife, x_call, x_callk, x_blt, x_isi, x_mth, x_idx, x_slc, x_tup, x_list, x_thaw, x_frz, x_rgv, xs_nil, xs_cons, xo_none, xo_some, xc_none, xc_some, xt_var, xt_idx, xt_tup, xts_nil, xts_cons, tg_nil, tg_cons, asgs_nil, asgs_cons, bind_ok, tru_bl, toI_int, oD_some, o_int, Option.map_some, Option.bind_some, List.getElem?_cons_zero, List.getElem?_cons_succ, List.set_cons_zero, List.set_cons_succ, List.length_cons, List.length_nil, List.map_cons, List.map_nil, List.nil_append, List.cons_append, Bool.not_true, Bool.not_false, Bool.true_and, Bool.and_true, Bool.false_and, Bool.true_or, Bool.false_or, reduceCtorEq, decide_true, decide_false, b_intI, b_len, b_sum, b_all, b_any, b_tuple, b_list, b_abs, len_tup, len_frz, len_scr, ix_tup, ix_frz, ix_scr, sv_frz, sv_tup, sv_scr, lv_frz, lv_scr, sl_tup, sl_frz, sl_scr, walk_tup, walk_frz, walk_scr, walk_str, xi_val, xi_rng1, xi_rng2, xi_enum, xi_zip, lock_nil, noX_okk, thaw_frz, d1, d2, e1, b_min, em, sp_bin (show 1 + q1 ≤ 50 by omega) n (by omega), sub_nat hs, sp_none (show 1 + q1 - min (1 + q1) q2 ≤ 20 by omega) n (by omega), mul_l f2, f1, sp_fixed (show 1 ≤ 1 + q1 by omega) (show 1 + q1 ≤ 9 by omega) hs n (by omega), z2', List.getD_cons_succ, List.getD_cons_zero, same2 _ (show 2 ≤ n by omega), d3, e3, d4, e4, sp_full (show 1 + q3 ≤ 9 by omega) (show 1 + q4 ≤ 9 by omega) n (by omega), g1, sp_rows (show 1 ≤ 1 + q3 by omega) (show 1 + q3 ≤ 9 by omega) (show 1 ≤ 1 + q4 by omega) (show 1 + q4 ≤ 9 by omega) n (by omega), c_lt, hc, cn _ hc, Bool.false_eq_true]
  · rw [Bool.not_eq_true] at hc
    simp only [Nat.zero_add, Nat.reduceAdd, Nat.reduceLT, Nat.reduceSub, ↓reduceIte, Int.reduceBEq, es_cons, es_nil, e_asg, e_par, e_ifs, e_ret, e_retn, e_exp, e_pas, x_non, x_bl, x_int, x_str, x_var, x_glb, x_fnv, x_bin, x_neg, x_not, x_and, x_or, x_cmp, x_chn, x_ife, x_call, x_callk, x_blt, x_isi, x_mth, x_idx, x_slc, x_tup, x_list, x_thaw, x_frz, x_rgv, xs_nil, xs_cons, xo_none, xo_some, xc_none, xc_some, xt_var, xt_idx, xt_tup, xts_nil, xts_cons, tg_nil, tg_cons, asgs_nil, asgs_cons, bind_ok, tru_bl, toI_int, oD_some, o_int, Option.map_some, Option.bind_some, List.getElem?_cons_zero, List.getElem?_cons_succ, List.set_cons_zero, List.set_cons_succ, List.length_cons, List.length_nil, List.map_cons, List.map_nil, List.nil_append, List.cons_append, Bool.not_true, Bool.not_false, Bool.true_and, Bool.and_true, Bool.false_and, Bool.true_or, Bool.false_or, reduceCtorEq, decide_true, decide_false, b_intI, b_len, b_sum, b_all, b_any, b_tuple, b_list, b_abs, len_tup, len_frz, len_scr, ix_tup, ix_frz, ix_scr, sv_frz, sv_tup, sv_scr, lv_frz, lv_scr, sl_tup, sl_frz, sl_scr, walk_tup, walk_frz, walk_scr, walk_str, xi_val, xi_rng1, xi_rng2, xi_enum, xi_zip, lock_nil, noX_okk, thaw_frz, d1, d2, e1, b_min, em, sp_bin (show 1 + q1 ≤ 50 by omega) n (by omega), sub_nat hs, sp_none (show 1 + q1 - min (1 + q1) q2 ≤ 20 by omega) n (by omega), mul_l f2, f1, sp_fixed (show 1 ≤ 1 + q1 by omega) (show 1 + q1 ≤ 9 by omega) hs n (by omega), z2', List.getD_cons_succ, List.getD_cons_zero, same2 _ (show 2 ≤ n by omega), d3, e3, d4, e4, sp_full (show 1 + q3 ≤ 9 by omega) (show 1 + q4 ≤ 9 by omega) n (by omega), g1, sp_rows (show 1 ≤ 1 + q3 by omega) (show 1 + q3 ≤ 9 by omega) (show 1 ≤ 1 + q4 by omega) (show 1 + q4 ≤ 9 by omega) n (by omega), c_lt, hc, Bool.false_eq_true]
theorem sp_right {n i : Nat} {st : Sto} {a b c : Int} (hn : 7 ≤ n) (hi : st[i]? = some (pot3 a b c)) :
    ∃ a' b' c', PL.call T Gc 100000 n 67 [.lst i] st = .ok (.bl true) (st.set i (pot3 a' b' c')) := by
  obtain ⟨k, rfl⟩ : ∃ k, n = k + 1 := ⟨n - 1, by omega⟩
  have hlt : i < st.length := (List.getElem?_eq_some_iff.mp hi).1
  have gs : ∀ o, (st.set i o)[i]? = some o := fun o => List.getElem?_set_self hlt
  obtain ⟨e, s, he, a', b', c', y1, y2, y3, y4, y5, y6, hq, hs⟩ : ∃ e s, ex (PL.call T Gc 100000 k) Gc 100000 s67_0 [some (.lst i), none, none, none, none, none, none] st = .ok (.nx e) s ∧
      (∃ a' b' c' y1 y2 y3 y4 y5 y6, e = [some (.lst i), y1, y2, y3, y4, y5, y6] ∧ s = st.set i (pot3 a' b' c')) := by
    unfold s67_0
    refine ex_fold2 (fun k : Nat => D.int (k : Nat)) (List.range 12) (fun (_ : Unit) e s => ∃ a' b' c' y1 y2 y3 y4 y5 y6, e = [some (.lst i), y1, y2, y3, y4, y5, y6] ∧ s = st.set i (pot3 a' b' c')) (fun u _ => u) () (st0 := st) ?_ ⟨a, b, c, _, _, _, _, _, _, rfl, (set_self hi).symm⟩ fun q hq _ e s ⟨a1, b1, c1, y1, y2, y3, y4, y5, y6, he, hs⟩ => ?_
    · have r : rngOk 12 = true := rfl
      simp only [Nat.zero_add, Nat.reduceAdd, Nat.reduceLT, Nat.reduceSub, ↓reduceIte, Int.reduceBEq, es_cons, es_nil, e_asg, e_par, e_ifs, e_ret, e_retn, e_exp, e_pas, x_non, x_bl, x_int, x_str, x_var, x_glb, x_fnv, x_bin, x_neg, x_not, x_and, x_or, x_cmp, x_chn, x_ife, x_call, x_callk, x_blt, x_isi, x_mth, x_idx, x_slc, x_tup, x_list, x_thaw, x_frz, x_rgv, xs_nil, xs_cons, xo_none, xo_some, xc_none, xc_some, xt_var, xt_idx, xt_tup, xts_nil, xts_cons, tg_nil, tg_cons, asgs_nil, asgs_cons, bind_ok, tru_bl, toI_int, oD_some, o_int, Option.map_some, Option.bind_some, List.getElem?_cons_zero, List.getElem?_cons_succ, List.set_cons_zero, List.set_cons_succ, List.length_cons, List.length_nil, List.map_cons, List.map_nil, List.nil_append, List.cons_append, Bool.not_true, Bool.not_false, Bool.true_and, Bool.and_true, Bool.false_and, Bool.true_or, Bool.false_or, reduceCtorEq, decide_true, decide_false, b_intI, b_len, b_sum, b_all, b_any, b_tuple, b_list, b_abs, len_tup, len_frz, len_scr, ix_tup, ix_frz, ix_scr, sv_frz, sv_tup, sv_scr, lv_frz, lv_scr, sl_tup, sl_frz, sl_scr, walk_tup, walk_frz, walk_scr, walk_str, xi_val, xi_rng1, xi_rng2, xi_enum, xi_zip, lock_nil, noX_okk, thaw_frz, r]
      exact congrArg (fun l => R.ok (l, ([] : List Nat)) st) (rng_zero 12)
    · subst he hs
      obtain ⟨a2, b2, c2, w2, w3, w4, w5, w6, hl⟩ := lap_ok (n := k) (z1 := some (.int (q : Nat))) (z2 := y2) (z3 := y3) (z4 := y4) (z5 := y5) (z6 := y6) (by omega) (gs (pot3 a1 b1 c1))
      rw [List.set_set] at hl
      refine ⟨[some (.lst i), some (.int (q : Nat)), w2, w3, w4, w5, w6], _, .inl ?_, a2, b2, c2, _, w2, w3, w4, w5, w6, rfl, rfl⟩
      simp only [xt_var, List.length_cons, List.length_nil, Nat.zero_add, Nat.reduceAdd, Nat.reduceLT, ↓reduceIte, bind_ok, List.set_cons_succ, List.set_cons_zero]
      exact hl
  refine ⟨a', b', c', ?_⟩
  refine call_rt (F := ⟨1, 7, b67⟩) rfl rfl (by simp) ?_
  show exs _ _ _ b67 [some (.lst i), none, none, none, none, none, none] st = _
  rw [b67_eq, exs_cons he, hq, hs]
  simp only [s67_1, Nat.zero_add, Nat.reduceAdd, Nat.reduceLT, Nat.reduceSub, ↓reduceIte, Int.reduceBEq, es_cons, es_nil, e_asg, e_par, e_ifs, e_ret, e_retn, e_exp, e_pas, x_non, x_bl, x_int, x_str, x_var, x_glb, x_fnv, x_bin, x_neg, x_not, x_and, x_or, x_cmp, x_chn, x_ife, x_call, x_callk, x_blt, x_isi, x_mth, x_idx, x_slc, x_tup, x_list, x_thaw, x_frz, x_rgv, xs_nil, xs_cons, xo_none, xo_some, xc_none, xc_some, xt_var, xt_idx, xt_tup, xts_nil, xts_cons, tg_nil, tg_cons, asgs_nil, asgs_cons, bind_ok, tru_bl, toI_int, oD_some, o_int, Option.map_some, Option.bind_some, List.getElem?_cons_zero, List.getElem?_cons_succ, List.set_cons_zero, List.set_cons_succ, List.length_cons, List.length_nil, List.map_cons, List.map_nil, List.nil_append, List.cons_append, Bool.not_true, Bool.not_false, Bool.true_and, Bool.and_true, Bool.false_and, Bool.true_or, Bool.false_or, reduceCtorEq, decide_true, decide_false, b_intI, b_len, b_sum, b_all, b_any, b_tuple, b_list, b_abs, len_tup, len_frz, len_scr, ix_tup, ix_frz, ix_scr, sv_frz, sv_tup, sv_scr, lv_frz, lv_scr, sl_tup, sl_frz, sl_scr, walk_tup, walk_frz, walk_scr, walk_str, xi_val, xi_rng1, xi_rng2, xi_enum, xi_zip, lock_nil, noX_okk, thaw_frz]
end Lw

set_option Elab.async false
set_option linter.all false
set_option maxRecDepth 100000
set_option maxHeartbeats 400000
namespace Lw
open PL
theorem sum_agree : ∀ m < 10, 1 ≤ m → ((List.range (m + 1)).map fun s => combV m s * movedF (m - s)).sum = rowsF m m := by decide +kernel
theorem law_2 {C : D} {z2 z3 z4 z5 : Option D} : ∃ e, ex (PL.call T Gc 100000 59) Gc 100000 s68_2 [some C, none, z2, z3, z4, z5] [] = .ok (.nx e) [] ∧ ∃ y1 y4, e = [some C, y1, z2, z3, y4, z5] := by
  obtain ⟨e, s, he, ⟨y1, y4, hq⟩, hs⟩ : ∃ e s, ex (PL.call T Gc 100000 59) Gc 100000 s68_2 [some C, none, z2, z3, z4, z5] [] = .ok (.nx e) s ∧ ((∃ y1 y4, e = [some C, y1, z2, z3, y4, z5]) ∧ s = []) := by
    unfold s68_2
    refine ex_fold2 (fun k : Nat => D.int ((1 + k : Nat) : Int)) (List.range 9) (fun (_ : Unit) e s => (∃ y1 y4, e = [some C, y1, z2, z3, y4, z5]) ∧ s = []) (fun u _ => u) () (st0 := []) ?_ ⟨⟨_, _, rfl⟩, rfl⟩ fun q hq _ e s ⟨⟨y1, y4, he⟩, hs⟩ => ?_
    · have r : rngOk 1 = true := rfl
      have r2 : rngOk 10 = true := rfl
      simp only [Nat.zero_add, Nat.reduceAdd, Nat.reduceLT, Nat.reduceSub, ↓reduceIte, Int.reduceBEq, es_cons, es_nil, e_asg, e_par, e_ifs, e_ret, e_retn, e_exp, e_pas, x_non, x_bl, x_int, x_str, x_var, x_glb, x_fnv, x_bin, x_neg, x_not, x_and, x_or, x_cmp, x_chn, x_ife, x_call, x_callk, x_blt, x_isi, x_mth, x_idx, x_slc, x_tup, x_list, x_thaw, x_frz, x_rgv, xs_nil, xs_cons, xo_none, xo_some, xc_none, xc_some, xt_var, xt_idx, xt_tup, xts_nil, xts_cons, tg_nil, tg_cons, asgs_nil, asgs_cons, bind_ok, tru_bl, toI_int, oD_some, o_int, Option.map_some, Option.bind_some, List.getElem?_cons_zero, List.getElem?_cons_succ, List.set_cons_zero, List.set_cons_succ, List.length_cons, List.length_nil, List.map_cons, List.map_nil, List.nil_append, List.cons_append, Bool.not_true, Bool.not_false, Bool.true_and, Bool.and_true, Bool.false_and, Bool.true_or, Bool.false_or, reduceCtorEq, decide_true, decide_false, b_intI, b_len, b_sum, b_all, b_any, b_tuple, b_list, b_abs, len_tup, len_frz, len_scr, ix_tup, ix_frz, ix_scr, sv_frz, sv_tup, sv_scr, lv_frz, lv_scr, sl_tup, sl_frz, sl_scr, walk_tup, walk_frz, walk_scr, walk_str, xi_val, xi_rng1, xi_rng2, xi_enum, xi_zip, lock_nil, noX_okk, thaw_frz, r, r2]
      exact congrArg (fun l => R.ok (l, ([] : List Nat)) []) (rng_one 9)
    · subst he hs
      have hq : q < 9 := by simpa using hq
      have r2 := rng_nat (n := 1 + q + 1) (by omega)
      have hc : ev (PL.call T Gc 100000 59) Gc (.comp [2] (.call 42 (.cons (.var 1) (.cons (.var 2) .nil))) (.var 2) (.rng1 (.bin .add (.var 1) (.int 1))) .none) [some C, some (.int ((1 + q : Nat) : Int)), z2, z3, y4, z5] [] =
          .ok (.frz ((List.range (1 + q + 1)).filterMap fun k => some (.int (combV (1 + q) k * movedF (1 + q - k))))) [] := by
        refine ev_lcm (fun k : Nat => .int (k : Nat)) _ _ (by simp only [Nat.zero_add, Nat.reduceAdd, Nat.reduceLT, Nat.reduceSub, ↓reduceIte, Int.reduceBEq, es_cons, es_nil, e_asg, e_par, e_ifs, e_ret, e_retn, e_exp, e_pas, x_non, x_bl, x_int, x_str, x_var, x_glb, x_fnv, x_bin, x_neg, x_not, x_and, x_or, x_cmp, x_chn, x_ife, x_call, x_callk, x_blt, x_isi, x_mth, x_idx, x_slc, x_tup, x_list, x_thaw, x_frz, x_rgv, xs_nil, xs_cons, xo_none, xo_some, xc_none, xc_some, xt_var, xt_idx, xt_tup, xts_nil, xts_cons, tg_nil, tg_cons, asgs_nil, asgs_cons, bind_ok, tru_bl, toI_int, oD_some, o_int, Option.map_some, Option.bind_some, List.getElem?_cons_zero, List.getElem?_cons_succ, List.set_cons_zero, List.set_cons_succ, List.length_cons, List.length_nil, List.map_cons, List.map_nil, List.nil_append, List.cons_append, Bool.not_true, Bool.not_false, Bool.true_and, Bool.and_true, Bool.false_and, Bool.true_or, Bool.false_or, reduceCtorEq, decide_true, decide_false, b_intI, b_len, b_sum, b_all, b_any, b_tuple, b_list, b_abs, len_tup, len_frz, len_scr, ix_tup, ix_frz, ix_scr, sv_frz, sv_tup, sv_scr, lv_frz, lv_scr, sl_tup, sl_frz, sl_scr, walk_tup, walk_frz, walk_scr, walk_str, xi_val, xi_rng1, xi_rng2, xi_enum, xi_zip, lock_nil, noX_okk, thaw_frz, add_one', r2, Int.toNat_natCast, rng_zero]) (by simp; omega) fun k hk => ?_
        have hk : k < 1 + q + 1 := by simpa using hk
        simp only [compB, wipe, Nat.zero_add, Nat.reduceAdd, Nat.reduceLT, Nat.reduceSub, ↓reduceIte, Int.reduceBEq, es_cons, es_nil, e_asg, e_par, e_ifs, e_ret, e_retn, e_exp, e_pas, x_non, x_bl, x_int, x_str, x_var, x_glb, x_fnv, x_bin, x_neg, x_not, x_and, x_or, x_cmp, x_chn, x_ife, x_call, x_callk, x_blt, x_isi, x_mth, x_idx, x_slc, x_tup, x_list, x_thaw, x_frz, x_rgv, xs_nil, xs_cons, xo_none, xo_some, xc_none, xc_some, xt_var, xt_idx, xt_tup, xts_nil, xts_cons, tg_nil, tg_cons, asgs_nil, asgs_cons, bind_ok, tru_bl, toI_int, oD_some, o_int, Option.map_some, Option.bind_some, List.getElem?_cons_zero, List.getElem?_cons_succ, List.set_cons_zero, List.set_cons_succ, List.length_cons, List.length_nil, List.map_cons, List.map_nil, List.nil_append, List.cons_append, Bool.not_true, Bool.not_false, Bool.true_and, Bool.and_true, Bool.false_and, Bool.true_or, Bool.false_or, reduceCtorEq, decide_true, decide_false, b_intI, b_len, b_sum, b_all, b_any, b_tuple, b_list, b_abs, len_tup, len_frz, len_scr, ix_tup, ix_frz, ix_scr, sv_frz, sv_tup, sv_scr, lv_frz, lv_scr, sl_tup, sl_frz, sl_scr, walk_tup, walk_frz, walk_scr, walk_str, xi_val, xi_rng1, xi_rng2, xi_enum, xi_zip, lock_nil, noX_okk, thaw_frz, sp_fixed (show 1 ≤ 1 + q by omega) (show 1 + q ≤ 9 by omega) (show k ≤ 1 + q by omega) 59 (by decide)]
      rw [fm_some] at hc
      refine ⟨[some C, some (.int ((1 + q : Nat) : Int)), z2, z3, some (.int (rowsF (1 + q) (1 + q))), z5], [], .inl ?_, ⟨_, _, rfl⟩, rfl⟩
      have cn : cop [] .ne (.int (rowsF (1 + q) (1 + q))) (.int (rowsF (1 + q) (1 + q))) = some false := c_neI.trans (by simp)
      simp only [Nat.zero_add, Nat.reduceAdd, Nat.reduceLT, Nat.reduceSub, ↓reduceIte, Int.reduceBEq, es_cons, es_nil, e_asg, e_par, e_ifs, e_ret, e_retn, e_exp, e_pas, x_non, x_bl, x_int, x_str, x_var, x_glb, x_fnv, x_bin, x_neg, x_not, x_and, x_or, x_cmp, x_chn, x_ife, x_call, x_callk, x_blt, x_isi, x_mth, x_idx, x_slc, x_tup, x_list, x_thaw, x_frz, x_rgv, xs_nil, xs_cons, xo_none, xo_some, xc_none, xc_some, xt_var, xt_idx, xt_tup, xts_nil, xts_cons, tg_nil, tg_cons, asgs_nil, asgs_cons, bind_ok, tru_bl, toI_int, oD_some, o_int, Option.map_some, Option.bind_some, List.getElem?_cons_zero, List.getElem?_cons_succ, List.set_cons_zero, List.set_cons_succ, List.length_cons, List.length_nil, List.map_cons, List.map_nil, List.nil_append, List.cons_append, Bool.not_true, Bool.not_false, Bool.true_and, Bool.and_true, Bool.false_and, Bool.true_or, Bool.false_or, reduceCtorEq, decide_true, decide_false, b_intI, b_len, b_sum, b_all, b_any, b_tuple, b_list, b_abs, len_tup, len_frz, len_scr, ix_tup, ix_frz, ix_scr, sv_frz, sv_tup, sv_scr, lv_frz, lv_scr, sl_tup, sl_frz, sl_scr, walk_tup, walk_frz, walk_scr, walk_str, xi_val, xi_rng1, xi_rng2, xi_enum, xi_zip, lock_nil, noX_okk, thaw_frz, hc, ints_m, sum_agree (1 + q) (by omega) (by omega), sp_rows (show 1 ≤ 1 + q by omega) (show 1 + q ≤ 9 by omega) (show 1 ≤ 1 + q by omega) (show 1 + q ≤ 9 by omega) 59 (by decide), cn, Bool.false_eq_true]
  exact ⟨e, by rw [he, hs], y1, y4, hq⟩
theorem pure_law (ns : List Int) (hl : ns.length ≤ 63) : ∃ st, PL.call T Gc 100000 60 68 [.scr (ns.map .int)] [] = .ok (.bl true) st := by
  obtain ⟨e2, h2, y1, y4, he2⟩ := law_2 (C := .scr (ns.map .int)) (z2 := some (.int 3)) (z3 := none) (z4 := none) (z5 := none)
  obtain ⟨m, hm, m2⟩ : ∃ m : Nat, m ≤ 4 ∧ evi (PL.call T Gc 100000 59) Gc (.rng1 (.blt .max2 (.cons (.int 2) (.cons (.blt .min2 (.cons (.blt .len (.cons (.var 0) .nil)) (.cons (.int 4) .nil))) .nil)))) [some (.scr (ns.map .int)), y1, some (.int 3), none, y4, none] [] = .ok (rngD 0 m, []) [] := by
    refine ⟨if ns.length ≤ 2 then 2 else if 4 < ns.length then 4 else ns.length, by split <;> (try split) <;> omega, ?_⟩
    have hb : (if (if (4 : Int) < (ns.length : Int) then (4 : Int) else (ns.length : Int)) > 2 then (if (4 : Int) < (ns.length : Int) then (4 : Int) else (ns.length : Int)) else 2) = ((if ns.length ≤ 2 then 2 else if 4 < ns.length then 4 else ns.length : Nat) : Int) := by
      split <;> split <;> (try split) <;> (try split) <;> omega
    have r : rngOk ((if ns.length ≤ 2 then 2 else if 4 < ns.length then 4 else ns.length : Nat) : Int) = true := rng_nat (by split <;> (try split) <;> omega)
    simp only [Nat.zero_add, Nat.reduceAdd, Nat.reduceLT, Nat.reduceSub, ↓reduceIte, Int.reduceBEq, es_cons, es_nil, e_asg, e_par, e_ifs, e_ret, e_retn, e_exp, e_pas, x_non, x_bl, x_int, x_str, x_var, x_glb, x_fnv, x_bin, x_neg, x_not, x_and, x_or, x_cmp, x_chn, x_ife, x_call, x_callk, x_blt, x_isi, x_mth, x_idx, x_slc, x_tup, x_list, x_thaw, x_frz, x_rgv, xs_nil, xs_cons, xo_none, xo_some, xc_none, xc_some, xt_var, xt_idx, xt_tup, xts_nil, xts_cons, tg_nil, tg_cons, asgs_nil, asgs_cons, bind_ok, tru_bl, toI_int, oD_some, o_int, Option.map_some, Option.bind_some, List.getElem?_cons_zero, List.getElem?_cons_succ, List.set_cons_zero, List.set_cons_succ, List.length_cons, List.length_nil, List.map_cons, List.map_nil, List.nil_append, List.cons_append, Bool.not_true, Bool.not_false, Bool.true_and, Bool.and_true, Bool.false_and, Bool.true_or, Bool.false_or, reduceCtorEq, decide_true, decide_false, b_intI, b_len, b_sum, b_all, b_any, b_tuple, b_list, b_abs, len_tup, len_frz, len_scr, ix_tup, ix_frz, ix_scr, sv_frz, sv_tup, sv_scr, lv_frz, lv_scr, sl_tup, sl_frz, sl_scr, walk_tup, walk_frz, walk_scr, walk_str, xi_val, xi_rng1, xi_rng2, xi_enum, xi_zip, lock_nil, noX_okk, thaw_frz, List.length_map, b_min, b_max, hb, r, Int.toNat_natCast]
  obtain ⟨s2, h3, _⟩ := ev_all (C := PL.call T Gc 100000 59) (G := Gc) (own := [5]) (elt := .call 67 (.cons (.call 49 (.cons (.var 0) (.cons (.var 5) .nil))) .nil)) (tg := .var 5) (c := .none) (fun s => True) (.bl true) m2 (by rw [rng_len]; omega) trivial (fun d hd s _ => by
    obtain ⟨j, hj, rfl⟩ := mem_rng hd
    obtain ⟨a, b, c, h⟩ := sp_pot (n := 59) (by decide) (st := s) (t := j) hl (by omega)
    obtain ⟨a', b', c', hr⟩ := sp_right (n := 59) (st := s ++ [pot3 a b c]) (i := s.length) (a := a) (b := b) (c := c) (by decide) (by simp)
    refine ⟨(s ++ [pot3 a b c]).set s.length (pot3 a' b' c'), ?_, trivial⟩
    simp only [compB, wipe, Nat.zero_add, Nat.reduceAdd, Nat.reduceLT, Nat.reduceSub, ↓reduceIte, Int.reduceBEq, es_cons, es_nil, e_asg, e_par, e_ifs, e_ret, e_retn, e_exp, e_pas, x_non, x_bl, x_int, x_str, x_var, x_glb, x_fnv, x_bin, x_neg, x_not, x_and, x_or, x_cmp, x_chn, x_ife, x_call, x_callk, x_blt, x_isi, x_mth, x_idx, x_slc, x_tup, x_list, x_thaw, x_frz, x_rgv, xs_nil, xs_cons, xo_none, xo_some, xc_none, xc_some, xt_var, xt_idx, xt_tup, xts_nil, xts_cons, tg_nil, tg_cons, asgs_nil, asgs_cons, bind_ok, tru_bl, toI_int, oD_some, o_int, Option.map_some, Option.bind_some, List.getElem?_cons_zero, List.getElem?_cons_succ, List.set_cons_zero, List.set_cons_succ, List.length_cons, List.length_nil, List.map_cons, List.map_nil, List.nil_append, List.cons_append, Bool.not_true, Bool.not_false, Bool.true_and, Bool.and_true, Bool.false_and, Bool.true_or, Bool.false_or, reduceCtorEq, decide_true, decide_false, b_intI, b_len, b_sum, b_all, b_any, b_tuple, b_list, b_abs, len_tup, len_frz, len_scr, ix_tup, ix_frz, ix_scr, sv_frz, sv_tup, sv_scr, lv_frz, lv_scr, sl_tup, sl_frz, sl_scr, walk_tup, walk_frz, walk_scr, walk_str, xi_val, xi_rng1, xi_rng2, xi_enum, xi_zip, lock_nil, noX_okk, thaw_frz, Int.zero_add, h, hr])
  have e2' : exs (PL.call T Gc 100000 59) Gc 100000 b68 [some (.scr (ns.map .int)), none, none, none, none, none] [] = .ok (.rt (.bl true)) s2 := by
    have h01 := law_01 (ns.map .int)
    have hb : b68 = Ss.app (.cons s68_0 (.cons s68_1 .nil)) (.cons s68_2 (.cons s68_3 .nil)) := rfl
    rw [hb, exs_app h01, exs_cons h2, he2]
    simp only [s68_3, es_cons, e_ret, x_blt, xs_cons, xs_nil, h3, bind_ok, all_true, oD_some]
  rw [call_eq (F := ⟨1, 6, b68⟩) rfl rfl]
  show ∃ st, fin _ (exs _ _ _ b68 [some (.scr (ns.map .int)), none, none, none, none, none] []) = _
  rw [e2']
  show ∃ st, back 0 (.bl true) s2 = _
  unfold back
  split
  · exact ⟨_, rfl⟩
  · exact ⟨_, if_pos rfl⟩
end Lw

set_option Elab.async false
set_option linter.all false
set_option maxRecDepth 100000
set_option maxHeartbeats 0
namespace Lw
open PL PySem PySem.Spec PyProof.Rows L2
def n0 : List Str := ["value"]
def p0 : List Str := ["value"]
def n1 : List Str := ["value", "low", "high"]
def p1 : List Str := ["value", "low", "high"]
def n2 : List Str := ["value", "signs", "sign"]
def p2 : List Str := ["value", "signs"]
def n3 : List Str := ["many", "found", "each"]
def p3 : List Str := ["many"]
def n4 : List Str := ["value"]
def p4 : List Str := ["value"]
def n5 : List Str := ["number"]
def p5 : List Str := ["number"]
def n6 : List Str := ["number", "value", "here"]
def p6 : List Str := ["number", "value"]
def n7 : List Str := ["value", "number"]
def p7 : List Str := ["value"]
def n8 : List Str := ["number", "value", "one", "two"]
def p8 : List Str := ["number", "value"]
def n9 : List Str := ["picture"]
def p9 : List Str := ["picture"]
def n10 : List Str := ["letter"]
def p10 : List Str := ["letter"]
def n11 : List Str := ["choice", "letter"]
def p11 : List Str := ["choice"]
def n12 : List Str := ["index", "lot", "letter"]
def p12 : List Str := ["index"]
def n13 : List Str := ["index"]
def p13 : List Str := ["index"]
def n14 : List Str := ["place", "index"]
def p14 : List Str := ["place", "index"]
def n15 : List Str := ["place", "index"]
def p15 : List Str := ["place", "index"]
def n16 : List Str := ["picture"]
def p16 : List Str := ["picture"]
def n17 : List Str := ["picture", "index", "is_so", "place", "here"]
def p17 : List Str := ["picture", "index", "is_so"]
def n18 : List Str := ["picture", "index"]
def p18 : List Str := ["picture", "index"]
def n19 : List Str := ["picture", "index"]
def p19 : List Str := ["picture", "index"]
def n20 : List Str := ["picture", "index"]
def p20 : List Str := ["picture"]
def n21 : List Str := ["row", "found", "index", "here"]
def p21 : List Str := ["row"]
def n22 : List Str := ["picture"]
def p22 : List Str := ["picture"]
def n23 : List Str := ["picture"]
def p23 : List Str := ["picture"]
def n24 : List Str := ["many"]
def p24 : List Str := ["many"]
def n25 : List Str := ["number", "places", "place"]
def p25 : List Str := ["number", "places"]
def n26 : List Str := ["order", "place", "there"]
def p26 : List Str := ["order"]
def n27 : List Str := ["number", "order"]
def p27 : List Str := ["number"]
def n28 : List Str := ["number", "many"]
def p28 : List Str := ["number"]
def n29 : List Str := ["number", "size"]
def p29 : List Str := ["number", "size"]
def n30 : List Str := ["size", "number", "found", "_", "row", "value"]
def p30 : List Str := ["size", "number"]
def n31 : List Str := ["row", "number", "value"]
def p31 : List Str := ["row", "number"]
def n32 : List Str := ["size", "number", "row"]
def p32 : List Str := ["size", "number"]
def n33 : List Str := ["number", "many", "found", "_"]
def p33 : List Str := ["number", "many"]
def n34 : List Str := ["size", "number", "many"]
def p34 : List Str := ["size", "number"]
def n35 : List Str := ["picture"]
def p35 : List Str := ["picture"]
def n36 : List Str := ["number"]
def p36 : List Str := ["number"]
def n37 : List Str := ["value", "low", "high"]
def p37 : List Str := ["value", "low", "high"]
def n38 : List Str := ["size", "low", "high"]
def p38 : List Str := ["size", "low", "high"]
def n39 : List Str := ["number", "choice"]
def p39 : List Str := ["number", "choice"]
def n40 : List Str := ["picture", "choice"]
def p40 : List Str := ["picture", "choice"]
def n41 : List Str := ["number"]
def p41 : List Str := ["number"]
def n42 : List Str := ["number", "size"]
def p42 : List Str := ["number", "size"]
def n43 : List Str := ["size", "number"]
def p43 : List Str := ["size", "number"]
def n44 : List Str := ["size", "number"]
def p44 : List Str := ["size", "number"]
def n45 : List Str := ["picture"]
def p45 : List Str := ["picture"]
def n46 : List Str := ["picture"]
def p46 : List Str := ["picture"]
def n47 : List Str := ["picture"]
def p47 : List Str := ["picture"]
def n48 : List Str := ["picture", "choice"]
def p48 : List Str := ["picture", "choice"]
def n49 : List Str := ["script", "turn", "cell", "stirred", "each"]
def p49 : List Str := ["script", "turn"]
def n50 : List Str := ["pot", "many", "digit"]
def p50 : List Str := ["pot", "many"]
def n52 : List Str := ["told", "due", "at"]
def p52 : List Str := ["told", "due"]
def n60 : List Str := ["many", "found", "turn", "longer", "order", "number"]
def p60 : List Str := ["many"]
def n61 : List Str := ["many", "some", "row", "turn", "at"]
def p61 : List Str := ["many", "some"]
def n62 : List Str := ["many", "one", "other", "number"]
def p62 : List Str := ["many"]
def n63 : List Str := ["base", "many", "found", "turn"]
def p63 : List Str := ["base", "many"]
def n64 : List Str := ["size", "number", "whole", "missed", "sign"]
def p64 : List Str := ["size", "number"]
def n65 : List Str := ["many", "counts", "order", "place", "at", "due", "factor", "row", "number", "below", "size"]
def p65 : List Str := ["many"]
def n66 : List Str := ["size", "number", "rows", "turn", "longer", "row", "value", "counts", "place", "due"]
def p66 : List Str := ["size", "number"]
def n67 : List Str := ["pot", "lap", "many", "size", "due", "places", "number"]
def p67 : List Str := ["pot"]
def n68 : List Str := ["script", "many", "size", "number", "factor", "turn"]
def p68 : List Str := ["script"]
def ck : Ck := ⟨[(("is_whole" : Str), 0, 1), (("is_between" : Str), 1, 3), (("is_text_of" : Str), 2, 2), (("order_count" : Str), 3, 1), (("is_lot_number" : Str), 4, 1), (("place_count" : Str), 5, 1), (("is_picture_of" : Str), 6, 2), (("is_pictured" : Str), 7, 1), (("is_choice_of" : Str), 8, 2), (("lot_count_of" : Str), 9, 1), (("lot_of" : Str), 10, 1), (("index_of" : Str), 11, 1), (("choice_with" : Str), 12, 1), (("size_of" : Str), 13, 1), (("has_all" : Str), 14, 2), (("has_some" : Str), 15, 2), (("things_of" : Str), 16, 1), (("things_where" : Str), 17, 3), (("meet_at" : Str), 18, 2), (("join_at" : Str), 19, 2), (("meets_of" : Str), 20, 1), (("by_sizes" : Str), 21, 1), (("levels_of" : Str), 22, 1), (("sums_of" : Str), 23, 1), (("sign_by" : Str), 24, 1), (("picture_by_places" : Str), 25, 2), (("fixed_index" : Str), 26, 1), (("fixed_places_of" : Str), 27, 1), (("moved_count" : Str), 28, 1), (("fixed_count_of" : Str), 29, 2), (("all_rows" : Str), 30, 2), (("missed_index" : Str), 31, 2), (("missed_values_of" : Str), 32, 2), (("power_of" : Str), 33, 2), (("full_rows_of" : Str), 34, 2), (("check_picture" : Str), 35, 1), (("check_lots" : Str), 36, 1), (("check_number" : Str), 37, 3), (("check_size" : Str), 38, 3), (("check_choice" : Str), 39, 2), (("check_picture_choice" : Str), 40, 2), (("fixed_places" : Str), 41, 1), (("fixed_count" : Str), 42, 2), (("missed_values" : Str), 43, 2), (("full_rows" : Str), 44, 2), (("levels" : Str), 45, 1), (("sums" : Str), 46, 1), (("things" : Str), 47, 1), (("outside" : Str), 48, 2), (("_law_pot" : Str), 49, 2), (("_law_draw" : Str), 50, 2), (("_law_same" : Str), 52, 2), (("_law_orders" : Str), 60, 1), (("_law_binomial" : Str), 61, 2), (("_law_none" : Str), 62, 1), (("_law_power" : Str), 63, 2), (("_law_full" : Str), 64, 2), (("_law_fixed_right" : Str), 65, 1), (("_law_missed_right" : Str), 66, 2), (("_law_right" : Str), 67, 1), (("law" : Str), 68, 1)], [(("MOST_LOTS" : Str), 1), (("MOST_HERE" : Str), 2), (("LETTERS" : Str), 0), (("MOST_COUNTED" : Str), 3), (("MOST_ROWS" : Str), 4)], [(41, 0, ["number"], [0]), (43, 0, ["number", "size"], [1, 0]), (42, 0, ["size", "number"], [1, 0]), (44, 0, ["number", "size"], [1, 0])], [(("comb" : Str), .comb)], true⟩
def top (i : Nat) : Stmt := PySem.Challenge.pw_lotoverlaps_k75_whole_pictures_of_fixed.main.body.getD i (.Pass ⟨0, 0, 0, 0⟩)
theorem c0 : kSs ck n0 b0 (defScope (top 9)) (defBody (top 9)) = true := by kernel_rfl
theorem s0 : C8.scC n0 p0 (defScope (top 9)) = true := by kernel_rfl
theorem c1 : kSs ck n1 b1 (defScope (top 10)) (defBody (top 10)) = true := by kernel_rfl
theorem s1 : C8.scC n1 p1 (defScope (top 10)) = true := by kernel_rfl
theorem c2 : kSs ck n2 b2 (defScope (top 11)) (defBody (top 11)) = true := by kernel_rfl
theorem s2 : C8.scC n2 p2 (defScope (top 11)) = true := by kernel_rfl
theorem c3 : kSs ck n3 b3 (defScope (top 12)) (defBody (top 12)) = true := by kernel_rfl
theorem s3 : C8.scC n3 p3 (defScope (top 12)) = true := by kernel_rfl
theorem c4 : kSs ck n4 b4 (defScope (top 17)) (defBody (top 17)) = true := by kernel_rfl
theorem s4 : C8.scC n4 p4 (defScope (top 17)) = true := by kernel_rfl
theorem c5 : kSs ck n5 b5 (defScope (top 18)) (defBody (top 18)) = true := by kernel_rfl
theorem s5 : C8.scC n5 p5 (defScope (top 18)) = true := by kernel_rfl
theorem c6 : kSs ck n6 b6 (defScope (top 19)) (defBody (top 19)) = true := by kernel_rfl
theorem s6 : C8.scC n6 p6 (defScope (top 19)) = true := by kernel_rfl
theorem c7 : kSs ck n7 b7 (defScope (top 20)) (defBody (top 20)) = true := by kernel_rfl
theorem s7 : C8.scC n7 p7 (defScope (top 20)) = true := by kernel_rfl
theorem c8 : kSs ck n8 b8 (defScope (top 21)) (defBody (top 21)) = true := by kernel_rfl
theorem s8 : C8.scC n8 p8 (defScope (top 21)) = true := by kernel_rfl
theorem c9 : kSs ck n9 b9 (defScope (top 22)) (defBody (top 22)) = true := by kernel_rfl
theorem s9 : C8.scC n9 p9 (defScope (top 22)) = true := by kernel_rfl
theorem c10 : kSs ck n10 b10 (defScope (top 23)) (defBody (top 23)) = true := by kernel_rfl
theorem s10 : C8.scC n10 p10 (defScope (top 23)) = true := by kernel_rfl
theorem c11 : kSs ck n11 b11 (defScope (top 24)) (defBody (top 24)) = true := by kernel_rfl
theorem s11 : C8.scC n11 p11 (defScope (top 24)) = true := by kernel_rfl
theorem c12 : kSs ck n12 b12 (defScope (top 25)) (defBody (top 25)) = true := by kernel_rfl
theorem s12 : C8.scC n12 p12 (defScope (top 25)) = true := by kernel_rfl
theorem c13 : kSs ck n13 b13 (defScope (top 26)) (defBody (top 26)) = true := by kernel_rfl
theorem s13 : C8.scC n13 p13 (defScope (top 26)) = true := by kernel_rfl
theorem c14 : kSs ck n14 b14 (defScope (top 27)) (defBody (top 27)) = true := by kernel_rfl
theorem s14 : C8.scC n14 p14 (defScope (top 27)) = true := by kernel_rfl
theorem c15 : kSs ck n15 b15 (defScope (top 28)) (defBody (top 28)) = true := by kernel_rfl
theorem s15 : C8.scC n15 p15 (defScope (top 28)) = true := by kernel_rfl
theorem c16 : kSs ck n16 b16 (defScope (top 30)) (defBody (top 30)) = true := by kernel_rfl
theorem s16 : C8.scC n16 p16 (defScope (top 30)) = true := by kernel_rfl
theorem c17 : kSs ck n17 b17 (defScope (top 31)) (defBody (top 31)) = true := by kernel_rfl
theorem s17 : C8.scC n17 p17 (defScope (top 31)) = true := by kernel_rfl
theorem c18 : kSs ck n18 b18 (defScope (top 32)) (defBody (top 32)) = true := by kernel_rfl
theorem s18 : C8.scC n18 p18 (defScope (top 32)) = true := by kernel_rfl
theorem c19 : kSs ck n19 b19 (defScope (top 33)) (defBody (top 33)) = true := by kernel_rfl
theorem s19 : C8.scC n19 p19 (defScope (top 33)) = true := by kernel_rfl
theorem c20 : kSs ck n20 b20 (defScope (top 34)) (defBody (top 34)) = true := by kernel_rfl
theorem s20 : C8.scC n20 p20 (defScope (top 34)) = true := by kernel_rfl
theorem c21 : kSs ck n21 b21 (defScope (top 36)) (defBody (top 36)) = true := by kernel_rfl
theorem s21 : C8.scC n21 p21 (defScope (top 36)) = true := by kernel_rfl
theorem c22 : kSs ck n22 b22 (defScope (top 37)) (defBody (top 37)) = true := by kernel_rfl
theorem s22 : C8.scC n22 p22 (defScope (top 37)) = true := by kernel_rfl
theorem c23 : kSs ck n23 b23 (defScope (top 38)) (defBody (top 38)) = true := by kernel_rfl
theorem s23 : C8.scC n23 p23 (defScope (top 38)) = true := by kernel_rfl
theorem c24 : kSs ck n24 b24 (defScope (top 39)) (defBody (top 39)) = true := by kernel_rfl
theorem s24 : C8.scC n24 p24 (defScope (top 39)) = true := by kernel_rfl
theorem c25 : kSs ck n25 b25 (defScope (top 41)) (defBody (top 41)) = true := by kernel_rfl
theorem s25 : C8.scC n25 p25 (defScope (top 41)) = true := by kernel_rfl
theorem c26 : kSs ck n26 b26 (defScope (top 42)) (defBody (top 42)) = true := by kernel_rfl
theorem s26 : C8.scC n26 p26 (defScope (top 42)) = true := by kernel_rfl
theorem c27 : kSs ck n27 b27 (defScope (top 43)) (defBody (top 43)) = true := by kernel_rfl
theorem s27 : C8.scC n27 p27 (defScope (top 43)) = true := by kernel_rfl
theorem c28 : kSs ck n28 b28 (defScope (top 44)) (defBody (top 44)) = true := by kernel_rfl
theorem s28 : C8.scC n28 p28 (defScope (top 44)) = true := by kernel_rfl
theorem c29 : kSs ck n29 b29 (defScope (top 45)) (defBody (top 45)) = true := by kernel_rfl
theorem s29 : C8.scC n29 p29 (defScope (top 45)) = true := by kernel_rfl
theorem c30 : kSs ck n30 b30 (defScope (top 46)) (defBody (top 46)) = true := by kernel_rfl
theorem s30 : C8.scC n30 p30 (defScope (top 46)) = true := by kernel_rfl
theorem c31 : kSs ck n31 b31 (defScope (top 47)) (defBody (top 47)) = true := by kernel_rfl
theorem s31 : C8.scC n31 p31 (defScope (top 47)) = true := by kernel_rfl
theorem c32 : kSs ck n32 b32 (defScope (top 48)) (defBody (top 48)) = true := by kernel_rfl
theorem s32 : C8.scC n32 p32 (defScope (top 48)) = true := by kernel_rfl
theorem c33 : kSs ck n33 b33 (defScope (top 49)) (defBody (top 49)) = true := by kernel_rfl
theorem s33 : C8.scC n33 p33 (defScope (top 49)) = true := by kernel_rfl
theorem c34 : kSs ck n34 b34 (defScope (top 50)) (defBody (top 50)) = true := by kernel_rfl
theorem s34 : C8.scC n34 p34 (defScope (top 50)) = true := by kernel_rfl
theorem c35 : kSs ck n35 b35 (defScope (top 52)) (defBody (top 52)) = true := by kernel_rfl
theorem s35 : C8.scC n35 p35 (defScope (top 52)) = true := by kernel_rfl
theorem c36 : kSs ck n36 b36 (defScope (top 53)) (defBody (top 53)) = true := by kernel_rfl
theorem s36 : C8.scC n36 p36 (defScope (top 53)) = true := by kernel_rfl
theorem c37 : kSs ck n37 b37 (defScope (top 54)) (defBody (top 54)) = true := by kernel_rfl
theorem s37 : C8.scC n37 p37 (defScope (top 54)) = true := by kernel_rfl
theorem c38 : kSs ck n38 b38 (defScope (top 55)) (defBody (top 55)) = true := by kernel_rfl
theorem s38 : C8.scC n38 p38 (defScope (top 55)) = true := by kernel_rfl
theorem c39 : kSs ck n39 b39 (defScope (top 56)) (defBody (top 56)) = true := by kernel_rfl
theorem s39 : C8.scC n39 p39 (defScope (top 56)) = true := by kernel_rfl
theorem c40 : kSs ck n40 b40 (defScope (top 57)) (defBody (top 57)) = true := by kernel_rfl
theorem s40 : C8.scC n40 p40 (defScope (top 57)) = true := by kernel_rfl
theorem c41 : kSs ck n41 b41 (defScope (top 61)) (defBody (top 61)) = true := by kernel_rfl
theorem s41 : C8.scC n41 p41 (defScope (top 61)) = true := by kernel_rfl
theorem c42 : kSs ck n42 b42 (defScope (top 62)) (defBody (top 62)) = true := by kernel_rfl
theorem s42 : C8.scC n42 p42 (defScope (top 62)) = true := by kernel_rfl
theorem c43 : kSs ck n43 b43 (defScope (top 63)) (defBody (top 63)) = true := by kernel_rfl
theorem s43 : C8.scC n43 p43 (defScope (top 63)) = true := by kernel_rfl
theorem c44 : kSs ck n44 b44 (defScope (top 64)) (defBody (top 64)) = true := by kernel_rfl
theorem s44 : C8.scC n44 p44 (defScope (top 64)) = true := by kernel_rfl
theorem c45 : kSs ck n45 b45 (defScope (top 66)) (defBody (top 66)) = true := by kernel_rfl
theorem s45 : C8.scC n45 p45 (defScope (top 66)) = true := by kernel_rfl
theorem c46 : kSs ck n46 b46 (defScope (top 67)) (defBody (top 67)) = true := by kernel_rfl
theorem s46 : C8.scC n46 p46 (defScope (top 67)) = true := by kernel_rfl
theorem c47 : kSs ck n47 b47 (defScope (top 69)) (defBody (top 69)) = true := by kernel_rfl
theorem s47 : C8.scC n47 p47 (defScope (top 69)) = true := by kernel_rfl
theorem c48 : kSs ck n48 b48 (defScope (top 70)) (defBody (top 70)) = true := by kernel_rfl
theorem s48 : C8.scC n48 p48 (defScope (top 70)) = true := by kernel_rfl
theorem c49 : kSs ck n49 b49 (defScope (top 72)) (defBody (top 72)) = true := by kernel_rfl
theorem s49 : C8.scC n49 p49 (defScope (top 72)) = true := by kernel_rfl
theorem c50 : kSs ck n50 b50 (defScope (top 73)) (defBody (top 73)) = true := by kernel_rfl
theorem s50 : C8.scC n50 p50 (defScope (top 73)) = true := by kernel_rfl
theorem c52 : kSs ck n52 b52 (defScope (top 75)) (defBody (top 75)) = true := by kernel_rfl
theorem s52 : C8.scC n52 p52 (defScope (top 75)) = true := by kernel_rfl
theorem c60 : kSs ck n60 b60 (defScope (top 83)) (defBody (top 83)) = true := by kernel_rfl
theorem s60 : C8.scC n60 p60 (defScope (top 83)) = true := by kernel_rfl
theorem c61 : kSs ck n61 b61 (defScope (top 84)) (defBody (top 84)) = true := by kernel_rfl
theorem s61 : C8.scC n61 p61 (defScope (top 84)) = true := by kernel_rfl
theorem c62 : kSs ck n62 b62 (defScope (top 85)) (defBody (top 85)) = true := by kernel_rfl
theorem s62 : C8.scC n62 p62 (defScope (top 85)) = true := by kernel_rfl
theorem c63 : kSs ck n63 b63 (defScope (top 86)) (defBody (top 86)) = true := by kernel_rfl
theorem s63 : C8.scC n63 p63 (defScope (top 86)) = true := by kernel_rfl
theorem c64 : kSs ck n64 b64 (defScope (top 87)) (defBody (top 87)) = true := by kernel_rfl
theorem s64 : C8.scC n64 p64 (defScope (top 87)) = true := by kernel_rfl
theorem c65 : kSs ck n65 b65 (defScope (top 88)) (defBody (top 88)) = true := by kernel_rfl
theorem s65 : C8.scC n65 p65 (defScope (top 88)) = true := by kernel_rfl
theorem c66 : kSs ck n66 b66 (defScope (top 89)) (defBody (top 89)) = true := by kernel_rfl
theorem s66 : C8.scC n66 p66 (defScope (top 89)) = true := by kernel_rfl
theorem c67 : kSs ck n67 b67 (defScope (top 90)) (defBody (top 90)) = true := by kernel_rfl
theorem s67 : C8.scC n67 p67 (defScope (top 90)) = true := by kernel_rfl
theorem c68 : kSs ck n68 b68 (defScope (top 91)) (defBody (top 91)) = true := by kernel_rfl
theorem s68 : C8.scC n68 p68 (defScope (top 91)) = true := by kernel_rfl
end Lw

set_option Elab.async false
set_option linter.all false
set_option maxRecDepth 100000
set_option maxHeartbeats 0
namespace Lw
open PL PySem PySem.Spec PyProof.Rows L2
def mkD (n : Str) (i : Nat) : He.DefD := ⟨(n, none), n, n, defArgs (top i), defBody (top i), defScope (top i), [], []⟩
def fn : List He.DefD := [mkD "is_whole" 9, mkD "is_between" 10, mkD "is_text_of" 11, mkD "order_count" 12, mkD "is_lot_number" 17, mkD "place_count" 18, mkD "is_picture_of" 19, mkD "is_pictured" 20, mkD "is_choice_of" 21, mkD "lot_count_of" 22, mkD "lot_of" 23, mkD "index_of" 24, mkD "choice_with" 25, mkD "size_of" 26, mkD "has_all" 27, mkD "has_some" 28, mkD "things_of" 30, mkD "things_where" 31, mkD "meet_at" 32, mkD "join_at" 33, mkD "meets_of" 34, mkD "by_sizes" 36, mkD "levels_of" 37, mkD "sums_of" 38, mkD "sign_by" 39, mkD "picture_by_places" 41, mkD "fixed_index" 42, mkD "fixed_places_of" 43, mkD "moved_count" 44, mkD "fixed_count_of" 45, mkD "all_rows" 46, mkD "missed_index" 47, mkD "missed_values_of" 48, mkD "power_of" 49, mkD "full_rows_of" 50, mkD "check_picture" 52, mkD "check_lots" 53, mkD "check_number" 54, mkD "check_size" 55, mkD "check_choice" 56, mkD "check_picture_choice" 57, mkD "fixed_places" 61, mkD "fixed_count" 62, mkD "missed_values" 63, mkD "full_rows" 64, mkD "levels" 66, mkD "sums" 67, mkD "things" 69, mkD "outside" 70, mkD "_law_pot" 72, mkD "_law_draw" 73, mkD "_law_same" 75, mkD "_law_orders" 83, mkD "_law_binomial" 84, mkD "_law_none" 85, mkD "_law_power" 86, mkD "_law_full" 87, mkD "_law_fixed_right" 88, mkD "_law_missed_right" 89, mkD "_law_right" 90, mkD "law" 91]
def fal : List He.Fa := [.glo "is_whole", .glo "is_between", .glo "is_text_of", .glo "order_count", .glo "is_lot_number", .glo "place_count", .glo "is_picture_of", .glo "is_pictured", .glo "is_choice_of", .glo "lot_count_of", .glo "lot_of", .glo "index_of", .glo "choice_with", .glo "size_of", .glo "has_all", .glo "has_some", .glo "things_of", .glo "things_where", .glo "meet_at", .glo "join_at", .glo "meets_of", .glo "by_sizes", .glo "levels_of", .glo "sums_of", .glo "sign_by", .glo "picture_by_places", .glo "fixed_index", .glo "fixed_places_of", .glo "moved_count", .glo "fixed_count_of", .glo "all_rows", .glo "missed_index", .glo "missed_values_of", .glo "power_of", .glo "full_rows_of", .glo "check_picture", .glo "check_lots", .glo "check_number", .glo "check_size", .glo "check_choice", .glo "check_picture_choice", .glo "fixed_places", .glo "fixed_count", .glo "missed_values", .glo "full_rows", .glo "levels", .glo "sums", .glo "things", .glo "outside", .glo "_law_pot", .glo "_law_draw", .glo "_law_same", .glo "_law_orders", .glo "_law_binomial", .glo "_law_none", .glo "_law_power", .glo "_law_full", .glo "_law_fixed_right", .glo "_law_missed_right", .glo "_law_right", .glo "law", .free "len", .free "sum", .free "all", .free "any", .free "int", .free "abs", .free "min", .free "max", .free "divmod", .free "tuple", .free "list", .free "sorted", .free "isinstance", .free "str", .free "bool", .free "range", .free "enumerate", .free "zip", .int "MOST_LOTS" 4, .int "MOST_HERE" 99, .str "LETTERS" ⟨[65, 66, 67, 68].toArray⟩, .int "MOST_COUNTED" 9, .int "MOST_ROWS" 3]
abbrev R : PySem.W.OpenRow := PySem.W.OpenLaw.row PySem.Challenge.rw_lotoverlaps_k75_whole_pictures_of_fixed
def exl : List (PySem.W.Frag → Bool) := [PL.nameB "comb" (.builtin "math.comb"), PL.nameB "permutations" (.type "itertools.permutations")]
abbrev hk : PySem.W.Hook := PL.hookE 2 fal fn exl
def ob (s : PySem.W.SharedT) : He.AlD × Bool := PL.obsEG 2 fal fn exl (HandSHeadRun.getT s)
theorem ob_eq (s : PySem.W.SharedT) : ob s = hk.obs s.abs := PL.obsEG_eq (HandSHeadRun.getT_eq s)
def nm0 : List PySem.Str := ["permutations", "comb", "__name__", "LotError", "InvalidPicture", "InvalidChoice", "InvalidNumber", "InvalidSize", "is_whole", "is_between", "is_text_of", "order_count", "LETTERS", "MOST_LOTS", "MOST_HERE", "is_lot_number", "place_count", "is_picture_of", "is_pictured", "is_choice_of", "lot_count_of", "lot_of", "index_of", "choice_with", "size_of", "has_all", "has_some", "things_of", "things_where", "meet_at"]
def nm1 : List PySem.Str := ["join_at", "meets_of", "by_sizes", "levels_of", "sums_of", "sign_by", "picture_by_places", "fixed_index", "fixed_places_of", "moved_count", "fixed_count_of", "all_rows", "missed_index", "missed_values_of", "power_of", "full_rows_of", "check_picture", "check_lots", "check_number", "check_size", "check_choice", "check_picture_choice", "MOST_COUNTED", "MOST_ROWS", "fixed_places", "fixed_count", "missed_values", "full_rows", "levels", "sums"]
def nm2 : List PySem.Str := ["things", "outside", "_law_pot", "_law_draw", "_law_pick", "_law_same", "_law_picture", "_law_many", "_law_choice", "_law_index", "_law_order", "_law_anew", "_law_inside", "_law_orders", "_law_binomial", "_law_none", "_law_power", "_law_full", "_law_fixed_right", "_law_missed_right", "_law_right"]
def loose : List PySem.Str := nm0 ++ nm1 ++ nm2
theorem run (w : World) : HandSHeadRun.RunEqI R (PySem.W.view R.prog [0, 1, 91]) hk ob 60000 loose w := by
  unfold HandSHeadRun.RunEqI
  kernel_rfl
def nms : Nat → Str
  | 0 => "is_whole"
  | 1 => "is_between"
  | 2 => "is_text_of"
  | 3 => "order_count"
  | 4 => "is_lot_number"
  | 5 => "place_count"
  | 6 => "is_picture_of"
  | 7 => "is_pictured"
  | 8 => "is_choice_of"
  | 9 => "lot_count_of"
  | 10 => "lot_of"
  | 11 => "index_of"
  | 12 => "choice_with"
  | 13 => "size_of"
  | 14 => "has_all"
  | 15 => "has_some"
  | 16 => "things_of"
  | 17 => "things_where"
  | 18 => "meet_at"
  | 19 => "join_at"
  | 20 => "meets_of"
  | 21 => "by_sizes"
  | 22 => "levels_of"
  | 23 => "sums_of"
  | 24 => "sign_by"
  | 25 => "picture_by_places"
  | 26 => "fixed_index"
  | 27 => "fixed_places_of"
  | 28 => "moved_count"
  | 29 => "fixed_count_of"
  | 30 => "all_rows"
  | 31 => "missed_index"
  | 32 => "missed_values_of"
  | 33 => "power_of"
  | 34 => "full_rows_of"
  | 35 => "check_picture"
  | 36 => "check_lots"
  | 37 => "check_number"
  | 38 => "check_size"
  | 39 => "check_choice"
  | 40 => "check_picture_choice"
  | 41 => "fixed_places"
  | 42 => "fixed_count"
  | 43 => "missed_values"
  | 44 => "full_rows"
  | 45 => "levels"
  | 46 => "sums"
  | 47 => "things"
  | 48 => "outside"
  | 49 => "_law_pot"
  | 50 => "_law_draw"
  | 52 => "_law_same"
  | 60 => "_law_orders"
  | 61 => "_law_binomial"
  | 62 => "_law_none"
  | 63 => "_law_power"
  | 64 => "_law_full"
  | 65 => "_law_fixed_right"
  | 66 => "_law_missed_right"
  | 67 => "_law_right"
  | 68 => "law"
  | _ => ⟨#[]⟩
def fA (K : PySem.W.Frag) (k : Nat) : Addr := He.ga K (nms k)
theorem f_cons {α : Type} {P : α → Prop} {a : α} {l : List α} (h : P a) (t : ∀ q ∈ l, P q) : ∀ q ∈ a :: l, P q := fun q hq => by
  rcases List.mem_cons.mp hq with e | e
  · rw [e]
    exact h
  · exact t q e
theorem f_nil {α : Type} {P : α → Prop} : ∀ q ∈ ([] : List α), P q := fun q hq => nomatch hq
theorem kbn {K : PySem.W.Frag} {x qual : Str} {params : Arguments} {body : List Stmt} {scope : Scope} {kws : List (Str × V)} {f : Addr} {fd : FuncData} {ps ks : List Str} {n : Nat} {pm : List Nat} (F : FunD K x qual params body scope [] kws f fd)
    (h : ∀ (kV doc pm' : Value) (an : Option Addr) (cdv ct : Value) (us ws : List Value), us.length = n → ws.length = ks.length → bindArgs (PySem.W.fnOf x qual params body scope .none kV doc pm' an cdv ct) ⟨us, ks.zip ws⟩ = pure (ps.zip (gK Value.none pm us ws))) : KBn K fd ps n ks (gK Value.none pm) (gK V.non pm) := by
  obtain ⟨oc, od, dV, kV, doc, pm', an, cdv, ct, osl, rfl, lk, hcd, hD, hK⟩ := F.ex
  rcases hD with ⟨_, rfl⟩ | ⟨e, _⟩
  · exact ⟨fun s us ws X l1 l2 => .of_eq (h kV doc pm' an cdv ct us ws l1 l2), fun r1 r2 => gK_rel pm r1 r2⟩
  · exact absurd rfl e
section
variable {K : PySem.W.Frag}
theorem d0 (c : PL.SaysE fal fn exl K) : DefOk ck K (fA K) 0 ⟨1, 1, b0⟩ := by
  obtain ⟨fd, F⟩ := c.d.def_ 0 (d := mkD "is_whole" 9) rfl
  refine ⟨_, _, _, _, _, fd, n0, p0, F, C8.fnScope_by s0, rfl, rfl, c0, F.bindsN fun _ _ _ _ _ _ us hl => match us, hl with | [_], _ => rfl, fun n ks pm h => ?_⟩
  simp only [ck, List.mem_cons, Prod.mk.injEq, List.not_mem_nil, or_false] at h
  rcases h with ⟨h1, rfl, rfl, rfl⟩ | ⟨h1, rfl, rfl, rfl⟩ | ⟨h1, rfl, rfl, rfl⟩ | ⟨h1, rfl, rfl, rfl⟩
  · exact absurd h1 (by decide)
  · exact absurd h1 (by decide)
  · exact absurd h1 (by decide)
  · exact absurd h1 (by decide)
theorem d1 (c : PL.SaysE fal fn exl K) : DefOk ck K (fA K) 1 ⟨3, 3, b1⟩ := by
  obtain ⟨fd, F⟩ := c.d.def_ 1 (d := mkD "is_between" 10) rfl
  refine ⟨_, _, _, _, _, fd, n1, p1, F, C8.fnScope_by s1, rfl, rfl, c1, F.bindsN fun _ _ _ _ _ _ us hl => match us, hl with | [_, _, _], _ => rfl, fun n ks pm h => ?_⟩
  simp only [ck, List.mem_cons, Prod.mk.injEq, List.not_mem_nil, or_false] at h
  rcases h with ⟨h1, rfl, rfl, rfl⟩ | ⟨h1, rfl, rfl, rfl⟩ | ⟨h1, rfl, rfl, rfl⟩ | ⟨h1, rfl, rfl, rfl⟩
  · exact absurd h1 (by decide)
  · exact absurd h1 (by decide)
  · exact absurd h1 (by decide)
  · exact absurd h1 (by decide)
theorem d2 (c : PL.SaysE fal fn exl K) : DefOk ck K (fA K) 2 ⟨2, 3, b2⟩ := by
  obtain ⟨fd, F⟩ := c.d.def_ 2 (d := mkD "is_text_of" 11) rfl
  refine ⟨_, _, _, _, _, fd, n2, p2, F, C8.fnScope_by s2, rfl, rfl, c2, F.bindsN fun _ _ _ _ _ _ us hl => match us, hl with | [_, _], _ => rfl, fun n ks pm h => ?_⟩
  simp only [ck, List.mem_cons, Prod.mk.injEq, List.not_mem_nil, or_false] at h
  rcases h with ⟨h1, rfl, rfl, rfl⟩ | ⟨h1, rfl, rfl, rfl⟩ | ⟨h1, rfl, rfl, rfl⟩ | ⟨h1, rfl, rfl, rfl⟩
  · exact absurd h1 (by decide)
  · exact absurd h1 (by decide)
  · exact absurd h1 (by decide)
  · exact absurd h1 (by decide)
theorem d3 (c : PL.SaysE fal fn exl K) : DefOk ck K (fA K) 3 ⟨1, 3, b3⟩ := by
  obtain ⟨fd, F⟩ := c.d.def_ 3 (d := mkD "order_count" 12) rfl
  refine ⟨_, _, _, _, _, fd, n3, p3, F, C8.fnScope_by s3, rfl, rfl, c3, F.bindsN fun _ _ _ _ _ _ us hl => match us, hl with | [_], _ => rfl, fun n ks pm h => ?_⟩
  simp only [ck, List.mem_cons, Prod.mk.injEq, List.not_mem_nil, or_false] at h
  rcases h with ⟨h1, rfl, rfl, rfl⟩ | ⟨h1, rfl, rfl, rfl⟩ | ⟨h1, rfl, rfl, rfl⟩ | ⟨h1, rfl, rfl, rfl⟩
  · exact absurd h1 (by decide)
  · exact absurd h1 (by decide)
  · exact absurd h1 (by decide)
  · exact absurd h1 (by decide)
theorem d4 (c : PL.SaysE fal fn exl K) : DefOk ck K (fA K) 4 ⟨1, 1, b4⟩ := by
  obtain ⟨fd, F⟩ := c.d.def_ 4 (d := mkD "is_lot_number" 17) rfl
  refine ⟨_, _, _, _, _, fd, n4, p4, F, C8.fnScope_by s4, rfl, rfl, c4, F.bindsN fun _ _ _ _ _ _ us hl => match us, hl with | [_], _ => rfl, fun n ks pm h => ?_⟩
  simp only [ck, List.mem_cons, Prod.mk.injEq, List.not_mem_nil, or_false] at h
  rcases h with ⟨h1, rfl, rfl, rfl⟩ | ⟨h1, rfl, rfl, rfl⟩ | ⟨h1, rfl, rfl, rfl⟩ | ⟨h1, rfl, rfl, rfl⟩
  · exact absurd h1 (by decide)
  · exact absurd h1 (by decide)
  · exact absurd h1 (by decide)
  · exact absurd h1 (by decide)
theorem d5 (c : PL.SaysE fal fn exl K) : DefOk ck K (fA K) 5 ⟨1, 1, b5⟩ := by
  obtain ⟨fd, F⟩ := c.d.def_ 5 (d := mkD "place_count" 18) rfl
  refine ⟨_, _, _, _, _, fd, n5, p5, F, C8.fnScope_by s5, rfl, rfl, c5, F.bindsN fun _ _ _ _ _ _ us hl => match us, hl with | [_], _ => rfl, fun n ks pm h => ?_⟩
  simp only [ck, List.mem_cons, Prod.mk.injEq, List.not_mem_nil, or_false] at h
  rcases h with ⟨h1, rfl, rfl, rfl⟩ | ⟨h1, rfl, rfl, rfl⟩ | ⟨h1, rfl, rfl, rfl⟩ | ⟨h1, rfl, rfl, rfl⟩
  · exact absurd h1 (by decide)
  · exact absurd h1 (by decide)
  · exact absurd h1 (by decide)
  · exact absurd h1 (by decide)
theorem d6 (c : PL.SaysE fal fn exl K) : DefOk ck K (fA K) 6 ⟨2, 3, b6⟩ := by
  obtain ⟨fd, F⟩ := c.d.def_ 6 (d := mkD "is_picture_of" 19) rfl
  refine ⟨_, _, _, _, _, fd, n6, p6, F, C8.fnScope_by s6, rfl, rfl, c6, F.bindsN fun _ _ _ _ _ _ us hl => match us, hl with | [_, _], _ => rfl, fun n ks pm h => ?_⟩
  simp only [ck, List.mem_cons, Prod.mk.injEq, List.not_mem_nil, or_false] at h
  rcases h with ⟨h1, rfl, rfl, rfl⟩ | ⟨h1, rfl, rfl, rfl⟩ | ⟨h1, rfl, rfl, rfl⟩ | ⟨h1, rfl, rfl, rfl⟩
  · exact absurd h1 (by decide)
  · exact absurd h1 (by decide)
  · exact absurd h1 (by decide)
  · exact absurd h1 (by decide)
theorem d7 (c : PL.SaysE fal fn exl K) : DefOk ck K (fA K) 7 ⟨1, 2, b7⟩ := by
  obtain ⟨fd, F⟩ := c.d.def_ 7 (d := mkD "is_pictured" 20) rfl
  refine ⟨_, _, _, _, _, fd, n7, p7, F, C8.fnScope_by s7, rfl, rfl, c7, F.bindsN fun _ _ _ _ _ _ us hl => match us, hl with | [_], _ => rfl, fun n ks pm h => ?_⟩
  simp only [ck, List.mem_cons, Prod.mk.injEq, List.not_mem_nil, or_false] at h
  rcases h with ⟨h1, rfl, rfl, rfl⟩ | ⟨h1, rfl, rfl, rfl⟩ | ⟨h1, rfl, rfl, rfl⟩ | ⟨h1, rfl, rfl, rfl⟩
  · exact absurd h1 (by decide)
  · exact absurd h1 (by decide)
  · exact absurd h1 (by decide)
  · exact absurd h1 (by decide)
theorem d8 (c : PL.SaysE fal fn exl K) : DefOk ck K (fA K) 8 ⟨2, 4, b8⟩ := by
  obtain ⟨fd, F⟩ := c.d.def_ 8 (d := mkD "is_choice_of" 21) rfl
  refine ⟨_, _, _, _, _, fd, n8, p8, F, C8.fnScope_by s8, rfl, rfl, c8, F.bindsN fun _ _ _ _ _ _ us hl => match us, hl with | [_, _], _ => rfl, fun n ks pm h => ?_⟩
  simp only [ck, List.mem_cons, Prod.mk.injEq, List.not_mem_nil, or_false] at h
  rcases h with ⟨h1, rfl, rfl, rfl⟩ | ⟨h1, rfl, rfl, rfl⟩ | ⟨h1, rfl, rfl, rfl⟩ | ⟨h1, rfl, rfl, rfl⟩
  · exact absurd h1 (by decide)
  · exact absurd h1 (by decide)
  · exact absurd h1 (by decide)
  · exact absurd h1 (by decide)
theorem d9 (c : PL.SaysE fal fn exl K) : DefOk ck K (fA K) 9 ⟨1, 1, b9⟩ := by
  obtain ⟨fd, F⟩ := c.d.def_ 9 (d := mkD "lot_count_of" 22) rfl
  refine ⟨_, _, _, _, _, fd, n9, p9, F, C8.fnScope_by s9, rfl, rfl, c9, F.bindsN fun _ _ _ _ _ _ us hl => match us, hl with | [_], _ => rfl, fun n ks pm h => ?_⟩
  simp only [ck, List.mem_cons, Prod.mk.injEq, List.not_mem_nil, or_false] at h
  rcases h with ⟨h1, rfl, rfl, rfl⟩ | ⟨h1, rfl, rfl, rfl⟩ | ⟨h1, rfl, rfl, rfl⟩ | ⟨h1, rfl, rfl, rfl⟩
  · exact absurd h1 (by decide)
  · exact absurd h1 (by decide)
  · exact absurd h1 (by decide)
  · exact absurd h1 (by decide)
theorem d10 (c : PL.SaysE fal fn exl K) : DefOk ck K (fA K) 10 ⟨1, 1, b10⟩ := by
  obtain ⟨fd, F⟩ := c.d.def_ 10 (d := mkD "lot_of" 23) rfl
  refine ⟨_, _, _, _, _, fd, n10, p10, F, C8.fnScope_by s10, rfl, rfl, c10, F.bindsN fun _ _ _ _ _ _ us hl => match us, hl with | [_], _ => rfl, fun n ks pm h => ?_⟩
  simp only [ck, List.mem_cons, Prod.mk.injEq, List.not_mem_nil, or_false] at h
  rcases h with ⟨h1, rfl, rfl, rfl⟩ | ⟨h1, rfl, rfl, rfl⟩ | ⟨h1, rfl, rfl, rfl⟩ | ⟨h1, rfl, rfl, rfl⟩
  · exact absurd h1 (by decide)
  · exact absurd h1 (by decide)
  · exact absurd h1 (by decide)
  · exact absurd h1 (by decide)
theorem d11 (c : PL.SaysE fal fn exl K) : DefOk ck K (fA K) 11 ⟨1, 2, b11⟩ := by
  obtain ⟨fd, F⟩ := c.d.def_ 11 (d := mkD "index_of" 24) rfl
  refine ⟨_, _, _, _, _, fd, n11, p11, F, C8.fnScope_by s11, rfl, rfl, c11, F.bindsN fun _ _ _ _ _ _ us hl => match us, hl with | [_], _ => rfl, fun n ks pm h => ?_⟩
  simp only [ck, List.mem_cons, Prod.mk.injEq, List.not_mem_nil, or_false] at h
  rcases h with ⟨h1, rfl, rfl, rfl⟩ | ⟨h1, rfl, rfl, rfl⟩ | ⟨h1, rfl, rfl, rfl⟩ | ⟨h1, rfl, rfl, rfl⟩
  · exact absurd h1 (by decide)
  · exact absurd h1 (by decide)
  · exact absurd h1 (by decide)
  · exact absurd h1 (by decide)
theorem d12 (c : PL.SaysE fal fn exl K) : DefOk ck K (fA K) 12 ⟨1, 3, b12⟩ := by
  obtain ⟨fd, F⟩ := c.d.def_ 12 (d := mkD "choice_with" 25) rfl
  refine ⟨_, _, _, _, _, fd, n12, p12, F, C8.fnScope_by s12, rfl, rfl, c12, F.bindsN fun _ _ _ _ _ _ us hl => match us, hl with | [_], _ => rfl, fun n ks pm h => ?_⟩
  simp only [ck, List.mem_cons, Prod.mk.injEq, List.not_mem_nil, or_false] at h
  rcases h with ⟨h1, rfl, rfl, rfl⟩ | ⟨h1, rfl, rfl, rfl⟩ | ⟨h1, rfl, rfl, rfl⟩ | ⟨h1, rfl, rfl, rfl⟩
  · exact absurd h1 (by decide)
  · exact absurd h1 (by decide)
  · exact absurd h1 (by decide)
  · exact absurd h1 (by decide)
theorem d13 (c : PL.SaysE fal fn exl K) : DefOk ck K (fA K) 13 ⟨1, 1, b13⟩ := by
  obtain ⟨fd, F⟩ := c.d.def_ 13 (d := mkD "size_of" 26) rfl
  refine ⟨_, _, _, _, _, fd, n13, p13, F, C8.fnScope_by s13, rfl, rfl, c13, F.bindsN fun _ _ _ _ _ _ us hl => match us, hl with | [_], _ => rfl, fun n ks pm h => ?_⟩
  simp only [ck, List.mem_cons, Prod.mk.injEq, List.not_mem_nil, or_false] at h
  rcases h with ⟨h1, rfl, rfl, rfl⟩ | ⟨h1, rfl, rfl, rfl⟩ | ⟨h1, rfl, rfl, rfl⟩ | ⟨h1, rfl, rfl, rfl⟩
  · exact absurd h1 (by decide)
  · exact absurd h1 (by decide)
  · exact absurd h1 (by decide)
  · exact absurd h1 (by decide)
theorem d14 (c : PL.SaysE fal fn exl K) : DefOk ck K (fA K) 14 ⟨2, 2, b14⟩ := by
  obtain ⟨fd, F⟩ := c.d.def_ 14 (d := mkD "has_all" 27) rfl
  refine ⟨_, _, _, _, _, fd, n14, p14, F, C8.fnScope_by s14, rfl, rfl, c14, F.bindsN fun _ _ _ _ _ _ us hl => match us, hl with | [_, _], _ => rfl, fun n ks pm h => ?_⟩
  simp only [ck, List.mem_cons, Prod.mk.injEq, List.not_mem_nil, or_false] at h
  rcases h with ⟨h1, rfl, rfl, rfl⟩ | ⟨h1, rfl, rfl, rfl⟩ | ⟨h1, rfl, rfl, rfl⟩ | ⟨h1, rfl, rfl, rfl⟩
  · exact absurd h1 (by decide)
  · exact absurd h1 (by decide)
  · exact absurd h1 (by decide)
  · exact absurd h1 (by decide)
theorem d15 (c : PL.SaysE fal fn exl K) : DefOk ck K (fA K) 15 ⟨2, 2, b15⟩ := by
  obtain ⟨fd, F⟩ := c.d.def_ 15 (d := mkD "has_some" 28) rfl
  refine ⟨_, _, _, _, _, fd, n15, p15, F, C8.fnScope_by s15, rfl, rfl, c15, F.bindsN fun _ _ _ _ _ _ us hl => match us, hl with | [_, _], _ => rfl, fun n ks pm h => ?_⟩
  simp only [ck, List.mem_cons, Prod.mk.injEq, List.not_mem_nil, or_false] at h
  rcases h with ⟨h1, rfl, rfl, rfl⟩ | ⟨h1, rfl, rfl, rfl⟩ | ⟨h1, rfl, rfl, rfl⟩ | ⟨h1, rfl, rfl, rfl⟩
  · exact absurd h1 (by decide)
  · exact absurd h1 (by decide)
  · exact absurd h1 (by decide)
  · exact absurd h1 (by decide)
theorem d16 (c : PL.SaysE fal fn exl K) : DefOk ck K (fA K) 16 ⟨1, 1, b16⟩ := by
  obtain ⟨fd, F⟩ := c.d.def_ 16 (d := mkD "things_of" 30) rfl
  refine ⟨_, _, _, _, _, fd, n16, p16, F, C8.fnScope_by s16, rfl, rfl, c16, F.bindsN fun _ _ _ _ _ _ us hl => match us, hl with | [_], _ => rfl, fun n ks pm h => ?_⟩
  simp only [ck, List.mem_cons, Prod.mk.injEq, List.not_mem_nil, or_false] at h
  rcases h with ⟨h1, rfl, rfl, rfl⟩ | ⟨h1, rfl, rfl, rfl⟩ | ⟨h1, rfl, rfl, rfl⟩ | ⟨h1, rfl, rfl, rfl⟩
  · exact absurd h1 (by decide)
  · exact absurd h1 (by decide)
  · exact absurd h1 (by decide)
  · exact absurd h1 (by decide)
theorem d17 (c : PL.SaysE fal fn exl K) : DefOk ck K (fA K) 17 ⟨3, 5, b17⟩ := by
  obtain ⟨fd, F⟩ := c.d.def_ 17 (d := mkD "things_where" 31) rfl
  refine ⟨_, _, _, _, _, fd, n17, p17, F, C8.fnScope_by s17, rfl, rfl, c17, F.bindsN fun _ _ _ _ _ _ us hl => match us, hl with | [_, _, _], _ => rfl, fun n ks pm h => ?_⟩
  simp only [ck, List.mem_cons, Prod.mk.injEq, List.not_mem_nil, or_false] at h
  rcases h with ⟨h1, rfl, rfl, rfl⟩ | ⟨h1, rfl, rfl, rfl⟩ | ⟨h1, rfl, rfl, rfl⟩ | ⟨h1, rfl, rfl, rfl⟩
  · exact absurd h1 (by decide)
  · exact absurd h1 (by decide)
  · exact absurd h1 (by decide)
  · exact absurd h1 (by decide)
theorem d18 (c : PL.SaysE fal fn exl K) : DefOk ck K (fA K) 18 ⟨2, 2, b18⟩ := by
  obtain ⟨fd, F⟩ := c.d.def_ 18 (d := mkD "meet_at" 32) rfl
  refine ⟨_, _, _, _, _, fd, n18, p18, F, C8.fnScope_by s18, rfl, rfl, c18, F.bindsN fun _ _ _ _ _ _ us hl => match us, hl with | [_, _], _ => rfl, fun n ks pm h => ?_⟩
  simp only [ck, List.mem_cons, Prod.mk.injEq, List.not_mem_nil, or_false] at h
  rcases h with ⟨h1, rfl, rfl, rfl⟩ | ⟨h1, rfl, rfl, rfl⟩ | ⟨h1, rfl, rfl, rfl⟩ | ⟨h1, rfl, rfl, rfl⟩
  · exact absurd h1 (by decide)
  · exact absurd h1 (by decide)
  · exact absurd h1 (by decide)
  · exact absurd h1 (by decide)
theorem d19 (c : PL.SaysE fal fn exl K) : DefOk ck K (fA K) 19 ⟨2, 2, b19⟩ := by
  obtain ⟨fd, F⟩ := c.d.def_ 19 (d := mkD "join_at" 33) rfl
  refine ⟨_, _, _, _, _, fd, n19, p19, F, C8.fnScope_by s19, rfl, rfl, c19, F.bindsN fun _ _ _ _ _ _ us hl => match us, hl with | [_, _], _ => rfl, fun n ks pm h => ?_⟩
  simp only [ck, List.mem_cons, Prod.mk.injEq, List.not_mem_nil, or_false] at h
  rcases h with ⟨h1, rfl, rfl, rfl⟩ | ⟨h1, rfl, rfl, rfl⟩ | ⟨h1, rfl, rfl, rfl⟩ | ⟨h1, rfl, rfl, rfl⟩
  · exact absurd h1 (by decide)
  · exact absurd h1 (by decide)
  · exact absurd h1 (by decide)
  · exact absurd h1 (by decide)
theorem d20 (c : PL.SaysE fal fn exl K) : DefOk ck K (fA K) 20 ⟨1, 2, b20⟩ := by
  obtain ⟨fd, F⟩ := c.d.def_ 20 (d := mkD "meets_of" 34) rfl
  refine ⟨_, _, _, _, _, fd, n20, p20, F, C8.fnScope_by s20, rfl, rfl, c20, F.bindsN fun _ _ _ _ _ _ us hl => match us, hl with | [_], _ => rfl, fun n ks pm h => ?_⟩
  simp only [ck, List.mem_cons, Prod.mk.injEq, List.not_mem_nil, or_false] at h
  rcases h with ⟨h1, rfl, rfl, rfl⟩ | ⟨h1, rfl, rfl, rfl⟩ | ⟨h1, rfl, rfl, rfl⟩ | ⟨h1, rfl, rfl, rfl⟩
  · exact absurd h1 (by decide)
  · exact absurd h1 (by decide)
  · exact absurd h1 (by decide)
  · exact absurd h1 (by decide)
theorem d21 (c : PL.SaysE fal fn exl K) : DefOk ck K (fA K) 21 ⟨1, 4, b21⟩ := by
  obtain ⟨fd, F⟩ := c.d.def_ 21 (d := mkD "by_sizes" 36) rfl
  refine ⟨_, _, _, _, _, fd, n21, p21, F, C8.fnScope_by s21, rfl, rfl, c21, F.bindsN fun _ _ _ _ _ _ us hl => match us, hl with | [_], _ => rfl, fun n ks pm h => ?_⟩
  simp only [ck, List.mem_cons, Prod.mk.injEq, List.not_mem_nil, or_false] at h
  rcases h with ⟨h1, rfl, rfl, rfl⟩ | ⟨h1, rfl, rfl, rfl⟩ | ⟨h1, rfl, rfl, rfl⟩ | ⟨h1, rfl, rfl, rfl⟩
  · exact absurd h1 (by decide)
  · exact absurd h1 (by decide)
  · exact absurd h1 (by decide)
  · exact absurd h1 (by decide)
theorem d22 (c : PL.SaysE fal fn exl K) : DefOk ck K (fA K) 22 ⟨1, 1, b22⟩ := by
  obtain ⟨fd, F⟩ := c.d.def_ 22 (d := mkD "levels_of" 37) rfl
  refine ⟨_, _, _, _, _, fd, n22, p22, F, C8.fnScope_by s22, rfl, rfl, c22, F.bindsN fun _ _ _ _ _ _ us hl => match us, hl with | [_], _ => rfl, fun n ks pm h => ?_⟩
  simp only [ck, List.mem_cons, Prod.mk.injEq, List.not_mem_nil, or_false] at h
  rcases h with ⟨h1, rfl, rfl, rfl⟩ | ⟨h1, rfl, rfl, rfl⟩ | ⟨h1, rfl, rfl, rfl⟩ | ⟨h1, rfl, rfl, rfl⟩
  · exact absurd h1 (by decide)
  · exact absurd h1 (by decide)
  · exact absurd h1 (by decide)
  · exact absurd h1 (by decide)
theorem d23 (c : PL.SaysE fal fn exl K) : DefOk ck K (fA K) 23 ⟨1, 1, b23⟩ := by
  obtain ⟨fd, F⟩ := c.d.def_ 23 (d := mkD "sums_of" 38) rfl
  refine ⟨_, _, _, _, _, fd, n23, p23, F, C8.fnScope_by s23, rfl, rfl, c23, F.bindsN fun _ _ _ _ _ _ us hl => match us, hl with | [_], _ => rfl, fun n ks pm h => ?_⟩
  simp only [ck, List.mem_cons, Prod.mk.injEq, List.not_mem_nil, or_false] at h
  rcases h with ⟨h1, rfl, rfl, rfl⟩ | ⟨h1, rfl, rfl, rfl⟩ | ⟨h1, rfl, rfl, rfl⟩ | ⟨h1, rfl, rfl, rfl⟩
  · exact absurd h1 (by decide)
  · exact absurd h1 (by decide)
  · exact absurd h1 (by decide)
  · exact absurd h1 (by decide)
theorem d24 (c : PL.SaysE fal fn exl K) : DefOk ck K (fA K) 24 ⟨1, 1, b24⟩ := by
  obtain ⟨fd, F⟩ := c.d.def_ 24 (d := mkD "sign_by" 39) rfl
  refine ⟨_, _, _, _, _, fd, n24, p24, F, C8.fnScope_by s24, rfl, rfl, c24, F.bindsN fun _ _ _ _ _ _ us hl => match us, hl with | [_], _ => rfl, fun n ks pm h => ?_⟩
  simp only [ck, List.mem_cons, Prod.mk.injEq, List.not_mem_nil, or_false] at h
  rcases h with ⟨h1, rfl, rfl, rfl⟩ | ⟨h1, rfl, rfl, rfl⟩ | ⟨h1, rfl, rfl, rfl⟩ | ⟨h1, rfl, rfl, rfl⟩
  · exact absurd h1 (by decide)
  · exact absurd h1 (by decide)
  · exact absurd h1 (by decide)
  · exact absurd h1 (by decide)
theorem d25 (c : PL.SaysE fal fn exl K) : DefOk ck K (fA K) 25 ⟨2, 3, b25⟩ := by
  obtain ⟨fd, F⟩ := c.d.def_ 25 (d := mkD "picture_by_places" 41) rfl
  refine ⟨_, _, _, _, _, fd, n25, p25, F, C8.fnScope_by s25, rfl, rfl, c25, F.bindsN fun _ _ _ _ _ _ us hl => match us, hl with | [_, _], _ => rfl, fun n ks pm h => ?_⟩
  simp only [ck, List.mem_cons, Prod.mk.injEq, List.not_mem_nil, or_false] at h
  rcases h with ⟨h1, rfl, rfl, rfl⟩ | ⟨h1, rfl, rfl, rfl⟩ | ⟨h1, rfl, rfl, rfl⟩ | ⟨h1, rfl, rfl, rfl⟩
  · exact absurd h1 (by decide)
  · exact absurd h1 (by decide)
  · exact absurd h1 (by decide)
  · exact absurd h1 (by decide)
theorem d26 (c : PL.SaysE fal fn exl K) : DefOk ck K (fA K) 26 ⟨1, 3, b26⟩ := by
  obtain ⟨fd, F⟩ := c.d.def_ 26 (d := mkD "fixed_index" 42) rfl
  refine ⟨_, _, _, _, _, fd, n26, p26, F, C8.fnScope_by s26, rfl, rfl, c26, F.bindsN fun _ _ _ _ _ _ us hl => match us, hl with | [_], _ => rfl, fun n ks pm h => ?_⟩
  simp only [ck, List.mem_cons, Prod.mk.injEq, List.not_mem_nil, or_false] at h
  rcases h with ⟨h1, rfl, rfl, rfl⟩ | ⟨h1, rfl, rfl, rfl⟩ | ⟨h1, rfl, rfl, rfl⟩ | ⟨h1, rfl, rfl, rfl⟩
  · exact absurd h1 (by decide)
  · exact absurd h1 (by decide)
  · exact absurd h1 (by decide)
  · exact absurd h1 (by decide)
theorem d27 (c : PL.SaysE fal fn exl K) : DefOk ck K (fA K) 27 ⟨1, 2, b27⟩ := by
  obtain ⟨fd, F⟩ := c.d.def_ 27 (d := mkD "fixed_places_of" 43) rfl
  refine ⟨_, _, _, _, _, fd, n27, p27, F, C8.fnScope_by s27, rfl, rfl, c27, F.bindsN fun _ _ _ _ _ _ us hl => match us, hl with | [_], _ => rfl, fun n ks pm h => ?_⟩
  simp only [ck, List.mem_cons, Prod.mk.injEq, List.not_mem_nil, or_false] at h
  rcases h with ⟨h1, rfl, rfl, rfl⟩ | ⟨h1, rfl, rfl, rfl⟩ | ⟨h1, rfl, rfl, rfl⟩ | ⟨h1, rfl, rfl, rfl⟩
  · exact absurd h1 (by decide)
  · exact absurd h1 (by decide)
  · exact absurd h1 (by decide)
  · exact absurd h1 (by decide)
theorem d28 (c : PL.SaysE fal fn exl K) : DefOk ck K (fA K) 28 ⟨1, 2, b28⟩ := by
  obtain ⟨fd, F⟩ := c.d.def_ 28 (d := mkD "moved_count" 44) rfl
  refine ⟨_, _, _, _, _, fd, n28, p28, F, C8.fnScope_by s28, rfl, rfl, c28, F.bindsN fun _ _ _ _ _ _ us hl => match us, hl with | [_], _ => rfl, fun n ks pm h => ?_⟩
  simp only [ck, List.mem_cons, Prod.mk.injEq, List.not_mem_nil, or_false] at h
  rcases h with ⟨h1, rfl, rfl, rfl⟩ | ⟨h1, rfl, rfl, rfl⟩ | ⟨h1, rfl, rfl, rfl⟩ | ⟨h1, rfl, rfl, rfl⟩
  · exact absurd h1 (by decide)
  · exact absurd h1 (by decide)
  · exact absurd h1 (by decide)
  · exact absurd h1 (by decide)
theorem d29 (c : PL.SaysE fal fn exl K) : DefOk ck K (fA K) 29 ⟨2, 2, b29⟩ := by
  obtain ⟨fd, F⟩ := c.d.def_ 29 (d := mkD "fixed_count_of" 45) rfl
  refine ⟨_, _, _, _, _, fd, n29, p29, F, C8.fnScope_by s29, rfl, rfl, c29, F.bindsN fun _ _ _ _ _ _ us hl => match us, hl with | [_, _], _ => rfl, fun n ks pm h => ?_⟩
  simp only [ck, List.mem_cons, Prod.mk.injEq, List.not_mem_nil, or_false] at h
  rcases h with ⟨h1, rfl, rfl, rfl⟩ | ⟨h1, rfl, rfl, rfl⟩ | ⟨h1, rfl, rfl, rfl⟩ | ⟨h1, rfl, rfl, rfl⟩
  · exact absurd h1 (by decide)
  · exact absurd h1 (by decide)
  · exact absurd h1 (by decide)
  · exact absurd h1 (by decide)
theorem d30 (c : PL.SaysE fal fn exl K) : DefOk ck K (fA K) 30 ⟨2, 6, b30⟩ := by
  obtain ⟨fd, F⟩ := c.d.def_ 30 (d := mkD "all_rows" 46) rfl
  refine ⟨_, _, _, _, _, fd, n30, p30, F, C8.fnScope_by s30, rfl, rfl, c30, F.bindsN fun _ _ _ _ _ _ us hl => match us, hl with | [_, _], _ => rfl, fun n ks pm h => ?_⟩
  simp only [ck, List.mem_cons, Prod.mk.injEq, List.not_mem_nil, or_false] at h
  rcases h with ⟨h1, rfl, rfl, rfl⟩ | ⟨h1, rfl, rfl, rfl⟩ | ⟨h1, rfl, rfl, rfl⟩ | ⟨h1, rfl, rfl, rfl⟩
  · exact absurd h1 (by decide)
  · exact absurd h1 (by decide)
  · exact absurd h1 (by decide)
  · exact absurd h1 (by decide)
theorem d31 (c : PL.SaysE fal fn exl K) : DefOk ck K (fA K) 31 ⟨2, 3, b31⟩ := by
  obtain ⟨fd, F⟩ := c.d.def_ 31 (d := mkD "missed_index" 47) rfl
  refine ⟨_, _, _, _, _, fd, n31, p31, F, C8.fnScope_by s31, rfl, rfl, c31, F.bindsN fun _ _ _ _ _ _ us hl => match us, hl with | [_, _], _ => rfl, fun n ks pm h => ?_⟩
  simp only [ck, List.mem_cons, Prod.mk.injEq, List.not_mem_nil, or_false] at h
  rcases h with ⟨h1, rfl, rfl, rfl⟩ | ⟨h1, rfl, rfl, rfl⟩ | ⟨h1, rfl, rfl, rfl⟩ | ⟨h1, rfl, rfl, rfl⟩
  · exact absurd h1 (by decide)
  · exact absurd h1 (by decide)
  · exact absurd h1 (by decide)
  · exact absurd h1 (by decide)
theorem d32 (c : PL.SaysE fal fn exl K) : DefOk ck K (fA K) 32 ⟨2, 3, b32⟩ := by
  obtain ⟨fd, F⟩ := c.d.def_ 32 (d := mkD "missed_values_of" 48) rfl
  refine ⟨_, _, _, _, _, fd, n32, p32, F, C8.fnScope_by s32, rfl, rfl, c32, F.bindsN fun _ _ _ _ _ _ us hl => match us, hl with | [_, _], _ => rfl, fun n ks pm h => ?_⟩
  simp only [ck, List.mem_cons, Prod.mk.injEq, List.not_mem_nil, or_false] at h
  rcases h with ⟨h1, rfl, rfl, rfl⟩ | ⟨h1, rfl, rfl, rfl⟩ | ⟨h1, rfl, rfl, rfl⟩ | ⟨h1, rfl, rfl, rfl⟩
  · exact absurd h1 (by decide)
  · exact absurd h1 (by decide)
  · exact absurd h1 (by decide)
  · exact absurd h1 (by decide)
theorem d33 (c : PL.SaysE fal fn exl K) : DefOk ck K (fA K) 33 ⟨2, 4, b33⟩ := by
  obtain ⟨fd, F⟩ := c.d.def_ 33 (d := mkD "power_of" 49) rfl
  refine ⟨_, _, _, _, _, fd, n33, p33, F, C8.fnScope_by s33, rfl, rfl, c33, F.bindsN fun _ _ _ _ _ _ us hl => match us, hl with | [_, _], _ => rfl, fun n ks pm h => ?_⟩
  simp only [ck, List.mem_cons, Prod.mk.injEq, List.not_mem_nil, or_false] at h
  rcases h with ⟨h1, rfl, rfl, rfl⟩ | ⟨h1, rfl, rfl, rfl⟩ | ⟨h1, rfl, rfl, rfl⟩ | ⟨h1, rfl, rfl, rfl⟩
  · exact absurd h1 (by decide)
  · exact absurd h1 (by decide)
  · exact absurd h1 (by decide)
  · exact absurd h1 (by decide)
theorem d34 (c : PL.SaysE fal fn exl K) : DefOk ck K (fA K) 34 ⟨2, 3, b34⟩ := by
  obtain ⟨fd, F⟩ := c.d.def_ 34 (d := mkD "full_rows_of" 50) rfl
  refine ⟨_, _, _, _, _, fd, n34, p34, F, C8.fnScope_by s34, rfl, rfl, c34, F.bindsN fun _ _ _ _ _ _ us hl => match us, hl with | [_, _], _ => rfl, fun n ks pm h => ?_⟩
  simp only [ck, List.mem_cons, Prod.mk.injEq, List.not_mem_nil, or_false] at h
  rcases h with ⟨h1, rfl, rfl, rfl⟩ | ⟨h1, rfl, rfl, rfl⟩ | ⟨h1, rfl, rfl, rfl⟩ | ⟨h1, rfl, rfl, rfl⟩
  · exact absurd h1 (by decide)
  · exact absurd h1 (by decide)
  · exact absurd h1 (by decide)
  · exact absurd h1 (by decide)
theorem d35 (c : PL.SaysE fal fn exl K) : DefOk ck K (fA K) 35 ⟨1, 1, b35⟩ := by
  obtain ⟨fd, F⟩ := c.d.def_ 35 (d := mkD "check_picture" 52) rfl
  refine ⟨_, _, _, _, _, fd, n35, p35, F, C8.fnScope_by s35, rfl, rfl, c35, F.bindsN fun _ _ _ _ _ _ us hl => match us, hl with | [_], _ => rfl, fun n ks pm h => ?_⟩
  simp only [ck, List.mem_cons, Prod.mk.injEq, List.not_mem_nil, or_false] at h
  rcases h with ⟨h1, rfl, rfl, rfl⟩ | ⟨h1, rfl, rfl, rfl⟩ | ⟨h1, rfl, rfl, rfl⟩ | ⟨h1, rfl, rfl, rfl⟩
  · exact absurd h1 (by decide)
  · exact absurd h1 (by decide)
  · exact absurd h1 (by decide)
  · exact absurd h1 (by decide)
theorem d36 (c : PL.SaysE fal fn exl K) : DefOk ck K (fA K) 36 ⟨1, 1, b36⟩ := by
  obtain ⟨fd, F⟩ := c.d.def_ 36 (d := mkD "check_lots" 53) rfl
  refine ⟨_, _, _, _, _, fd, n36, p36, F, C8.fnScope_by s36, rfl, rfl, c36, F.bindsN fun _ _ _ _ _ _ us hl => match us, hl with | [_], _ => rfl, fun n ks pm h => ?_⟩
  simp only [ck, List.mem_cons, Prod.mk.injEq, List.not_mem_nil, or_false] at h
  rcases h with ⟨h1, rfl, rfl, rfl⟩ | ⟨h1, rfl, rfl, rfl⟩ | ⟨h1, rfl, rfl, rfl⟩ | ⟨h1, rfl, rfl, rfl⟩
  · exact absurd h1 (by decide)
  · exact absurd h1 (by decide)
  · exact absurd h1 (by decide)
  · exact absurd h1 (by decide)
theorem d37 (c : PL.SaysE fal fn exl K) : DefOk ck K (fA K) 37 ⟨3, 3, b37⟩ := by
  obtain ⟨fd, F⟩ := c.d.def_ 37 (d := mkD "check_number" 54) rfl
  refine ⟨_, _, _, _, _, fd, n37, p37, F, C8.fnScope_by s37, rfl, rfl, c37, F.bindsN fun _ _ _ _ _ _ us hl => match us, hl with | [_, _, _], _ => rfl, fun n ks pm h => ?_⟩
  simp only [ck, List.mem_cons, Prod.mk.injEq, List.not_mem_nil, or_false] at h
  rcases h with ⟨h1, rfl, rfl, rfl⟩ | ⟨h1, rfl, rfl, rfl⟩ | ⟨h1, rfl, rfl, rfl⟩ | ⟨h1, rfl, rfl, rfl⟩
  · exact absurd h1 (by decide)
  · exact absurd h1 (by decide)
  · exact absurd h1 (by decide)
  · exact absurd h1 (by decide)
theorem d38 (c : PL.SaysE fal fn exl K) : DefOk ck K (fA K) 38 ⟨3, 3, b38⟩ := by
  obtain ⟨fd, F⟩ := c.d.def_ 38 (d := mkD "check_size" 55) rfl
  refine ⟨_, _, _, _, _, fd, n38, p38, F, C8.fnScope_by s38, rfl, rfl, c38, F.bindsN fun _ _ _ _ _ _ us hl => match us, hl with | [_, _, _], _ => rfl, fun n ks pm h => ?_⟩
  simp only [ck, List.mem_cons, Prod.mk.injEq, List.not_mem_nil, or_false] at h
  rcases h with ⟨h1, rfl, rfl, rfl⟩ | ⟨h1, rfl, rfl, rfl⟩ | ⟨h1, rfl, rfl, rfl⟩ | ⟨h1, rfl, rfl, rfl⟩
  · exact absurd h1 (by decide)
  · exact absurd h1 (by decide)
  · exact absurd h1 (by decide)
  · exact absurd h1 (by decide)
theorem d39 (c : PL.SaysE fal fn exl K) : DefOk ck K (fA K) 39 ⟨2, 2, b39⟩ := by
  obtain ⟨fd, F⟩ := c.d.def_ 39 (d := mkD "check_choice" 56) rfl
  refine ⟨_, _, _, _, _, fd, n39, p39, F, C8.fnScope_by s39, rfl, rfl, c39, F.bindsN fun _ _ _ _ _ _ us hl => match us, hl with | [_, _], _ => rfl, fun n ks pm h => ?_⟩
  simp only [ck, List.mem_cons, Prod.mk.injEq, List.not_mem_nil, or_false] at h
  rcases h with ⟨h1, rfl, rfl, rfl⟩ | ⟨h1, rfl, rfl, rfl⟩ | ⟨h1, rfl, rfl, rfl⟩ | ⟨h1, rfl, rfl, rfl⟩
  · exact absurd h1 (by decide)
  · exact absurd h1 (by decide)
  · exact absurd h1 (by decide)
  · exact absurd h1 (by decide)
theorem d40 (c : PL.SaysE fal fn exl K) : DefOk ck K (fA K) 40 ⟨2, 2, b40⟩ := by
  obtain ⟨fd, F⟩ := c.d.def_ 40 (d := mkD "check_picture_choice" 57) rfl
  refine ⟨_, _, _, _, _, fd, n40, p40, F, C8.fnScope_by s40, rfl, rfl, c40, F.bindsN fun _ _ _ _ _ _ us hl => match us, hl with | [_, _], _ => rfl, fun n ks pm h => ?_⟩
  simp only [ck, List.mem_cons, Prod.mk.injEq, List.not_mem_nil, or_false] at h
  rcases h with ⟨h1, rfl, rfl, rfl⟩ | ⟨h1, rfl, rfl, rfl⟩ | ⟨h1, rfl, rfl, rfl⟩ | ⟨h1, rfl, rfl, rfl⟩
  · exact absurd h1 (by decide)
  · exact absurd h1 (by decide)
  · exact absurd h1 (by decide)
  · exact absurd h1 (by decide)
theorem d41 (c : PL.SaysE fal fn exl K) : DefOk ck K (fA K) 41 ⟨1, 1, b41⟩ := by
  obtain ⟨fd, F⟩ := c.d.def_ 41 (d := mkD "fixed_places" 61) rfl
  refine ⟨_, _, _, _, _, fd, n41, p41, F, C8.fnScope_by s41, rfl, rfl, c41, F.bindsN fun _ _ _ _ _ _ us hl => match us, hl with | [_], _ => rfl, fun n ks pm h => ?_⟩
  simp only [ck, List.mem_cons, Prod.mk.injEq, List.not_mem_nil, or_false] at h
  rcases h with ⟨h1, rfl, rfl, rfl⟩ | ⟨h1, rfl, rfl, rfl⟩ | ⟨h1, rfl, rfl, rfl⟩ | ⟨h1, rfl, rfl, rfl⟩
  · exact kbn F fun _ _ _ _ _ _ us ws hl hm => match us, hl, ws, hm with | [], _, [_], _ => rfl
  · exact absurd h1 (by decide)
  · exact absurd h1 (by decide)
  · exact absurd h1 (by decide)
theorem d42 (c : PL.SaysE fal fn exl K) : DefOk ck K (fA K) 42 ⟨2, 2, b42⟩ := by
  obtain ⟨fd, F⟩ := c.d.def_ 42 (d := mkD "fixed_count" 62) rfl
  refine ⟨_, _, _, _, _, fd, n42, p42, F, C8.fnScope_by s42, rfl, rfl, c42, F.bindsN fun _ _ _ _ _ _ us hl => match us, hl with | [_, _], _ => rfl, fun n ks pm h => ?_⟩
  simp only [ck, List.mem_cons, Prod.mk.injEq, List.not_mem_nil, or_false] at h
  rcases h with ⟨h1, rfl, rfl, rfl⟩ | ⟨h1, rfl, rfl, rfl⟩ | ⟨h1, rfl, rfl, rfl⟩ | ⟨h1, rfl, rfl, rfl⟩
  · exact absurd h1 (by decide)
  · exact absurd h1 (by decide)
  · exact kbn F fun _ _ _ _ _ _ us ws hl hm => match us, hl, ws, hm with | [], _, [_, _], _ => rfl
  · exact absurd h1 (by decide)
theorem d43 (c : PL.SaysE fal fn exl K) : DefOk ck K (fA K) 43 ⟨2, 2, b43⟩ := by
  obtain ⟨fd, F⟩ := c.d.def_ 43 (d := mkD "missed_values" 63) rfl
  refine ⟨_, _, _, _, _, fd, n43, p43, F, C8.fnScope_by s43, rfl, rfl, c43, F.bindsN fun _ _ _ _ _ _ us hl => match us, hl with | [_, _], _ => rfl, fun n ks pm h => ?_⟩
  simp only [ck, List.mem_cons, Prod.mk.injEq, List.not_mem_nil, or_false] at h
  rcases h with ⟨h1, rfl, rfl, rfl⟩ | ⟨h1, rfl, rfl, rfl⟩ | ⟨h1, rfl, rfl, rfl⟩ | ⟨h1, rfl, rfl, rfl⟩
  · exact absurd h1 (by decide)
  · exact kbn F fun _ _ _ _ _ _ us ws hl hm => match us, hl, ws, hm with | [], _, [_, _], _ => rfl
  · exact absurd h1 (by decide)
  · exact absurd h1 (by decide)
theorem d44 (c : PL.SaysE fal fn exl K) : DefOk ck K (fA K) 44 ⟨2, 2, b44⟩ := by
  obtain ⟨fd, F⟩ := c.d.def_ 44 (d := mkD "full_rows" 64) rfl
  refine ⟨_, _, _, _, _, fd, n44, p44, F, C8.fnScope_by s44, rfl, rfl, c44, F.bindsN fun _ _ _ _ _ _ us hl => match us, hl with | [_, _], _ => rfl, fun n ks pm h => ?_⟩
  simp only [ck, List.mem_cons, Prod.mk.injEq, List.not_mem_nil, or_false] at h
  rcases h with ⟨h1, rfl, rfl, rfl⟩ | ⟨h1, rfl, rfl, rfl⟩ | ⟨h1, rfl, rfl, rfl⟩ | ⟨h1, rfl, rfl, rfl⟩
  · exact absurd h1 (by decide)
  · exact absurd h1 (by decide)
  · exact absurd h1 (by decide)
  · exact kbn F fun _ _ _ _ _ _ us ws hl hm => match us, hl, ws, hm with | [], _, [_, _], _ => rfl
theorem d45 (c : PL.SaysE fal fn exl K) : DefOk ck K (fA K) 45 ⟨1, 1, b45⟩ := by
  obtain ⟨fd, F⟩ := c.d.def_ 45 (d := mkD "levels" 66) rfl
  refine ⟨_, _, _, _, _, fd, n45, p45, F, C8.fnScope_by s45, rfl, rfl, c45, F.bindsN fun _ _ _ _ _ _ us hl => match us, hl with | [_], _ => rfl, fun n ks pm h => ?_⟩
  simp only [ck, List.mem_cons, Prod.mk.injEq, List.not_mem_nil, or_false] at h
  rcases h with ⟨h1, rfl, rfl, rfl⟩ | ⟨h1, rfl, rfl, rfl⟩ | ⟨h1, rfl, rfl, rfl⟩ | ⟨h1, rfl, rfl, rfl⟩
  · exact absurd h1 (by decide)
  · exact absurd h1 (by decide)
  · exact absurd h1 (by decide)
  · exact absurd h1 (by decide)
theorem d46 (c : PL.SaysE fal fn exl K) : DefOk ck K (fA K) 46 ⟨1, 1, b46⟩ := by
  obtain ⟨fd, F⟩ := c.d.def_ 46 (d := mkD "sums" 67) rfl
  refine ⟨_, _, _, _, _, fd, n46, p46, F, C8.fnScope_by s46, rfl, rfl, c46, F.bindsN fun _ _ _ _ _ _ us hl => match us, hl with | [_], _ => rfl, fun n ks pm h => ?_⟩
  simp only [ck, List.mem_cons, Prod.mk.injEq, List.not_mem_nil, or_false] at h
  rcases h with ⟨h1, rfl, rfl, rfl⟩ | ⟨h1, rfl, rfl, rfl⟩ | ⟨h1, rfl, rfl, rfl⟩ | ⟨h1, rfl, rfl, rfl⟩
  · exact absurd h1 (by decide)
  · exact absurd h1 (by decide)
  · exact absurd h1 (by decide)
  · exact absurd h1 (by decide)
theorem d47 (c : PL.SaysE fal fn exl K) : DefOk ck K (fA K) 47 ⟨1, 1, b47⟩ := by
  obtain ⟨fd, F⟩ := c.d.def_ 47 (d := mkD "things" 69) rfl
  refine ⟨_, _, _, _, _, fd, n47, p47, F, C8.fnScope_by s47, rfl, rfl, c47, F.bindsN fun _ _ _ _ _ _ us hl => match us, hl with | [_], _ => rfl, fun n ks pm h => ?_⟩
  simp only [ck, List.mem_cons, Prod.mk.injEq, List.not_mem_nil, or_false] at h
  rcases h with ⟨h1, rfl, rfl, rfl⟩ | ⟨h1, rfl, rfl, rfl⟩ | ⟨h1, rfl, rfl, rfl⟩ | ⟨h1, rfl, rfl, rfl⟩
  · exact absurd h1 (by decide)
  · exact absurd h1 (by decide)
  · exact absurd h1 (by decide)
  · exact absurd h1 (by decide)
theorem d48 (c : PL.SaysE fal fn exl K) : DefOk ck K (fA K) 48 ⟨2, 2, b48⟩ := by
  obtain ⟨fd, F⟩ := c.d.def_ 48 (d := mkD "outside" 70) rfl
  refine ⟨_, _, _, _, _, fd, n48, p48, F, C8.fnScope_by s48, rfl, rfl, c48, F.bindsN fun _ _ _ _ _ _ us hl => match us, hl with | [_, _], _ => rfl, fun n ks pm h => ?_⟩
  simp only [ck, List.mem_cons, Prod.mk.injEq, List.not_mem_nil, or_false] at h
  rcases h with ⟨h1, rfl, rfl, rfl⟩ | ⟨h1, rfl, rfl, rfl⟩ | ⟨h1, rfl, rfl, rfl⟩ | ⟨h1, rfl, rfl, rfl⟩
  · exact absurd h1 (by decide)
  · exact absurd h1 (by decide)
  · exact absurd h1 (by decide)
  · exact absurd h1 (by decide)
theorem d49 (c : PL.SaysE fal fn exl K) : DefOk ck K (fA K) 49 ⟨2, 5, b49⟩ := by
  obtain ⟨fd, F⟩ := c.d.def_ 49 (d := mkD "_law_pot" 72) rfl
  refine ⟨_, _, _, _, _, fd, n49, p49, F, C8.fnScope_by s49, rfl, rfl, c49, F.bindsN fun _ _ _ _ _ _ us hl => match us, hl with | [_, _], _ => rfl, fun n ks pm h => ?_⟩
  simp only [ck, List.mem_cons, Prod.mk.injEq, List.not_mem_nil, or_false] at h
  rcases h with ⟨h1, rfl, rfl, rfl⟩ | ⟨h1, rfl, rfl, rfl⟩ | ⟨h1, rfl, rfl, rfl⟩ | ⟨h1, rfl, rfl, rfl⟩
  · exact absurd h1 (by decide)
  · exact absurd h1 (by decide)
  · exact absurd h1 (by decide)
  · exact absurd h1 (by decide)
theorem d50 (c : PL.SaysE fal fn exl K) : DefOk ck K (fA K) 50 ⟨2, 3, b50⟩ := by
  obtain ⟨fd, F⟩ := c.d.def_ 50 (d := mkD "_law_draw" 73) rfl
  refine ⟨_, _, _, _, _, fd, n50, p50, F, C8.fnScope_by s50, rfl, rfl, c50, F.bindsN fun _ _ _ _ _ _ us hl => match us, hl with | [_, _], _ => rfl, fun n ks pm h => ?_⟩
  simp only [ck, List.mem_cons, Prod.mk.injEq, List.not_mem_nil, or_false] at h
  rcases h with ⟨h1, rfl, rfl, rfl⟩ | ⟨h1, rfl, rfl, rfl⟩ | ⟨h1, rfl, rfl, rfl⟩ | ⟨h1, rfl, rfl, rfl⟩
  · exact absurd h1 (by decide)
  · exact absurd h1 (by decide)
  · exact absurd h1 (by decide)
  · exact absurd h1 (by decide)
theorem d52 (c : PL.SaysE fal fn exl K) : DefOk ck K (fA K) 52 ⟨2, 3, b52⟩ := by
  obtain ⟨fd, F⟩ := c.d.def_ 51 (d := mkD "_law_same" 75) rfl
  refine ⟨_, _, _, _, _, fd, n52, p52, F, C8.fnScope_by s52, rfl, rfl, c52, F.bindsN fun _ _ _ _ _ _ us hl => match us, hl with | [_, _], _ => rfl, fun n ks pm h => ?_⟩
  simp only [ck, List.mem_cons, Prod.mk.injEq, List.not_mem_nil, or_false] at h
  rcases h with ⟨h1, rfl, rfl, rfl⟩ | ⟨h1, rfl, rfl, rfl⟩ | ⟨h1, rfl, rfl, rfl⟩ | ⟨h1, rfl, rfl, rfl⟩
  · exact absurd h1 (by decide)
  · exact absurd h1 (by decide)
  · exact absurd h1 (by decide)
  · exact absurd h1 (by decide)
theorem d60 (c : PL.SaysE fal fn exl K) : DefOk ck K (fA K) 60 ⟨1, 6, b60⟩ := by
  obtain ⟨fd, F⟩ := c.d.def_ 52 (d := mkD "_law_orders" 83) rfl
  refine ⟨_, _, _, _, _, fd, n60, p60, F, C8.fnScope_by s60, rfl, rfl, c60, F.bindsN fun _ _ _ _ _ _ us hl => match us, hl with | [_], _ => rfl, fun n ks pm h => ?_⟩
  simp only [ck, List.mem_cons, Prod.mk.injEq, List.not_mem_nil, or_false] at h
  rcases h with ⟨h1, rfl, rfl, rfl⟩ | ⟨h1, rfl, rfl, rfl⟩ | ⟨h1, rfl, rfl, rfl⟩ | ⟨h1, rfl, rfl, rfl⟩
  · exact absurd h1 (by decide)
  · exact absurd h1 (by decide)
  · exact absurd h1 (by decide)
  · exact absurd h1 (by decide)
theorem d61 (c : PL.SaysE fal fn exl K) : DefOk ck K (fA K) 61 ⟨2, 5, b61⟩ := by
  obtain ⟨fd, F⟩ := c.d.def_ 53 (d := mkD "_law_binomial" 84) rfl
  refine ⟨_, _, _, _, _, fd, n61, p61, F, C8.fnScope_by s61, rfl, rfl, c61, F.bindsN fun _ _ _ _ _ _ us hl => match us, hl with | [_, _], _ => rfl, fun n ks pm h => ?_⟩
  simp only [ck, List.mem_cons, Prod.mk.injEq, List.not_mem_nil, or_false] at h
  rcases h with ⟨h1, rfl, rfl, rfl⟩ | ⟨h1, rfl, rfl, rfl⟩ | ⟨h1, rfl, rfl, rfl⟩ | ⟨h1, rfl, rfl, rfl⟩
  · exact absurd h1 (by decide)
  · exact absurd h1 (by decide)
  · exact absurd h1 (by decide)
  · exact absurd h1 (by decide)
theorem d62 (c : PL.SaysE fal fn exl K) : DefOk ck K (fA K) 62 ⟨1, 4, b62⟩ := by
  obtain ⟨fd, F⟩ := c.d.def_ 54 (d := mkD "_law_none" 85) rfl
  refine ⟨_, _, _, _, _, fd, n62, p62, F, C8.fnScope_by s62, rfl, rfl, c62, F.bindsN fun _ _ _ _ _ _ us hl => match us, hl with | [_], _ => rfl, fun n ks pm h => ?_⟩
  simp only [ck, List.mem_cons, Prod.mk.injEq, List.not_mem_nil, or_false] at h
  rcases h with ⟨h1, rfl, rfl, rfl⟩ | ⟨h1, rfl, rfl, rfl⟩ | ⟨h1, rfl, rfl, rfl⟩ | ⟨h1, rfl, rfl, rfl⟩
  · exact absurd h1 (by decide)
  · exact absurd h1 (by decide)
  · exact absurd h1 (by decide)
  · exact absurd h1 (by decide)
theorem d63 (c : PL.SaysE fal fn exl K) : DefOk ck K (fA K) 63 ⟨2, 4, b63⟩ := by
  obtain ⟨fd, F⟩ := c.d.def_ 55 (d := mkD "_law_power" 86) rfl
  refine ⟨_, _, _, _, _, fd, n63, p63, F, C8.fnScope_by s63, rfl, rfl, c63, F.bindsN fun _ _ _ _ _ _ us hl => match us, hl with | [_, _], _ => rfl, fun n ks pm h => ?_⟩
  simp only [ck, List.mem_cons, Prod.mk.injEq, List.not_mem_nil, or_false] at h
  rcases h with ⟨h1, rfl, rfl, rfl⟩ | ⟨h1, rfl, rfl, rfl⟩ | ⟨h1, rfl, rfl, rfl⟩ | ⟨h1, rfl, rfl, rfl⟩
  · exact absurd h1 (by decide)
  · exact absurd h1 (by decide)
  · exact absurd h1 (by decide)
  · exact absurd h1 (by decide)
theorem d64 (c : PL.SaysE fal fn exl K) : DefOk ck K (fA K) 64 ⟨2, 5, b64⟩ := by
  obtain ⟨fd, F⟩ := c.d.def_ 56 (d := mkD "_law_full" 87) rfl
  refine ⟨_, _, _, _, _, fd, n64, p64, F, C8.fnScope_by s64, rfl, rfl, c64, F.bindsN fun _ _ _ _ _ _ us hl => match us, hl with | [_, _], _ => rfl, fun n ks pm h => ?_⟩
  simp only [ck, List.mem_cons, Prod.mk.injEq, List.not_mem_nil, or_false] at h
  rcases h with ⟨h1, rfl, rfl, rfl⟩ | ⟨h1, rfl, rfl, rfl⟩ | ⟨h1, rfl, rfl, rfl⟩ | ⟨h1, rfl, rfl, rfl⟩
  · exact absurd h1 (by decide)
  · exact absurd h1 (by decide)
  · exact absurd h1 (by decide)
  · exact absurd h1 (by decide)
theorem d65 (c : PL.SaysE fal fn exl K) : DefOk ck K (fA K) 65 ⟨1, 11, b65⟩ := by
  obtain ⟨fd, F⟩ := c.d.def_ 57 (d := mkD "_law_fixed_right" 88) rfl
  refine ⟨_, _, _, _, _, fd, n65, p65, F, C8.fnScope_by s65, rfl, rfl, c65, F.bindsN fun _ _ _ _ _ _ us hl => match us, hl with | [_], _ => rfl, fun n ks pm h => ?_⟩
  simp only [ck, List.mem_cons, Prod.mk.injEq, List.not_mem_nil, or_false] at h
  rcases h with ⟨h1, rfl, rfl, rfl⟩ | ⟨h1, rfl, rfl, rfl⟩ | ⟨h1, rfl, rfl, rfl⟩ | ⟨h1, rfl, rfl, rfl⟩
  · exact absurd h1 (by decide)
  · exact absurd h1 (by decide)
  · exact absurd h1 (by decide)
  · exact absurd h1 (by decide)
theorem d66 (c : PL.SaysE fal fn exl K) : DefOk ck K (fA K) 66 ⟨2, 10, b66⟩ := by
  obtain ⟨fd, F⟩ := c.d.def_ 58 (d := mkD "_law_missed_right" 89) rfl
  refine ⟨_, _, _, _, _, fd, n66, p66, F, C8.fnScope_by s66, rfl, rfl, c66, F.bindsN fun _ _ _ _ _ _ us hl => match us, hl with | [_, _], _ => rfl, fun n ks pm h => ?_⟩
  simp only [ck, List.mem_cons, Prod.mk.injEq, List.not_mem_nil, or_false] at h
  rcases h with ⟨h1, rfl, rfl, rfl⟩ | ⟨h1, rfl, rfl, rfl⟩ | ⟨h1, rfl, rfl, rfl⟩ | ⟨h1, rfl, rfl, rfl⟩
  · exact absurd h1 (by decide)
  · exact absurd h1 (by decide)
  · exact absurd h1 (by decide)
  · exact absurd h1 (by decide)
theorem d67 (c : PL.SaysE fal fn exl K) : DefOk ck K (fA K) 67 ⟨1, 7, b67⟩ := by
  obtain ⟨fd, F⟩ := c.d.def_ 59 (d := mkD "_law_right" 90) rfl
  refine ⟨_, _, _, _, _, fd, n67, p67, F, C8.fnScope_by s67, rfl, rfl, c67, F.bindsN fun _ _ _ _ _ _ us hl => match us, hl with | [_], _ => rfl, fun n ks pm h => ?_⟩
  simp only [ck, List.mem_cons, Prod.mk.injEq, List.not_mem_nil, or_false] at h
  rcases h with ⟨h1, rfl, rfl, rfl⟩ | ⟨h1, rfl, rfl, rfl⟩ | ⟨h1, rfl, rfl, rfl⟩ | ⟨h1, rfl, rfl, rfl⟩
  · exact absurd h1 (by decide)
  · exact absurd h1 (by decide)
  · exact absurd h1 (by decide)
  · exact absurd h1 (by decide)
theorem d68 (c : PL.SaysE fal fn exl K) : DefOk ck K (fA K) 68 ⟨1, 6, b68⟩ := by
  obtain ⟨fd, F⟩ := c.d.def_ 60 (d := mkD "law" 91) rfl
  refine ⟨_, _, _, _, _, fd, n68, p68, F, C8.fnScope_by s68, rfl, rfl, c68, F.bindsN fun _ _ _ _ _ _ us hl => match us, hl with | [_], _ => rfl, fun n ks pm h => ?_⟩
  simp only [ck, List.mem_cons, Prod.mk.injEq, List.not_mem_nil, or_false] at h
  rcases h with ⟨h1, rfl, rfl, rfl⟩ | ⟨h1, rfl, rfl, rfl⟩ | ⟨h1, rfl, rfl, rfl⟩ | ⟨h1, rfl, rfl, rfl⟩
  · exact absurd h1 (by decide)
  · exact absurd h1 (by decide)
  · exact absurd h1 (by decide)
  · exact absurd h1 (by decide)
theorem dAll (c : PL.SaysE fal fn exl K) : ∀ f F, T f = some F → DefOk ck K (fA K) f F := fun f F h => by
  unfold T at h
  split at h <;> first | (cases h; done) | (injection h with h; subst h)
  · exact d0 c
  · exact d1 c
  · exact d2 c
  · exact d3 c
  · exact d4 c
  · exact d5 c
  · exact d6 c
  · exact d7 c
  · exact d8 c
  · exact d9 c
  · exact d10 c
  · exact d11 c
  · exact d12 c
  · exact d13 c
  · exact d14 c
  · exact d15 c
  · exact d16 c
  · exact d17 c
  · exact d18 c
  · exact d19 c
  · exact d20 c
  · exact d21 c
  · exact d22 c
  · exact d23 c
  · exact d24 c
  · exact d25 c
  · exact d26 c
  · exact d27 c
  · exact d28 c
  · exact d29 c
  · exact d30 c
  · exact d31 c
  · exact d32 c
  · exact d33 c
  · exact d34 c
  · exact d35 c
  · exact d36 c
  · exact d37 c
  · exact d38 c
  · exact d39 c
  · exact d40 c
  · exact d41 c
  · exact d42 c
  · exact d43 c
  · exact d44 c
  · exact d45 c
  · exact d46 c
  · exact d47 c
  · exact d48 c
  · exact d49 c
  · exact d50 c
  · exact d52 c
  · exact d60 c
  · exact d61 c
  · exact d62 c
  · exact d63 c
  · exact d64 c
  · exact d65 c
  · exact d66 c
  · exact d67 c
  · exact d68 c
theorem nam : ∀ f F, T f = some F → ∃ x, ck.fns.lookup x = some (f, F.ps) := fun f F h => by
  unfold T at h
  split at h <;> first | (cases h; done) | (injection h with h; subst h)
  · exact ⟨"is_whole", by kernel_rfl⟩
  · exact ⟨"is_between", by kernel_rfl⟩
  · exact ⟨"is_text_of", by kernel_rfl⟩
  · exact ⟨"order_count", by kernel_rfl⟩
  · exact ⟨"is_lot_number", by kernel_rfl⟩
  · exact ⟨"place_count", by kernel_rfl⟩
  · exact ⟨"is_picture_of", by kernel_rfl⟩
  · exact ⟨"is_pictured", by kernel_rfl⟩
  · exact ⟨"is_choice_of", by kernel_rfl⟩
  · exact ⟨"lot_count_of", by kernel_rfl⟩
  · exact ⟨"lot_of", by kernel_rfl⟩
  · exact ⟨"index_of", by kernel_rfl⟩
  · exact ⟨"choice_with", by kernel_rfl⟩
  · exact ⟨"size_of", by kernel_rfl⟩
  · exact ⟨"has_all", by kernel_rfl⟩
  · exact ⟨"has_some", by kernel_rfl⟩
  · exact ⟨"things_of", by kernel_rfl⟩
  · exact ⟨"things_where", by kernel_rfl⟩
  · exact ⟨"meet_at", by kernel_rfl⟩
  · exact ⟨"join_at", by kernel_rfl⟩
  · exact ⟨"meets_of", by kernel_rfl⟩
  · exact ⟨"by_sizes", by kernel_rfl⟩
  · exact ⟨"levels_of", by kernel_rfl⟩
  · exact ⟨"sums_of", by kernel_rfl⟩
  · exact ⟨"sign_by", by kernel_rfl⟩
  · exact ⟨"picture_by_places", by kernel_rfl⟩
  · exact ⟨"fixed_index", by kernel_rfl⟩
  · exact ⟨"fixed_places_of", by kernel_rfl⟩
  · exact ⟨"moved_count", by kernel_rfl⟩
  · exact ⟨"fixed_count_of", by kernel_rfl⟩
  · exact ⟨"all_rows", by kernel_rfl⟩
  · exact ⟨"missed_index", by kernel_rfl⟩
  · exact ⟨"missed_values_of", by kernel_rfl⟩
  · exact ⟨"power_of", by kernel_rfl⟩
  · exact ⟨"full_rows_of", by kernel_rfl⟩
  · exact ⟨"check_picture", by kernel_rfl⟩
  · exact ⟨"check_lots", by kernel_rfl⟩
  · exact ⟨"check_number", by kernel_rfl⟩
  · exact ⟨"check_size", by kernel_rfl⟩
  · exact ⟨"check_choice", by kernel_rfl⟩
  · exact ⟨"check_picture_choice", by kernel_rfl⟩
  · exact ⟨"fixed_places", by kernel_rfl⟩
  · exact ⟨"fixed_count", by kernel_rfl⟩
  · exact ⟨"missed_values", by kernel_rfl⟩
  · exact ⟨"full_rows", by kernel_rfl⟩
  · exact ⟨"levels", by kernel_rfl⟩
  · exact ⟨"sums", by kernel_rfl⟩
  · exact ⟨"things", by kernel_rfl⟩
  · exact ⟨"outside", by kernel_rfl⟩
  · exact ⟨"_law_pot", by kernel_rfl⟩
  · exact ⟨"_law_draw", by kernel_rfl⟩
  · exact ⟨"_law_same", by kernel_rfl⟩
  · exact ⟨"_law_orders", by kernel_rfl⟩
  · exact ⟨"_law_binomial", by kernel_rfl⟩
  · exact ⟨"_law_none", by kernel_rfl⟩
  · exact ⟨"_law_power", by kernel_rfl⟩
  · exact ⟨"_law_full", by kernel_rfl⟩
  · exact ⟨"_law_fixed_right", by kernel_rfl⟩
  · exact ⟨"_law_missed_right", by kernel_rfl⟩
  · exact ⟨"_law_right", by kernel_rfl⟩
  · exact ⟨"law", by kernel_rfl⟩
theorem fns {h : Heap} {mg : Str → Option Value} (X : K.In h) (G : h.Ns mainGlobals mg) (c : PL.SaysE fal fn exl K) : ∀ q ∈ ck.fns, mg q.1 = some (.ref (fA K q.2.1)) ∧ ∃ F, T q.2.1 = some F ∧ F.ps = q.2.2 :=
  (f_cons ⟨He.glo_ok X G (c.d.fact 0 rfl), _, rfl, rfl⟩ (f_cons ⟨He.glo_ok X G (c.d.fact 1 rfl), _, rfl, rfl⟩ (f_cons ⟨He.glo_ok X G (c.d.fact 2 rfl), _, rfl, rfl⟩ (f_cons ⟨He.glo_ok X G (c.d.fact 3 rfl), _, rfl, rfl⟩ (f_cons ⟨He.glo_ok X G (c.d.fact 4 rfl), _, rfl, rfl⟩ (f_cons ⟨He.glo_ok X G (c.d.fact 5 rfl), _, rfl, rfl⟩ (f_cons ⟨He.glo_ok X G (c.d.fact 6 rfl), _, rfl, rfl⟩ (f_cons ⟨He.glo_ok X G (c.d.fact 7 rfl), _, rfl, rfl⟩ (f_cons ⟨He.glo_ok X G (c.d.fact 8 rfl), _, rfl, rfl⟩ (f_cons ⟨He.glo_ok X G (c.d.fact 9 rfl), _, rfl, rfl⟩ (f_cons ⟨He.glo_ok X G (c.d.fact 10 rfl), _, rfl, rfl⟩ (f_cons ⟨He.glo_ok X G (c.d.fact 11 rfl), _, rfl, rfl⟩ (f_cons ⟨He.glo_ok X G (c.d.fact 12 rfl), _, rfl, rfl⟩ (f_cons ⟨He.glo_ok X G (c.d.fact 13 rfl), _, rfl, rfl⟩ (f_cons ⟨He.glo_ok X G (c.d.fact 14 rfl), _, rfl, rfl⟩ (f_cons ⟨He.glo_ok X G (c.d.fact 15 rfl), _, rfl, rfl⟩ (f_cons ⟨He.glo_ok X G (c.d.fact 16 rfl), _, rfl, rfl⟩ (f_cons ⟨He.glo_ok X G (c.d.fact 17 rfl), _, rfl, rfl⟩ (f_cons ⟨He.glo_ok X G (c.d.fact 18 rfl), _, rfl, rfl⟩ (f_cons ⟨He.glo_ok X G (c.d.fact 19 rfl), _, rfl, rfl⟩ (f_cons ⟨He.glo_ok X G (c.d.fact 20 rfl), _, rfl, rfl⟩ (f_cons ⟨He.glo_ok X G (c.d.fact 21 rfl), _, rfl, rfl⟩ (f_cons ⟨He.glo_ok X G (c.d.fact 22 rfl), _, rfl, rfl⟩ (f_cons ⟨He.glo_ok X G (c.d.fact 23 rfl), _, rfl, rfl⟩ (f_cons ⟨He.glo_ok X G (c.d.fact 24 rfl), _, rfl, rfl⟩ (f_cons ⟨He.glo_ok X G (c.d.fact 25 rfl), _, rfl, rfl⟩ (f_cons ⟨He.glo_ok X G (c.d.fact 26 rfl), _, rfl, rfl⟩ (f_cons ⟨He.glo_ok X G (c.d.fact 27 rfl), _, rfl, rfl⟩ (f_cons ⟨He.glo_ok X G (c.d.fact 28 rfl), _, rfl, rfl⟩ (f_cons ⟨He.glo_ok X G (c.d.fact 29 rfl), _, rfl, rfl⟩ (f_cons ⟨He.glo_ok X G (c.d.fact 30 rfl), _, rfl, rfl⟩ (f_cons ⟨He.glo_ok X G (c.d.fact 31 rfl), _, rfl, rfl⟩ (f_cons ⟨He.glo_ok X G (c.d.fact 32 rfl), _, rfl, rfl⟩ (f_cons ⟨He.glo_ok X G (c.d.fact 33 rfl), _, rfl, rfl⟩ (f_cons ⟨He.glo_ok X G (c.d.fact 34 rfl), _, rfl, rfl⟩ (f_cons ⟨He.glo_ok X G (c.d.fact 35 rfl), _, rfl, rfl⟩ (f_cons ⟨He.glo_ok X G (c.d.fact 36 rfl), _, rfl, rfl⟩ (f_cons ⟨He.glo_ok X G (c.d.fact 37 rfl), _, rfl, rfl⟩ (f_cons ⟨He.glo_ok X G (c.d.fact 38 rfl), _, rfl, rfl⟩ (f_cons ⟨He.glo_ok X G (c.d.fact 39 rfl), _, rfl, rfl⟩ (f_cons ⟨He.glo_ok X G (c.d.fact 40 rfl), _, rfl, rfl⟩ (f_cons ⟨He.glo_ok X G (c.d.fact 41 rfl), _, rfl, rfl⟩ (f_cons ⟨He.glo_ok X G (c.d.fact 42 rfl), _, rfl, rfl⟩ (f_cons ⟨He.glo_ok X G (c.d.fact 43 rfl), _, rfl, rfl⟩ (f_cons ⟨He.glo_ok X G (c.d.fact 44 rfl), _, rfl, rfl⟩ (f_cons ⟨He.glo_ok X G (c.d.fact 45 rfl), _, rfl, rfl⟩ (f_cons ⟨He.glo_ok X G (c.d.fact 46 rfl), _, rfl, rfl⟩ (f_cons ⟨He.glo_ok X G (c.d.fact 47 rfl), _, rfl, rfl⟩ (f_cons ⟨He.glo_ok X G (c.d.fact 48 rfl), _, rfl, rfl⟩ (f_cons ⟨He.glo_ok X G (c.d.fact 49 rfl), _, rfl, rfl⟩ (f_cons ⟨He.glo_ok X G (c.d.fact 50 rfl), _, rfl, rfl⟩ (f_cons ⟨He.glo_ok X G (c.d.fact 51 rfl), _, rfl, rfl⟩ (f_cons ⟨He.glo_ok X G (c.d.fact 52 rfl), _, rfl, rfl⟩ (f_cons ⟨He.glo_ok X G (c.d.fact 53 rfl), _, rfl, rfl⟩ (f_cons ⟨He.glo_ok X G (c.d.fact 54 rfl), _, rfl, rfl⟩ (f_cons ⟨He.glo_ok X G (c.d.fact 55 rfl), _, rfl, rfl⟩ (f_cons ⟨He.glo_ok X G (c.d.fact 56 rfl), _, rfl, rfl⟩ (f_cons ⟨He.glo_ok X G (c.d.fact 57 rfl), _, rfl, rfl⟩ (f_cons ⟨He.glo_ok X G (c.d.fact 58 rfl), _, rfl, rfl⟩ (f_cons ⟨He.glo_ok X G (c.d.fact 59 rfl), _, rfl, rfl⟩ (f_cons ⟨He.glo_ok X G (c.d.fact 60 rfl), _, rfl, rfl⟩ f_nil)))))))))))))))))))))))))))))))))))))))))))))))))))))))))))))
theorem bln {h : Heap} {mg : Str → Option Value} (X : K.In h) (G : h.Ns mainGlobals mg) (c : PL.SaysE fal fn exl K) : ∀ x ∈ blNames, mg x = none :=
  (f_cons (He.free_ok X G (c.d.fact 61 rfl)) (f_cons (He.free_ok X G (c.d.fact 62 rfl)) (f_cons (He.free_ok X G (c.d.fact 63 rfl)) (f_cons (He.free_ok X G (c.d.fact 64 rfl)) (f_cons (He.free_ok X G (c.d.fact 65 rfl)) (f_cons (He.free_ok X G (c.d.fact 66 rfl)) (f_cons (He.free_ok X G (c.d.fact 67 rfl)) (f_cons (He.free_ok X G (c.d.fact 68 rfl)) (f_cons (He.free_ok X G (c.d.fact 69 rfl)) (f_cons (He.free_ok X G (c.d.fact 70 rfl)) (f_cons (He.free_ok X G (c.d.fact 71 rfl)) (f_cons (He.free_ok X G (c.d.fact 72 rfl)) (f_cons (He.free_ok X G (c.d.fact 73 rfl)) (f_cons (He.free_ok X G (c.d.fact 74 rfl)) (f_cons (He.free_ok X G (c.d.fact 75 rfl)) (f_cons (He.free_ok X G (c.d.fact 76 rfl)) (f_cons (He.free_ok X G (c.d.fact 77 rfl)) (f_cons (He.free_ok X G (c.d.fact 78 rfl)) f_nil))))))))))))))))))
theorem gls {h : Heap} {mg : Str → Option Value} (X : K.In h) (G : h.Ns mainGlobals mg) (c : PL.SaysE fal fn exl K) : ∀ q ∈ ck.gls, ∃ u v, mg q.1 = some u ∧ RelV v u ∧ ∀ H m β ρ n, RD K (fA K) H m β ρ n (Gc q.2) v :=
  (f_cons (let ⟨t, e⟩ := He.int_ok X G (c.d.fact 79 rfl); ⟨_, .int 4, e, ⟨t, rfl⟩, fun _ _ _ _ _ => .int _⟩) (f_cons (let ⟨t, e⟩ := He.int_ok X G (c.d.fact 80 rfl); ⟨_, .int 99, e, ⟨t, rfl⟩, fun _ _ _ _ _ => .int _⟩) (f_cons (let ⟨t, e⟩ := He.str_ok X G (c.d.fact 81 rfl); ⟨_, .str ⟨[65, 66, 67, 68].toArray⟩, e, ⟨t, rfl⟩, fun _ _ _ _ _ => .str _⟩) (f_cons (let ⟨t, e⟩ := He.int_ok X G (c.d.fact 82 rfl); ⟨_, .int 9, e, ⟨t, rfl⟩, fun _ _ _ _ _ => .int _⟩) (f_cons (let ⟨t, e⟩ := He.int_ok X G (c.d.fact 83 rfl); ⟨_, .int 3, e, ⟨t, rfl⟩, fun _ _ _ _ _ => .int _⟩) f_nil)))))
theorem ims {h : Heap} {mg : Str → Option Value} (X : K.In h) (G : h.Ns mainGlobals mg) (c : PL.SaysE fal fn exl K) : ∀ q ∈ ck.ims, mg q.1 = some (imV q.2) :=
  (f_cons (PL.nameB_ok X G (c.more 0 rfl)) f_nil)
theorem prm {h : Heap} {mg : Str → Option Value} (X : K.In h) (G : h.Ns mainGlobals mg) (c : PL.SaysE fal fn exl K) : ck.perm = true → mg "permutations" = some (.type "itertools.permutations") := fun e => PL.nameB_ok X G (c.more 1 rfl)
theorem tab {h : Heap} {mg : Str → Option Value} (X : K.In h) (G : h.Ns mainGlobals mg) (c : PL.SaysE fal fn exl K) : TabOk ck K mg (fA K) T Gc :=
  ⟨dAll c, fun x f np e => fns X G c _ (PySem.mem_of_lookup e), nam, fun x i e => gls X G c _ (PySem.mem_of_lookup e), bln X G c, fun x f e => ims X G c _ (PySem.mem_of_lookup e), prm X G c⟩
end
theorem rd_scr {K : PySem.W.Frag} {fa : Nat → Addr} {H : Hp} {a : Addr} {ns : List Int} (S : SqL K H a (ns.map V.int)) : RDs K fa H (Mu [] []) [] [] 0 [.scr (ns.map .int)] [.ref a] := by
  have r : RDs K fa H (Mu [] []) [] [] 0 (ns.map .int) (ns.map V.int) := rds_ints ns
  rcases S with S | S
  · exact .cons (.scrH S (fun ⟨i, _, h, _⟩ => by simp at h) (by simp) r) .nil
  · exact .cons (.scrK S r) .nil
end Lw
open PySem PySem.W PySem.Calls PyProof.Rows
theorem PySem.Challenge.cw_lotoverlaps_k75_whole_pictures_of_fixed_holds : PySem.Challenge.rw_lotoverlaps_k75_whole_pictures_of_fixed.Holds := by
  w_on; o_law
  refine HandSHeadRun.head_imp (r := OpenLaw.row PySem.Challenge.rw_lotoverlaps_k75_whole_pictures_of_fixed) (q := view (OpenLaw.row PySem.Challenge.rw_lotoverlaps_k75_whole_pictures_of_fixed).prog [0, 1, 91]) (H := Lw.hk) (ob := Lw.ob) (M := 60000) (loose := Lw.loose) (d := HandSHeadRun.topDef (OpenLaw.row PySem.Challenge.rw_lotoverlaps_k75_whole_pictures_of_fixed).prog 91) (kwd := []) Lw.ob_eq
    Lw.run (by kernel_rfl) (by kernel_rfl) (by kernel_rfl) (by rfl) (by first | assumption | decide +kernel) (by decide +kernel) ⟨rfl, rfl, rfl, rfl, rfl, by decide +kernel⟩ ?hw ?hc
  case hw => w_witness2
  case hc =>
    refine L2.walk_ofE (l := PySem.Challenge.rw_lotoverlaps_k75_whole_pictures_of_fixed) (n := 63) (k := 60) (x := "script") (CX := fun outer H s E e s' => ∃ P w, L2.CX P w outer H s E e s') rfl (by decide) (by kernel_rfl) ⟨rfl, by decide, by decide⟩ ?F (fun _ _ _ _ ⟨_, _, z⟩ => PL.cx_false z)
    intro w mg fa h Y G hmg0
    obtain ⟨K, KX, c⟩ := Y
    have hmg : mg ("law" : PySem.Str) = some (.ref fa) := by
      have e : (HandSHeadRun.topDef (OpenLaw.row PySem.Challenge.rw_lotoverlaps_k75_whole_pictures_of_fixed).prog 91).name = ("law" : PySem.Str) := by kernel_rfl
      rw [← e]
      exact hmg0
    have tb := Lw.tab KX G c
    obtain ⟨fd, F⟩ := c.d.def_ 60 (d := Lw.mkD "law" 91) rfl
    have e := hmg.symm.trans (He.glo_ok KX G (c.d.fact 60 (f := .glo "law") rfl))
    cases e
    have b := F.bindsA (ps := ["script"]) fun _ _ _ _ _ _ us hl => match us, hl with | [_], _ => rfl
    refine ⟨K, fd, _, KX, fun s v => b s [v] rfl, ?_, fun base _ _ => PL.keeps_cx (PL.fn_one (n := 59) (f := 68) (W := 100000) (ca := fun _ => 0) (xn := fun _ => ⟨#[]⟩) tb rfl (PL.fn_ok tb 59) F (C8.fnScope_by Lw.s68) rfl rfl Lw.c68) fun o H s E e s' z => ⟨_, _, z⟩⟩
    intro H a ns hl _ hS
    obtain ⟨st, hr⟩ := Lw.pure_law ns hl
    refine ⟨[], [], [], [.scr (ns.map .int)], ⟨fun i j a h => by simp at h, rfl, fun i o h => by simp at h, fun b hb => nomatch hb⟩, Lw.rd_scr hS, rfl, ?_⟩
    rw [hr]
    intro v H' ρ' a1 S1 r1
    cases r1
    rfl

