import PyProof.Rows.All
import Wide.All
import OpenK.AllK
import Wide.FinOn
import KE.KStateDown
import HandS.ForExc
import HandS.ForMost
import HandS.Walk
import HandS.IsInst
import HandS.StrMore
import HandS.Deep
import HandS.Style
import HandS.Defaults
import HandS.Zip
import HandS.Rev
import HandS.SetFor
import HandS.RaiseMore
import HandS.Lambda
import HandS.TupMul
import HandS.TupAny
import HandS.TupLe
import HandS.Conv
import KE.KUnpackStar
import PyProof.Rows.SortShell
import PyProof.TupleOfSeq
import KE.KIndexOf
import KE.KSortedM
import HandS.Replace
import HandS.CallLocal
import HandS.Star
import HandS.Codes
import HandS.FStr
import KE.KRevSl
import PyProof.SliceStr2
import KE.GoesEnum
import KE.KMathG
import KE.KRevIter
import HandS.Gcd
import HandS.ForSpec
import HandS.TryMany
import HandS.Head0
import HandS.Head1
import HandS.Head2
import HandS.Head3
import HandS.HeadEnd
import HandS.HeadHook1
import HandS.HeadHook2
import HandS.HeadHook4
import HandS.HeadWalk
import HandS.EndTab
import PySem.Challenge.RW_lotoverlaps_k80_whole_deeds_replayed
set_option Elab.async false
set_option linter.all false
set_option maxRecDepth 100000
/-! A small language with plain values: what a def of the text computes, without heap, addresses, tokens. -/
namespace PL

/-- a plain value: a text is its code points; frz a list that nobody changes any more, scr the script, lst a list in the store, by its number -/
inductive D where
  | non | bl (b : Bool) | int (i : Int) | str (s : List Nat)
  | tup (ds : List D) | frz (ds : List D) | scr (ds : List D) | lst (id : Nat) | fn (k : Nat)
/-- what stands in the store: a list; a list that a loop walks; a list that nobody changes any more -/
inductive Obj where
  | lst (ds : List D) | lck (ds : List D) | fz (ds : List D)
def Obj.its : Obj → List D
  | .lst ds => ds
  | .lck ds => ds
  | .fz ds => ds
abbrev Sto := List Obj
abbrev Env := List (Option D)
inductive R (α : Type) where
  | ok (a : α) (st : Sto)
  | exn (c : Nat) (d : D) (st : Sto)
  | bad
/-- simp leaves alone what a name speaks of -/
def Tag {α : Type} (_ : α) : Type := Unit
def R.bind {α β : Type} (r : R α) (f : α → Sto → R β) (_ : Tag f := ()) : R β := match r with
  | .ok a st => f a st
  | .exn c d st => .exn c d st
  | .bad => .bad

inductive Op where
  | add | sub | mul | fdiv | mod | pow | shl | shr | band | bor | bxor
  deriving DecidableEq
inductive Cm where
  | eq | ne | lt | le | gt | ge | is | isn | mem | nmem
  deriving DecidableEq
inductive Ty where
  | int | str | bool | list | tuple
  deriving DecidableEq
/-- built-in functions -/
inductive Bl where
  | len | sum | all | any | int | abs | min2 | max2 | divmod | tuple | list | sorted | minL | maxL | str
  deriving DecidableEq
/-- methods -/
inductive Mt where
  | append | pop | popAt | index | count | join | bitlen | split | tindex | partition
  deriving DecidableEq

/-- imported functions -/
inductive Im where
  | comb | gcd
  deriving DecidableEq
mutual
inductive E where
  | non | bl (b : Bool) | int (i : Int) | str (s : List Nat)
  | var (i : Nat) | glb (k : Nat) | fnv (k : Nat)
  | bin (o : Op) (a b : E) | neg (a : E) | not (a : E) | and (a b : E) | or (a b : E)
  | cmp (o : Cm) (a b : E) | chn (o p : Cm) (a b c : E) | ife (c a b : E)
  | call (f : Nat) (as : Es) | callk (f : Nat) (as ks : Es) (pm : List Nat) | callv (i : Nat) (as : Es)
  | blt (b : Bl) (as : Es) | isi (a : E) (t : Ty) | mth (m : Mt) (o : E) (as : Es)
  | idx (a b : E) | slc (a : E) (lo hi : Oe)
  | tup (as : Es) | list (as : Es)
  | comp (own : List Nat) (elt : E) (tg : Tg) (it : It) (c : Oe)
  | tidx (as : Es) (e : E)
  | hrd (tp : Bool) (w : List Nat) (ws : List (Nat × List Nat)) (e : E) | imp (f : Im) (as : Es) | thaw (a : E) | frz (a : E) | tups (zs : Zs) | lsts (zs : Zs)
  | comp2 (own own1 : List Nat) (elt : E) (tg : Tg) (it : It) (c : Oe) (tg1 : Tg) (it1 : It) (c1 : Oe)
  | rgv (tp : Bool) (lo : Oe) (b : E)
  | fst (es : Es) | rev (a : E)
inductive Es where
  | nil | cons (e : E) (es : Es)
/-- a display's parts, some of them starred -/
inductive Zs where
  | nil | cons (e : E) (zs : Zs) | star (e : E) (zs : Zs)
inductive Oe where
  | none | some (e : E)
inductive It where
  | val (e : E) | rng1 (a : E) | rng2 (a b : E) | rng3 (a b : E) (c : Int) | enum (e : E) | zip (a b : E) | perm (a : E)
inductive Tg where
  | var (i : Nat) | idx (a b : E) | tup (ts : Tgs) | tupS (i j : Nat)
inductive Tgs where
  | nil | cons (t : Tg) (ts : Tgs)
end
mutual
inductive S where
  | asg (t : Tg) (e : E) | par (is : List Nat) (es : Es) | ifs (c : E) (a b : Ss) | whl (c : E) (b : Ss) | fr (t : Tg) (it : It) (b : Ss)
  | rai (c : Nat) (e : E) | ret (e : E) | retn | exp (e : E) | pas | brk | cnt | nev
inductive Ss where
  | nil | cons (s : S) (ss : Ss)
end
def tgLen : Tgs → Nat
  | .nil => 0
  | .cons _ ts => tgLen ts + 1
/-- a def: how many parameters, how many names, the body -/
structure Fd where
  ps : Nat
  nl : Nat
  body : Ss
/-- behind a statement -/
inductive Fl where
  | nx (env : Env) | rt (d : D) | bk (env : Env) | ct (env : Env)

/-! ### values -/
def b2i (b : Bool) : Int := if b then 1 else 0
mutual
/-- == of data -/
def dEq : D → D → Bool
  | .non, e => (match e with | .non => true | _ => false)
  | .bl a, e => (match e with | .bl b => a == b | .int j => b2i a == j | _ => false)
  | .int i, e => (match e with | .int j => i == j | .bl b => i == b2i b | _ => false)
  | .str x, e => (match e with | .str y => x == y | _ => false)
  | .tup xs, e => (match e with | .tup ys => dEqs xs ys | _ => false)
  | .frz xs, e => (match e with | .frz ys => dEqs xs ys | _ => false)
  | .scr _, _ => false
  | .lst _, _ => false
  | .fn _, _ => false
def dEqs : List D → List D → Bool
  | [], e => (match e with | [] => true | _ :: _ => false)
  | x :: xs, e => (match e with | [] => false | y :: ys => dEq x y && dEqs xs ys)
end
/-- data, so many levels deep at most -/
def dOk : Nat → D → Bool
  | 0, d => (match d with | .non => true | .bl _ => true | .int _ => true | .str s => s.all (· < 0x110000) | _ => false)
  | k + 1, d => (match d with | .non => true | .bl _ => true | .int _ => true | .str s => s.all (· < 0x110000) | .tup ds => ds.all (dOk k) | .frz ds => ds.all (dOk k) | _ => false)
mutual
/-- all lists of the store that a value names are older than number n -/
def refsLt (n : Nat) : D → Bool
  | .tup ds => refsLts n ds
  | .frz ds => refsLts n ds
  | .scr ds => refsLts n ds
  | .lst i => Nat.blt i n
  | _ => true
def refsLts (n : Nat) : List D → Bool
  | [] => true
  | d :: ds => refsLt n d && refsLts n ds
end
/-- a list's items -/
def lv (st : Sto) : D → Option (List D)
  | .frz ds => some ds
  | .scr ds => some ds
  | .lst i => (match st[i]? with | some o => some o.its | none => none)
  | _ => none
/-- a list's or a tuple's items -/
def sv (st : Sto) : D → Option (List D)
  | .tup ds => some ds
  | d => lv st d
/-- a list of the store as it stands -/
def top (st : Sto) : D → D
  | .lst i => (match lv st (.lst i) with | some ds => .frz ds | none => .lst i)
  | d => d
/-- ints | bools | texts alone -/
def intsOf : List D → Option (List Int)
  | [] => some []
  | .int i :: r => (intsOf r).map (i :: ·)
  | _ :: _ => none
def blsOf : List D → Option (List Bool)
  | [] => some []
  | .bl b :: r => (blsOf r).map (b :: ·)
  | _ :: _ => none
def strsOf : List D → Option (List (List Nat))
  | [] => some []
  | .str s :: r => (strsOf r).map (s :: ·)
  | _ :: _ => none
def isInst (t : Ty) : D → Option Bool
  | .non => some false
  | .bl _ => some (match t with | .int => true | .bool => true | _ => false)
  | .int _ => some (match t with | .int => true | _ => false)
  | .str _ => some (match t with | .str => true | _ => false)
  | .tup _ => some (match t with | .tuple => true | _ => false)
  | .frz _ => some (match t with | .list => true | _ => false)
  | .lst _ => some (match t with | .list => true | _ => false)
  | _ => none
/-- an item by its index, from the end too -/
def ixN (n : Nat) (i : Int) : Option Nat := if 0 ≤ i then (if i < n then some i.toNat else none) else if -(n : Int) ≤ i then some (i + n).toNat else none
def atI {α : Type} (xs : List α) (i : Int) : Option α := (ixN xs.length i).bind fun j => xs[j]?
def sIx (n d : Nat) : Option Int → Nat
  | none => d
  | some v => if v < 0 then (v + (n : Int)).toNat else min v.toNat n
def cut {α : Type} (xs : List α) (lo hi : Option Int) : List α := (xs.drop (sIx xs.length 0 lo)).take (sIx xs.length xs.length hi - sIx xs.length 0 lo)
def szOk (n : Nat) : Bool := Nat.ble n 16777216
def szLt (n : Nat) : Bool := Nat.blt n 16777216
def small (i : Int) : Bool := decide (-(2 ^ 64) < i) && decide (i < 2 ^ 64)

/-- x[i], x[lo:hi] -/
def ixD (st : Sto) (x : D) (i : Int) : Option D := match x with
  | .str s => if szOk s.length then (atI s i).map fun c => .str [c] else none
  | x => (sv st x).bind fun ds => atI ds i
def slD (st : Sto) (x : D) (lo hi : Option Int) : Option D := match x with
  | .str s => if szOk s.length then some (.str (cut s lo hi)) else none
  | .tup ds => some (.tup (cut ds lo hi))
  | x => (lv st x).map fun ds => .frz (cut ds lo hi)

/-! ### operators -/
def iop : Op → Int → Int → Option Int
  | .add, i, j => some (i + j)
  | .sub, i, j => some (i - j)
  | .mul, i, j => if small i || small j then some (i * j) else none
  | .fdiv, i, j => if decide (0 < j) && decide (j < 1073741824) then some (i / j) else none
  | .mod, i, j => if 0 < j then some (i % j) else none
  | .pow, i, j => if decide (0 ≤ j) && (decide (j ≤ 1000000) && decide (i.natAbs < 2 ^ 64)) then some (i ^ j.toNat) else none
  | .shl, i, j => if decide (0 ≤ j) && (decide (j ≤ 1000000) && decide (i.natAbs < 2 ^ 64)) then some (i * 2 ^ j.toNat) else none
  | .shr, i, j => if 0 ≤ j then some (i / 2 ^ j.toNat) else none
  | .band, i, j => some (PySem.Builtin.bitAnd i j)
  | .bor, i, j => some (PySem.Builtin.bitOr i j)
  | .bxor, i, j => some (PySem.Builtin.bitXor i j)
def rep (xs : List D) (k : Int) : Option D := if decide (-(2 ^ 63) ≤ k) && (decide (k < 2 ^ 63) && szOk (xs.length * k.toNat)) then some (.frz (List.replicate k.toNat xs).flatten) else none
def repT (xs : List D) (k : Int) : Option D := if !xs.isEmpty && (decide (2 ≤ k) && (decide (k ≤ 1000) && Nat.ble xs.length 1000)) then some (.tup (List.replicate k.toNat xs).flatten) else none
def bop (st : Sto) (o : Op) (x y : D) : Option D := match x, y with
  | .int i, .int j => (iop o i j).map .int
  | .str a, .str b => (match o with | .add => if szOk (a.length + b.length) then some (.str (a ++ b)) else none | _ => none)
  | .tup a, .tup b => (match o with | .add => if szOk (a.length + b.length) then some (.tup (a ++ b)) else none | _ => none)
  | .frz a, .frz b => (match o with | .add => if szOk (a.length + b.length) then some (.frz (a ++ b)) else none | _ => none)
  | .frz a, .lst j => (match o, lv st (.lst j) with | .add, some b => if szOk (a.length + b.length) then some (.frz (a ++ b)) else none | _, _ => none)
  | .lst i, .frz b => (match o, lv st (.lst i) with | .add, some a => if szOk (a.length + b.length) then some (.frz (a ++ b)) else none | _, _ => none)
  | .lst i, .lst j => (match o, lv st (.lst i), lv st (.lst j) with | .add, some a, some b => if szOk (a.length + b.length) then some (.frz (a ++ b)) else none | _, _, _ => none)
  | .frz a, .int k => (match o with | .mul => rep a k | _ => none)
  | .lst i, .int k => (match o, lv st (.lst i) with | .mul, some a => rep a k | _, _ => none)
  | .tup a, .int k => (match o with | .mul => repT a k | _ => none)
  | _, _ => none
def lexLt : List Int → List Int → Bool
  | [], [] => false
  | [], _ :: _ => true
  | _ :: _, [] => false
  | x :: xs, y :: ys => if x = y then lexLt xs ys else decide (x < y)
def isNon : D → Bool
  | .non => true
  | _ => false
def cis (x y : D) : Option Bool := match y with
  | .non => some (isNon x)
  | .bl b => (match x with | .bl a => some (a == b) | _ => none)
  | _ => none
def cin (st : Sto) (x y : D) : Option Bool := match y with
  | .str s => (match x with | .str [c] => some (decide (c ∈ s)) | _ => none)
  | y => (match sv st y with | some ds => if dOk 40 (top st x) && ds.all (dOk 40) then some (ds.any fun e => dEq e (top st x)) else none | none => none)
def clt (x y : D) : Option Bool := match x, y with
  | .int i, .int j => some (decide (i < j))
  | .str a, .str b => some (decide (a < b))
  | .tup a, .tup b => (match intsOf a, intsOf b with | some a, some b => some (lexLt a b) | _, _ => none)
  | _, _ => none
def cop (st : Sto) (o : Cm) (x y : D) : Option Bool := match o with
  | .eq => if dOk 40 (top st x) && dOk 40 (top st y) then some (dEq (top st x) (top st y)) else none
  | .ne => if dOk 40 (top st x) && dOk 40 (top st y) then some (!dEq (top st x) (top st y)) else none
  | .lt => clt x y
  | .gt => (match x, y with | .int i, .int j => some (decide (j < i)) | _, _ => none)
  | .le => (match x, y with | .int i, .int j => some (decide (i ≤ j)) | _, _ => none)
  | .ge => (match x, y with | .int i, .int j => some (decide (j ≤ i)) | _, _ => none)
  | .is => cis x y
  | .isn => (cis x y).map (!·)
  | .mem => cin st x y
  | .nmem => (cin st x y).map (!·)

/-! ### built-in functions, methods -/
def lenD (st : Sto) : D → Option Int
  | .str s => if szOk s.length then some s.length else none
  | d => (sv st d).map fun ds => (ds.length : Int)
def isort (xs : List Int) : List Int := xs.mergeSort (fun a b => decide (a ≤ b))
/-- the greatest, the least -/
def maxI : List Int → Option Int
  | [] => none
  | x :: xs => some (xs.foldl (fun a b => if a < b then b else a) x)
def minI : List Int → Option Int
  | [] => none
  | x :: xs => some (xs.foldl (fun a b => if b < a then b else a) x)
/-- a whole number's text -/
def strI (i : Int) : List Nat := (PySem.Str.ofString (toString i)).cps.toList
def bcall (st : Sto) (b : Bl) (as : List D) : Option D := match b, as with
  | .len, [d] => (lenD st d).map .int
  | .sum, [d] => ((sv st d).bind intsOf).map fun ns => .int ns.sum
  | .all, [d] => ((lv st d).bind blsOf).map fun bs => .bl (bs.all id)
  | .any, [d] => ((lv st d).bind blsOf).map fun bs => .bl (bs.any id)
  | .int, [.int i] => some (.int i)
  | .int, [.bl b] => some (.int (b2i b))
  | .int, [.str s] => if Nat.ble s.length 640 then (PySem.intText? ⟨s.toArray⟩).map .int else none
  | .str, [.int i] => if Nat.blt i.natAbs.log2 1920 then some (.str (strI i)) else none
  | .str, [.str s] => some (.str s)
  | .abs, [.int i] => some (.int (if i < 0 then -i else i))
  | .min2, [.int i, .int j] => some (.int (if j < i then j else i))
  | .max2, [.int i, .int j] => some (.int (if j > i then j else i))
  | .maxL, [d] => (((sv st d).bind intsOf).bind maxI).map .int
  | .minL, [d] => (((sv st d).bind intsOf).bind minI).map .int
  | .divmod, [.int i, .int j] => if decide (0 < j) && decide (j < 1073741824) then some (.tup [.int (i / j), .int (i % j)]) else none
  | .tuple, [d] => (sv st d).map .tup
  | .list, [d] => (sv st d).map .frz
  | .sorted, [d] => ((sv st d).bind intsOf).bind fun ns => if Nat.blt ns.length 64 then some (.frz ((isort ns).map .int)) else none
  | _, _ => none
def bitLen (i : Int) : Int := if i = 0 then 0 else ((i.natAbs.log2 + 1 : Nat) : Int)
def joinL (sep : List Nat) : List (List Nat) → List Nat
  | [] => []
  | [x] => x
  | x :: y :: r => x ++ (sep ++ joinL sep (y :: r))
/-- the method fits the receiver's kind -/
def mOk (m : Mt) (x : D) : Bool := match m, x with
  | .append, .lst _ => true
  | .pop, .lst _ => true
  | .popAt, .lst _ => true
  | .index, .str _ => true
  | .tindex, .tup _ => true
  | .count, .lst _ => true
  | .count, .frz _ => true
  | .join, .str _ => true
  | .split, .str _ => true
  | .partition, .str _ => true
  | .bitlen, .int _ => true
  | _, _ => false
def idxOf (c : Nat) : List Nat → Option Nat
  | [] => none
  | y :: ys => if y = c then some 0 else (idxOf c ys).map (· + 1)
/-- a text cut at a sign -/
def splitC (c : Nat) : List Nat → List (List Nat)
  | [] => [[]]
  | x :: r => if x = c then [] :: splitC c r else (match splitC c r with | w :: ws => (x :: w) :: ws | [] => [[x]])
/-- a text parted at a sign -/
def partC (c : Nat) (s : List Nat) : D := match idxOf c s with
  | some j => .tup [.str (s.take j), .str [c], .str (s.drop (j + 1))]
  | none => .tup [.str s, .str [], .str []]
/-- a field of an f-string -/
def fmtD : D → Option (List Nat)
  | .str s => if szOk s.length then some s else none
  | .int i => if Nat.blt i.natAbs.log2 1920 then some (strI i) else none
  | _ => none
/-- x[::-1] -/
def revD (st : Sto) (x : D) : Option D := match x with
  | .str s => if szOk s.length then some (.str s.reverse) else none
  | x => (lv st x).map fun ds => .frz ds.reverse
/-- a method: its value and the store behind it -/
def mcall (st : Sto) (m : Mt) (o : D) (as : List D) : R D := match m, o, as with
  | .append, .lst i, [d] => (match st[i]? with
    | some (.lst ds) => if szLt ds.length && refsLt i d then .ok .non (st.set i (.lst (ds ++ [d]))) else .bad
    | _ => .bad)
  | .pop, .lst i, [] => (match st[i]? with
    | some (.lst ds) => (match ds[ds.length - 1]? with | some d => .ok d (st.set i (.lst ds.dropLast)) | none => .bad)
    | _ => .bad)
  | .popAt, .lst i, [.int k] => (match st[i]? with
    | some (.lst ds) => if decide (-(2 ^ 63) ≤ k) && decide (k < 2 ^ 63) then (match ixN ds.length k with
      | some j => (match ds[j]? with | some d => .ok d (st.set i (.lst (ds.eraseIdx j))) | none => .bad)
      | none => .bad) else .bad
    | _ => .bad)
  | .index, .str s, [.str [c]] => (match idxOf c s with | some j => .ok (.int (j : Nat)) st | none => .bad)
  | .count, o, [.int k] => (match (lv st o).bind intsOf with | some ns => .ok (.int (ns.count k : Nat)) st | none => .bad)
  | .join, .str s, [d] => (match (sv st d).bind strsOf with | some ps => if szOk ((ps.map List.length).sum + ps.length * s.length) then .ok (.str (joinL s ps)) st else .bad | none => .bad)
  | .bitlen, .int i, [] => .ok (.int (bitLen i)) st
  | .partition, .str s, [.str [c]] => if szOk s.length then .ok (partC c s) st else .bad
  | .tindex, .tup ds, [.int k] => (match intsOf ds with | some ns => if decide (k ∈ ns) then .ok (.int (ns.idxOf k : Nat)) st else .bad | none => .bad)
  | .split, .str s, [.str [c]] => if szOk (s.length + 2) && Nat.blt c 256 then .ok (.frz ((splitC c s).map .str)) st else .bad
  | _, _, _ => .bad

/-! ### what is imported -/
def combV (n k : Nat) : Int := if k > n then 0 else PySem.Builtin.Math.fallingProduct n (min k (n - k)) / PySem.Builtin.Math.fallingProduct ((min k (n - k) : Nat) : Int) (min k (n - k))
def imcall (f : Im) (as : List D) : Option D := match f, as with
  | .comb, [.int n, .int k] => if decide (0 ≤ n) && (decide (n < 33) && (decide (0 ≤ k) && decide (k < 33))) then some (.int (combV n.toNat k.toNat)) else none
  | .gcd, [.int a, .int b] => some (.int (Nat.gcd a.natAbs b.natAbs : Nat))
  | _, _ => none
/-- the step, as the library has it -/
def nextP (n : Nat) : Nat → List Nat → List Nat → Option (List Nat × List Nat)
  | 0, _, _ => none
  | i + 1, ix, cy => if (cy.getD i 0 - 1 == 0) = true then nextP n i (ix.take i ++ ix.drop (i + 1) ++ [ix.getD i 0]) (cy.set i (n - i))
    else some ((ix.set i (ix.getD (n - (cy.getD i 0 - 1)) 0)).set (n - (cy.getD i 0 - 1)) (ix.getD i 0), cy.set i (cy.getD i 0 - 1))
def permStart (n : Nat) : List Nat := List.range n ++ (List.range n).map fun i => n - i
def permRun (n : Nat) : Nat → List Nat → List (List Nat)
  | 0, _ => []
  | k + 1, ns => ns :: (match nextP n n (ns.take n) (ns.drop n) with
    | some (ix, cy) => permRun n k (ix ++ cy)
    | none => [])
/-- all states of the walk -/
def permSs (n : Nat) : List (List Nat) := permRun n 30 (permStart n)
def permL (n : Nat) : List (List Nat) := (permSs n).map fun ns => ns.take n
def permD (n : Nat) : List D := (permL n).map fun l => .tup (l.map fun (i : Nat) => .int (i : Nat))
/-! ### loops -/
def rngOk (i : Int) : Bool := decide (-(2 ^ 62) ≤ i) && decide (i < 2 ^ 62)
def rngD (lo : Int) (n : Nat) : List D := (List.range n).map fun k => .int (lo + (k : Nat))
def rngC (lo c : Int) (n : Nat) : List D := (List.range n).map fun k => .int (lo + (k : Nat) * c)
def enumD (ds : List D) : List D := (ds.zipIdx).map fun p => .tup [.int (p.2 : Nat), p.1]
def zipD (xs ys : List D) : List D := (xs.zip ys).map fun p => .tup [p.1, p.2]
/-- what a loop over a value walks, and the list that is locked meanwhile -/
def walk (st : Sto) : D → Option (List D × List Nat)
  | .tup ds => some (ds, [])
  | .frz ds => some (ds, [])
  | .scr ds => some (ds, [])
  | .str s => some (s.map fun c => .str [c], [])
  | .lst i => (match st[i]? with | some (.lst ds) => some (ds, [i]) | some (.lck ds) => some (ds, []) | some (.fz ds) => some (ds, []) | none => none)
  | _ => none
def lockO : Obj → Obj
  | .lst ds => .lck ds
  | o => o
def unlockO : Obj → Obj
  | .lck ds => .lst ds
  | o => o
def lock (st : Sto) : List Nat → Sto
  | [] => st
  | i :: r => lock (st.modify i lockO) r
def unlock (st : Sto) : List Nat → Sto
  | [] => st
  | i :: r => unlock (st.modify i unlockO) r
/-- where nothing may be raised -/
def R.noX {α : Type} : R α → R α
  | .ok a st => .ok a st
  | _ => .bad
def R.unl {α : Type} (ids : List Nat) : R α → R α
  | .ok a st => .ok a (unlock st ids)
  | .exn c d st => .exn c d (unlock st ids)
  | .bad => .bad
def compL (f : D → Sto → R (Option D)) : List D → Sto → R (List D)
  | [], st => .ok [] st
  | x :: xs, st => (f x st).bind fun o st1 => match o with
    | none => compL f xs st1
    | some y => (compL f xs st1).bind fun ys st2 => .ok (y :: ys) st2
/-- rows, one behind another -/
def compLL (f : D → Sto → R (List D)) : List D → Sto → R (List D)
  | [], st => .ok [] st
  | x :: xs, st => (f x st).bind fun ys st1 => (compLL f xs st1).bind fun zs st2 => .ok (ys ++ zs) st2
def forL (f : D → Env → Sto → R Fl) : List D → Env → Sto → R Fl
  | [], env, st => .ok (.nx env) st
  | x :: xs, env, st => (f x env st).bind fun fl st1 => match fl with
    | .nx env1 => forL f xs env1 st1
    | .ct env1 => forL f xs env1 st1
    | .bk env1 => .ok (.nx env1) st1
    | .rt d => .ok (.rt d) st1
def whlL (c : Env → Sto → R Bool) (f : Env → Sto → R Fl) : Nat → Env → Sto → R Fl
  | 0, _, _ => .bad
  | n + 1, env, st => (c env st).bind fun b st0 => if b then (f env st0).bind fun fl st1 => match fl with
    | .nx env1 => whlL c f n env1 st1
    | .ct env1 => whlL c f n env1 st1
    | .bk env1 => .ok (.nx env1) st1
    | .rt d => .ok (.rt d) st1 else .ok (.nx env) st0
def wipe (env : Env) : List Nat → Env
  | [] => env
  | i :: r => (wipe env r).set i none
def oD {α : Type} (o : Option α) (st : Sto) : R α := match o with
  | some d => .ok d st
  | none => .bad
def tru (d : D) (st : Sto) : R Bool := match d with
  | .bl b => .ok b st
  | _ => .bad
def toI (d : D) (st : Sto) : R Int := match d with
  | .int i => .ok i st
  | _ => .bad
/-- a value into a new place of the store -/
def thawD (d : D) (st : Sto) : R D := match d with
  | .frz ds => .ok (.lst st.length) (st ++ [.lst ds])
  | _ => .bad
/-- a list of the store, no longer changed -/
def frzD (d : D) (st : Sto) : R D := match d with
  | .lst i => (match st[i]? with
    | some (.lst ds) => .ok (.frz ds) (st.set i (.fz ds))
    | _ => .bad)
  | .frz ds => .ok (.frz ds) st
  | _ => .bad
/-- behind a call: the callee's own lists go, where its value names none -/
def back (n : Nat) (d : D) (st : Sto) : R D := if st.length = n then .ok d st else if refsLt n d then .ok d (st.take n) else .ok d st
def asgs (is : List Nat) (ds : List D) (env : Env) : Env := match is, ds with
  | i :: is, d :: ds => asgs is ds (env.set i (some d))
  | _, _ => env

/-- a word and a value: a tuple, a list -/
def pairD (tp : Bool) (w : List Nat) (d : D) : D := if tp then .tup [.str w, d] else .frz [.str w, d]
section
variable (C : Nat → List D → Sto → R D) (G : Nat → D) (W : Nat)
mutual
def ev : E → Env → Sto → R D
  | .non, _, st => .ok .non st
  | .bl b, _, st => .ok (.bl b) st
  | .int i, _, st => .ok (.int i) st
  | .str s, _, st => .ok (.str s) st
  | .var i, env, st => (match env[i]? with | some (some d) => .ok d st | _ => .bad)
  | .glb k, _, st => .ok (G k) st
  | .fnv k, _, st => .ok (.fn k) st
  | .bin o a b, env, st => (ev a env st).bind fun x s1 => (ev b env s1).bind fun y s2 => oD (bop s2 o x y) s2
  | .neg a, env, st => (ev a env st).bind fun x s1 => (toI x s1).bind fun i s2 => .ok (.int (-i)) s2
  | .not a, env, st => (ev a env st).bind fun x s1 => (tru x s1).bind fun b s2 => .ok (.bl (!b)) s2
  | .and a b, env, st => (ev a env st).bind fun x s1 => (tru x s1).bind fun c s2 => if c then ev b env s2 else .ok (.bl false) s2
  | .or a b, env, st => (ev a env st).bind fun x s1 => (tru x s1).bind fun c s2 => if c then .ok (.bl true) s2 else ev b env s2
  | .cmp o a b, env, st => (ev a env st).bind fun x s1 => (ev b env s1).bind fun y s2 => (oD (cop s2 o x y) s2).bind fun c s3 => .ok (.bl c) s3
  | .chn o p a b c, env, st => (ev a env st).bind fun x s1 => (ev b env s1).bind fun y s2 => (oD (cop s2 o x y) s2).bind fun q s3 =>
      if q then (ev c env s3).bind fun z s4 => (oD (cop s4 p y z) s4).bind fun r s5 => .ok (.bl r) s5 else .ok (.bl false) s3
  | .ife c a b, env, st => (ev c env st).bind fun x s1 => (tru x s1).bind fun q s2 => if q then ev a env s2 else ev b env s2
  | .call f as, env, st => (evs as env st).bind fun ds s1 => C f ds s1
  | .callk f as ks pm, env, st => (evs as env st).bind fun ds s1 => (evs ks env s1).bind fun es s2 => C f (pm.map fun j => (ds ++ es).getD j .non) s2
  | .callv i as, env, st => (match env[i]? with | some (some (.fn f)) => (evs as env st).noX.bind fun ds s1 => C f ds s1 | _ => .bad)
  | .blt b as, env, st => (evs as env st).bind fun ds s1 => oD (bcall s1 b ds) s1
  | .isi a t, env, st => (ev a env st).bind fun x s1 => oD ((isInst t x).map .bl) s1
  | .mth m o as, env, st => (ev o env st).bind fun x s1 => if mOk m x then (evs as env s1).bind fun ds s2 => mcall s2 m x ds else .bad
  | .idx a b, env, st => (ev a env st).bind fun x s1 => (ev b env s1).bind fun y s2 => (toI y s2).bind fun i s3 => oD (ixD s3 x i) s3
  | .slc a lo hi, env, st => (ev a env st).bind fun x s1 => (evo lo env s1).bind fun l s2 => (evo hi env s2).bind fun h s3 => oD (slD s3 x l h) s3
  | .tup as, env, st => (evs as env st).bind fun ds s1 => if szOk ds.length then .ok (.tup ds) s1 else .bad
  | .list as, env, st => (evs as env st).bind fun ds s1 => if szOk ds.length then .ok (.frz ds) s1 else .bad
  | .comp own elt tg it c, env, st => (evi it env st).bind fun p s1 =>
      if szOk p.1.length then ((compL (fun x s2 => (evt tg x (wipe env own) s2).bind fun env2 s3 => (evc c env2 s3).bind fun b s4 =>
        if b then (ev elt env2 s4).bind fun y s5 => .ok (some y) s5 else .ok none s4) p.1 (lock s1 p.2)).noX.unl p.2).bind fun ds s6 => .ok (.frz ds) s6 else .bad
  | .tidx as e, env, st => (evs as env st).bind fun ds s1 => (ev e env s1).bind fun y s2 => (toI y s2).bind fun k s3 => (match intsOf ds with
      | some ns => if decide (k ∈ ns) && szOk ns.length then .ok (.int (ns.idxOf k : Nat)) s3 else .bad
      | none => .bad)
  | .hrd tp w ws e, env, st => (match ev e env st with
    | .ok d s1 => .ok (pairD tp w d) s1
    | .exn c d s1 => (match ws.lookup c with | some z => .ok (pairD tp z d) s1 | none => .bad)
    | .bad => .bad)
  | .imp f as, env, st => (evs as env st).bind fun ds s1 => oD (imcall f ds) s1
  | .thaw a, env, st => (ev a env st).bind fun x s1 => thawD x s1
  | .frz a, env, st => (ev a env st).bind fun x s1 => frzD x s1
  | .tups zs, env, st => (evz zs env st).bind fun ds s1 => if szOk ds.length then .ok (.tup ds) s1 else .bad
  | .lsts zs, env, st => (evz zs env st).bind fun ds s1 => if szOk ds.length then .ok (.frz ds) s1 else .bad
  | .comp2 own own1 elt tg it c tg1 it1 c1, env, st => (evi it env st).bind fun p s1 => ((compLL (fun x s2 => (evt tg x (wipe env own) s2).bind fun env2 s3 => (evc c env2 s3).bind fun b s4 =>
      if b then (evi it1 env2 s4).bind fun p1 s5 => (compL (fun y s6 => (evt tg1 y (wipe env2 own1) s6).bind fun env3 s7 => (evc c1 env3 s7).bind fun b1 s8 =>
        if b1 then (ev elt env3 s8).bind fun z s9 => .ok (some z) s9 else .ok none s8) p1.1 (lock s5 p1.2)).unl p1.2 else .ok [] s4) p.1 (lock s1 p.2)).noX.unl p.2).bind fun ds s6 => if szOk ds.length then .ok (.frz ds) s6 else .bad
  | .rgv tp lo b, env, st => (evo lo env st).bind fun l s1 => (ev b env s1).bind fun y s2 => (toI y s2).bind fun j s3 => if rngOk (l.getD 0) && (rngOk j && szOk (j - l.getD 0).toNat) then .ok (if tp then .tup (rngD (l.getD 0) (j - l.getD 0).toNat) else .frz (rngD (l.getD 0) (j - l.getD 0).toNat)) s3 else .bad
  | .fst es, env, st => (evf es [] env st).bind fun z s1 => .ok (.str z) s1
  | .rev a, env, st => (ev a env st).bind fun x s1 => oD (revD s1 x) s1
def evs : Es → Env → Sto → R (List D)
  | .nil, _, st => .ok [] st
  | .cons e es, env, st => (ev e env st).bind fun x s1 => (evs es env s1).bind fun xs s2 => .ok (x :: xs) s2
def evf : Es → List Nat → Env → Sto → R (List Nat)
  | .nil, acc, _, st => .ok acc st
  | .cons e es, acc, env, st => (ev e env st).bind fun x s1 => (oD (fmtD x) s1).bind fun y s2 => if szOk (acc.length + y.length) then evf es (acc ++ y) env s2 else .bad
def evz : Zs → Env → Sto → R (List D)
  | .nil, _, st => .ok [] st
  | .cons e zs, env, st => (ev e env st).bind fun x s1 => (evz zs env s1).bind fun xs s2 => .ok (x :: xs) s2
  | .star e zs, env, st => (ev e env st).bind fun x s1 => (oD (sv s1 x) s1).bind fun ds s2 => (evz zs env s2).bind fun xs s3 => .ok (ds ++ xs) s3
/-- a part of a slice -/
def evo : Oe → Env → Sto → R (Option Int)
  | .none, _, st => .ok none st
  | .some e, env, st => (ev e env st).bind fun x s1 => (toI x s1).bind fun i s2 => .ok (some i) s2
/-- a comprehension's test -/
def evc : Oe → Env → Sto → R Bool
  | .none, _, st => .ok true st
  | .some e, env, st => (ev e env st).bind fun x s1 => tru x s1
/-- what a loop walks -/
def evi : It → Env → Sto → R (List D × List Nat)
  | .val e, env, st => (ev e env st).bind fun x s1 => oD (walk s1 x) s1
  | .rng1 a, env, st => (ev a env st).bind fun x s1 => (toI x s1).bind fun i s2 => if rngOk i then .ok (rngD 0 i.toNat, []) s2 else .bad
  | .rng2 a b, env, st => (ev a env st).bind fun x s1 => (ev b env s1).bind fun y s2 => (toI x s2).bind fun i s3 => (toI y s3).bind fun j s4 =>
      if rngOk i && rngOk j then .ok (rngD i (j - i).toNat, []) s4 else .bad
  | .rng3 a b c, env, st => (ev a env st).bind fun x s1 => (ev b env s1).bind fun y s2 => (toI x s2).bind fun i s3 => (toI y s3).bind fun j s4 =>
      if rngOk i && (rngOk j && decide (c = -1)) then .ok (rngC i (-1) (i - j).toNat, []) s4 else .bad
  | .enum e, env, st => (ev e env st).bind fun x s1 => (oD (walk s1 x) s1).bind fun p s2 => .ok (enumD p.1, p.2) s2
  | .zip a b, env, st => (ev a env st).bind fun x s1 => (ev b env s1).bind fun y s2 => (oD (walk s2 x) s2).bind fun p s3 => (oD (walk (lock s3 p.2) y) s3).bind fun q s4 => .ok (zipD p.1 q.1, p.2 ++ q.2) s4
  | .perm a, env, st => (ev a env st).bind fun x s1 => (toI x s1).bind fun i s2 => if decide (1 ≤ i) && decide (i ≤ 4) then .ok (permD i.toNat, []) s2 else .bad
/-- a value to a target -/
def evt : Tg → D → Env → Sto → R Env
  | .var i, d, env, st => if i < env.length then .ok (env.set i (some d)) st else .bad
  | .idx a b, d, env, st => (ev a env st).bind fun x s1 => (ev b env s1).bind fun y s2 => (toI y s2).bind fun k s3 => (match x with
      | .lst i => (match s3[i]? with
        | some (.lst ds) => if refsLt i d then (match ixN ds.length k with | some j => .ok env (s3.set i (.lst (ds.set j d))) | none => .bad) else .bad
        | _ => .bad)
      | _ => .bad)
  | .tup ts, d, env, st => (match d with
      | .tup ds => if ds.length = tgLen ts then evts ts ds env st else .bad
      | _ => .bad)
  | .tupS i j, d, env, st => (match lv st d with
      | some (x :: r) => if decide (i < env.length) && (decide (j < env.length) && Nat.blt r.length 16384) then .ok ((env.set i (some x)).set j (some (.frz r))) st else .bad
      | _ => .bad)
def evts : Tgs → List D → Env → Sto → R Env
  | .nil, ds, env, st => (match ds with | [] => .ok env st | _ => .bad)
  | .cons t ts, ds, env, st => (match ds with | d :: r => (evt t d env st).bind fun env1 s1 => evts ts r env1 s1 | [] => .bad)
end
mutual
def ex : S → Env → Sto → R Fl
  | .asg t e, env, st => (ev C G e env st).bind fun x s1 => (evt C G t x env s1).bind fun env1 s2 => .ok (.nx env1) s2
  | .par is es, env, st => (evs C G es env st).bind fun ds s1 => if ds.length = is.length then .ok (.nx (asgs is ds env)) s1 else .bad
  | .ifs c a b, env, st => (ev C G c env st).bind fun x s1 => (tru x s1).bind fun q s2 => if q then exs a env s2 else exs b env s2
  | .whl c b, env, st => whlL (fun env st => (ev C G c env st).bind fun x s1 => tru x s1) (fun env st => exs b env st) W env st
  | .fr t it b, env, st => (evi C G it env st).bind fun p s1 => (forL (fun x env s2 => (evt C G t x env s2).bind fun env2 s3 => exs b env2 s3) p.1 env (lock s1 p.2)).unl p.2
  | .ret e, env, st => (ev C G e env st).bind fun x s1 => .ok (.rt x) s1
  | .rai c e, env, st => (ev C G e env st).bind fun d s1 => .exn c d s1
  | .retn, _, st => .ok (.rt .non) st
  | .exp e, env, st => (ev C G e env st).bind fun _ s1 => .ok (.nx env) s1
  | .pas, env, st => .ok (.nx env) st
  | .brk, env, st => .ok (.bk env) st
  | .cnt, env, st => .ok (.ct env) st
  | .nev, _, _ => .bad
def exs : Ss → Env → Sto → R Fl
  | .nil, env, st => .ok (.nx env) st
  | .cons s ss, env, st => (ex s env st).bind fun fl s1 => match fl with
    | .nx env1 => exs ss env1 s1
    | fl => .ok fl s1
end
end
def fin (n : Nat) (r : R Fl) : R D := r.bind fun fl st => match fl with
  | .rt d => back n d st
  | .nx _ => back n .non st
  | _ => .bad
/-- a call, so many calls deep at most -/
def call (T : Nat → Option Fd) (G : Nat → D) (W : Nat) : Nat → Nat → List D → Sto → R D
  | 0, _, _, _ => .bad
  | n + 1, f, as, st => match T f with
    | none => .bad
    | some F => if as.length = F.ps then fin st.length (exs (call T G W n) G W F.body (as.map some ++ List.replicate (F.nl - F.ps) none) st) else .bad
end PL

set_option Elab.async false
set_option linter.all false
set_option maxRecDepth 100000
/-! How plain values lie in the abstract heap. -/
namespace PL
open PySem PySem.Spec PyProof.Rows L2

/-- the tables in which the makers of lambdas keep their code objects -/
class Tbl where
  T : List (Addr × Str)
variable [Tbl]
def tbAt (a : Addr) : Prop := ∃ q, (a, q) ∈ Tbl.T
def Obj.isFz : Obj → Bool
  | .fz _ => true
  | _ => false
/-- a tuple, a list of the module's own -/
def StT (K : PySem.W.Frag) (a : Addr) (xs : List V) : Prop := ∃ (o : PySem.Obj) (its : Array Value) (n : Nat), (K.lookup a = some o ∧ o.dict = none) ∧ o.cls = .type "tuple" ∧ o.data = .seq its n ∧ its.size ≤ sizeLine ∧ Vals xs its.toList
/-- a tuple of which all is known -/
def Tx (H : Hp) (a : Addr) (vs : List V) : Prop := ∃ o, H a = some (.frz o (.tup vs)) ∧ o.dict = none
theorem Tx.rd {H : Hp} {a : Addr} {xs : List V} (h : Tx H a xs) : Rd H a (.tup xs) := let ⟨o, e, _⟩ := h; .inr ⟨o, e⟩
theorem StT.sq {K : PySem.W.Frag} {H : Hp} {a : Addr} {xs : List V} (h : StT K a xs) : SqT K H a xs := by
  obtain ⟨o, its, n, ⟨h1, _⟩, h2, h3, h4, h5⟩ := h
  exact .inr ⟨o, its, n, h1, h2, h3, h4, h5⟩
theorem Tx.sq {K : PySem.W.Frag} {H : Hp} {a : Addr} {xs : List V} (h : Tx H a xs) : SqT K H a xs := .inl (.inr (let ⟨o, e, _⟩ := h; ⟨o, e⟩))
def StL (K : PySem.W.Frag) (a : Addr) (xs : List V) : Prop := ∃ (o : PySem.Obj) (its : Array Value) (n : Nat), K.lookup a = some o ∧ o.cls = .type "list" ∧ o.dict = none ∧ o.data = .seq its n ∧ its.size ≤ sizeLine ∧ Vals xs its.toList
mutual
inductive RD (K : PySem.W.Frag) (fa : Nat → Addr) (H : Hp) (m : Addr → Prop) (β ρ : List Addr) (n : Nat) : D → V → Prop
  | non : RD K fa H m β ρ n .non .non
  | bl (b : Bool) : RD K fa H m β ρ n (.bl b) (.bl b)
  | int (i : Int) : RD K fa H m β ρ n (.int i) (.int i)
  | str (s : List Nat) : RD K fa H m β ρ n (.str s) (.str ⟨s.toArray⟩)
  | tupH {ds : List D} {a : Addr} {vs : List V} : Tx H a vs → ¬ m a → a ∉ β → RDs K fa H m β ρ n ds vs → RD K fa H m β ρ n (.tup ds) (.ref a)
  | tupK {ds : List D} {a : Addr} {vs : List V} : StT K a vs → RDs K fa H m β ρ n ds vs → RD K fa H m β ρ n (.tup ds) (.ref a)
  | frz {ds : List D} {a : Addr} {vs : List V} : H a = some (.lst vs) → ¬ m a → a ∉ β → RDs K fa H m β ρ n ds vs → RD K fa H m β ρ n (.frz ds) (.ref a)
  | scrH {ds : List D} {a : Addr} {vs : List V} : Rd H a (.lst vs) → ¬ m a → a ∉ β → RDs K fa H m β ρ n ds vs → RD K fa H m β ρ n (.scr ds) (.ref a)
  | scrK {ds : List D} {a : Addr} {vs : List V} : StL K a vs → RDs K fa H m β ρ n ds vs → RD K fa H m β ρ n (.scr ds) (.ref a)
  | lst {i : Nat} {a : Addr} : i < n → ρ[i]? = some a → RD K fa H m β ρ n (.lst i) (.ref a)
  | fn (k : Nat) : RD K fa H m β ρ n (.fn k) (.ref (fa k))
inductive RDs (K : PySem.W.Frag) (fa : Nat → Addr) (H : Hp) (m : Addr → Prop) (β ρ : List Addr) (n : Nat) : List D → List V → Prop
  | nil : RDs K fa H m β ρ n [] []
  | cons {d : D} {ds : List D} {v : V} {vs : List V} : RD K fa H m β ρ n d v → RDs K fa H m β ρ n ds vs → RDs K fa H m β ρ n (d :: ds) (v :: vs)
end
section
variable {K : PySem.W.Frag} {fa : Nat → Addr} {H H' : Hp} {m m' : Addr → Prop} {β β' ρ ρ' : List Addr} {n n' : Nat}
theorem Rd.out {a : Addr} {u : HO} (h : Rd H a u) (h3 : a ∉ β) (hβ : ∀ b ∈ β', b ∈ β ∨ H b = none) : a ∉ β' := fun q => by
  rcases hβ a q with z | z
  · exact h3 z
  · rcases h with h | ⟨o, h⟩ <;> (rw [h] at z; cases z)
theorem Rd.keepP {a : Addr} {u : HO} (k : ∀ a o, H a = some o → ¬ m a → H' a = some o ∧ ¬ m' a) (h : Rd H a u) (hm : ¬ m a) : Rd H' a u ∧ ¬ m' a := by
  rcases h with h | ⟨o, h⟩
  · exact ⟨.inl (k a _ h hm).1, (k a _ h hm).2⟩
  · exact ⟨.inr ⟨o, (k a _ h hm).1⟩, (k a _ h hm).2⟩
theorem Tx.out {a : Addr} {vs : List V} (h : Tx H a vs) (h3 : a ∉ β) (hβ : ∀ b ∈ β', b ∈ β ∨ H b = none) : a ∉ β' := fun q => by
  obtain ⟨o, h, _⟩ := h
  rcases hβ a q with z | z
  · exact h3 z
  · rw [h] at z
    cases z
theorem Tx.keepP {a : Addr} {vs : List V} (k : ∀ a o, H a = some o → ¬ m a → H' a = some o ∧ ¬ m' a) (h : Tx H a vs) (hm : ¬ m a) : Tx H' a vs ∧ ¬ m' a := by
  obtain ⟨o, h, d⟩ := h
  exact ⟨⟨o, (k a _ h hm).1, d⟩, (k a _ h hm).2⟩
mutual
theorem RD.mono (k : ∀ a o, H a = some o → ¬ m a → H' a = some o ∧ ¬ m' a) (hρ : ∀ (i : Nat) (a : Addr), ρ[i]? = some a → ρ'[i]? = some a) (hβ : ∀ b ∈ β', b ∈ β ∨ H b = none) (hn : n ≤ n') :
    ∀ {d : D} {v : V}, RD K fa H m β ρ n d v → RD K fa H' m' β' ρ' n' d v
  | _, _, .non => .non
  | _, _, .bl b => .bl b
  | _, _, .int i => .int i
  | _, _, .str s => .str s
  | _, _, .tupH h1 h2 h3 h4 => .tupH (Tx.keepP k h1 h2).1 (Tx.keepP k h1 h2).2 (Tx.out h1 h3 hβ) (RDs.mono k hρ hβ hn h4)
  | _, _, .tupK h1 h4 => .tupK h1 (RDs.mono k hρ hβ hn h4)
  | _, _, .frz h1 h2 h3 h4 => .frz (k _ _ h1 h2).1 (k _ _ h1 h2).2 (Rd.out (.inl h1) h3 hβ) (RDs.mono k hρ hβ hn h4)
  | _, _, .scrH h1 h2 h3 h4 => .scrH (Rd.keepP k h1 h2).1 (Rd.keepP k h1 h2).2 (Rd.out h1 h3 hβ) (RDs.mono k hρ hβ hn h4)
  | _, _, .scrK h1 h4 => .scrK h1 (RDs.mono k hρ hβ hn h4)
  | _, _, .lst h1 h2 => .lst (Nat.lt_of_lt_of_le h1 hn) (hρ _ _ h2)
  | _, _, .fn k => .fn k
theorem RDs.mono (k : ∀ a o, H a = some o → ¬ m a → H' a = some o ∧ ¬ m' a) (hρ : ∀ (i : Nat) (a : Addr), ρ[i]? = some a → ρ'[i]? = some a) (hβ : ∀ b ∈ β', b ∈ β ∨ H b = none) (hn : n ≤ n') :
    ∀ {ds : List D} {vs : List V}, RDs K fa H m β ρ n ds vs → RDs K fa H' m' β' ρ' n' ds vs
  | _, _, .nil => .nil
  | _, _, .cons h t => .cons (RD.mono k hρ hβ hn h) (RDs.mono k hρ hβ hn t)
end
mutual
/-- a value that was read while p was busy does not name p -/
theorem RD.busyMu {p : Addr} : ∀ {d : D} {v : V}, RD K fa H m (p :: β) ρ n d v → RD K fa H (fun b => m b ∨ b = p) β ρ n d v
  | _, _, .non => .non
  | _, _, .bl b => .bl b
  | _, _, .int i => .int i
  | _, _, .str s => .str s
  | _, _, .tupH h1 h2 h3 h4 => .tupH h1 (fun z => z.elim h2 fun e => h3 (e ▸ List.mem_cons_self)) (fun z => h3 (List.mem_cons_of_mem _ z)) (RDs.busyMu h4)
  | _, _, .tupK h1 h4 => .tupK h1 (RDs.busyMu h4)
  | _, _, .frz h1 h2 h3 h4 => .frz h1 (fun z => z.elim h2 fun e => h3 (e ▸ List.mem_cons_self)) (fun z => h3 (List.mem_cons_of_mem _ z)) (RDs.busyMu h4)
  | _, _, .scrH h1 h2 h3 h4 => .scrH h1 (fun z => z.elim h2 fun e => h3 (e ▸ List.mem_cons_self)) (fun z => h3 (List.mem_cons_of_mem _ z)) (RDs.busyMu h4)
  | _, _, .scrK h1 h4 => .scrK h1 (RDs.busyMu h4)
  | _, _, .lst h1 h2 => .lst h1 h2
  | _, _, .fn k => .fn k
theorem RDs.busyMu {p : Addr} : ∀ {ds : List D} {vs : List V}, RDs K fa H m (p :: β) ρ n ds vs → RDs K fa H (fun b => m b ∨ b = p) β ρ n ds vs
  | _, _, .nil => .nil
  | _, _, .cons h t => .cons (RD.busyMu h) (RDs.busyMu t)
end
mutual
/-- a value that names only lists older than number j -/
theorem RD.older {j : Nat} : ∀ {d : D} {v : V}, RD K fa H m β ρ n d v → refsLt j d = true → RD K fa H m β ρ j d v
  | _, _, .non, _ => .non
  | _, _, .bl b, _ => .bl b
  | _, _, .int i, _ => .int i
  | _, _, .str s, _ => .str s
  | _, _, .tupH h1 h2 h3 h4, q => .tupH h1 h2 h3 (RDs.older h4 (by simpa [refsLt] using q))
  | _, _, .tupK h1 h4, q => .tupK h1 (RDs.older h4 (by simpa [refsLt] using q))
  | _, _, .frz h1 h2 h3 h4, q => .frz h1 h2 h3 (RDs.older h4 (by simpa [refsLt] using q))
  | _, _, .scrH h1 h2 h3 h4, q => .scrH h1 h2 h3 (RDs.older h4 (by simpa [refsLt] using q))
  | _, _, .scrK h1 h4, q => .scrK h1 (RDs.older h4 (by simpa [refsLt] using q))
  | _, _, .lst h1 h2, q => .lst (by simpa [refsLt] using q) h2
  | _, _, .fn k, _ => .fn k
theorem RDs.older {j : Nat} : ∀ {ds : List D} {vs : List V}, RDs K fa H m β ρ n ds vs → refsLts j ds = true → RDs K fa H m β ρ j ds vs
  | _, _, .nil, _ => .nil
  | _, _, .cons h t, q => .cons (RD.older h (by simp [refsLts] at q; exact q.1)) (RDs.older t (by simp [refsLts] at q; exact q.2))
end
theorem RDs.length : ∀ {ds : List D} {vs : List V}, RDs K fa H m β ρ n ds vs → ds.length = vs.length
  | _, _, .nil => rfl
  | _, _, .cons _ t => congrArg (· + 1) (RDs.length t)
theorem RDs.get : ∀ {ds : List D} {vs : List V} {i : Nat} {d : D}, RDs K fa H m β ρ n ds vs → ds[i]? = some d → ∃ v, vs[i]? = some v ∧ RD K fa H m β ρ n d v
  | _, _, _, _, .nil, e => by simp at e
  | _, _, 0, _, .cons h _, e => by simp at e; subst e; exact ⟨_, rfl, h⟩
  | _, _, i + 1, d, .cons _ t, e => by
    obtain ⟨v, h1, h2⟩ := RDs.get (i := i) (d := d) t (by simpa using e)
    exact ⟨v, by simpa using h1, h2⟩
theorem RDs.getV : ∀ {ds : List D} {vs : List V} {i : Nat} {v : V}, RDs K fa H m β ρ n ds vs → vs[i]? = some v → ∃ d, ds[i]? = some d ∧ RD K fa H m β ρ n d v
  | _, _, _, _, .nil, e => by simp at e
  | _, _, 0, _, .cons h _, e => by simp at e; subst e; exact ⟨_, rfl, h⟩
  | _, _, i + 1, v, .cons _ t, e => by
    obtain ⟨d, h1, h2⟩ := RDs.getV (i := i) (v := v) t (by simpa using e)
    exact ⟨d, by simpa using h1, h2⟩
theorem RDs.append : ∀ {ds es : List D} {vs ws : List V}, RDs K fa H m β ρ n ds vs → RDs K fa H m β ρ n es ws → RDs K fa H m β ρ n (ds ++ es) (vs ++ ws)
  | _, _, _, _, .nil, s => s
  | _, _, _, _, .cons h t, s => .cons h (RDs.append t s)
theorem RDs.take : ∀ {ds : List D} {vs : List V} (k : Nat), RDs K fa H m β ρ n ds vs → RDs K fa H m β ρ n (ds.take k) (vs.take k)
  | _, _, 0, _ => .nil
  | _, _, _ + 1, .nil => .nil
  | _, _, k + 1, .cons h t => .cons h (RDs.take k t)
theorem RDs.drop : ∀ {ds : List D} {vs : List V} (k : Nat), RDs K fa H m β ρ n ds vs → RDs K fa H m β ρ n (ds.drop k) (vs.drop k)
  | _, _, 0, s => s
  | _, _, _ + 1, .nil => .nil
  | _, _, k + 1, .cons _ t => RDs.drop k t
theorem RDs.set {d : D} {v : V} (h : RD K fa H m β ρ n d v) : ∀ {ds : List D} {vs : List V} (i : Nat), RDs K fa H m β ρ n ds vs → RDs K fa H m β ρ n (ds.set i d) (vs.set i v)
  | _, _, _, .nil => .nil
  | _, _, 0, .cons _ t => .cons h t
  | _, _, i + 1, .cons g t => .cons g (RDs.set h i t)
theorem RDs.erase : ∀ {ds : List D} {vs : List V} (i : Nat), RDs K fa H m β ρ n ds vs → RDs K fa H m β ρ n (ds.eraseIdx i) (vs.eraseIdx i)
  | _, _, _, .nil => .nil
  | _, _, 0, .cons _ t => t
  | _, _, i + 1, .cons g t => .cons g (RDs.erase i t)
theorem RDs.dropLast {ds : List D} {vs : List V} (h : RDs K fa H m β ρ n ds vs) : RDs K fa H m β ρ n ds.dropLast vs.dropLast := by
  rw [List.dropLast_eq_take, List.dropLast_eq_take, h.length]
  exact h.take _
theorem RDs.rep {ds : List D} {vs : List V} (h : RDs K fa H m β ρ n ds vs) : ∀ k : Nat, RDs K fa H m β ρ n (List.replicate k ds).flatten (List.replicate k vs).flatten
  | 0 => .nil
  | k + 1 => by
    rw [List.replicate_succ, List.replicate_succ, List.flatten_cons, List.flatten_cons]
    exact h.append (RDs.rep h k)
theorem RDs.ints : ∀ {ds : List D} {vs : List V} {ns : List Int}, RDs K fa H m β ρ n ds vs → intsOf ds = some ns → vs = ns.map V.int
  | _, _, ns, .nil, e => by
    cases e
    rfl
  | _, _, ns, .cons (d := d) h t, e => by
    cases d with
    | int i =>
      simp only [intsOf] at e
      obtain ⟨r, e1, rfl⟩ := Option.map_eq_some_iff.mp e
      cases h
      rw [RDs.ints t e1]
      rfl
    | _ => simp [intsOf] at e
theorem RDs.bls : ∀ {ds : List D} {vs : List V} {ns : List Bool}, RDs K fa H m β ρ n ds vs → blsOf ds = some ns → vs = ns.map V.bl
  | _, _, ns, .nil, e => by
    cases e
    rfl
  | _, _, ns, .cons (d := d) h t, e => by
    cases d with
    | bl i =>
      simp only [blsOf] at e
      obtain ⟨r, e1, rfl⟩ := Option.map_eq_some_iff.mp e
      cases h
      rw [RDs.bls t e1]
      rfl
    | _ => simp [blsOf] at e
theorem RDs.strs : ∀ {ds : List D} {vs : List V} {ns : List (List Nat)}, RDs K fa H m β ρ n ds vs → strsOf ds = some ns → vs = (ns.map fun s => (⟨s.toArray⟩ : Str)).map V.str
  | _, _, ns, .nil, e => by
    cases e
    rfl
  | _, _, ns, .cons (d := d) h t, e => by
    cases d with
    | str i =>
      simp only [strsOf] at e
      obtain ⟨r, e1, rfl⟩ := Option.map_eq_some_iff.mp e
      cases h
      rw [RDs.strs t e1]
      rfl
    | _ => simp [strsOf] at e
theorem rds_ints : ∀ (ns : List Int), RDs K fa H m β ρ n (ns.map D.int) (ns.map V.int)
  | [] => .nil
  | i :: r => .cons (.int i) (rds_ints r)
end

/-! ### the store -/
/-- what may still be changed -/
def Mu (ρ : List Addr) (st : Sto) (a : Addr) : Prop := tbAt a ∨ ∃ (i : Nat) (o : Obj), ρ[i]? = some a ∧ st[i]? = some o ∧ o.isFz = false
structure RS (K : PySem.W.Frag) (fa : Nat → Addr) (β ρ : List Addr) (st : Sto) (H : Hp) : Prop where
  nd : ∀ (i j : Nat) (a : Addr), ρ[i]? = some a → ρ[j]? = some a → i = j
  len : ρ.length = st.length
  obj : ∀ (i : Nat) (o : Obj), st[i]? = some o → ∃ a vs, ρ[i]? = some a ∧ H a = some (.lst vs) ∧ RDs K fa H (Mu ρ st) β ρ i o.its vs
  busy : ∀ b ∈ β, (∃ vs, H b = some (.lst vs)) ∧ b ∉ ρ
  tabs : LamX.Tabs Tbl.T H
structure Stp (ρ : List Addr) (st : Sto) (H : Hp) (ρ' : List Addr) (st' : Sto) (H' : Hp) : Prop where
  pre : ∃ t, ρ' = ρ ++ t
  le : st.length ≤ st'.length
  keep : ∀ a o, H a = some o → ¬ Mu ρ st a → H' a = some o ∧ ¬ Mu ρ' st' a
  lck : ∀ (i : Nat) (ds : List D), st[i]? = some (.lck ds) → st'[i]? = some (.lck ds)
section
variable {K : PySem.W.Frag} {fa : Nat → Addr} {H H1 H2 : Hp} {β ρ ρ1 ρ2 : List Addr} {st s1 s2 : Sto} {n : Nat}
theorem Stp.refl : Stp ρ st H ρ st H := ⟨⟨[], by simp⟩, Nat.le_refl _, fun _ _ h m => ⟨h, m⟩, fun _ _ h => h⟩
theorem Stp.trans (a : Stp ρ st H ρ1 s1 H1) (b : Stp ρ1 s1 H1 ρ2 s2 H2) : Stp ρ st H ρ2 s2 H2 := by
  refine ⟨?_, Nat.le_trans a.le b.le, fun p o h m => ?_, fun i ds h => b.lck i ds (a.lck i ds h)⟩
  · obtain ⟨t, rfl⟩ := a.pre
    obtain ⟨u, rfl⟩ := b.pre
    exact ⟨t ++ u, by simp⟩
  · obtain ⟨h1, m1⟩ := a.keep p o h m
    exact b.keep p o h1 m1
theorem Stp.at (a : Stp ρ st H ρ1 s1 H1) : ∀ (i : Nat) (p : Addr), ρ[i]? = some p → ρ1[i]? = some p := fun i p h => by
  obtain ⟨t, rfl⟩ := a.pre
  rw [List.getElem?_append_left (List.getElem?_eq_some_iff.mp h).1]
  exact h
theorem RD.stp {d : D} {v : V} (a : Stp ρ st H ρ1 s1 H1) (h : RD K fa H (Mu ρ st) β ρ st.length d v) : RD K fa H1 (Mu ρ1 s1) β ρ1 s1.length d v :=
  h.mono a.keep a.at (fun _ q => .inl q) a.le
theorem RDs.stp {ds : List D} {vs : List V} (a : Stp ρ st H ρ1 s1 H1) (h : RDs K fa H (Mu ρ st) β ρ st.length ds vs) : RDs K fa H1 (Mu ρ1 s1) β ρ1 s1.length ds vs :=
  h.mono a.keep a.at (fun _ q => .inl q) a.le
theorem RS.notTb (S : RS K fa β ρ st H) {p : Addr} (h : H p = none) : ¬ tbAt p := fun ⟨q, hq⟩ => by
  obtain ⟨ps, e, _⟩ := S.tabs _ hq
  rw [h] at e
  cases e
theorem RS.notTbL (S : RS K fa β ρ st H) {p : Addr} {vs : List V} (h : H p = some (.lst vs)) : ¬ tbAt p := fun ⟨q, hq⟩ => by
  obtain ⟨ps, e, _⟩ := S.tabs _ hq
  rw [h] at e
  cases e
theorem code_ne {c : Addr} {q : Str} {vs : List V} : LamX.CodeO c q ≠ .lst vs := fun z => by
  unfold LamX.CodeO at z
  cases z
/-- a list is written: the tables stay -/
theorem tabs_lst {T : List (Addr × Str)} {a : Addr} {vs : List V} {o : HO} (t : LamX.Tabs T H) (h : H a = some (.lst vs)) : LamX.Tabs T (upd H a o) := fun p hp => by
  obtain ⟨ps, h1, h2, h3⟩ := t p hp
  have n1 : p.1 ≠ a := fun e => by
    rw [e, h] at h1
    cases h1
  refine ⟨ps, by rw [upd_ne n1]; exact h1, h2, fun pos cv hc => ?_⟩
  obtain ⟨c, e1, e2⟩ := h3 pos cv hc
  have n2 : c ≠ a := fun e => by
    rw [e, h] at e2
    exact code_ne (Option.some.inj e2).symm
  exact ⟨c, e1, by rw [upd_ne n2]; exact e2⟩
theorem tabs_new {T : List (Addr × Str)} {a : Addr} {o : HO} (t : LamX.Tabs T H) (h : H a = none) : LamX.Tabs T (upd H a o) := t.ext fun b u e => by
  rw [upd_ne (ne_of_none e h)]
  exact e
/-- what is new is not changed by what was there -/
theorem RS.fresh (S : RS K fa β ρ st H) {p : Addr} (h : H p = none) : p ∉ ρ ∧ p ∉ β ∧ ¬ Mu ρ st p := by
  have h1 : p ∉ ρ := fun q => by
    obtain ⟨i, hi⟩ := List.mem_iff_getElem?.mp q
    have hl : i < st.length := by rw [← S.len]; exact (List.getElem?_eq_some_iff.mp hi).1
    obtain ⟨a, vs, e1, e2, _⟩ := S.obj i _ (List.getElem?_eq_getElem hl)
    rw [hi] at e1
    cases e1
    rw [h] at e2
    cases e2
  refine ⟨h1, fun q => ?_, fun z => z.elim (S.notTb h) fun ⟨i, _, e, _⟩ => h1 (List.mem_iff_getElem?.mpr ⟨i, e⟩)⟩
  obtain ⟨⟨o, e⟩, _⟩ := S.busy p q
  rw [h] at e
  cases e
/-- a new object, not in the store -/
theorem RS.lay (S : RS K fa β ρ st H) {p : Addr} {o : HO} (h : H p = none) : RS K fa β ρ st (upd H p o) ∧ Stp ρ st H ρ st (upd H p o) := by
  have k : ∀ a u, H a = some u → ¬ Mu ρ st a → upd H p o a = some u ∧ ¬ Mu ρ st a := fun a u e m => by
    refine ⟨?_, m⟩
    rw [upd_ne (ne_of_none e h)]
    exact e
  refine ⟨⟨S.nd, S.len, fun i u e => ?_, fun b hb => ?_, tabs_new S.tabs h⟩, ⟨⟨[], by simp⟩, Nat.le_refl _, k, fun _ _ h => h⟩⟩
  · obtain ⟨a, vs, e1, e2, e3⟩ := S.obj i u e
    exact ⟨a, vs, e1, by rw [upd_ne (ne_of_none e2 h)]; exact e2, e3.mono k (fun _ _ h => h) (fun _ q => .inl q) (Nat.le_refl _)⟩
  · obtain ⟨⟨u, e⟩, nb⟩ := S.busy b hb
    exact ⟨⟨u, by rw [upd_ne (ne_of_none e h)]; exact e⟩, nb⟩
theorem its_get {i : Nat} {o : Obj} (h : st[i]? = some o) : i < st.length := (List.getElem?_eq_some_iff.mp h).1
end
end PL

set_option Elab.async false
set_option linter.all false
set_option maxRecDepth 100000
set_option maxHeartbeats 1000000
/-! New tuples of which all is known. -/
namespace PL
open PySem PySem.Spec PyProof.Rows L2
section
variable {X : Cx} {pins : List (Addr × PySem.Obj)} {σ : List (Option V)} {H : Hp} {s : Shared}
/-- a new tuple's object -/
theorem laidT {g : Heap} {k : Nat} {xs : List V} {us : List Value} (J : Inv X pins σ H { s with heap := g, toks := k }) (z : xs.length ≤ sizeLine) (r : Vals xs us) :
    Inv X pins σ (upd H g.objs.size (.frz { cls := .type "tuple", data := .seq us.toArray } (.tup xs))) { s with heap := g.push { cls := .type "tuple", data := .seq us.toArray }, toks := k } := by
  have e : (g.push { cls := .type "tuple", data := .seq us.toArray }).get? g.objs.size = some { cls := .type "tuple", data := .seq us.toArray } := Heap.get?_push_size _ rfl
  exact J.laid (t' := k) (fun _ _ h => Heap.get?_push_of_some _ h) (Nat.le_refl _) ⟨e, z, us, r, ⟨_, e, rfl, _, rfl⟩⟩
/-- .. told as an answer -/
theorem tupAns {g : Heap} {k : Nat} {xs : List V} {us : List Value} {Q : VK} (J : Inv X pins σ H { s with heap := g, toks := k }) (z : xs.length ≤ sizeLine) (r : Vals xs us) (q : ∀ p o, H p = none → o.dict = none → Q (.ref p) (upd H p (.frz o (.tup xs)))) :
    EP X pins σ Q (.ref g.objs.size) { s with heap := g.push { cls := .type "tuple", data := .seq us.toArray }, toks := k } :=
  ⟨.ref g.objs.size, _, laidT J z r, rfl, q _ _ (J.hok.fresh (Nat.le_refl _)) rfl⟩
end
section
open L2 (St)
variable {X : Cx} {e : Expr} {es : List Expr} {te : TE} {t : TA} {pos : Pos}
def tTupX (t : TA) : TE := fun σ H Q => t σ H fun xs H1 => xs.length ≤ sizeLine ∧ ∀ p o, H1 p = none → o.dict = none → Q (.ref p) (upd H1 p (.frz o (.tup xs)))
theorem pe_tupX {x1} (h : PA X es t) : PE X (.Tuple es x1 pos) (tTupX t) := by
  refine ⟨fun pins s σ H Q I hq => ?_⟩
  exact wpAny_Tuple_spliced (thn (h.run pos pins s σ H _ I hq) fun us s1 ⟨xs, H1, J, r, z, q⟩ => ⟨r.length ▸ z, tupAns J z r q⟩)
theorem op_catX : OpR X (binaryOp .Add) (fun x y H Q => ∃ a b xs ys, x = .ref a ∧ y = .ref b ∧ SqT X.K H a xs ∧ SqT X.K H b ys ∧ xs.length + ys.length ≤ sizeLine ∧
    (xs = [] → Q (.ref b) H) ∧ (xs ≠ [] → ys = [] → Q (.ref a) H) ∧ (xs ≠ [] → ys ≠ [] → ∀ p o, H p = none → o.dict = none → Q (.ref p) (upd H p (.frz o (.tup (xs ++ ys)))))) := by
  intro pins s σ H x y v u Q I rx ry ⟨a, b, xs, ys, ex, ey, ha, hb, hz, q0, q1, q2⟩
  subst ex ey
  cases rx
  cases ry
  obtain ⟨us, r1, p1, _⟩ := I.tuple ha
  obtain ⟨ws, r2, p2, _⟩ := I.tuple hb
  by_cases hx : xs = []
  · subst hx
    cases r1
    exact cat_tup0 p1 p2 ⟨.ref b, H, I, rfl, q0 rfl⟩
  · exact HT.cat_tup p1 p2 (fun h => hx (r1.nil_iff.mp h)) (fun h => ⟨.ref a, H, I, rfl, q1 hx (r2.nil_iff.mp h)⟩)
      (fun h => tupAns I (by rw [List.length_append]; exact hz) (r1.append r2) (q2 hx fun z => h (r2.nil_iff.mpr z))) (by rw [← r1.length, ← r2.length]; exact hz)
theorem sl_tupX : SlR X (fun x lo hi H Q => ∃ a xs, x = .ref a ∧ SqT X.K H a xs ∧
    (HT.sIx xs.length 0 lo = 0 ∧ HT.sIx xs.length xs.length hi = xs.length → Q (.ref a) H) ∧ (¬ (HT.sIx xs.length 0 lo = 0 ∧ HT.sIx xs.length xs.length hi = xs.length) → ∀ p o, H p = none → o.dict = none → Q (.ref p) (upd H p (.frz o (.tup (cutV xs lo hi)))))) := by
  intro pins s σ H x v vl vu lo hi sl Q I rx hs pl pu ⟨a, xs, ex, hx, q1, q2⟩
  subst ex
  cases rx
  obtain ⟨us, r, ht, hz⟩ := I.tuple hx
  have hl : us.toArray.size = xs.length := by simpa using r.length.symm
  refine ⟨"tuple", _, PyProof.Rows.slot_tuple_getitem.lookup, ht.typeIs, ?_⟩
  by_cases hw : HT.sIx xs.length 0 lo = 0 ∧ HT.sIx xs.length xs.length hi = xs.length
  · exact getItem_tuple_whole ht hs pl pu (hl ▸ hw) ⟨.ref a, H, I, rfl, q1 hw⟩
  · refine HT.getItem_tuple_cut ht hs pl pu (hl ▸ hw) ?_ (hl ▸ hz)
    rw [hl]
    exact tupAns I (Nat.le_trans (cutV_length xs lo hi) hz) ((r.drop (HT.sIx xs.length 0 lo)).take (HT.sIx xs.length xs.length hi - HT.sIx xs.length 0 lo)) (q2 hw)
theorem call_divmodX : CallR X (.builtin "divmod") (fun xs H Q => ∃ i j, xs = [.int i, .int j] ∧ CDiv i j ∧ ∀ p o, H p = none → o.dict = none → Q (.ref p) (upd H p (.frz o (.tup [.int (i / j), .int (i % j)])))) := by
  intro pins s σ H xs us Q I r ⟨i, j, ex, ⟨h1, h2⟩, q⟩
  subst ex
  obtain ⟨u, w, rfl, ⟨t, rfl⟩, ⟨t2, rfl⟩⟩ := vals2 r
  refine divmod_int (by omega) ?_ (.inl (PyProof.noPylong_small (by omega)))
  rw [Int.fdiv_eq_ediv_of_nonneg i (by omega), Int.fmod_eq_emod_of_nonneg i (by omega)]
  have J : Inv X pins σ H { s with toks := s.toks + 2 } := I.tok _
  exact tupAns (us := [.int (i / j) s.toks, .int (i % j) (s.toks + 1)]) J (by show 2 ≤ _; rw [sizeLine_eq]; decide) (.cons (show RelV (.int _) _ from ⟨_, rfl⟩) (.cons (show RelV (.int _) _ from ⟨_, rfl⟩) .nil)) q
theorem call_tupleX : CallR X (.type "tuple") (fun xs H Q => ∃ p ys, xs = [.ref p] ∧ ((SqL X.K H p ys ∧ ∀ l o, H l = none → o.dict = none → Q (.ref l) (upd H l (.frz o (.tup ys)))) ∨ (SqT X.K H p ys ∧ Q (.ref p) H))) := by
  intro pins s σ H xs us Q I r ⟨p, ys, ex, h⟩
  subst ex
  obtain ⟨u, rfl, ru⟩ := vals1 r
  cases ru
  rcases h with ⟨hq, q⟩ | ⟨hq, q⟩
  · obtain ⟨ws, r2, pl, hz⟩ := I.list hq
    have hl := r2.length
    refine call_tuple_list pl.isList (fun g kp => ?_) (by rw [List.size_toArray]; omega)
    have J : Inv X pins σ H { s with heap := g } := I.kept (t' := s.toks) kp
    exact tupAns J hz r2 q
  · obtain ⟨ws, r2, pl, _⟩ := I.tuple hq
    exact call_tuple_same pl ⟨.ref p, H, I, rfl, q⟩
theorem op_repX : OpR X (binaryOp .Mult) (fun x y H Q => ∃ l k xs, x = .ref l ∧ y = .int k ∧ SqT X.K H l xs ∧ xs ≠ [] ∧ 2 ≤ k ∧ k ≤ 1000 ∧ xs.length ≤ 1000 ∧
    ∀ p o, H p = none → o.dict = none → Q (.ref p) (upd H p (.frz o (.tup (List.replicate k.toNat xs).flatten)))) := by
  intro pins s σ H x y v u Q I rx ry ⟨l, k, xs, ex, ey, hT, hne, h1, h2, hz, q⟩
  subst ex ey
  cases rx
  obtain ⟨t, rfl⟩ := ry
  obtain ⟨us, r, ⟨⟨cls, dd, data, sl⟩, ho, hc, n, hd⟩, _⟩ := I.tuple hT
  simp only at hc hd
  subst hc hd
  have el : us.length = xs.length := r.length.symm
  have ne : us ≠ [] := fun z => hne (List.eq_nil_of_length_eq_zero (by rw [← el, z]; rfl))
  have em : us.toArray.isEmpty = false := by
    cases us with
    | nil => exact absurd rfl ne
    | cons _ _ => rfl
  have es : us.toArray.size = xs.length := by simpa using el
  have mx : k.toNat * xs.length ≤ 1000000 := Nat.le_trans (Nat.mul_le_mul (show k.toNat ≤ 1000 by omega) hz) (by decide)
  have mi : ((us.toArray.size : Nat) : Int) * k ≤ 1000000 := by
    have hk : ((us.toArray.size : Nat) : Int) * k ≤ ((us.toArray.size : Nat) : Int) * 1000 := Int.mul_le_mul_of_nonneg_left h2 (by omega)
    omega
  have fl : (List.replicate k.toNat us).flatten.length ≤ sizeLine := by
    rw [PyProof.Rows.lm_len_rep_flat, el, sizeLine_eq]
    omega
  have b0 : (decide (k < -(2 ^ 63)) || decide (k ≥ 2 ^ 63)) = false := Bool.or_eq_false_iff.mpr ⟨decide_eq_false (by omega), decide_eq_false (by omega)⟩
  have b1 : (us.toArray.isEmpty || k == 1) = false := Bool.or_eq_false_iff.mpr ⟨em, beq_eq_false_iff_ne.mpr (by omega)⟩
  have b2 : (decide (k ≤ 0) || us.toArray.isEmpty) = false := Bool.or_eq_false_iff.mpr ⟨decide_eq_false (by omega), em⟩
  have b4 : Builtin.Tuple.tupleTooMany (((us.toArray.size : Nat) : Int) * k) = false := by
    unfold Builtin.Tuple.tupleTooMany
    rw [sizeLine_eq]
    exact decide_eq_false (by omega)
  have mul := tuple_mulW l us.toArray n dd sl k t b0 b1 b2 (by omega) b4 (by rw [size_rep, List.size_toArray]; exact fl)
  rw [size_rep] at mul
  refine wpAny_binaryOp_repeat_ref (T := "tuple") (U := "int") (by decide) ⟨_, ho, rfl⟩ (fun s' => typeIs_int s' k t) noFill_tuple_mul F.fills_int_mul F.slot_int_rmul repeat_tuple F.slot_int_index.lookup ?_
  refine call_meets F.slot_int_rmul (typeIs_int s k t) F.entry_int_rmul (F.args_int_rmul_2 _ _) (int_rmul_tuple k t l us.toArray n dd sl) ⟨ho, rfl, ⟨_, ho, rfl⟩, ?_⟩
  refine call_meets F.slot_tuple_mul ⟨_, ho, rfl⟩ F.entry_tuple_mul (F.args_tuple_mul_2 _ _) mul ⟨ho, ?_⟩
  exact tupAns I (by rw [PyProof.Rows.lm_len_rep_flat, sizeLine_eq]; omega) (r.rep k.toNat) q
/-- tuple(range(..)) -/
theorem pe_tupRgX {te : L2.St → Hp → (Int → Int → Hp → Prop) → Prop} {p : Pos} (hc : X.calm = true) (hg : Gl X "tuple") (hm : X.mg "tuple" = none) (he : PRg X e te) (na : starEach [e] X.env = (false, eval e X.env) :: starEach [] X.env) :
    PE X (.Call (.Name "tuple" p) [e] [] pos) (fun σ H Q => te σ H fun a b H1 => RgOk a b ∧ ∀ q o, H1 q = none → o.dict = none → Q (.ref q) (upd H1 q (.frz o (.tup (rgV a b))))) := by
  refine ⟨fun pins s σ H Q I h => ?_⟩
  refine Call_ (ld_blt I hg hm boot_tuple (PyProof.Rows.callWith_type1 (args_cons (thn (he pins s σ H _ I h) fun x s1 ⟨r, a, b, t, u, v, H1, ex, hr, J, ok, q⟩ => args_nil ?_) na) na))
  subst ex
  obtain ⟨b1, b2, b3, b4, b5⟩ := ok
  refine call_tuple_range (n := (b - a).toNat) (J.ok.hd hc) hr (small_one b1 b2 b3 b4) (rangeSize_nat a b) b5 fun g tk acc hk hi => ?_
  have J2 : Inv X pins σ H1 { s1 with heap := g, toks := tk } := J.kept hk
  have z : (rgV a b).length ≤ sizeLine := by
    rw [rgV_length, sizeLine_eq]
    omega
  exact tupAns (us := acc.toList) J2 z (vals_rg hi) q
end
end PL

set_option Elab.async false
set_option linter.all false
set_option maxRecDepth 100000
set_option maxHeartbeats 1000000
/-! The operators on plain values, over the layer's rules. -/
namespace PL
open PySem PySem.Spec PyProof.Rows L2
variable [Tbl]

section
variable (K : PySem.W.Frag) (fa : Nat → Addr)
/-- what is wanted of a value, of values, of an answer, behind an evaluation -/
def Post (β ρ : List Addr) (st : Sto) (H : Hp) (d : D) (st' : Sto) (Q : VK) : Prop :=
  ∀ v H' ρ', Stp ρ st H ρ' st' H' → RS K fa β ρ' st' H' → RD K fa H' (Mu ρ' st') β ρ' st'.length d v → Q v H'
def PostS (β ρ : List Addr) (st : Sto) (H : Hp) (ds : List D) (st' : Sto) (Q : List V → Hp → Prop) : Prop :=
  ∀ vs H' ρ', Stp ρ st H ρ' st' H' → RS K fa β ρ' st' H' → RDs K fa H' (Mu ρ' st') β ρ' st'.length ds vs → Q vs H'
def PostB (β ρ : List Addr) (st : Sto) (H : Hp) (b : Bool) (st' : Sto) (Q : Bool → Hp → Prop) : Prop :=
  ∀ H' ρ', Stp ρ st H ρ' st' H' → RS K fa β ρ' st' H' → Q b H'
end
section
variable {K : PySem.W.Frag} {fa : Nat → Addr} {H H' : Hp} {β ρ ρ' : List Addr} {st st' : Sto} {d : D} {ds : List D} {v : V} {vs : List V} {Q : VK} {p : Addr}
theorem Post.here (h : Post K fa β ρ st H d st Q) (S : RS K fa β ρ st H) (r : RD K fa H (Mu ρ st) β ρ st.length d v) : Q v H := h v H ρ .refl S r
theorem Post.after {ρ1 : List Addr} {s1 s2 : Sto} {H1 : Hp} (h : Post K fa β ρ st H d s2 Q) (a : Stp ρ st H ρ1 s1 H1) : Post K fa β ρ1 s1 H1 d s2 Q := fun v H' ρ' b S r => h v H' ρ' (a.trans b) S r
/-- a new tuple, a new list -/
theorem lay_tup (S : RS K fa β ρ st H) (h : H p = none) {o : PySem.Obj} (ho : o.dict = none) (r : RDs K fa H (Mu ρ st) β ρ st.length ds vs) : RD K fa (upd H p (.frz o (.tup vs))) (Mu ρ st) β ρ st.length (.tup ds) (.ref p) :=
  .tupH ⟨o, upd_same, ho⟩ (S.fresh h).2.2 (S.fresh h).2.1 (r.stp (S.lay h).2)
theorem lay_frz (S : RS K fa β ρ st H) (h : H p = none) (r : RDs K fa H (Mu ρ st) β ρ st.length ds vs) : RD K fa (upd H p (.lst vs)) (Mu ρ st) β ρ st.length (.frz ds) (.ref p) :=
  .frz upd_same (S.fresh h).2.2 (S.fresh h).2.1 (r.stp (S.lay h).2)
theorem Post.tup (h : Post K fa β ρ st H (.tup ds) st Q) (S : RS K fa β ρ st H) (r : RDs K fa H (Mu ρ st) β ρ st.length ds vs) (hp : H p = none) {o : PySem.Obj} (ho : o.dict = none) : Q (.ref p) (upd H p (.frz o (.tup vs))) :=
  h _ _ _ (S.lay hp).2 (S.lay hp).1 (lay_tup S hp ho r)
theorem Post.frz (h : Post K fa β ρ st H (.frz ds) st Q) (S : RS K fa β ρ st H) (r : RDs K fa H (Mu ρ st) β ρ st.length ds vs) (hp : H p = none) : Q (.ref p) (upd H p (.lst vs)) :=
  h _ _ _ (S.lay hp).2 (S.lay hp).1 (lay_frz S hp r)
/-- reading -/
theorem rd_tup (r : RD K fa H (Mu ρ st) β ρ st.length (.tup ds) v) : ∃ a vs, v = .ref a ∧ SqT K H a vs ∧ RDs K fa H (Mu ρ st) β ρ st.length ds vs := by
  cases r with
  | tupH h1 _ _ h4 => exact ⟨_, _, rfl, h1.sq, h4⟩
  | tupK h1 h4 => exact ⟨_, _, rfl, h1.sq, h4⟩
theorem rs_at (S : RS K fa β ρ st H) {i : Nat} {o : Obj} (h : st[i]? = some o) : ∃ a vs, ρ[i]? = some a ∧ H a = some (.lst vs) ∧ RDs K fa H (Mu ρ st) β ρ st.length o.its vs := by
  obtain ⟨a, vs, e1, e2, e3⟩ := S.obj i o h
  exact ⟨a, vs, e1, e2, e3.mono (fun _ _ x y => ⟨x, y⟩) (fun _ _ x => x) (fun _ x => .inl x) (Nat.le_of_lt (its_get h))⟩
theorem rd_lv (S : RS K fa β ρ st H) (r : RD K fa H (Mu ρ st) β ρ st.length d v) (h : lv st d = some ds) : ∃ a vs, v = .ref a ∧ SqL K H a vs ∧ RDs K fa H (Mu ρ st) β ρ st.length ds vs := by
  cases r with
  | frz h1 _ _ h4 =>
    cases h
    exact ⟨_, _, rfl, .inl (.inl h1), h4⟩
  | scrH h1 _ _ h4 =>
    cases h
    exact ⟨_, _, rfl, .inl h1, h4⟩
  | scrK h1 h4 =>
    cases h
    exact ⟨_, _, rfl, .inr h1, h4⟩
  | lst h1 h2 =>
    simp only [lv] at h
    split at h
    · rename_i o ho
      cases h
      obtain ⟨a, vs, e1, e2, e3⟩ := rs_at S ho
      rw [h2] at e1
      cases e1
      exact ⟨_, _, rfl, .inl (.inl e2), e3⟩
    · cases h
  | _ => cases h
/-- .. a list that is read as it stands -/
theorem rd_lh (S : RS K fa β ρ st H) (r : RD K fa H (Mu ρ st) β ρ st.length d v) (h : lv st d = some ds) (hn : ∀ ds, d ≠ .scr ds) : ∃ a vs, v = .ref a ∧ H a = some (.lst vs) ∧ RDs K fa H (Mu ρ st) β ρ st.length ds vs := by
  cases r with
  | frz h1 _ _ h4 =>
    cases h
    exact ⟨_, _, rfl, h1, h4⟩
  | scrH h1 _ _ h4 => exact absurd rfl (hn _)
  | scrK h1 h4 => exact absurd rfl (hn _)
  | lst h1 h2 =>
    simp only [lv] at h
    split at h
    · rename_i o ho
      cases h
      obtain ⟨a, vs, e1, e2, e3⟩ := rs_at S ho
      rw [h2] at e1
      cases e1
      exact ⟨_, _, rfl, e2, e3⟩
    · cases h
  | _ => cases h
theorem rd_sv (S : RS K fa β ρ st H) (r : RD K fa H (Mu ρ st) β ρ st.length d v) (h : sv st d = some ds) : ∃ a vs, v = .ref a ∧ (SqL K H a vs ∨ SqT K H a vs) ∧ RDs K fa H (Mu ρ st) β ρ st.length ds vs := by
  by_cases ht : ∃ es, d = .tup es
  · obtain ⟨es, rfl⟩ := ht
    cases h
    obtain ⟨a, vs, e, q, r'⟩ := rd_tup r
    exact ⟨a, vs, e, .inr q, r'⟩
  · have h' : lv st d = some ds := by
      cases d with
      | tup es => exact absurd ⟨es, rfl⟩ ht
      | _ => exact h
    obtain ⟨a, vs, e, q, r'⟩ := rd_lv S r h'
    exact ⟨a, vs, e, .inl q, r'⟩
theorem szOk_le {n : Nat} (h : szOk n = true) : n ≤ sizeLine := by
  have h1 : n ≤ 16777216 := Nat.le_of_ble_eq_true h
  rw [sizeLine_eq]
  exact h1
theorem szLt_lt {n : Nat} (h : szLt n = true) : n < sizeLine := by
  have h1 : n < 16777216 := by simpa [szLt] using h
  rw [sizeLine_eq]
  exact h1
theorem str_len (s : List Nat) : (⟨s.toArray⟩ : Str).length = s.length := by simp [Str.length]
end

/-! ### two-place operators -/
def opOf : Op → Operator
  | .add => .Add | .sub => .Sub | .mul => .Mult | .fdiv => .FloorDiv | .mod => .Mod | .pow => .Pow | .shl => .LShift | .shr => .RShift | .band => .BitAnd | .bor => .BitOr | .bxor => .BitXor
def rBop (K : PySem.W.Frag) (fa : Nat → Addr) (o : Op) : R2 := fun x y H Q => ∃ β ρ st dx dy d, RS K fa β ρ st H ∧ RD K fa H (Mu ρ st) β ρ st.length dx x ∧ RD K fa H (Mu ρ st) β ρ st.length dy y ∧ bop st o dx dy = some d ∧ Post K fa β ρ st H d st Q
section
variable {X : Cx} {fa : Nat → Addr}
theorem small_ok {i j : Int} (h : (small i || small j) = true) : CMul i j := by
  rcases Bool.or_eq_true_iff.mp h with h | h
  · left
    simp only [small, Bool.and_eq_true, decide_eq_true_eq] at h
    exact h
  · right
    simp only [small, Bool.and_eq_true, decide_eq_true_eq] at h
    exact h
theorem op_iop (o : Op) : OpR X (binaryOp (opOf o)) (fun x y H Q => ∃ i j k, x = .int i ∧ y = .int j ∧ iop o i j = some k ∧ Q (.int k) H) := by
  intro pins s σ H x y v u Q I rx ry h
  obtain ⟨i, j, k, rfl, rfl, hk, q⟩ := h
  cases o with
  | add => cases hk; exact op_add pins s σ H _ _ v u Q I rx ry ⟨i, j, rfl, rfl, q⟩
  | sub => cases hk; exact op_sub pins s σ H _ _ v u Q I rx ry ⟨i, j, rfl, rfl, q⟩
  | mul =>
    simp only [iop] at hk
    split at hk
    · cases hk
      exact op_mul pins s σ H _ _ v u Q I rx ry ⟨i, j, rfl, rfl, small_ok (by assumption), q⟩
    · cases hk
  | fdiv =>
    simp only [iop] at hk
    split at hk
    · rename_i c
      simp only [Bool.and_eq_true, decide_eq_true_eq] at c
      cases hk
      exact op_fdiv pins s σ H _ _ v u Q I rx ry ⟨i, j, rfl, rfl, c, q⟩
    · cases hk
  | mod =>
    simp only [iop] at hk
    split at hk
    · cases hk
      exact op_mod pins s σ H _ _ v u Q I rx ry ⟨i, j, rfl, rfl, by assumption, q⟩
    · cases hk
  | pow =>
    simp only [iop] at hk
    split at hk
    · rename_i c
      simp only [Bool.and_eq_true, decide_eq_true_eq] at c
      cases hk
      exact op_pow pins s σ H _ _ v u Q I rx ry ⟨i, j, rfl, rfl, c, q⟩
    · cases hk
  | shl =>
    simp only [iop] at hk
    split at hk
    · rename_i c
      simp only [Bool.and_eq_true, decide_eq_true_eq] at c
      cases hk
      exact op_shl pins s σ H _ _ v u Q I rx ry ⟨i, j, rfl, rfl, c, q⟩
    · cases hk
  | shr =>
    simp only [iop] at hk
    split at hk
    · cases hk
      exact op_shr pins s σ H _ _ v u Q I rx ry ⟨i, j, rfl, rfl, by assumption, q⟩
    · cases hk
  | band => cases hk; exact op_and pins s σ H _ _ v u Q I rx ry ⟨i, j, rfl, rfl, q⟩
  | bor => cases hk; exact op_or pins s σ H _ _ v u Q I rx ry ⟨i, j, rfl, rfl, q⟩
  | bxor => cases hk; exact op_xor pins s σ H _ _ v u Q I rx ry ⟨i, j, rfl, rfl, q⟩
theorem op_catD {a b : D} {xs ys : List D} {st : Sto} {β ρ : List Addr} {H : Hp} {x y : V} {Q : VK} {pins : List (Addr × PySem.Obj)} {s : Shared} {σ : L2.St} {v u : Value} (I : Inv X pins σ H s) (rx : RelV x v) (ry : RelV y u)
    (S : RS X.K fa β ρ st H) (ra : RD X.K fa H (Mu ρ st) β ρ st.length a x) (rb : RD X.K fa H (Mu ρ st) β ρ st.length b y) (ha : lv st a = some xs) (hb : lv st b = some ys) (na : ∀ ds, a ≠ .scr ds) (nb : ∀ ds, b ≠ .scr ds)
    (hz : szOk (xs.length + ys.length) = true) (q : Post X.K fa β ρ st H (.frz (xs ++ ys)) st Q) : wpAny (model X.prog X.w) X.A (binaryOp .Add v u) (EP X pins σ Q) X.xe s := by
  obtain ⟨p1, vs, rfl, h1, r1⟩ := rd_lh S ra ha na
  obtain ⟨p2, ws, rfl, h2, r2⟩ := rd_lh S rb hb nb
  exact op_cat pins s σ H _ _ v u Q I rx ry ⟨p1, p2, vs, ws, rfl, rfl, h1, h2, by rw [← r1.length, ← r2.length]; exact szOk_le hz, fun p hp => q.frz S (r1.append r2) hp⟩
theorem op_repD {a d : D} {xs : List D} {k : Int} {st : Sto} {β ρ : List Addr} {H : Hp} {x y : V} {Q : VK} {pins : List (Addr × PySem.Obj)} {s : Shared} {σ : L2.St} {v u : Value} (I : Inv X pins σ H s) (rx : RelV x v) (ry : RelV y u)
    (S : RS X.K fa β ρ st H) (ra : RD X.K fa H (Mu ρ st) β ρ st.length a x) (rb : RD X.K fa H (Mu ρ st) β ρ st.length (.int k) y) (ha : lv st a = some xs) (na : ∀ ds, a ≠ .scr ds)
    (hd : rep xs k = some d) (q : Post X.K fa β ρ st H d st Q) : wpAny (model X.prog X.w) X.A (binaryOp .Mult v u) (EP X pins σ Q) X.xe s := by
  obtain ⟨p1, vs, rfl, h1, r1⟩ := rd_lh S ra ha na
  cases rb
  unfold rep at hd
  split at hd
  · rename_i c
    simp only [Bool.and_eq_true, decide_eq_true_eq] at c
    cases hd
    exact op_rep pins s σ H _ _ v u Q I rx ry ⟨p1, k, vs, rfl, rfl, h1, c.1, c.2.1, by rw [← r1.length]; exact szOk_le c.2.2, fun p hp => q.frz S (r1.rep _) hp⟩
  · cases hd
theorem op_bop (o : Op) : OpR X (binaryOp (opOf o)) (rBop X.K fa o) := by
  intro pins s σ H x y v u Q I rx ry h
  obtain ⟨β, ρ, st, dx, dy, d, S, ra, rb, hd, q⟩ := h
  unfold bop at hd
  split at hd
  · -- ints
    obtain ⟨k, hk, rfl⟩ := Option.map_eq_some_iff.mp hd
    cases ra
    cases rb
    exact op_iop o pins s σ H _ _ v u Q I rx ry ⟨_, _, k, rfl, rfl, hk, q.here S (.int k)⟩
  · -- texts
    split at hd
    · split at hd
      · rename_i c
        cases hd
        cases ra
        cases rb
        refine op_add_str pins s σ H _ _ v u Q I rx ry ⟨_, _, rfl, rfl, by rw [str_len, str_len]; exact szOk_le c, ?_⟩
        rename_i a b _
        have e2 : ((⟨a.toArray⟩ : Str) ++ (⟨b.toArray⟩ : Str)) = (⟨(a ++ b).toArray⟩ : Str) := by
          show Str.append _ _ = _
          simp [Str.append]
        rw [e2]
        exact q.here S (.str _)
      · cases hd
    · cases hd
  · -- tuples
    split at hd
    · split at hd
      · rename_i c
        cases hd
        obtain ⟨p1, vs, rfl, h1, r1⟩ := rd_tup ra
        obtain ⟨p2, ws, rfl, h2, r2⟩ := rd_tup rb
        refine op_catX pins s σ H _ _ v u Q I rx ry ⟨p1, p2, vs, ws, rfl, rfl, h1, h2, by rw [← r1.length, ← r2.length]; exact szOk_le c, fun e => ?_, fun _ e => ?_, fun _ _ p o hp ho => q.tup S (r1.append r2) hp ho⟩
        · subst e
          cases r1
          exact q.here S rb
        · subst e
          cases r2
          have z := q
          rw [List.append_nil] at z
          exact z.here S ra
      · cases hd
    · cases hd
  · split at hd
    · split at hd
      · cases hd
        exact op_catD I rx ry S ra rb rfl rfl (by intro ds z; cases z) (by intro ds z; cases z) (by assumption) q
      · cases hd
    · cases hd
  · split at hd
    · split at hd
      · cases hd
        exact op_catD I rx ry S ra rb rfl (by assumption) (by intro ds z; cases z) (by intro ds z; cases z) (by assumption) q
      · cases hd
    · cases hd
  · split at hd
    · split at hd
      · cases hd
        exact op_catD I rx ry S ra rb (by assumption) rfl (by intro ds z; cases z) (by intro ds z; cases z) (by assumption) q
      · cases hd
    · cases hd
  · split at hd
    · split at hd
      · cases hd
        exact op_catD I rx ry S ra rb (by assumption) (by assumption) (by intro ds z; cases z) (by intro ds z; cases z) (by assumption) q
      · cases hd
    · cases hd
  · split at hd
    · exact op_repD I rx ry S ra rb rfl (by intro ds z; cases z) hd q
    · cases hd
  · split at hd
    · exact op_repD I rx ry S ra rb (by assumption) (by intro ds z; cases z) hd q
    · cases hd
  · split at hd
    · unfold repT at hd
      split at hd
      · rename_i c
        simp only [Bool.and_eq_true, decide_eq_true_eq, Bool.not_eq_true', Nat.ble_eq] at c
        cases hd
        obtain ⟨p1, vs, rfl, h1, r1⟩ := rd_tup ra
        cases rb
        refine op_repX pins s σ H _ _ v u Q I rx ry ⟨p1, _, vs, rfl, rfl, h1, fun z => ?_, c.2.1, c.2.2.1, by rw [← r1.length]; exact c.2.2.2, fun p o hp ho => q.tup S (r1.rep _) hp ho⟩
        subst z
        cases r1
        exact absurd c.1 (by simp)
      · cases hd
    · cases hd
  · cases hd
end
end PL

set_option Elab.async false
set_option linter.all false
set_option maxRecDepth 100000
set_option maxHeartbeats 1000000
/-! Comparisons, isinstance. -/
namespace PL
open PySem PySem.Spec PyProof.Rows L2
variable [Tbl]
mutual
/-- as the library's data -/
def py : D → PyData
  | .non => .none
  | .bl b => .bool b
  | .int i => .int i
  | .str s => .str ⟨s.toArray⟩
  | .tup ds => .tuple (pys ds)
  | .frz ds => .list (pys ds)
  | .scr _ => .none
  | .lst _ => .none
  | .fn _ => .none
def pys : List D → List PyData
  | [] => []
  | d :: ds => py d :: pys ds
end
theorem pys_map : ∀ ds : List D, pys ds = ds.map py
  | [] => rfl
  | d :: ds => by rw [pys, pys_map ds, List.map_cons]
theorem dOk_tup {k : Nat} {ds : List D} (h : dOk (k + 1) (.tup ds) = true) : ∀ d ∈ ds, dOk k d = true := by
  simp only [dOk, List.all_eq_true] at h
  exact h
theorem dOk_frz {k : Nat} {ds : List D} (h : dOk (k + 1) (.frz ds) = true) : ∀ d ∈ ds, dOk k d = true := by
  simp only [dOk, List.all_eq_true] at h
  exact h
theorem str_eq {x y : List Nat} : ((⟨x.toArray⟩ : Str) == ⟨y.toArray⟩) = (x == y) := by
  rw [Bool.eq_iff_iff]
  simp
mutual
theorem dEq_py : ∀ (d : D) (k k' : Nat) (e : D), dOk k d = true → dOk k' e = true → dEq d e = PyData.eqv (py d) (py e)
  | .non, k, k', e, _, he => by
    cases e <;> first
      | rfl
      | (cases k' <;> simp [dOk] at he)
  | .bl b, k, k', e, _, he => by
    cases e <;> first
      | rfl
      | (cases k' <;> simp [dOk] at he)
  | .int i, k, k', e, _, he => by
    cases e <;> first
      | rfl
      | (cases k' <;> simp [dOk] at he)
  | .str s, k, k', e, _, he => by
    cases e <;> first
      | rfl
      | (cases k' <;> simp [dOk] at he; done)
      | (simp only [dEq, py, PyData.eqv]; exact str_eq.symm)
  | .tup ds, k, k', e, hd, he => by
    cases e with
    | tup es =>
      cases k with
      | zero => simp [dOk] at hd
      | succ k =>
        cases k' with
        | zero => simp [dOk] at he
        | succ k' =>
          simp only [dEq, py, PyData.eqv]
          exact dEqs_py ds k k' es (dOk_tup hd) (dOk_tup he)
    | scr _ => cases k' <;> simp [dOk] at he
    | lst _ => cases k' <;> simp [dOk] at he
    | fn _ => cases k' <;> simp [dOk] at he
    | _ => rfl
  | .frz ds, k, k', e, hd, he => by
    cases e with
    | frz es =>
      cases k with
      | zero => simp [dOk] at hd
      | succ k =>
        cases k' with
        | zero => simp [dOk] at he
        | succ k' =>
          simp only [dEq, py, PyData.eqv]
          exact dEqs_py ds k k' es (dOk_frz hd) (dOk_frz he)
    | scr _ => cases k' <;> simp [dOk] at he
    | lst _ => cases k' <;> simp [dOk] at he
    | fn _ => cases k' <;> simp [dOk] at he
    | _ => rfl
  | .scr _, k, _, _, hd, _ => by cases k <;> simp [dOk] at hd
  | .lst _, k, _, _, hd, _ => by cases k <;> simp [dOk] at hd
  | .fn _, k, _, _, hd, _ => by cases k <;> simp [dOk] at hd
theorem dEqs_py : ∀ (ds : List D) (k k' : Nat) (es : List D), (∀ d ∈ ds, dOk k d = true) → (∀ e ∈ es, dOk k' e = true) → dEqs ds es = PyData.eqvAll (pys ds) (pys es)
  | [], _, _, es, _, _ => by cases es <;> rfl
  | d :: ds, k, k', es, hd, he => by
    cases es with
    | nil => rfl
    | cons e es =>
      simp only [dEqs, pys, PyData.eqvAll]
      rw [dEq_py d k k' e (hd d List.mem_cons_self) (he e List.mem_cons_self), dEqs_py ds k k' es (fun x hx => hd x (List.mem_cons_of_mem _ hx)) (fun x hx => he x (List.mem_cons_of_mem _ hx))]
end
mutual
theorem py_ok : ∀ (d : D) (k : Nat), dOk k d = true → (py d).canLay0 = true ∧ (py d).depth ≤ k
  | .non, k, _ => ⟨by simp [py, PyData.canLay0], by simp [py, PyData.depth]⟩
  | .bl b, k, _ => ⟨by simp [py, PyData.canLay0], by simp [py, PyData.depth]⟩
  | .int i, k, _ => ⟨by simp [py, PyData.canLay0], by simp [py, PyData.depth]⟩
  | .str s, k, h => by
    refine ⟨?_, by simp [py, PyData.depth]⟩
    have h2 : s.all (· < 0x110000) = true := by cases k <;> exact h
    simp only [py, PyData.canLay0, PyData.strOk]
    simpa using h2
  | .tup ds, k, h => by
    cases k with
    | zero => simp [dOk] at h
    | succ k =>
      have q := pys_ok ds k (dOk_tup h)
      simp only [py, PyData.canLay0, PyData.depth]
      exact ⟨q.1, by omega⟩
  | .frz ds, k, h => by
    cases k with
    | zero => simp [dOk] at h
    | succ k =>
      have q := pys_ok ds k (dOk_frz h)
      simp only [py, PyData.canLay0, PyData.depth]
      exact ⟨q.1, by omega⟩
  | .scr _, k, hd => by cases k <;> simp [dOk] at hd
  | .lst _, k, hd => by cases k <;> simp [dOk] at hd
  | .fn _, k, hd => by cases k <;> simp [dOk] at hd
theorem pys_ok : ∀ (ds : List D) (k : Nat), (∀ d ∈ ds, dOk k d = true) → PyData.canLayAll0 (pys ds) = true ∧ PyData.depthAll (pys ds) ≤ k
  | [], k, _ => ⟨by simp [pys, PyData.canLayAll0], by simp [pys, PyData.depthAll]⟩
  | d :: ds, k, h => by
    have q1 := py_ok d k (h d List.mem_cons_self)
    have q2 := pys_ok ds k fun x hx => h x (List.mem_cons_of_mem _ hx)
    simp only [pys, PyData.canLayAll0, PyData.depthAll]
    refine ⟨by rw [q1.1, q2.1]; rfl, by omega⟩
end

section
variable {K : PySem.W.Frag} {fa : Nat → Addr} {H : Hp} {m : Addr → Prop} {β ρ : List Addr} {n : Nat}
mutual
theorem rd_dp : ∀ {d : D} {v : V} (k : Nat), RD K fa H m β ρ n d v → dOk k d = true → Dp K H v (py d)
  | _, _, _, .non, _ => .non
  | _, _, _, .bl b, _ => .bl b
  | _, _, _, .int i, _ => .int i
  | _, _, _, .str s, _ => .str _
  | _, _, 0, .tupH _ _ _ _, h => by simp [dOk] at h
  | _, _, k + 1, .tupH h1 _ _ h4, h => .tup h1.sq (rds_dp k h4 (dOk_tup h))
  | _, _, 0, .tupK _ _, h => by simp [dOk] at h
  | _, _, k + 1, .tupK h1 h4, h => .tup h1.sq (rds_dp k h4 (dOk_tup h))
  | _, _, 0, .frz _ _ _ _, h => by simp [dOk] at h
  | _, _, k + 1, .frz h1 _ _ h4, h => .lst (.inl (.inl h1)) (rds_dp k h4 (dOk_frz h))
  | _, _, k, .scrH _ _ _ _, h => by cases k <;> simp [dOk] at h
  | _, _, k, .scrK _ _, h => by cases k <;> simp [dOk] at h
  | _, _, k, .lst _ _, h => by cases k <;> simp [dOk] at h
  | _, _, k, .fn _, h => by cases k <;> simp [dOk] at h
theorem rds_dp : ∀ {ds : List D} {vs : List V} (k : Nat), RDs K fa H m β ρ n ds vs → (∀ d ∈ ds, dOk k d = true) → DpAll K H vs (pys ds)
  | _, _, _, .nil, _ => .nil
  | _, _, k, .cons h t, q => .cons (rd_dp k h (q _ List.mem_cons_self)) (rds_dp k t fun x hx => q x (List.mem_cons_of_mem _ hx))
end
end
theorem shaped_py {d : D} {k : Nat} (h : dOk k d = true) (hk : k ≤ 64) : SeqAt.shaped (py d) = true := by
  obtain ⟨h1, h2⟩ := py_ok d k h
  unfold SeqAt.shaped
  rw [h1, decide_eq_true (Nat.le_trans h2 hk)]
  rfl
section
variable {K : PySem.W.Frag} {fa : Nat → Addr} {H : Hp} {β ρ : List Addr} {st : Sto} {d : D} {v : V}
theorem top_dp (S : RS K fa β ρ st H) (r : RD K fa H (Mu ρ st) β ρ st.length d v) {k : Nat} (h : dOk k (top st d) = true) : Dp K H v (py (top st d)) := by
  by_cases hl : ∃ i, d = .lst i
  · obtain ⟨i, rfl⟩ := hl
    cases e : lv st (.lst i) with
    | none =>
      have et : top st (.lst i) = .lst i := by
        show (match lv st (.lst i) with | some ds => D.frz ds | none => D.lst i) = _
        rw [e]
      rw [et] at h
      cases k <;> simp [dOk] at h
    | some ds =>
      have et : top st (.lst i) = .frz ds := by
        show (match lv st (.lst i) with | some ds => D.frz ds | none => D.lst i) = _
        rw [e]
      rw [et] at h ⊢
      obtain ⟨a, vs, rfl, h1, h2⟩ := rd_lh S r e (by intro ds z; cases z)
      cases k with
      | zero => simp [dOk] at h
      | succ k => exact .lst (.inl (.inl h1)) (rds_dp k h2 (dOk_frz h))
  · have et : top st d = d := by
      cases d with
      | lst i => exact absurd ⟨i, rfl⟩ hl
      | _ => rfl
    rw [et] at h ⊢
    exact rd_dp k r h
end
/-! ### the comparisons -/
def cmOf : Cm → CmpOp
  | .eq => .Eq | .ne => .NotEq | .lt => .Lt | .le => .LtE | .gt => .Gt | .ge => .GtE | .is => .Is | .isn => .IsNot | .mem => .In | .nmem => .NotIn
def rCop (K : PySem.W.Frag) (fa : Nat → Addr) (o : Cm) : R2 := fun x y H Q => ∃ β ρ st dx dy c, RS K fa β ρ st H ∧ RD K fa H (Mu ρ st) β ρ st.length dx x ∧ RD K fa H (Mu ρ st) β ρ st.length dy y ∧ cop st o dx dy = some c ∧ Q (.bl c) H
section
variable {X : Cx} {fa : Nat → Addr}
theorem rd_int {K : PySem.W.Frag} {fa : Nat → Addr} {H : Hp} {m : Addr → Prop} {β ρ : List Addr} {n : Nat} {i : Int} {v : V} (r : RD K fa H m β ρ n (.int i) v) : v = .int i := by
  cases r
  rfl
theorem lex_eq : ∀ a b : List Int, lexLt a b = HT.lexLt a b
  | [], [] => rfl
  | [], _ :: _ => rfl
  | _ :: _, [] => rfl
  | x :: xs, y :: ys => by
    rw [HT.lexLt_cons, lexLt, lex_eq xs ys]
/-- the items' answers where they are data -/
theorem ans_at {H : Hp} {d : D} {ds : List D} {x : V} {vs : List V} {m : Addr → Prop} {β ρ : List Addr} {n : Nat} {pins : List (Addr × PySem.Obj)} {s : Shared} {σ : L2.St} {v : Value} {its : List Value} (hu : X.A.units + 65 < cLine)
    (I : Inv X pins σ H s) (rx : RelV x v) (hd : Dp X.K H x (py d)) (ok : dOk 40 d = true) (hr : RDs X.K fa H m β ρ n ds vs) (rv : Vals vs its) (oks : ∀ e ∈ ds, dOk 40 e = true) :
    ∃ f : Value → Bool, (∀ u, u ∈ its.toArray → SeqAt.EqAt X.A.in1 s u v (f u)) ∧ its.toArray.any f = ds.any fun e => dEq e d := by
  have da := rds_dp 40 hr oks
  obtain ⟨as, hra⟩ := Dp.readsAll I _ _ _ da rv
  obtain ⟨bs, hrd⟩ := Dp.reads I _ _ _ hd rx
  have hl := (pys_ok ds 40 oks)
  have hl2 := py_ok d 40 ok
  refine ⟨fun u => PyData.eqv (SeqAt.readOf s.heap u) (py d), SeqAt.items_eqAt (vs := its.toArray) (show ReadsAll s.heap its.toArray.toList (pys ds) as from hra) hrd hl.1 hl2.1 ?_, ?_⟩
  · show X.A.units + 1 + min (PyData.depthAll (pys ds)) (py d).depth < cLine
    omega
  · have hmap : its.map (SeqAt.readOf s.heap) = pys ds := SeqAt.readsAll_map _ its as hl.1 hra
    have e1 : its.toArray.any (fun u => PyData.eqv (SeqAt.readOf s.heap u) (py d)) = (its.map (SeqAt.readOf s.heap)).any fun z => PyData.eqv z (py d) := by
      rw [List.any_map, List.any_toArray]
      rfl
    rw [e1, hmap, pys_map, List.any_map]
    have key : ∀ (es : List D), (∀ e ∈ es, dOk 40 e = true) → es.any ((fun z => PyData.eqv z (py d)) ∘ py) = es.any fun e => dEq e d := by
      intro es
      induction es with
      | nil => intro _; rfl
      | cons e es ih =>
        intro h
        rw [List.any_cons, List.any_cons, ih (fun x hx => h x (List.mem_cons_of_mem _ hx)), dEq_py e 40 40 d (h e List.mem_cons_self) ok]
        rfl
    exact key ds oks
def ng (o : Cm) (c : Bool) : Bool := match o with
  | .isn => !c
  | .nmem => !c
  | _ => c
theorem cis_ok {o : Cm} (ho : o = .is ∨ o = .isn) {pins : List (Addr × PySem.Obj)} {s : Shared} {σ : L2.St} {H : Hp} {x y : V} {v u : Value} {Q : VK} {m : Addr → Prop} {β ρ : List Addr} {n : Nat} {dx dy : D} {c : Bool} (I : Inv X pins σ H s) (rx : RelV x v) (ry : RelV y u)
    (ra : RD X.K fa H m β ρ n dx x) (rb : RD X.K fa H m β ρ n dy y) (h : cis dx dy = some c) (q : Q (.bl (ng o c)) H) : wpAny (model X.prog X.w) X.A (compareOp (cmOf o) v u) (EP X pins σ Q) X.xe s := by
  have hn : decide (x = V.non) = isNon dx := by cases ra <;> rfl
  cases rb with
  | non =>
    rcases ho with rfl | rfl
    · have e : isNon dx = c := Option.some.inj h
      exact op_isN pins s σ H _ _ v u Q I rx ry ⟨rfl, by rw [hn, e]; exact q⟩
    · have e : isNon dx = c := Option.some.inj h
      exact op_notN pins s σ H _ _ v u Q I rx ry ⟨rfl, by rw [hn, e]; exact q⟩
  | bl b =>
    cases ra with
    | bl a =>
      rcases ho with rfl | rfl
      · have e : (a == b) = c := Option.some.inj h
        exact op_isBl pins s σ H _ _ v u Q I rx ry ⟨a, b, rfl, rfl, by rw [← Bool.beq_eq_decide_eq, e]; exact q⟩
      · have e : (a == b) = c := Option.some.inj h
        exact op_notBl pins s σ H _ _ v u Q I rx ry ⟨a, b, rfl, rfl, by rw [← Bool.beq_eq_decide_eq, e]; exact q⟩
    | _ => rcases ho with rfl | rfl <;> cases h
  | _ => rcases ho with rfl | rfl <;> cases h
theorem cin_ok {o : Cm} (ho : o = .mem ∨ o = .nmem) (hu : X.A.units + 65 < cLine) {pins : List (Addr × PySem.Obj)} {s : Shared} {σ : L2.St} {H : Hp} {x y : V} {v u : Value} {Q : VK} {β ρ : List Addr} {st : Sto} {dx dy : D} {c : Bool} (I : Inv X pins σ H s) (rx : RelV x v) (ry : RelV y u)
    (S : RS X.K fa β ρ st H) (ra : RD X.K fa H (Mu ρ st) β ρ st.length dx x) (rb : RD X.K fa H (Mu ρ st) β ρ st.length dy y) (he : cin st dx dy = some c) (q : Q (.bl (ng o c)) H) :
    wpAny (model X.prog X.w) X.A (compareOp (cmOf o) v u) (EP X pins σ Q) X.xe s := by
  unfold cin at he
  split at he
  · -- a text
    split at he
    · cases he
      cases ra
      cases rb
      rcases ho with rfl | rfl
      · exact op_in_sign pins s σ H _ _ v u Q I rx ry ⟨_, _, rfl, rfl, q⟩
      · exact op_notIn_sign pins s σ H _ _ v u Q I rx ry ⟨_, _, rfl, rfl, q⟩
    · cases he
  · -- a list, a tuple
    split at he
    · rename_i ds hs
      split at he
      · rename_i ok
        rw [Bool.and_eq_true, List.all_eq_true] at ok
        cases he
        have hd := top_dp S ra ok.1
        obtain ⟨a, vs, rfl, hq, hr⟩ := rd_sv S rb hs
        cases ry
        rcases hq with hq | hq
        · obtain ⟨its, rv, pl, hz⟩ := I.list hq
          obtain ⟨f, hf, e⟩ := ans_at hu I rx hd ok.1 hr rv ok.2
          rcases ho with rfl | rfl
          · refine SeqAt.in_listAt f pl.isList hf ⟨.bl _, H, I, rfl, ?_⟩
            rw [e]
            exact q
          · refine SeqAt.notIn_listAt f pl.isList hf ⟨.bl _, H, I, rfl, ?_⟩
            rw [e]
            exact q
        · obtain ⟨its, rv, pl, hz⟩ := I.tuple hq
          obtain ⟨f, hf, e⟩ := ans_at hu I rx hd ok.1 hr rv ok.2
          rcases ho with rfl | rfl
          · refine SeqAt.in_tupleAt f pl hf ⟨.bl _, H, I, rfl, ?_⟩
            rw [e]
            exact q
          · refine SeqAt.notIn_tupleAt f pl hf ⟨.bl _, H, I, rfl, ?_⟩
            rw [e]
            exact q
      · cases he
    · cases he
theorem op_cop (o : Cm) (hu : X.A.units + 65 < cLine) : OpR X (compareOp (cmOf o)) (rCop X.K fa o) := by
  intro pins s σ H x y v u Q I rx ry h
  obtain ⟨β, ρ, st, dx, dy, c, S, ra, rb, hc, q⟩ := h
  cases o with
  | eq =>
    simp only [cop] at hc
    split at hc
    · rename_i ok
      rw [Bool.and_eq_true] at ok
      cases hc
      refine op_eqD (by omega) pins s σ H x y v u Q I rx ry ⟨_, _, top_dp S ra ok.1, top_dp S rb ok.2, shaped_py ok.1 (by decide), shaped_py ok.2 (by decide), ?_⟩
      rw [← dEq_py _ 40 40 _ ok.1 ok.2]
      exact q
    · cases hc
  | ne =>
    simp only [cop] at hc
    split at hc
    · rename_i ok
      rw [Bool.and_eq_true] at ok
      cases hc
      refine op_neD (by omega) pins s σ H x y v u Q I rx ry ⟨_, _, top_dp S ra ok.1, top_dp S rb ok.2, shaped_py ok.1 (by decide), shaped_py ok.2 (by decide), ?_⟩
      rw [← dEq_py _ 40 40 _ ok.1 ok.2]
      exact q
    · cases hc
  | lt =>
    simp only [cop] at hc
    unfold clt at hc
    split at hc
    · cases hc
      cases ra
      cases rb
      exact op_lt pins s σ H _ _ v u Q I rx ry ⟨_, _, rfl, rfl, q⟩
    · cases hc
      cases ra
      cases rb
      exact op_lt_str pins s σ H _ _ v u Q I rx ry ⟨_, _, rfl, rfl, q⟩
    · split at hc
      · rename_i a' b' e1 e2
        cases hc
        obtain ⟨p1, vs, rfl, h1, r1⟩ := rd_tup ra
        obtain ⟨p2, ws, rfl, h2, r2⟩ := rd_tup rb
        have w1 := r1.ints e1
        have w2 := r2.ints e2
        subst w1 w2
        exact op_ltT (by omega) pins s σ H _ _ v u Q I rx ry ⟨p1, p2, _, _, rfl, rfl, h1, h2, by rw [← lex_eq]; exact q⟩
      · cases hc
    · cases hc
  | gt =>
    simp only [cop] at hc
    split at hc
    · cases hc
      cases ra
      cases rb
      exact op_gt pins s σ H _ _ v u Q I rx ry ⟨_, _, rfl, rfl, q⟩
    · cases hc
  | le =>
    simp only [cop] at hc
    split at hc
    · cases hc
      cases ra
      cases rb
      exact op_le pins s σ H _ _ v u Q I rx ry ⟨_, _, rfl, rfl, q⟩
    · cases hc
  | ge =>
    simp only [cop] at hc
    split at hc
    · cases hc
      cases ra
      cases rb
      exact op_ge pins s σ H _ _ v u Q I rx ry ⟨_, _, rfl, rfl, q⟩
    · cases hc
  | is => exact cis_ok (.inl rfl) I rx ry ra rb hc q
  | isn =>
    obtain ⟨e, h1, rfl⟩ := Option.map_eq_some_iff.mp hc
    exact cis_ok (.inr rfl) I rx ry ra rb h1 q
  | mem => exact cin_ok (.inl rfl) hu I rx ry S ra rb hc q
  | nmem =>
    obtain ⟨e, h1, rfl⟩ := Option.map_eq_some_iff.mp hc
    exact cin_ok (.inr rfl) hu I rx ry S ra rb h1 q
/-! ### isinstance -/
def tyN : Ty → String
  | .int => "int" | .str => "str" | .bool => "bool" | .list => "list" | .tuple => "tuple"
theorem isi_ok {t : Ty} {pins : List (Addr × PySem.Obj)} {s : Shared} {σ : L2.St} {H : Hp} {x : V} {us : List Value} {Q : VK} {β ρ : List Addr} {st : Sto} {d : D} {c : Bool} (I : Inv X pins σ H s) (S : RS X.K fa β ρ st H)
    (ra : RD X.K fa H (Mu ρ st) β ρ st.length d x) (rv : Vals [x, .ty (tyN t)] us) (h : isInst t d = some c) (q : Q (.bl c) H) : wpAny (model X.prog X.w) X.A (PySem.call (.builtin "isinstance") us) (EP X pins σ Q) X.xe s := by
  have go : ∀ (T : String), TyX X.K H x (.type T) → kitB T (tyN t) = some c → wpAny (model X.prog X.w) X.A (PySem.call (.builtin "isinstance") us) (EP X pins σ Q) X.xe s := fun T hT hk =>
    call_isi pins s σ H _ us Q I rv ⟨x, _, _, _, c, rfl, .ty _, hT, kit_ty hk, q⟩
  cases ra with
  | non => cases t <;> cases h <;> exact go "NoneType" (.base .non) (by decide +kernel)
  | bl b => cases t <;> cases h <;> exact go "bool" (.base (.bl b)) (by decide +kernel)
  | int i => cases t <;> cases h <;> exact go "int" (.base (.int i)) (by decide +kernel)
  | str z => cases t <;> cases h <;> exact go "str" (.base (.str _)) (by decide +kernel)
  | tupH h1 _ _ _ =>
    obtain ⟨o, h1, _⟩ := h1
    cases t <;> cases h <;> exact go "tuple" (.fTuple h1) (by decide +kernel)
  | tupK h1 _ =>
    obtain ⟨o, its, n, ⟨h2, _⟩, h3, _⟩ := h1
    cases t <;> cases h <;> exact go "tuple" (.kTuple h2 h3) (by decide +kernel)
  | frz h1 _ _ _ => cases t <;> cases h <;> exact go "list" (.base (.lst h1)) (by decide +kernel)
  | scrH _ _ _ _ => cases h
  | scrK _ _ => cases h
  | lst h1 h2 =>
    obtain ⟨a, vs, e1, e2, e3⟩ := rs_at S (List.getElem?_eq_getElem h1)
    rw [h2] at e1
    cases e1
    cases t <;> cases h <;> exact go "list" (.base (.lst e2)) (by decide +kernel)
  | fn k => cases h
end
end PL

set_option Elab.async false
set_option linter.all false
set_option maxRecDepth 100000
set_option maxHeartbeats 2000000
/-! sorted of a tuple; a, *b = a list; a text split at a sign. -/
namespace PL
open PySem PySem.Spec PyProof.Rows L2
section
variable {X : Cx} {pos : Pos}
/-- the list that is sorted stands at a: what becomes of it -/
theorem sortedHeap_at {h : Heap} {a : Addr} {vs : List Value} {n : Nat} (ho : h.get? a = some (seqObj "list" vs.toArray n)) (out : Array Value) : ∃ e, (sortedHeap h a vs out).get? a = some (seqObj "list" out e) := by
  have ha : a < h.objs.size := Heap.lt_size ho
  obtain ⟨e1, ho1⟩ : ∃ e1, (h.update a (Obj.mapSeq fun _ => #[])).get? a = some (seqObj "list" #[] e1) := ⟨_, get?_update_seq ho (fun _ => #[])⟩
  have ho6 : (((h.update a (Obj.mapSeq fun _ => #[])).push (seqObj "tuple" vs.toArray 0)).push (seqObj "list" #[] 0)).get? a = some (seqObj "list" #[] e1) := by
    rw [Heap.get?_push_ne _ _ _ (by rw [size_push', Heap.size_update]; exact Nat.ne_of_lt (Nat.lt_succ_of_lt ha)), Heap.get?_push_ne _ _ _ (by rw [Heap.size_update]; exact Nat.ne_of_lt ha)]
    exact ho1
  exact ⟨_, get?_update_seq ho6 fun _ => out⟩
theorem sortedHeap_old {h : Heap} {a : Addr} {vs : List Value} {out : Array Value} {b : Addr} {o : PySem.Obj} (hb : b ≠ a) (e : h.get? b = some o) : (sortedHeap h a vs out).get? b = some o := by
  unfold sortedHeap
  rw [Heap.get?_update_other _ _ (Ne.symm hb)]
  exact Heap.get?_push_of_some _ (Heap.get?_push_of_some _ (by rw [Heap.get?_update_other _ _ (Ne.symm hb)]; exact e))
theorem collect_tup {prog : Program} {w : World} {A : Around} {E : Value → Shared → Prop} {s : Shared} {l : Addr} {o : PySem.Obj} {vs : Array Value} {n : Nat} {Q : List Value → Shared → Prop} (ho : s.heap.get? l = some o) (hc : o.cls = .type "tuple") (hd : o.data = .seq vs n)
    (h : Q vs.toList { s with heap := (s.heap.push (seqObj "list" #[] 0)).update s.heap.objs.size (Obj.mapSeq (· ++ vs)) }) (hsz : vs.size ≤ sizeLine) : wpAny (model prog w) A (collect (.ref l)) Q E s := by
  unfold collect
  refine wpAny_bind (wpAny_runValue (codeAny_builtin entry_proto_collect' ?_))
  show wpAny _ _ (do again (.builtin "list.__iadd__" ⟨[← newList [], .ref l], []⟩)) _ _ s
  refine wpAny_bind (wpAny_newList (wpAny_pure ⟨Code.quiet_builtin _ (by decide +kernel), codeAny_builtin entry_list_iadd' ?_⟩))
  show wpAny _ _ (Builtin.List.listExtendWith (.ref s.heap.objs.size) (.ref l) (.ref s.heap.objs.size)) _ _ { s with heap := s.heap.push (seqObj "list" #[] 0) }
  unfold Builtin.List.listExtendWith
  have ho' : (s.heap.push (seqObj "list" #[] 0)).get? l = some o := Heap.get?_push_of_some _ ho
  refine wpAny_bind (wpAny_typeOf (T := "tuple") ⟨o, ho', hc⟩ ?_)
  have ht : (Value.type "tuple" == Value.type "tuple") = true := by rfl
  rw [if_pos (by rw [ht]; simp)]
  refine wpAny_bind (listItems_at ho' hd ?_)
  refine wpAny_bind (listItems_at (xs := #[]) (n := 0) (Heap.get?_push_size _ rfl) rfl ?_)
  rw [if_neg (by simp)]
  refine wpAny_bind (listUpdate_at (xs := #[]) (n := 0) (Heap.get?_push_size _ rfl) rfl ?_ (Nat.zero_le _) (by show (#[] ++ vs).size ≤ sizeLine + 1; simp only [Array.size_append, List.size_toArray, List.length_nil]; omega))
  refine wpAny_pure ?_
  show wpAny (model prog w) A (do
      let o ← load s.heap.objs.size
      match o.data with
      | .seq xs _ => pure xs.toList
      | _ => unsupported "internal:collect") Q E { s with heap := (s.heap.push (seqObj "list" #[] 0)).update s.heap.objs.size (Obj.mapSeq (· ++ vs)) }
  refine wpAny_bind (wpAny_load (get?_update_seq (Heap.get?_push_size _ rfl) _) ?_)
  show wpAny _ _ (pure ((#[] : Array Value) ++ vs).toList) Q E _
  rw [show ((#[] : Array Value) ++ vs).toList = vs.toList by simp]
  exact wpAny_pure h
theorem cr_sortedTup (hc : X.calm = true) : CallR X (.builtin "sorted") (fun vs H Q => ∃ (a : Addr) (ns : List Int), vs = [V.ref a] ∧ SqT X.K H a (ns.map V.int) ∧ ns.length < 64 ∧
    ∀ (ns' : List Int) (p : Addr), ns'.Perm ns → ns'.Pairwise (· ≤ ·) → H p = none → Q (.ref p) (upd H p (.lst (ns'.map V.int)))) := by
  intro pins s σ H vs us Q I r h
  obtain ⟨a, ns, rfl, hs, h64, q⟩ := h
  obtain ⟨its, rv, ⟨o, ho, hcl, n, hd⟩, hz⟩ := I.tuple hs
  rw [Vals.ref1 r]
  have hi := rv.ints
  refine Calls.call_function_entry kind_sorted plain_sorted entry_sorted (args_sorted1 _) ?_
  unfold Builtin.«sorted»
  refine wpAny_bind (m := checkCount "sorted" 1 1 _) (wpAny_pure ?_)
  have hz2 : its.toArray.size ≤ sizeLine := by
    have := rv.length
    simp only [List.length_map] at this hz
    simp only [List.size_toArray]
    omega
  refine wpAny_bind (collect_tup ho hcl hd ?_ hz2)
  generalize hh' : (s.heap.push (seqObj "list" #[] 0)).update s.heap.objs.size (Obj.mapSeq (· ++ its.toArray)) = h'
  have hk2 : ∀ b u, s.heap.get? b = some u → h'.get? b = some u := fun b u e => by
    rw [← hh', Heap.get?_update_other _ _ (Nat.ne_of_gt (Heap.lt_size e))]
    exact Heap.get?_push_of_some _ e
  refine wpAny_bind (wpAny_newList ?_)
  have hoL : (h'.push (seqObj "list" its.toArray.toList.toArray 0)).get? h'.objs.size = some (seqObj "list" its.toArray.toList.toArray 0) := Heap.get?_push_size _ rfl
  have hge : s.heap.objs.size ≤ h'.objs.size := by
    rw [← hh', Heap.size_update, size_push']
    exact Nat.le_succ _
  show wpAny _ _ _ _ _ { s with heap := h'.push (seqObj "list" its.toArray.toList.toArray 0) }
  refine wpAny_bind (wpAny_holding (wpAny_call_entry slot_list_sort ⟨_, hoL, rfl⟩ entry_list_sort (list_sort_tree hoL (ns := ns) hi (by rw [hi.length]; exact h64) fun out ns' a1 a2 a3 => ⟨_, rfl, ?_⟩) (args_list_sort _)))
  obtain ⟨ep, he'⟩ := sortedHeap_at hoL out
  have hlen : (ns'.map V.int).length ≤ sizeLine := by rw [List.length_map, a2.length_eq]; exact small64 h64
  refine wpAny_pure ⟨_, rfl, ?_⟩
  exact ⟨.ref _, upd H h'.objs.size (.lst (ns'.map V.int)), I.laid (t' := s.toks) (fun b u e => sortedHeap_old (Nat.ne_of_lt (Heap.lt_size (hk2 b u e))) (Heap.get?_push_of_some _ (hk2 b u e))) hge ⟨hlen, out.toList, ep, vals_of_ints a1, he'⟩, rfl, q ns' _ a2 a3 (I.hok.fresh hge)⟩
section
variable {prog : Program} {w : World} {A : Around} {E : Value → Shared → Prop} {s : Shared} {I : Addr} {fp wr : List Addr} {G : Array GenState → Array GenState → Prop} {n : Nat} {P : Nat → Value → Prop} {St : Nat → Shared → Prop}
/-- what is left of a list's iterator, collected: the heap has grown -/
theorem collect_li {Q : List Value → Shared → Prop}
    (W : WalksS prog w A.in1 I fp wr G n P St) (hT : ∀ i s, St i s → s.TypeIs (.ref I) "list_iterator") (hst : St 0 s) (hfp : ∀ b ∈ fp, b < s.heap.objs.size) (hI : I ∈ fp)
    (hQ : ∀ s' acc, Moved wr G s s' → s.heap.objs.size < s'.heap.objs.size → ItemsOf P acc n → Q acc.toList s') (hn : n ≤ sizeLine) : wpAny (model prog w) A (collect (.ref I)) Q E s := by
  have hSf : s.heap.objs.size ∉ fp := fun hm => Nat.lt_irrefl _ (hfp _ hm)
  have hSI : s.heap.objs.size ≠ I := fun e => hSf (e ▸ hI)
  unfold collect
  refine wpAny_bind (wpAny_runValue (codeAny_builtin F.entry_proto_collect ?_))
  rw [Around.under_plainId F.plain_proto_collect _]
  show wpAny _ A.in1 (newList [] >>= fun l => again (.builtin "list.__iadd__" ⟨[l, .ref I], []⟩)) _ _ s
  refine wpAny_bind (wpAny_newObj_type ?_)
  refine wpAny_pure ⟨plainId_quiet F.plain_list_iadd _, codeAny_builtin F.entry_list_iadd ?_⟩
  rw [Around.under_plainId F.plain_list_iadd _]
  have hst₁ := W.frame 0 s (s.heap.push { cls := .type "list", data := .seq ([] : List Value).toArray }) s.toks hst (Nat.le_refl _) fun b _ o e => Heap.get?_push_of_some _ e
  have hS₁ : (s.heap.push { cls := .type "list", data := .seq ([] : List Value).toArray }).get? s.heap.objs.size = some { cls := .type "list", data := .seq ([] : List Value).toArray } := Heap.get?_push_size _ rfl
  have h1 : Builtin.List.listSameRef (.ref s.heap.objs.size) (.ref I) = false := by simp [Builtin.List.listSameRef, hSI]
  show wpAny _ A.in1 (Builtin.List.listExtendWith (.ref s.heap.objs.size) (.ref I) (.ref s.heap.objs.size)) _ _ _
  unfold Builtin.List.listExtendWith
  refine wpAny_bind (wpAny_typeOf (hT 0 _ hst₁) ?_)
  rw [if_neg (by rw [h1]; decide)]
  refine wpAny_bind (W.self 0 _ _ _ hst₁ ?_)
  refine wpAny_bind (wpAny_holding ?_)
  unfold Builtin.List.listLengthHint
  refine wpAny_bind (wpAny_specialOf (hT 0 _ hst₁) F.nolen_li ?_)
  show wpAny _ A.in1 (specialOf (Value.ref I) (Str.ofString "__length_hint__") >>= _) _ _ _
  refine wpAny_bind (wpAny_specialOf (hT 0 _ hst₁) F.hint_li ?_)
  (generalize hid : ("list_iterator.__length_hint__" : String) = id0; (fail_if_success (clear hid id0)); wp_delta; rw [show splitId id0 = some ("list_iterator", "__length_hint__") from by subst hid; decide +kernel]; subst hid)
  refine wpAny_bind (wpAny_isInstance (b := true) (hT 0 _ hst₁) (by rw [isSubtype_type]; kernel_rfl) ?_)
  refine wpAny_pure ?_
  rw [if_neg (by decide)]
  refine wpAny_pure ⟨plainId_quiet F.plain_extend_loop _, codeAny_extend_loopS W hn _ hSf _ n 0 _ _ _ rfl (Nat.zero_le _) hst₁ hS₁ (ItemsOf.nil P) fun s' acc' c' hm hS' hacc => ?_⟩
  show wpAny _ A (load s.heap.objs.size >>= _) _ _ s'
  refine wpAny_bind (wpAny_load hS' ?_)
  exact wpAny_pure (hQ s' acc' (Moved.drop_new (o := { cls := .type "list", data := .seq ([] : List Value).toArray }) (tk := s.toks) hm (Nat.le_refl _)) (Heap.lt_size hS') hacc)
end
theorem collect_liK {prog : Program} {w : World} {A : Around} {E : Value → Shared → Prop} {s : Shared} {I ax : Addr} {items : Array Value} {k : Nat} {St : Nat → Heap → Prop} {Q : List Value → Shared → Prop}
    (W : Walks prog w A.in1 I [I, ax] [I] items.size (fun i v => items[i]? = some v) St)
    (hT : ∀ i (u : Shared), St i u.heap → u.TypeIs (.ref I) "list_iterator") (hk : k ≤ items.size) (hst : St k s.heap) (hI : I < s.heap.objs.size) (hax : ax < s.heap.objs.size)
    (hQ : ∀ h' tk, (∀ b o, b ≠ I → s.heap.get? b = some o → h'.get? b = some o) → s.heap.objs.size < h'.objs.size → Q (items.toList.drop k) { s with heap := h', toks := tk }) (hsz : items.size ≤ sizeLine) : wpAny (model prog w) A (collect (.ref I)) Q E s := by
  refine collect_li (PySem.W.kun_shift W hk).toS (fun i u st => hT (k + i) u st) (show St (k + 0) s.heap from hst) (fun b hb => ?_) (List.mem_cons_self ..) (fun s' acc hm hz ha => ?_) (by omega)
  · rcases List.mem_cons.mp hb with rfl | hb
    · exact hI
    · rw [List.mem_singleton.mp hb]; exact hax
  · obtain ⟨h', g', d', t', o'⟩ := s'
    obtain ⟨m1, m2, m3, m4, _⟩ := hm
    have m2 : g' = s.gens := m2
    have m3 : d' = s.drawn := m3
    have m4 : o' = s.os := m4
    subst m2 m3 m4
    rw [PySem.W.kun_acc hk ha]
    exact hQ h' t' (fun b o hb e => m1 b o (by simpa using hb) e) hz
/-- a, *b = a list -/
def gStar (K : PySem.W.Frag) (t : TGs) : TG := fun v σ H Q => ∃ a x xs, v = .ref a ∧ SqL K H a (x :: xs) ∧ xs.length < 16384 ∧ ∀ p, H p = none → t [x, .ref p] σ (upd H p (.lst xs)) Q
theorem pg_star {e1 e2 : Expr} {k : Nat} {p2 : Pos} {t : TGs} (hc : X.calm = true) (h : PGs X [e1, e2] t) (hs1 : assignEach [e1, .Starred e2 p2] X.env = (false, PySem.assign e1 X.env) :: assignEach [.Starred e2 p2] X.env) (hs2 : assignEach [e1, e2] X.env = (false, PySem.assign e1 X.env) :: (false, PySem.assign e2 X.env) :: []) :
    PG X (.Tuple [e1, .Starred e2 p2] k pos) (gStar X.K t) := by
  refine ⟨fun pins s σ H v u Q I r hw => ?_⟩
  obtain ⟨a, x, xs, ev, hq, hl, hw⟩ := hw
  subst ev
  cases r
  obtain ⟨its, rv, pl, hz⟩ := I.list hq
  have e2' : assignEach [.Starred e2 p2] X.env = (true, PySem.assign e2 X.env) :: [] := rfl
  have hh := I.ok.hd hc
  rw [PyProof.Rows.assign_Tuple]
  refine wpAny_bind (wpAny_standAt ?_)
  unfold unpack
  rw [hs1, e2']
  show wpAny _ _ (do assignInOrder [PySem.assign e1 X.env, PySem.assign e2 X.env] (← holding [.ref a] (unpackItems (.ref a) 2 (some 1)))) _ _ _
  have il : s.heap.IsList a its.toArray := pl.isList
  cases rv with
  | @cons _ v1 _ vs1 r1 r2 =>
  have hlt : a ≠ s.heap.objs.size := by obtain ⟨o, ho, _⟩ := il; exact Nat.ne_of_lt (Heap.lt_size ho)
  refine wpAny_bind (wpAny_holding ?_)
  unfold unpackItems
  refine wpAny_bind ?_
  unfold notIterableAtAll
  refine wpAny_bind (wpAny_specialOf il.typeIs slot_list_iter.lookup ?_)
  refine wpAny_pure ?_
  simp only [Bool.false_eq_true, if_false]
  refine wpAny_bind (wpAny_holding (wpAny_pyIter_list il ?_))
  have hn0 : (v1 :: vs1).toArray.size = vs1.length + 1 := by simp
  have hvl : xs.length = vs1.length := r2.length
  refine wpAny_bind (wpAny_holding (PySem.W.kun_draw hlt 1 0 _ _ ⟨_, Heap.get?_push_size _ rfl, rfl, rfl⟩ (il.push _) (by omega) fun h₁ hit₁ hs₁ => ?_))
  have hl₁ : h₁.IsList a (v1 :: vs1).toArray := (il.push _).extBut hs₁.extBut hlt
  rw [Nat.zero_add] at hit₁
  obtain ⟨oi, hoi, _⟩ := id hit₁
  obtain ⟨ol, hol, _⟩ := id hl₁
  rw [List.drop_zero]
  show wpAny _ _ (if ([v1] : List Value).length < 1 then _ else _) _ _ _
  rw [if_neg (by simp)]
  refine wpAny_bind (wpAny_holding (collect_liK (s := { s with heap := h₁ }) (Walks.list (A := X.A.in1) hh s.heap.objs.size a hlt _) (fun j u st => st.1.typeIs) (k := 1) (by omega) ⟨hit₁, hl₁⟩ (Heap.lt_size hoi) (Heap.lt_size hol) (fun h₂ tk hk hz2 => ?_) (by rw [sizeLine_eq]; omega)))
  show wpAny _ _ (if vs1.length < 0 then _ else _) _ _ _
  rw [if_neg (by omega)]
  show wpAny _ _ (newList (vs1.take (vs1.length - 0)) >>= fun d => pure ([v1] ++ [d] ++ vs1.drop (vs1.length - 0))) _ _ _
  rw [Nat.sub_zero, List.take_length, List.drop_length]
  refine wpAny_bind (wpAny_newList (wpAny_pure ?_))
  have he : ∀ b o, s.heap.get? b = some o → h₂.get? b = some o := fun b o e => hk b o (Nat.ne_of_lt (Heap.lt_size e)) (hs₁.extBut b o (Nat.ne_of_lt (Heap.lt_size e)) (Heap.get?_push_of_some _ e))
  have hge : s.heap.objs.size ≤ h₂.objs.size := by
    have z1 : h₁.objs.size < h₂.objs.size := hz2
    have z2 : s.heap.objs.size < h₁.objs.size := Heap.lt_size hoi
    exact Nat.le_of_lt (Nat.lt_trans z2 z1)
  have hlen : xs.length ≤ sizeLine := by rw [sizeLine_eq]; omega
  have J : Inv X pins σ (upd H h₂.objs.size (.lst xs)) { s with heap := h₂.push { cls := .type "list", data := .seq vs1.toArray }, toks := tk } := I.laid (t' := tk) (fun b u e => Heap.get?_push_of_some _ (he b u e)) hge ⟨hlen, vs1, 0, r2, Heap.get?_push_size _ rfl⟩
  have A := h.run pins _ σ _ [x, .ref h₂.objs.size] [v1, .ref h₂.objs.size] Q J (.cons r1 (.cons rfl .nil)) (hw _ (I.hok.fresh hge))
  rw [hs2] at A
  exact A
end
end PL

set_option Elab.async false
set_option linter.all false
set_option maxRecDepth 100000
set_option maxHeartbeats 1000000
/-! Built-in functions and methods. -/
namespace PL
open PySem PySem.Spec PyProof.Rows L2
variable [Tbl]
section
variable {X : Cx} {fa : Nat → Addr}
/-! ### sum of a tuple -/
theorem preSum_take (ns : List Int) : ∀ n, preSum (fun i => ns.getD i 0) n = (ns.take n).sum
  | 0 => by simp [preSum]
  | n + 1 => by
    have e : preSum (fun i => ns.getD i 0) (n + 1) = preSum (fun i => ns.getD i 0) n + ns.getD n 0 := rfl
    rw [e, preSum_take ns n]
    by_cases h : n < ns.length
    · rw [List.take_succ_eq_append_getElem h, List.sum_append]
      simp [List.getD_eq_getElem?_getD, List.getElem?_eq_getElem h]
    · rw [List.take_of_length_le (by omega), List.take_of_length_le (by omega)]
      simp [List.getD_eq_getElem?_getD, List.getElem?_eq_none (show ns.length ≤ n by omega)]
theorem ints_at : ∀ {us : List Value} {ns : List Int} {i : Nat} {v : Value}, IntsAre us ns → us[i]? = some v → ∃ t, v = .int (ns.getD i 0) t
  | _, _, _, _, .nil, h => by simp at h
  | _, _, 0, v, .cons a t _, h => by
    simp at h
    exact ⟨_, by rw [← h]; rfl⟩
  | _, _, i + 1, v, .cons a t r, h => by
    obtain ⟨u, e⟩ := ints_at (i := i) (v := v) r (by simpa using h)
    exact ⟨u, by rw [e]; rfl⟩
theorem cr_sumT (hc : X.calm = true) : CallR X (.builtin "sum") (fun vs H Q => ∃ (a : Addr) (ns : List Int), vs = [V.ref a] ∧ SqT X.K H a (ns.map V.int) ∧ Q (.int ns.sum) H) := by
  intro pins s σ H vs us Q I r h
  obtain ⟨a, ns, rfl, hs, q⟩ := h
  obtain ⟨its, rv, ht, _⟩ := I.tuple hs
  rw [Vals.ref1 r]
  have hi := rv.ints
  have hT : s.heap.IsTuple a its.toArray := ht
  have hlt : a < s.heap.objs.size := ht.lt
  refine call_sum_walkG (wpAny_pyIter_tuple hT ?_)
  have I1 : Inv X pins σ H { s with heap := s.heap.push { cls := .type "tuple_iterator", data := .fields #[.ref a, .int 0 0] } } := I.kept (t' := s.toks) fun b o e => Heap.get?_push_of_some _ e
  refine ⟨_, _, _, _, _, _, fun i => ns.getD i 0, rfl, Walks.tuple (A := X.A.in1) (I.ok.hd hc) s.heap.objs.size a (Nat.ne_of_lt hlt) its.toArray, ⟨⟨_, Heap.get?_push_size _ rfl, rfl, rfl⟩, ?_⟩, fun b hb => ?_, fun i v hv => ints_at hi (by simpa using hv), fun h' tk t' hk => ?_⟩
  · obtain ⟨o, e, r⟩ := hT
    exact ⟨o, Heap.get?_push_of_some _ e, r⟩
  · rw [Heap.size_push]
    rcases List.mem_cons.mp hb with e | hb
    · rw [e]; exact Nat.lt_succ_self _
    · rcases List.mem_cons.mp hb with e | hb
      · rw [e]; exact Nat.lt_succ_of_lt hlt
      · cases hb
  · have e : preSum (fun i => ns.getD i 0) its.toArray.size = ns.sum := by
      rw [preSum_take, List.size_toArray, hi.length, List.take_length]
    rw [e]
    refine ⟨.int ns.sum, H, I.kept (h' := h') (t' := tk) fun b o eo => hk b o (fun hm => ?_) (Heap.get?_push_of_some _ eo), ⟨_, rfl⟩, q⟩
    rcases List.mem_cons.mp hm with e1 | hm
    · rw [e1] at eo
      exact absurd (Heap.lt_size eo) (Nat.lt_irrefl _)
    · cases hm
theorem maxI_mem : ∀ (xs : List Int) (x : Int), xs.foldl (fun a b => if a < b then b else a) x ∈ x :: xs ∧ ∀ y ∈ x :: xs, y ≤ xs.foldl (fun a b => if a < b then b else a) x
  | [], x => ⟨by simp, by simp⟩
  | b :: xs, x => by
    obtain ⟨h1, h2⟩ := maxI_mem xs (if x < b then b else x)
    rw [List.foldl_cons]
    refine ⟨?_, fun y hy => ?_⟩
    · rcases List.mem_cons.mp h1 with e | h
      · rw [e]
        split <;> simp
      · simp [h]
    · have h0 := h2 _ (List.mem_cons_self ..)
      generalize hG : List.foldl _ _ xs = G at h0 h2 ⊢
      rcases List.mem_cons.mp hy with rfl | hy
      · split at h0 <;> omega
      · rcases List.mem_cons.mp hy with rfl | hy
        · split at h0 <;> omega
        · exact h2 y (List.mem_cons_of_mem _ hy)
theorem minI_mem : ∀ (xs : List Int) (x : Int), xs.foldl (fun a b => if b < a then b else a) x ∈ x :: xs ∧ ∀ y ∈ x :: xs, xs.foldl (fun a b => if b < a then b else a) x ≤ y
  | [], x => ⟨by simp, by simp⟩
  | b :: xs, x => by
    obtain ⟨h1, h2⟩ := minI_mem xs (if b < x then b else x)
    rw [List.foldl_cons]
    refine ⟨?_, fun y hy => ?_⟩
    · rcases List.mem_cons.mp h1 with e | h
      · rw [e]
        split <;> simp
      · simp [h]
    · have h0 := h2 _ (List.mem_cons_self ..)
      generalize hG : List.foldl _ _ xs = G at h0 h2 ⊢
      rcases List.mem_cons.mp hy with rfl | hy
      · split at h0 <;> omega
      · rcases List.mem_cons.mp hy with rfl | hy
        · split at h0 <;> omega
        · exact h2 y (List.mem_cons_of_mem _ hy)
theorem maxI_some {ns : List Int} {m : Int} (h : maxI ns = some m) : 0 < ns.length ∧ ∀ M, M ∈ ns → (∀ y, y ∈ ns → y ≤ M) → M = m := by
  cases ns with
  | nil => cases h
  | cons x xs =>
    cases h
    obtain ⟨h1, h2⟩ := maxI_mem xs x
    exact ⟨by simp, fun M hM hy => Int.le_antisymm (h2 M hM) (hy _ h1)⟩
theorem minI_some {ns : List Int} {m : Int} (h : minI ns = some m) : 0 < ns.length ∧ ∀ M, M ∈ ns → (∀ y, y ∈ ns → M ≤ y) → M = m := by
  cases ns with
  | nil => cases h
  | cons x xs =>
    cases h
    obtain ⟨h1, h2⟩ := minI_mem xs x
    exact ⟨by simp, fun M hM hy => Int.le_antisymm (hy _ h1) (h2 M hM)⟩
theorem cr_maxT (hc : X.calm = true) : CallR X (.builtin "max") (fun vs H Q => ∃ (a : Addr) (ns : List Int), vs = [V.ref a] ∧ SqT X.K H a (ns.map V.int) ∧ 0 < ns.length ∧ ∀ m, m ∈ ns → (∀ y, y ∈ ns → y ≤ m) → Q (.int m) H) := by
  intro pins s σ H vs us Q I r h
  obtain ⟨a, ns, rfl, hs, hne, q⟩ := h
  obtain ⟨its, rv, ht, _⟩ := I.tuple hs
  rw [Vals.ref1 r]
  have hi := rv.ints
  have hT : s.heap.IsTuple a its.toArray := ht
  have hlt : a < s.heap.objs.size := ht.lt
  refine call_max_walk (wpAny_pyIter_tuple hT ?_)
  have I1 : Inv X pins σ H { s with heap := s.heap.push { cls := .type "tuple_iterator", data := .fields #[.ref a, .int 0 0] } } := I.kept (t' := s.toks) fun b o e => Heap.get?_push_of_some _ e
  refine ⟨_, _, _, _, _, _, _, rfl, Walks.tuple (A := X.A.in1) (I.ok.hd hc) s.heap.objs.size a (Nat.ne_of_lt hlt) its.toArray, ⟨⟨_, Heap.get?_push_size _ rfl, rfl, rfl⟩, ?_⟩, fun b hb => ?_, by rw [List.size_toArray, hi.length]; exact hne, CmpOf.ints_gt (fun i => ns.getD i 0) (fun i v hv => ints_at hi (by simpa using hv)), fun v h' tk hP hk => ?_⟩
  · obtain ⟨o, e, r⟩ := hT
    exact ⟨o, Heap.get?_push_of_some _ e, r⟩
  · rw [Heap.size_push]
    rcases List.mem_cons.mp hb with e | hb
    · rw [e]; exact Nat.lt_succ_self _
    · rcases List.mem_cons.mp hb with e | hb
      · rw [e]; exact Nat.lt_succ_of_lt hlt
      · cases hb
  · obtain ⟨h1, h2⟩ := argBest_gt (fun i => ns.getD i 0) (its.toArray.size - 1)
    generalize argBest (fun i j => decide (ns.getD i 0 > ns.getD j 0)) (its.toArray.size - 1) = k at hP h1 h2
    obtain ⟨t, rfl⟩ := ints_at (i := k) hi (by simpa using hP)
    have hsz : its.toArray.size = ns.length := by rw [List.size_toArray, hi.length]
    refine ⟨.int _, H, I.kept (h' := h') (t' := tk) fun b o eo => hk b o (fun hm => ?_) (Heap.get?_push_of_some _ eo), ⟨_, rfl⟩, q _ ?_ fun y hy => ?_⟩
    · rcases List.mem_cons.mp hm with e1 | hm
      · rw [e1] at eo
        exact absurd (Heap.lt_size eo) (Nat.lt_irrefl _)
      · cases hm
    · exact PySem.getD_mem (by omega)
    · obtain ⟨j, hj, rfl⟩ := mem_getD hy
      exact h2 j (by omega)
theorem cr_minT (hc : X.calm = true) : CallR X (.builtin "min") (fun vs H Q => ∃ (a : Addr) (ns : List Int), vs = [V.ref a] ∧ SqT X.K H a (ns.map V.int) ∧ 0 < ns.length ∧ ∀ m, m ∈ ns → (∀ y, y ∈ ns → m ≤ y) → Q (.int m) H) := by
  intro pins s σ H vs us Q I r h
  obtain ⟨a, ns, rfl, hs, hne, q⟩ := h
  obtain ⟨its, rv, ht, _⟩ := I.tuple hs
  rw [Vals.ref1 r]
  have hi := rv.ints
  have hT : s.heap.IsTuple a its.toArray := ht
  have hlt : a < s.heap.objs.size := ht.lt
  refine call_min_walk (wpAny_pyIter_tuple hT ?_)
  have I1 : Inv X pins σ H { s with heap := s.heap.push { cls := .type "tuple_iterator", data := .fields #[.ref a, .int 0 0] } } := I.kept (t' := s.toks) fun b o e => Heap.get?_push_of_some _ e
  refine ⟨_, _, _, _, _, _, _, rfl, Walks.tuple (A := X.A.in1) (I.ok.hd hc) s.heap.objs.size a (Nat.ne_of_lt hlt) its.toArray, ⟨⟨_, Heap.get?_push_size _ rfl, rfl, rfl⟩, ?_⟩, fun b hb => ?_, by rw [List.size_toArray, hi.length]; exact hne, CmpOf.ints_lt (fun i => ns.getD i 0) (fun i v hv => ints_at hi (by simpa using hv)), fun v h' tk hP hk => ?_⟩
  · obtain ⟨o, e, r⟩ := hT
    exact ⟨o, Heap.get?_push_of_some _ e, r⟩
  · rw [Heap.size_push]
    rcases List.mem_cons.mp hb with e | hb
    · rw [e]; exact Nat.lt_succ_self _
    · rcases List.mem_cons.mp hb with e | hb
      · rw [e]; exact Nat.lt_succ_of_lt hlt
      · cases hb
  · obtain ⟨h1, h2⟩ := argBest_lt (fun i => ns.getD i 0) (its.toArray.size - 1)
    generalize argBest (fun i j => decide (ns.getD i 0 < ns.getD j 0)) (its.toArray.size - 1) = k at hP h1 h2
    obtain ⟨t, rfl⟩ := ints_at (i := k) hi (by simpa using hP)
    have hsz : its.toArray.size = ns.length := by rw [List.size_toArray, hi.length]
    refine ⟨.int _, H, I.kept (h' := h') (t' := tk) fun b o eo => hk b o (fun hm => ?_) (Heap.get?_push_of_some _ eo), ⟨_, rfl⟩, q _ ?_ fun y hy => ?_⟩
    · rcases List.mem_cons.mp hm with e1 | hm
      · rw [e1] at eo
        exact absurd (Heap.lt_size eo) (Nat.lt_irrefl _)
      · cases hm
    · exact PySem.getD_mem (by omega)
    · obtain ⟨j, hj, rfl⟩ := mem_getD hy
      exact h2 j (by omega)
/-! ### built-in functions by values -/
def blV : Bl → Value
  | .len => .builtin "len" | .sum => .builtin "sum" | .all => .builtin "all" | .any => .builtin "any" | .int => .type "int" | .abs => .builtin "abs" | .min2 => .builtin "min" | .max2 => .builtin "max"
  | .minL => .builtin "min" | .maxL => .builtin "max" | .divmod => .builtin "divmod" | .tuple => .type "tuple" | .list => .type "list" | .sorted => .builtin "sorted" | .str => .type "str"
def rBl (K : PySem.W.Frag) (fa : Nat → Addr) (b : Bl) : List V → Hp → VK → Prop := fun vs H Q => ∃ β ρ st ds d, RS K fa β ρ st H ∧ RDs K fa H (Mu ρ st) β ρ st.length ds vs ∧ bcall st b ds = some d ∧ Post K fa β ρ st H d st Q
theorem sorted_eq (ns ns' : List Int) (h1 : ns'.Perm ns) (h2 : ns'.Pairwise (· ≤ ·)) : ns' = isort ns := by
  have p : (isort ns).Perm ns := List.mergeSort_perm _ _
  have s : (isort ns).Pairwise (· ≤ ·) := by
    have q := List.pairwise_mergeSort (le := fun (a b : Int) => decide (a ≤ b)) (fun a b c h1 h2 => by simp at *; omega) (fun a b => by simp; omega) ns
    exact q.imp fun h => by simpa using h
  exact PySem.W.ksm_same (h1.trans p.symm) h2 s
theorem call_bl (hc : X.calm = true) (b : Bl) : CallR X (blV b) (rBl X.K fa b) := by
  intro pins s σ H xs us Q I r h
  obtain ⟨β, ρ, st, ds, d, S, rs, hd, q⟩ := h
  unfold bcall at hd
  split at hd
  · -- len
    obtain ⟨k, hk, rfl⟩ := Option.map_eq_some_iff.mp hd
    cases rs with
    | cons r1 r2 =>
      cases r2
      rename_i x
      unfold lenD at hk
      split at hk
      · split at hk
        · rename_i c
          cases hk
          cases r1
          exact call_len_str pins s σ H _ us Q I r ⟨_, rfl, by rw [str_len]; exact szOk_le c, by rw [str_len]; exact q.here S (.int _)⟩
        · cases hk
      · obtain ⟨es, he, rfl⟩ := Option.map_eq_some_iff.mp hk
        obtain ⟨a, vs, rfl, hq, hr⟩ := rd_sv S r1 he
        refine call_len_seq pins s σ H _ us Q I r ⟨a, vs, rfl, hq, ?_⟩
        rw [← hr.length]
        exact q.here S (.int _)
  · -- sum
    obtain ⟨ns, hk, rfl⟩ := Option.map_eq_some_iff.mp hd
    obtain ⟨es, he, hi⟩ := Option.bind_eq_some_iff.mp hk
    cases rs with
    | cons r1 r2 =>
      cases r2
      obtain ⟨a, vs, rfl, hq, hr⟩ := rd_sv S r1 he
      have e := hr.ints hi
      subst e
      rcases hq with hq | hq
      · exact cr_sum hc pins s σ H _ us Q I r ⟨a, ns, rfl, hq, q.here S (.int _)⟩
      · exact cr_sumT hc pins s σ H _ us Q I r ⟨a, ns, rfl, hq, q.here S (.int _)⟩
  · -- all
    obtain ⟨ns, hk, rfl⟩ := Option.map_eq_some_iff.mp hd
    obtain ⟨es, he, hi⟩ := Option.bind_eq_some_iff.mp hk
    cases rs with
    | cons r1 r2 =>
      cases r2
      obtain ⟨a, vs, rfl, hq, hr⟩ := rd_lv S r1 he
      have e := hr.bls hi
      subst e
      exact cr_all hc pins s σ H _ us Q I r ⟨a, ns, rfl, hq, q.here S (.bl _)⟩
  · -- any
    obtain ⟨ns, hk, rfl⟩ := Option.map_eq_some_iff.mp hd
    obtain ⟨es, he, hi⟩ := Option.bind_eq_some_iff.mp hk
    cases rs with
    | cons r1 r2 =>
      cases r2
      obtain ⟨a, vs, rfl, hq, hr⟩ := rd_lv S r1 he
      have e := hr.bls hi
      subst e
      exact cr_any hc pins s σ H _ us Q I r ⟨a, ns, rfl, hq, q.here S (.bl _)⟩
  · -- int of an int
    cases hd
    cases rs with
    | cons r1 r2 =>
      cases r2
      cases r1
      exact call_int1 pins s σ H _ us Q I r (.inl ⟨_, rfl, q.here S (.int _)⟩)
  · cases hd
    cases rs with
    | cons r1 r2 =>
      cases r2
      cases r1
      exact call_int1 pins s σ H _ us Q I r (.inr ⟨_, rfl, q.here S (.int _)⟩)
  · -- int of a text
    split at hd
    · rename_i c
      obtain ⟨n, hn, rfl⟩ := Option.map_eq_some_iff.mp hd
      cases rs with
      | cons r1 r2 =>
        cases r2
        cases r1
        exact call_int_str pins s σ H _ us Q I r ⟨_, n, rfl, hn, by rw [str_len]; simpa using c, q.here S (.int _)⟩
    · cases hd
  · -- str
    split at hd
    · rename_i c
      cases hd
      cases rs with
      | cons r1 r2 =>
        cases r2
        cases r1
        refine call_str_int pins s σ H _ us Q I r ⟨_, rfl, by simpa using c, ?_⟩
        have e : (PySem.Str.ofString (toString ‹Int›) : Str) = ⟨(strI ‹Int›).toArray⟩ := by
          unfold strI
          exact (congrArg (fun z => (⟨z⟩ : Str)) (Array.toArray_toList)).symm
        first
          | (rw [e]; exact q.here S (.str _))
          | exact q.here S (.str _)
    · cases hd
  · cases hd
    cases rs with
    | cons r1 r2 =>
      cases r2
      cases r1
      exact SkE.call_str_str pins s σ H _ us Q I r ⟨_, rfl, q.here S (.str _)⟩
  · -- abs
    cases hd
    cases rs with
    | cons r1 r2 =>
      cases r2
      cases r1
      exact call_abs pins s σ H _ us Q I r ⟨_, rfl, q.here S (.int _)⟩
  · cases hd
    cases rs with
    | cons r1 r2 =>
      cases r2 with
      | cons r2 r3 =>
        cases r3
        cases r1
        cases r2
        exact call_min2 hc pins s σ H _ us Q I r ⟨_, _, rfl, q.here S (.int _)⟩
  · cases hd
    cases rs with
    | cons r1 r2 =>
      cases r2 with
      | cons r2 r3 =>
        cases r3
        cases r1
        cases r2
        exact call_max2 hc pins s σ H _ us Q I r ⟨_, _, rfl, q.here S (.int _)⟩
  · -- max, min of a row
    obtain ⟨m, hk, rfl⟩ := Option.map_eq_some_iff.mp hd
    obtain ⟨ns, hk, hm⟩ := Option.bind_eq_some_iff.mp hk
    obtain ⟨es, he, hi⟩ := Option.bind_eq_some_iff.mp hk
    obtain ⟨hne, hu⟩ := maxI_some hm
    cases rs with
    | cons r1 r2 =>
      cases r2
      obtain ⟨a, vs, rfl, hq, hr⟩ := rd_sv S r1 he
      have e := hr.ints hi
      subst e
      rcases hq with hq | hq
      · exact cr_max hc pins s σ H _ us Q I r ⟨a, ns, rfl, hq, hne, fun M h1 h2 => by rw [hu M h1 h2]; exact q.here S (.int _)⟩
      · exact cr_maxT hc pins s σ H _ us Q I r ⟨a, ns, rfl, hq, hne, fun M h1 h2 => by rw [hu M h1 h2]; exact q.here S (.int _)⟩
  · obtain ⟨m, hk, rfl⟩ := Option.map_eq_some_iff.mp hd
    obtain ⟨ns, hk, hm⟩ := Option.bind_eq_some_iff.mp hk
    obtain ⟨es, he, hi⟩ := Option.bind_eq_some_iff.mp hk
    obtain ⟨hne, hu⟩ := minI_some hm
    cases rs with
    | cons r1 r2 =>
      cases r2
      obtain ⟨a, vs, rfl, hq, hr⟩ := rd_sv S r1 he
      have e := hr.ints hi
      subst e
      rcases hq with hq | hq
      · exact cr_min hc pins s σ H _ us Q I r ⟨a, ns, rfl, hq, hne, fun M h1 h2 => by rw [hu M h1 h2]; exact q.here S (.int _)⟩
      · exact cr_minT hc pins s σ H _ us Q I r ⟨a, ns, rfl, hq, hne, fun M h1 h2 => by rw [hu M h1 h2]; exact q.here S (.int _)⟩
  · -- divmod
    split at hd
    · rename_i c
      simp only [Bool.and_eq_true, decide_eq_true_eq] at c
      cases hd
      cases rs with
      | cons r1 r2 =>
        cases r2 with
        | cons r2 r3 =>
          cases r3
          cases r1
          cases r2
          exact call_divmodX pins s σ H _ us Q I r ⟨_, _, rfl, c, fun p o hp ho => q.tup S (.cons (.int _) (.cons (.int _) .nil)) hp ho⟩
    · cases hd
  · -- tuple
    obtain ⟨es, he, rfl⟩ := Option.map_eq_some_iff.mp hd
    cases rs with
    | cons r1 r2 =>
      cases r2
      obtain ⟨a, vs, rfl, hq, hr⟩ := rd_sv S r1 he
      rcases hq with hq | hq
      · exact call_tupleX pins s σ H _ us Q I r ⟨a, vs, rfl, .inl ⟨hq, fun p o hp ho => q.tup S hr hp ho⟩⟩
      · refine call_tupleX pins s σ H _ us Q I r ⟨a, vs, rfl, .inr ⟨hq, ?_⟩⟩
        rename_i x
        by_cases ht : ∃ es', x = D.tup es'
        · obtain ⟨es', rfl⟩ := ht
          cases he
          exact q.here S r1
        · -- a list is no tuple
          have h' : lv st x = some es := by
            cases x with
            | tup es => exact absurd ⟨es, rfl⟩ ht
            | _ => exact he
          obtain ⟨a2, vs2, e2, hq2, hr2⟩ := rd_lv S r1 h'
          cases e2
          obtain ⟨its, rv, ⟨o, n, ho, hcl, _⟩, _⟩ := I.list hq2
          obtain ⟨its', rv', ⟨o', ho', hcl', _⟩, _⟩ := I.tuple hq
          rw [ho] at ho'
          cases ho'
          rw [hcl] at hcl'
          exact absurd hcl' (by decide)
  · -- list
    obtain ⟨es, he, rfl⟩ := Option.map_eq_some_iff.mp hd
    cases rs with
    | cons r1 r2 =>
      cases r2
      obtain ⟨a, vs, rfl, hq, hr⟩ := rd_sv S r1 he
      exact call_list_of pins s σ H _ us Q I r ⟨a, vs, rfl, hq, fun p hp => q.frz S hr hp⟩
  · -- sorted
    obtain ⟨ns, hk, hd⟩ := Option.bind_eq_some_iff.mp hd
    obtain ⟨es, he, hi⟩ := Option.bind_eq_some_iff.mp hk
    split at hd
    · rename_i c
      cases hd
      cases rs with
      | cons r1 r2 =>
        cases r2
        obtain ⟨a, vs, rfl, hq, hr⟩ := rd_sv S r1 he
        have e := hr.ints hi
        subst e
        rcases hq with hq | hq
        · refine cr_sorted pins s σ H _ us Q I r ⟨a, ns, rfl, hq, by simpa using c, fun ns' p h1 h2 hp => ?_⟩
          rw [sorted_eq ns ns' h1 h2]
          exact q.frz S (rds_ints _) hp
        · refine cr_sortedTup hc pins s σ H _ us Q I r ⟨a, ns, rfl, hq, by simpa using c, fun ns' p h1 h2 hp => ?_⟩
          rw [sorted_eq ns ns' h1 h2]
          exact q.frz S (rds_ints _) hp
    · cases hd
  · cases hd
end
end PL

set_option Elab.async false
set_option linter.all false
set_option maxRecDepth 100000
set_option maxHeartbeats 1000000
/-! Expressions: each construct, over its parts. -/
namespace PL
open PySem PySem.Spec PyProof.Rows L2
variable [Tbl]

/-- a result: a value, or something raised -/
def RP {α : Type} (r : R α) (P : α → Sto → Prop) (X : Nat → D → Sto → Prop) : Prop := match r with
  | .ok a s => P a s
  | .exn c d s => X c d s
  | .bad => False
theorem RP.bind {α β : Type} {r : R α} {f : α → Sto → R β} {P : β → Sto → Prop} {X : Nat → D → Sto → Prop} (h : RP (r.bind f) P X) : RP r (fun a s => RP (f a s) P X) X := by
  cases r <;> exact h
theorem RP.imp {α : Type} {r : R α} {P P' : α → Sto → Prop} {X X' : Nat → D → Sto → Prop} (h : RP r P X) (k : ∀ a s, P a s → P' a s) (kx : ∀ c d s, X c d s → X' c d s) : RP r P' X' := by
  cases r with
  | ok a s => exact k a s h
  | exn c d s => exact kx c d s h
  | bad => exact h
theorem RP.oD {α : Type} {o : Option α} {st : Sto} {P : α → Sto → Prop} {X : Nat → D → Sto → Prop} (h : RP (oD o st) P X) : ∃ a, o = some a ∧ P a st := by
  cases o with
  | none => exact h.elim
  | some a => exact ⟨a, rfl, h⟩
theorem RP.tru {d : D} {st : Sto} {P : Bool → Sto → Prop} {X : Nat → D → Sto → Prop} (h : RP (tru d st) P X) : ∃ b, d = .bl b ∧ P b st := by
  cases d with
  | bl x => exact ⟨x, rfl, h⟩
  | _ => exact h.elim
theorem RP.toI {d : D} {st : Sto} {P : Int → Sto → Prop} {X : Nat → D → Sto → Prop} (h : RP (toI d st) P X) : ∃ b, d = .int b ∧ P b st := by
  cases d with
  | int x => exact ⟨x, rfl, h⟩
  | _ => exact h.elim

structure RE (K : PySem.W.Frag) (fa : Nat → Addr) (β ρ : List Addr) (env : PL.Env) (st : Sto) (σ : L2.St) (H : Hp) : Prop where
  len : env.length = σ.length
  get : ∀ (i : Nat) (d : D), env[i]? = some (some d) → ∃ v, σ[i]? = some (some v) ∧ RD K fa H (Mu ρ st) β ρ st.length d v
section
variable {K : PySem.W.Frag} {fa : Nat → Addr} {H H1 : Hp} {β ρ ρ1 : List Addr} {env : PL.Env} {st s1 : Sto} {σ : L2.St}
theorem RE.stp (e : RE K fa β ρ env st σ H) (a : Stp ρ st H ρ1 s1 H1) : RE K fa β ρ1 env s1 σ H1 := ⟨e.len, fun i d h => by
  obtain ⟨v, h1, r⟩ := e.get i d h
  exact ⟨v, h1, r.stp a⟩⟩
theorem RE.set (e : RE K fa β ρ env st σ H) {i : Nat} {d : D} {v : V} (r : RD K fa H (Mu ρ st) β ρ st.length d v) : RE K fa β ρ (env.set i (some d)) st (σ.set i (some v)) H := by
  refine ⟨by simpa using e.len, fun j c h => ?_⟩
  by_cases hj : i = j
  · subst hj
    have hi : i < env.length := by
      have := (List.getElem?_eq_some_iff.mp h).1
      simpa using this
    rw [List.getElem?_set_self hi] at h
    cases h
    exact ⟨v, by rw [List.getElem?_set_self (by rw [← e.len]; exact hi)], r⟩
  · rw [List.getElem?_set_ne hj] at h
    obtain ⟨w, h1, r1⟩ := e.get j c h
    exact ⟨w, by rw [List.getElem?_set_ne hj]; exact h1, r1⟩
theorem wipe_get : ∀ {vs : List Nat} {env : PL.Env} {i : Nat} {d : D}, (PL.wipe env vs)[i]? = some (some d) → env[i]? = some (some d) ∧ i ∉ vs
  | [], _, _, _, h => ⟨h, by simp⟩
  | v :: vs, env, i, d, h => by
    unfold PL.wipe at h
    by_cases hi : v = i
    · subst hi
      by_cases hv : v < (PL.wipe env vs).length
      · rw [List.getElem?_set_self hv] at h; cases h
      · rw [List.getElem?_eq_none (by simpa using hv)] at h; cases h
    · rw [List.getElem?_set_ne hi] at h
      obtain ⟨h1, h2⟩ := wipe_get h
      exact ⟨h1, by simp only [List.mem_cons, not_or]; exact ⟨fun e => hi e.symm, h2⟩⟩
theorem wipe_len : ∀ (vs : List Nat) (env : PL.Env), (PL.wipe env vs).length = env.length
  | [], _ => rfl
  | v :: vs, env => by unfold PL.wipe; rw [List.length_set, wipe_len vs]
theorem wipe_keep : ∀ {vs : List Nat} {σ : L2.St} {i : Nat}, i ∉ vs → (L2.wipe σ vs)[i]? = σ[i]?
  | [], _, _, _ => rfl
  | v :: vs, σ, i, h => by
    unfold L2.wipe
    rw [List.getElem?_set_ne (fun e => h (by simp [e]))]
    exact wipe_keep fun q => h (List.mem_cons_of_mem _ q)
theorem RE.wipe (e : RE K fa β ρ env st σ H) (vs : List Nat) : RE K fa β ρ (PL.wipe env vs) st (L2.wipe σ vs) H := by
  refine ⟨by rw [wipe_len, wipe_length]; exact e.len, fun i d h => ?_⟩
  obtain ⟨h1, h2⟩ := wipe_get h
  obtain ⟨v, q, r⟩ := e.get i d h1
  exact ⟨v, by rw [wipe_keep h2]; exact q, r⟩
/-- a list of the store written -/
theorem RS.put (S : RS K fa β ρ st H) {i : Nat} {a : Addr} {ds ds' : List D} {vs' : List V} (hi : st[i]? = some (.lst ds)) (ha : ρ[i]? = some a) (r : RDs K fa H (Mu ρ st) β ρ i ds' vs') :
    RS K fa β ρ (st.set i (.lst ds')) (upd H a (.lst vs')) ∧ Stp ρ st H ρ (st.set i (.lst ds')) (upd H a (.lst vs')) := by
  have hlt : i < st.length := its_get hi
  have mu : ∀ b, Mu ρ (st.set i (.lst ds')) b → Mu ρ st b := fun b z => z.elim .inl fun ⟨j, o, h1, h2, h3⟩ => by
    by_cases hj : i = j
    · subst hj
      exact .inr ⟨i, _, h1, hi, rfl⟩
    · rw [List.getElem?_set_ne hj] at h2
      exact .inr ⟨j, o, h1, h2, h3⟩
  have k : ∀ b o, H b = some o → ¬ Mu ρ st b → upd H a (.lst vs') b = some o ∧ ¬ Mu ρ (st.set i (.lst ds')) b := fun b o h m => by
    refine ⟨?_, fun q => m (mu b q)⟩
    have ne : b ≠ a := fun e => m (by rw [e]; exact .inr ⟨i, _, ha, hi, rfl⟩)
    rw [upd_ne ne]
    exact h
  have ha2 : ∃ ws, H a = some (.lst ws) := by
    obtain ⟨b, ws, e1, e2, _⟩ := S.obj i _ hi
    rw [ha] at e1
    cases e1
    exact ⟨ws, e2⟩
  obtain ⟨ws0, ha2⟩ := ha2
  refine ⟨⟨S.nd, by rw [List.length_set]; exact S.len, fun j o h => ?_, fun b hb => ?_, tabs_lst S.tabs ha2⟩, ⟨⟨[], by simp⟩, by rw [List.length_set]; exact Nat.le_refl _, k, fun j es h => ?_⟩⟩
  · by_cases hj : i = j
    · subst hj
      rw [List.getElem?_set_self hlt] at h
      cases h
      exact ⟨a, vs', ha, upd_same, r.mono k (fun _ _ x => x) (fun _ x => .inl x) (Nat.le_refl _)⟩
    · rw [List.getElem?_set_ne hj] at h
      obtain ⟨b, vs, e1, e2, e3⟩ := S.obj j o h
      have ne : b ≠ a := fun e => hj (S.nd i j a ha (by rw [← e]; exact e1))
      exact ⟨b, vs, e1, by rw [upd_ne ne]; exact e2, e3.mono k (fun _ _ x => x) (fun _ x => .inl x) (Nat.le_refl _)⟩
  · obtain ⟨⟨o, e⟩, nb⟩ := S.busy b hb
    have ne : b ≠ a := fun q => nb (by rw [q]; exact List.mem_iff_getElem?.mpr ⟨i, ha⟩)
    exact ⟨⟨o, by rw [upd_ne ne]; exact e⟩, nb⟩
  · have ne : i ≠ j := fun e => by
      subst e
      rw [hi] at h
      cases h
    rw [List.getElem?_set_ne ne]
    exact h
/-- a new list into the store -/
theorem RS.push (S : RS K fa β ρ st H) {p : Addr} {ds : List D} {vs : List V} (hp : H p = none) (r : RDs K fa H (Mu ρ st) β ρ st.length ds vs) :
    RS K fa β (ρ ++ [p]) (st ++ [.lst ds]) (upd H p (.lst vs)) ∧ Stp ρ st H (ρ ++ [p]) (st ++ [.lst ds]) (upd H p (.lst vs)) := by
  obtain ⟨f1, f2, f3⟩ := S.fresh hp
  have old : ∀ (j : Nat) (b : Addr), ρ[j]? = some b → (ρ ++ [p])[j]? = some b := fun j b h => by
    rw [List.getElem?_append_left (List.getElem?_eq_some_iff.mp h).1]
    exact h
  have back : ∀ (j : Nat) (b : Addr), (ρ ++ [p])[j]? = some b → ρ[j]? = some b ∨ (j = ρ.length ∧ b = p) := fun j b h => by
    by_cases hj : j < ρ.length
    · rw [List.getElem?_append_left hj] at h
      exact .inl h
    · rw [List.getElem?_append_right (by omega)] at h
      have hj2 : j - ρ.length = 0 := by
        have := (List.getElem?_eq_some_iff.mp h).1
        simp at this
        omega
      rw [hj2] at h
      simp at h
      exact .inr ⟨by omega, h.symm⟩
  have mu : ∀ b, Mu (ρ ++ [p]) (st ++ [.lst ds]) b → Mu ρ st b ∨ b = p := fun b z => z.elim (fun t => .inl (.inl t)) fun ⟨j, o, h1, h2, h3⟩ => by
    rcases back j b h1 with q | ⟨_, q⟩
    · left
      have hl : j < st.length := by rw [← S.len]; exact (List.getElem?_eq_some_iff.mp q).1
      rw [List.getElem?_append_left hl] at h2
      exact .inr ⟨j, o, q, h2, h3⟩
    · exact .inr q
  have k : ∀ b o, H b = some o → ¬ Mu ρ st b → upd H p (.lst vs) b = some o ∧ ¬ Mu (ρ ++ [p]) (st ++ [.lst ds]) b := fun b o h m => by
    have ne : b ≠ p := ne_of_none h hp
    refine ⟨by rw [upd_ne ne]; exact h, fun q => ?_⟩
    rcases mu b q with q | q
    · exact m q
    · exact ne q
  refine ⟨⟨fun i j b h1 h2 => ?_, by simp [S.len], fun j o h => ?_, fun b hb => ?_, tabs_new S.tabs hp⟩, ⟨⟨[p], rfl⟩, by simp, k, fun j es h => ?_⟩⟩
  · rcases back i b h1 with q1 | ⟨q1, e1⟩
    · rcases back j b h2 with q2 | ⟨q2, e2⟩
      · exact S.nd i j b q1 q2
      · exact absurd (List.mem_iff_getElem?.mpr ⟨i, by rw [← e2]; exact q1⟩) f1
    · rcases back j b h2 with q2 | ⟨q2, e2⟩
      · exact absurd (List.mem_iff_getElem?.mpr ⟨j, by rw [← e1]; exact q2⟩) f1
      · omega
  · by_cases hj : j < st.length
    · rw [List.getElem?_append_left hj] at h
      obtain ⟨b, ws, e1, e2, e3⟩ := S.obj j o h
      exact ⟨b, ws, old j b e1, by rw [upd_ne (ne_of_none e2 hp)]; exact e2, e3.mono k old (fun _ x => .inl x) (Nat.le_refl _)⟩
    · rw [List.getElem?_append_right (by omega)] at h
      have hj2 : j - st.length = 0 := by
        have := (List.getElem?_eq_some_iff.mp h).1
        simp at this
        omega
      rw [hj2] at h
      simp at h
      subst h
      have ej : j = st.length := by omega
      subst ej
      exact ⟨p, vs, by rw [← S.len]; simp, upd_same, r.mono k old (fun _ x => .inl x) (Nat.le_refl _)⟩
  · obtain ⟨⟨o, e⟩, nb⟩ := S.busy b hb
    refine ⟨⟨o, by rw [upd_ne (ne_of_none e hp)]; exact e⟩, fun q => ?_⟩
    rcases List.mem_append.mp q with q | q
    · exact nb q
    · rw [List.mem_singleton.mp q, hp] at e
      cases e
  · rw [List.getElem?_append_left (its_get h)]
    exact h
/-- a list of the store that is no longer changed -/
theorem RS.freeze (S : RS K fa β ρ st H) {i : Nat} {ds : List D} (hi : st[i]? = some (.lst ds)) : RS K fa β ρ (st.set i (.fz ds)) H ∧ Stp ρ st H ρ (st.set i (.fz ds)) H := by
  have hlt : i < st.length := its_get hi
  have mu : ∀ b, Mu ρ (st.set i (.fz ds)) b → Mu ρ st b := fun b z => z.elim .inl fun ⟨j, o, h1, h2, h3⟩ => by
    by_cases hj : i = j
    · subst hj
      exact .inr ⟨i, _, h1, hi, rfl⟩
    · rw [List.getElem?_set_ne hj] at h2
      exact .inr ⟨j, o, h1, h2, h3⟩
  have k : ∀ b o, H b = some o → ¬ Mu ρ st b → H b = some o ∧ ¬ Mu ρ (st.set i (.fz ds)) b := fun b o h m => ⟨h, fun q => m (mu b q)⟩
  refine ⟨⟨S.nd, by rw [List.length_set]; exact S.len, fun j o h => ?_, S.busy, S.tabs⟩, ⟨⟨[], by simp⟩, by rw [List.length_set]; exact Nat.le_refl _, k, fun j es h => ?_⟩⟩
  · by_cases hj : i = j
    · subst hj
      rw [List.getElem?_set_self hlt] at h
      cases h
      obtain ⟨b, vs, e1, e2, e3⟩ := S.obj i _ hi
      exact ⟨b, vs, e1, e2, e3.mono k (fun _ _ x => x) (fun _ x => .inl x) (Nat.le_refl _)⟩
    · rw [List.getElem?_set_ne hj] at h
      obtain ⟨b, vs, e1, e2, e3⟩ := S.obj j o h
      exact ⟨b, vs, e1, e2, e3.mono k (fun _ _ x => x) (fun _ x => .inl x) (Nat.le_refl _)⟩
  · have ne : i ≠ j := fun e => by
      subst e
      rw [hi] at h
      cases h
    rw [List.getElem?_set_ne ne]
    exact h
end

/-! ### readings -/
theorem _root_.L2.PE.w {X : Cx} {e : Expr} {t t' : TE} (h : PE X e t) (k : ∀ σ H Q, t' σ H Q → t σ H Q) : PE X e t' := ⟨fun pins s σ H Q I q => h.run pins s σ H Q I (k σ H Q q)⟩
theorem _root_.L2.PT.w {X : Cx} {e : Expr} {t t' : TT} (h : PT X e t) (k : ∀ σ H Q, t' σ H Q → t σ H Q) : PT X e t' := ⟨fun pins s σ H Q I q => h.run pins s σ H Q I (k σ H Q q)⟩
theorem _root_.L2.PW.w {X : Cx} {e : Expr} {t t' : TT} (h : PW X e t) (k : ∀ σ H Q, t' σ H Q → t σ H Q) : PW X e t' := ⟨fun wh pins s σ H Q I q => h.run wh pins s σ H Q I (k σ H Q q)⟩
theorem _root_.L2.PA.w {X : Cx} {e : List Expr} {t t' : TA} (h : PA X e t) (k : ∀ σ H Q, t' σ H Q → t σ H Q) : PA X e t' := ⟨fun p pins s σ H Q I q => h.run p pins s σ H Q I (k σ H Q q)⟩
theorem _root_.L2.PK.w {X : Cx} {e : List Keyword} {t t' : TA} (h : PK X e t) (k : ∀ σ H Q, t' σ H Q → t σ H Q) : PK X e t' := ⟨fun p pins s σ H Q I q => h.run p pins s σ H Q I (k σ H Q q)⟩
theorem _root_.L2.PO.w {X : Cx} {e : Option Expr} {t t' : TO} (h : PO X e t) (k : ∀ σ H Q, t' σ H Q → t σ H Q) : PO X e t' := by
  refine ⟨?_⟩
  intros
  exact h.run _ _ _ _ _ (by assumption) (k _ _ _ (by assumption))
theorem _root_.L2.PE.or {X : Cx} {e : Expr} {t t' : TE} (h : PE X e t) (h' : PE X e t') : PE X e (fun σ H Q => t σ H Q ∨ t' σ H Q) := ⟨fun pins s σ H Q I q => q.elim (h.run pins s σ H Q I) (h'.run pins s σ H Q I)⟩
theorem _root_.L2.PI.w {X : Cx} {tg e : Expr} {t t' : TI} (h : PI X tg e t) (k : ∀ σ H Q, t' σ H Q → t σ H Q) : PI X tg e t' := ⟨fun pins s σ H Q I q => h.run pins s σ H Q I (k σ H Q q)⟩
theorem _root_.L2.PS.w {X : Cx} {e : Stmt} {t t' : TS} (h : PS X e t) (k : ∀ D σ H, t' D σ H → t D σ H) : PS X e t' := ⟨fun pins s σ H D I q => h.run pins s σ H D I (k D σ H q)⟩
theorem _root_.L2.PSs.w {X : Cx} {e : List Stmt} {t t' : TS} (h : PSs X e t) (k : ∀ D σ H, t' D σ H → t D σ H) : PSs X e t' := ⟨fun pins s σ H D I q => h.run pins s σ H D I (k D σ H q)⟩
theorem _root_.L2.PG.w {X : Cx} {e : Expr} {t t' : TG} (h : PG X e t) (k : ∀ v σ H Q, t' v σ H Q → t v σ H Q) : PG X e t' := ⟨fun pins s σ H v u Q I r q => h.run pins s σ H v u Q I r (k v σ H Q q)⟩
/-- what a reading leans on: where the defs and own exceptions' classes stand, the exceptions' field, the calls, the constants, what is wished of an exception -/
structure Qm where
  fa : Nat → Addr
  ca : Nat → Addr
  xn : Nat → Str
  C : Nat → List D → Sto → R D
  G : Nat → D
  W : Nat
  XE : XK
section
variable (K : PySem.W.Frag) (q : Qm)
def PostX (β ρ : List Addr) (st : Sto) (H : Hp) : Nat → D → Sto → Prop := fun c d st' =>
  ∀ v H' ρ' dx, Stp ρ st H ρ' st' H' → RS K q.fa β ρ' st' H' → RD K q.fa H' (Mu ρ' st') β ρ' st'.length d v → H' dx = some (.xd [(q.xn c, v)]) → q.XE (.ref (q.ca c)) (some dx) H'
def tW (e : E) : TE := fun σ H Q => ∃ β ρ env st, RE K q.fa β ρ env st σ H ∧ RS K q.fa β ρ st H ∧ RP (ev q.C q.G e env st) (fun d st' => Post K q.fa β ρ st H d st' Q) (PostX K q β ρ st H)
def tWs (es : Es) : TA := fun σ H Q => ∃ β ρ env st, RE K q.fa β ρ env st σ H ∧ RS K q.fa β ρ st H ∧ RP (evs q.C q.G es env st) (fun ds st' => PostS K q.fa β ρ st H ds st' Q) (PostX K q β ρ st H)
/-- as a test -/
def tWT (e : E) : TT := fun σ H Q => ∃ β ρ env st, RE K q.fa β ρ env st σ H ∧ RS K q.fa β ρ st H ∧ RP ((ev q.C q.G e env st).bind fun x s1 => tru x s1) (fun b st' => PostB K q.fa β ρ st H b st' Q) (PostX K q β ρ st H)
def tWo (e : Oe) : TO := fun σ H Q => ∃ β ρ env st, RE K q.fa β ρ env st σ H ∧ RS K q.fa β ρ st H ∧ RP (evo q.C q.G e env st) (fun o st' => ∀ H' ρ', Stp ρ st H ρ' st' H' → RS K q.fa β ρ' st' H' → Q o H') (PostX K q β ρ st H)
def tWc (e : Oe) : TT := fun σ H Q => ∃ β ρ env st, RE K q.fa β ρ env st σ H ∧ RS K q.fa β ρ st H ∧ RP (evc q.C q.G e env st) (fun b st' => PostB K q.fa β ρ st H b st' Q) (PostX K q β ρ st H)
end
section
variable {K : PySem.W.Frag} {fa : Nat → Addr} {H H1 : Hp} {β ρ ρ1 : List Addr} {st s1 : Sto} {q : Qm}
theorem PostX.after {c : Nat} {d : D} {st' : Sto} (h : PostX K q β ρ st H c d st') (a : Stp ρ st H ρ1 s1 H1) : PostX K q β ρ1 s1 H1 c d st' := fun v H' ρ' dx b S r e => h v H' ρ' dx (a.trans b) S r e
theorem PostS.after {ds : List D} {s2 : Sto} {Q : List V → Hp → Prop} (h : PostS K fa β ρ st H ds s2 Q) (a : Stp ρ st H ρ1 s1 H1) : PostS K fa β ρ1 s1 H1 ds s2 Q := fun v H' ρ' b S r => h v H' ρ' (a.trans b) S r
theorem PostB.after {b : Bool} {s2 : Sto} {Q : Bool → Hp → Prop} (h : PostB K fa β ρ st H b s2 Q) (a : Stp ρ st H ρ1 s1 H1) : PostB K fa β ρ1 s1 H1 b s2 Q := fun H' ρ' c S => h H' ρ' (a.trans c) S
theorem PostB.here {b : Bool} {Q : Bool → Hp → Prop} (h : PostB K fa β ρ st H b st Q) (S : RS K fa β ρ st H) : Q b H := h H ρ .refl S
/-- a result wished for from here on -/
theorem RP.aft {r : R D} {Q : VK} (h : RP r (fun d st' => Post K q.fa β ρ st H d st' Q) (PostX K q β ρ st H)) (a : Stp ρ st H ρ1 s1 H1) : RP r (fun d st' => Post K q.fa β ρ1 s1 H1 d st' Q) (PostX K q β ρ1 s1 H1) :=
  h.imp (fun _ _ g => g.after a) fun _ _ _ g => g.after a
theorem RP.aftB {r : R Bool} {Q : Bool → Hp → Prop} (h : RP r (fun d st' => PostB K q.fa β ρ st H d st' Q) (PostX K q β ρ st H)) (a : Stp ρ st H ρ1 s1 H1) : RP r (fun d st' => PostB K q.fa β ρ1 s1 H1 d st' Q) (PostX K q β ρ1 s1 H1) :=
  h.imp (fun _ _ g => g.after a) fun _ _ _ g => g.after a
theorem RP.aftX {α : Type} {r : R α} {P : α → Sto → Prop} (h : RP r P (PostX K q β ρ st H)) (a : Stp ρ st H ρ1 s1 H1) : RP r P (PostX K q β ρ1 s1 H1) := h.imp (fun _ _ g => g) fun _ _ _ g => g.after a
end
section
variable {X : Cx} {q : Qm} {a b c : E} {pa pb pc pe : Expr} {pos : Pos}

/-! ### names, constants -/
theorem s_non {j} : PE X (.Constant .none j pos) (tW X.K q .non) := pe_non.w fun σ H Q ⟨β, ρ, env, st, e, S, h⟩ => Post.here h S .non
theorem s_bl {j v} : PE X (.Constant (.bool v) j pos) (tW X.K q (.bl v)) := pe_bl.w fun σ H Q ⟨β, ρ, env, st, e, S, h⟩ => Post.here h S (.bl v)
theorem s_int {j i} : PE X (.Constant (.int i) j pos) (tW X.K q (.int i)) := pe_int.w fun σ H Q ⟨β, ρ, env, st, e, S, h⟩ => Post.here h S (.int i)
theorem s_str {j} {x : Str} {z : List Nat} (hz : x = ⟨z.toArray⟩) : PE X (.Constant (.str x) j pos) (tW X.K q (.str z)) := pe_str.w fun σ H Q ⟨β, ρ, env, st, e, S, h⟩ => by
  subst hz
  exact Post.here h S (.str z)
theorem s_var {i : Nat} {x : Str} (hN : X.N[i]? = some x) (hv : Vis X.env.scope x) (hd : (x == ("__debug__" : Str)) = false) (hcd : (x == ("__classdict__" : Str)) = false) : PE X (.Name x pos) (tW X.K q (.var i)) :=
  (pe_var hN hv hd hcd).w fun σ H Q ⟨β, ρ, env, st, e, S, h⟩ => by
    simp only [ev] at h
    split at h
    · rename_i d' hd'
      obtain ⟨v, h1, r⟩ := e.get i _ hd'
      exact ⟨v, h1, Post.here h S r⟩
    · exact h.elim
theorem s_glb {k : Nat} {x : Str} {u : Value} {v : V} (hg : Gl X x) (hm : X.mg x = some u) (hr : RelV v u) (hd : (x == ("__debug__" : Str)) = false) (hv : ∀ H m β ρ n, RD X.K q.fa H m β ρ n (q.G k) v) : PE X (.Name x pos) (tW X.K q (.glb k)) :=
  (pe_glob hg hm hr hd).w fun σ H Q ⟨β, ρ, env, st, e, S, h⟩ => Post.here h S (hv _ _ _ _ _)
theorem s_fnv {k : Nat} {x : Str} (hg : Gl X x) (hm : X.mg x = some (.ref (q.fa k))) (hd : (x == ("__debug__" : Str)) = false) : PE X (.Name x pos) (tW X.K q (.fnv k)) :=
  (pe_glob (v := .ref (q.fa k)) hg hm rfl hd).w fun σ H Q ⟨β, ρ, env, st, e, S, h⟩ => Post.here h S (.fn k)

/-! ### operators -/
theorem s_bin (o : Op) (ha : PE X pa (tW X.K q a)) (hb : PE X pb (tW X.K q b)) : PE X (.BinOp pa (opOf o) pb pos) (tW X.K q (.bin o a b)) :=
  (pe_op (op_bop (fa := q.fa) o) ha hb).w fun σ H Q ⟨β, ρ, env, st, e, S, h⟩ => by
    simp only [ev] at h
    refine ⟨β, ρ, env, st, e, S, h.bind.imp (fun x s1 h1 v1 H1 ρ1 a1 S1 r1 => ?_) fun _ _ _ g => g⟩
    refine ⟨β, ρ1, env, s1, e.stp a1, S1, (h1.bind.aftX a1).imp (fun y s2 h2 v2 H2 ρ2 a2 S2 r2 => ?_) fun _ _ _ g => g⟩
    obtain ⟨d, h3, h4⟩ := h2.oD
    exact ⟨β, ρ2, s2, x, y, d, S2, r1.stp a2, r2, h3, Post.after h4 (a1.trans a2)⟩
theorem s_neg (ha : PE X pa (tW X.K q a)) : PE X (.UnaryOp .USub pa pos) (tW X.K q (.neg a)) :=
  (pe_un un_neg ha).w fun σ H Q ⟨β, ρ, env, st, e, S, h⟩ => by
    simp only [ev] at h
    refine ⟨β, ρ, env, st, e, S, h.bind.imp (fun x s1 h1 v1 H1 ρ1 a1 S1 r1 => ?_) fun _ _ _ g => g⟩
    obtain ⟨i, rfl, h2⟩ := h1.bind.toI
    cases r1
    exact ⟨i, rfl, (Post.after h2 a1).here S1 (.int _)⟩
theorem rd_bl {K : PySem.W.Frag} {fa : Nat → Addr} {H : Hp} {m : Addr → Prop} {β ρ : List Addr} {n : Nat} {k : Bool} {v : V} (r : RD K fa H m β ρ n (.bl k) v) : v = .bl k := by
  cases r
  rfl
/-- a value as a test -/
theorem t_val (ha : PE X pe (tW X.K q a)) (hp : ∀ whole, isTrue pe X.env whole = (do let v ← whole; standAt pe.pos; holding [v] (truthy v))) : PT X pe (tWT X.K q a) :=
  (pt_val ha hp).w fun σ H Q ⟨β, ρ, env, st, e, S, h⟩ => ⟨β, ρ, env, st, e, S, h.bind.imp (fun x s1 h1 v1 H1 ρ1 a1 S1 r1 => by
    obtain ⟨k, rfl, h2⟩ := h1.tru
    exact ⟨k, rd_bl r1, h2 H1 ρ1 a1 S1⟩) fun _ _ _ g => g⟩
theorem s_not (ha : PT X pa (tWT X.K q a)) (ha' : PE X pa (tW X.K q a)) : PE X (.UnaryOp .Not pa pos) (tW X.K q (.not a)) ∧ PT X (.UnaryOp .Not pa pos) (tWT X.K q (.not a)) := by
  refine ⟨(pe_not ha').w fun σ H Q ⟨β, ρ, env, st, e, S, h⟩ => ?_, (pt_not ha).w fun σ H Q ⟨β, ρ, env, st, e, S, h⟩ => ?_⟩
  · simp only [ev] at h
    refine ⟨β, ρ, env, st, e, S, h.bind.imp (fun x s1 h1 v1 H1 ρ1 a1 S1 r1 => ?_) fun _ _ _ g => g⟩
    obtain ⟨k, rfl, h2⟩ := h1.bind.tru
    exact ⟨k, rd_bl r1, (Post.after h2 a1).here S1 (.bl _)⟩
  · simp only [ev] at h
    have h' : RP (ev q.C q.G a env st) (fun x s1 => RP (tru x s1) (fun b st' => PostB X.K q.fa β ρ st H (!b) st' Q) (PostX X.K q β ρ st H)) (PostX X.K q β ρ st H) := h.bind.bind.imp (fun x s1 h1 => by
      obtain ⟨k, rfl, h2⟩ := h1.bind.tru
      exact h2) fun _ _ _ g => g
    refine ⟨β, ρ, env, st, e, S, ?_⟩
    cases hv : ev q.C q.G a env st with
    | ok x s1 =>
      rw [hv] at h'
      exact h'
    | exn c d s1 =>
      rw [hv] at h'
      exact h'
    | bad =>
      rw [hv] at h'
      exact h'
theorem cm_mark (o : Cm) (h : ∀ es k p, pb ≠ .Set es k p) : behindInMarks (cmOf o) pb = false := by
  cases pb <;> first
    | rfl
    | exact absurd rfl (h _ _ _)
theorem s_cmp (o : Cm) (hu : X.A.units + 65 < cLine) (hs : ∀ es k p, pb ≠ .Set es k p) (ha : PE X pa (tW X.K q a)) (hb : PE X pb (tW X.K q b)) :
    PE X (.Compare pa [cmOf o] [pb] pos) (tW X.K q (.cmp o a b)) ∧ PT X (.Compare pa [cmOf o] [pb] pos) (tWT X.K q (.cmp o a b)) := by
  refine ⟨(pe_cmpR (op_cop (fa := q.fa) o hu) ha hb (cm_mark o hs)).w fun σ H Q ⟨β, ρ, env, st, e, S, h⟩ => ?_, (pt_cmpR (op_cop (fa := q.fa) o hu) ha hb (cm_mark o hs)).w fun σ H Q ⟨β, ρ, env, st, e, S, h⟩ => ?_⟩
  · simp only [ev] at h
    refine ⟨β, ρ, env, st, e, S, h.bind.imp (fun x s1 h1 v1 H1 ρ1 a1 S1 r1 => ?_) fun _ _ _ g => g⟩
    refine ⟨β, ρ1, env, s1, e.stp a1, S1, (h1.bind.aftX a1).imp (fun y s2 h2 v2 H2 ρ2 a2 S2 r2 => ?_) fun _ _ _ g => g⟩
    obtain ⟨k, h3, h4⟩ := h2.bind.oD
    exact ⟨β, ρ2, s2, x, y, k, S2, r1.stp a2, r2, h3, (Post.after h4 (a1.trans a2)).here S2 (.bl _)⟩
  · simp only [ev] at h
    refine ⟨β, ρ, env, st, e, S, h.bind.bind.imp (fun x s1 h1 v1 H1 ρ1 a1 S1 r1 => ?_) fun _ _ _ g => g⟩
    refine ⟨β, ρ1, env, s1, e.stp a1, S1, (h1.bind.aftX a1).imp (fun y s2 h2 v2 H2 ρ2 a2 S2 r2 => ?_) fun _ _ _ g => g⟩
    obtain ⟨k, h3, h4⟩ := h2.bind.oD
    exact ⟨β, ρ2, s2, x, y, k, S2, r1.stp a2, r2, h3, k, rfl, (PostB.after h4 (a1.trans a2)).here S2⟩
theorem cm_marks (o p : Cm) (h : ∀ es k p, pc ≠ .Set es k p) : lastMarks [cmOf o, cmOf p] [pb, pc] = false := by
  show lastMarks [cmOf p] [pc] = false
  exact cm_mark p h
theorem s_chn (o p : Cm) (hu : X.A.units + 65 < cLine) (hs : ∀ es k p, pc ≠ .Set es k p) (ha : PE X pa (tW X.K q a)) (hb : PE X pb (tW X.K q b)) (hc : PE X pc (tW X.K q c)) :
    PE X (.Compare pa [cmOf o, cmOf p] [pb, pc] pos) (tW X.K q (.chn o p a b c)) ∧ PT X (.Compare pa [cmOf o, cmOf p] [pb, pc] pos) (tWT X.K q (.chn o p a b c)) := by
  refine ⟨(pe_chain (op_cop (fa := q.fa) o hu) (op_cop (fa := q.fa) p hu) ha hb hc (cm_marks o p hs)).w fun σ H Q ⟨β, ρ, env, st, e, S, h⟩ => ?_, (pt_chain (op_cop (fa := q.fa) o hu) (op_cop (fa := q.fa) p hu) ha hb hc (cm_marks o p hs)).w fun σ H Q ⟨β, ρ, env, st, e, S, h⟩ => ?_⟩
  · simp only [ev] at h
    refine ⟨β, ρ, env, st, e, S, h.bind.imp (fun x s1 h1 v1 H1 ρ1 a1 S1 r1 => ?_) fun _ _ _ g => g⟩
    refine ⟨β, ρ1, env, s1, e.stp a1, S1, (h1.bind.aftX a1).imp (fun y s2 h2 v2 H2 ρ2 a2 S2 r2 => ?_) fun _ _ _ g => g⟩
    obtain ⟨k, h3, h4⟩ := h2.bind.oD
    refine ⟨β, ρ2, s2, x, y, k, S2, r1.stp a2, r2, h3, k, rfl, ?_⟩
    cases k with
    | true =>
      rw [if_pos rfl] at h4 ⊢
      refine ⟨β, ρ2, env, s2, (e.stp a1).stp a2, S2, (h4.bind.aftX (a1.trans a2)).imp (fun z s3 h5 v3 H3 ρ3 a3 S3 r3 => ?_) fun _ _ _ g => g⟩
      obtain ⟨k2, h6, h7⟩ := h5.bind.oD
      exact ⟨β, ρ3, s3, y, z, k2, S3, r2.stp a3, r3, h6, (Post.after h7 ((a1.trans a2).trans a3)).here S3 (.bl _)⟩
    | false =>
      rw [if_neg Bool.false_ne_true] at h4 ⊢
      exact (Post.after h4 (a1.trans a2)).here S2 (.bl _)
  · simp only [ev] at h
    refine ⟨β, ρ, env, st, e, S, h.bind.bind.imp (fun x s1 h1 v1 H1 ρ1 a1 S1 r1 => ?_) fun _ _ _ g => g⟩
    refine ⟨β, ρ1, env, s1, e.stp a1, S1, (h1.bind.aftX a1).imp (fun y s2 h2 v2 H2 ρ2 a2 S2 r2 => ?_) fun _ _ _ g => g⟩
    obtain ⟨k, h3, h4⟩ := h2.bind.oD
    refine ⟨β, ρ2, s2, x, y, k, S2, r1.stp a2, r2, h3, k, rfl, ?_⟩
    cases k with
    | true =>
      rw [if_pos rfl] at h4 ⊢
      refine ⟨β, ρ2, env, s2, (e.stp a1).stp a2, S2, (h4.bind.aftX (a1.trans a2)).imp (fun z s3 h5 v3 H3 ρ3 a3 S3 r3 => ?_) fun _ _ _ g => g⟩
      obtain ⟨k2, h6, h7⟩ := h5.bind.oD
      exact ⟨β, ρ3, s3, y, z, k2, S3, r2.stp a3, r3, h6, k2, rfl, (PostB.after h7 ((a1.trans a2).trans a3)).here S3⟩
    | false =>
      rw [if_neg Bool.false_ne_true] at h4 ⊢
      exact ⟨false, rfl, (PostB.after h4 (a1.trans a2)).here S2⟩
theorem s_ife (hc : PT X pc (tWT X.K q c)) (ha : PE X pa (tW X.K q a)) (hb : PE X pb (tW X.K q b)) : PE X (.IfExp pc pa pb pos) (tW X.K q (.ife c a b)) :=
  (pe_ifExp hc ha hb).w fun σ H Q ⟨β, ρ, env, st, e, S, h⟩ => by
    simp only [ev] at h
    have h' : RP ((ev q.C q.G c env st).bind fun x s1 => tru x s1) (fun k s1 => RP (if k = true then ev q.C q.G a env s1 else ev q.C q.G b env s1) (fun d st' => Post X.K q.fa β ρ st H d st' Q) (PostX X.K q β ρ st H)) (PostX X.K q β ρ st H) := by
      cases hv : ev q.C q.G c env st with
      | ok x s1 =>
        rw [hv] at h
        have h2 : RP ((tru x s1).bind _) _ _ := h
        exact h2.bind
      | exn c d s1 =>
        rw [hv] at h
        exact h
      | bad =>
        rw [hv] at h
        exact h
    refine ⟨β, ρ, env, st, e, S, h'.imp (fun k s1 h1 H1 ρ1 a1 S1 => ?_) fun _ _ _ g => g⟩
    cases k with
    | true =>
      rw [if_pos rfl] at h1 ⊢
      exact ⟨β, ρ1, env, s1, e.stp a1, S1, h1.aft a1⟩
    | false =>
      rw [if_neg Bool.false_ne_true] at h1 ⊢
      exact ⟨β, ρ1, env, s1, e.stp a1, S1, h1.aft a1⟩
/-! and, or -/
theorem w_and {σ H Q} (h : tW X.K q (.and a b) σ H Q) : tAndV (tW X.K q a) (tW X.K q b) σ H Q := by
  obtain ⟨β, ρ, env, st, e, S, h⟩ := h
  simp only [ev] at h
  refine ⟨β, ρ, env, st, e, S, h.bind.imp (fun x s1 h1 v1 H1 ρ1 a1 S1 r1 => ?_) fun _ _ _ g => g⟩
  obtain ⟨k, rfl, h2⟩ := h1.bind.tru
  refine ⟨k, rd_bl r1, ?_⟩
  cases k with
  | true =>
    rw [if_pos rfl] at h2 ⊢
    exact ⟨β, ρ1, env, s1, e.stp a1, S1, h2.aft a1⟩
  | false =>
    rw [if_neg Bool.false_ne_true] at h2 ⊢
    exact (Post.after h2 a1).here S1 (.bl _)
theorem w_or {σ H Q} (h : tW X.K q (.or a b) σ H Q) : tOrV (tW X.K q a) (tW X.K q b) σ H Q := by
  obtain ⟨β, ρ, env, st, e, S, h⟩ := h
  simp only [ev] at h
  refine ⟨β, ρ, env, st, e, S, h.bind.imp (fun x s1 h1 v1 H1 ρ1 a1 S1 r1 => ?_) fun _ _ _ g => g⟩
  obtain ⟨k, rfl, h2⟩ := h1.bind.tru
  refine ⟨k, rd_bl r1, ?_⟩
  cases k with
  | true =>
    rw [if_pos rfl] at h2 ⊢
    exact (Post.after h2 a1).here S1 (.bl _)
  | false =>
    rw [if_neg Bool.false_ne_true] at h2 ⊢
    exact ⟨β, ρ1, env, s1, e.stp a1, S1, h2.aft a1⟩
theorem test_split {env : PL.Env} {st : Sto} {f : Bool → Sto → R D} {P : Bool → Sto → Prop} {Z : Nat → D → Sto → Prop} (h : RP (((ev q.C q.G a env st).bind fun x s1 => (tru x s1).bind f).bind fun x s1 => tru x s1) P Z) :
    RP ((ev q.C q.G a env st).bind fun x s1 => tru x s1) (fun k s1 => RP ((f k s1).bind fun x s1 => tru x s1) P Z) Z := by
  cases hv : ev q.C q.G a env st with
  | ok x s1 =>
    rw [hv] at h
    have h2 : RP (((tru x s1).bind f).bind fun x s1 => tru x s1) P Z := h
    show RP (tru x s1) (fun k s1 => RP ((f k s1).bind fun x s1 => tru x s1) P Z) Z
    cases x with
    | bl k => exact h2
    | _ => exact h2.elim
  | exn c d s1 =>
    rw [hv] at h
    exact h
  | bad =>
    rw [hv] at h
    exact h
theorem wt_and {σ H Q} (h : tWT X.K q (.and a b) σ H Q) : tAnd (tWT X.K q a) (tWT X.K q b) σ H Q := by
  obtain ⟨β, ρ, env, st, e, S, h⟩ := h
  simp only [ev] at h
  refine ⟨β, ρ, env, st, e, S, (test_split h).imp (fun k s1 h1 H1 ρ1 a1 S1 => ?_) fun _ _ _ g => g⟩
  cases k with
  | true =>
    rw [if_pos rfl] at h1 ⊢
    exact ⟨β, ρ1, env, s1, e.stp a1, S1, h1.aftB a1⟩
  | false =>
    rw [if_neg Bool.false_ne_true] at h1 ⊢
    exact (PostB.after h1 a1).here S1
theorem wt_or {σ H Q} (h : tWT X.K q (.or a b) σ H Q) : tOr (tWT X.K q a) (tWT X.K q b) σ H Q := by
  obtain ⟨β, ρ, env, st, e, S, h⟩ := h
  simp only [ev] at h
  refine ⟨β, ρ, env, st, e, S, (test_split h).imp (fun k s1 h1 H1 ρ1 a1 S1 => ?_) fun _ _ _ g => g⟩
  cases k with
  | true =>
    rw [if_pos rfl] at h1 ⊢
    exact (PostB.after h1 a1).here S1
  | false =>
    rw [if_neg Bool.false_ne_true] at h1 ⊢
    exact ⟨β, ρ1, env, s1, e.stp a1, S1, h1.aftB a1⟩
/-! ### rows of expressions -/
variable {es : Es} {pes : List Expr}
theorem s_nil : PA X [] (tWs X.K q .nil) := pa_nil.w fun σ H Q ⟨β, ρ, env, st, e, S, h⟩ => h [] H ρ .refl S .nil
theorem w_cons {σ H Q} (h : tWs X.K q (.cons a es) σ H Q) : tCons (tW X.K q a) (tWs X.K q es) σ H Q := by
  obtain ⟨β, ρ, env, st, e, S, h⟩ := h
  simp only [evs] at h
  refine ⟨β, ρ, env, st, e, S, h.bind.imp (fun x s1 h1 v1 H1 ρ1 a1 S1 r1 => ?_) fun _ _ _ g => g⟩
  refine ⟨β, ρ1, env, s1, e.stp a1, S1, (h1.bind.aftX a1).imp (fun xs s2 h2 vs H2 ρ2 a2 S2 r2 => ?_) fun _ _ _ g => g⟩
  exact h2 _ H2 ρ2 (a1.trans a2) S2 (.cons (r1.stp a2) r2)
theorem s_cons (ha : PE X pa (tW X.K q a)) (hr : PA X pes (tWs X.K q es)) (hs : starEach (pa :: pes) X.env = (false, eval pa X.env) :: starEach pes X.env) : PA X (pa :: pes) (tWs X.K q (.cons a es)) :=
  (pa_cons ha hr hs).w fun σ H Q h => w_cons h
theorem s_knil : PK X [] (tWs X.K q .nil) := pk_nil.w fun σ H Q ⟨β, ρ, env, st, e, S, h⟩ => h [] H ρ .refl S .nil
theorem s_kcons {nm : Option Str} {kpos : Pos} {kws : List Keyword} (ha : PE X pa (tW X.K q a)) (hr : PK X kws (tWs X.K q es)) : PK X (⟨nm, pa, kpos⟩ :: kws) (tWs X.K q (.cons a es)) :=
  (pk_cons ha hr).w fun σ H Q h => w_cons h
theorem s_tup {x1} (h : PA X pes (tWs X.K q es)) : PE X (.Tuple pes x1 pos) (tW X.K q (.tup es)) :=
  (pe_tupX h).w fun σ H Q ⟨β, ρ, env, st, e, S, h⟩ => by
    simp only [ev] at h
    refine ⟨β, ρ, env, st, e, S, h.bind.imp (fun ds s1 h1 vs H1 ρ1 a1 S1 r1 => ?_) fun _ _ _ g => g⟩
    split at h1
    · rename_i c
      exact ⟨by rw [← r1.length]; exact szOk_le c, fun p o hp ho => (Post.after h1 a1).tup S1 r1 hp ho⟩
    · exact h1.elim
/-- a list that is new: as a value, as a list of the store -/
def tNew (K : PySem.W.Frag) (q : Qm) (f : PL.Env → Sto → R (List D)) : TE := fun σ H Q => ∃ β ρ env st, RE K q.fa β ρ env st σ H ∧ RS K q.fa β ρ st H ∧
  RP (f env st) (fun ds st' => ∀ p vs H' ρ' b', Stp ρ st H ρ' st' H' → b' = p :: β → RS K q.fa b' ρ' st' H' → RDs K q.fa H' (Mu ρ' st') b' ρ' st'.length ds vs → H' p = some (.lst vs) → H p = none → Q (.ref p) H') (PostX K q β ρ st H)
theorem new_frz {K : PySem.W.Frag} {σ : L2.St} {H : Hp} {Q : VK} {f : PL.Env → Sto → R (List D)} (h : ∃ β ρ env st, RE K q.fa β ρ env st σ H ∧ RS K q.fa β ρ st H ∧ RP ((f env st).bind fun ds s => R.ok (D.frz ds) s) (fun d st' => Post K q.fa β ρ st H d st' Q) (PostX K q β ρ st H)) : tNew K q f σ H Q := by
  obtain ⟨β, ρ, env, st, e, S, h⟩ := h
  refine ⟨β, ρ, env, st, e, S, h.bind.imp (fun ds s1 h1 p vs H1 ρ1 b' a1 hb S1 r1 hp hn => ?_) fun _ _ _ g => g⟩
  subst hb
  have S1' : RS K q.fa β ρ1 s1 H1 := ⟨S1.nd, S1.len, fun i o ho => by
    obtain ⟨a, ws, e1, e2, e3⟩ := S1.obj i o ho
    exact ⟨a, ws, e1, e2, e3.mono (fun _ _ x y => ⟨x, y⟩) (fun _ _ x => x) (fun b hb => .inl (List.mem_cons_of_mem _ hb)) (Nat.le_refl _)⟩, fun b hb => S1.busy b (List.mem_cons_of_mem _ hb), S1.tabs⟩
  have np : p ∉ ρ1 := (S1.busy p List.mem_cons_self).2
  have nm : ¬ Mu ρ1 s1 p := fun z => z.elim (S1.notTbL hp) fun ⟨i, o, h1, _, _⟩ => np (List.mem_iff_getElem?.mpr ⟨i, h1⟩)
  have nb : p ∉ β := (S.fresh hn).2.1
  exact h1 (.ref p) H1 ρ1 a1 S1' (.frz hp nm nb (r1.mono (fun _ _ x y => ⟨x, y⟩) (fun _ _ x => x) (fun b hb => .inl (List.mem_cons_of_mem _ hb)) (Nat.le_refl _)))
theorem new_thaw {K : PySem.W.Frag} {σ : L2.St} {H : Hp} {Q : VK} {f : PL.Env → Sto → R (List D)} (h : ∃ β ρ env st, RE K q.fa β ρ env st σ H ∧ RS K q.fa β ρ st H ∧ RP ((f env st).bind fun ds s => R.ok (D.lst s.length) (s ++ [.lst ds])) (fun d st' => Post K q.fa β ρ st H d st' Q) (PostX K q β ρ st H)) : tNew K q f σ H Q := by
  obtain ⟨β, ρ, env, st, e, S, h⟩ := h
  refine ⟨β, ρ, env, st, e, S, h.bind.imp (fun ds s1 h1 p vs H1 ρ1 b' a1 hb S1 r1 hp hn => ?_) fun _ _ _ g => g⟩
  subst hb
  have h1 : Post K q.fa β ρ st H (D.lst s1.length) (s1 ++ [.lst ds]) Q := h1
  have np : p ∉ ρ1 := (S1.busy p List.mem_cons_self).2
  have nb : p ∉ β := (S.fresh hn).2.1
  have old : ∀ (j : Nat) (b : Addr), ρ1[j]? = some b → (ρ1 ++ [p])[j]? = some b := fun j b h => by
    rw [List.getElem?_append_left (List.getElem?_eq_some_iff.mp h).1]
    exact h
  have back : ∀ (j : Nat) (b : Addr), (ρ1 ++ [p])[j]? = some b → ρ1[j]? = some b ∨ (j = ρ1.length ∧ b = p) := fun j b h => by
    by_cases hj : j < ρ1.length
    · rw [List.getElem?_append_left hj] at h
      exact .inl h
    · rw [List.getElem?_append_right (by omega)] at h
      have hj2 : j - ρ1.length = 0 := by
        have := (List.getElem?_eq_some_iff.mp h).1
        simp at this
        omega
      rw [hj2] at h
      simp at h
      exact .inr ⟨by omega, h.symm⟩
  have mu : ∀ b, Mu (ρ1 ++ [p]) (s1 ++ [.lst ds]) b → Mu ρ1 s1 b ∨ b = p := fun b z => z.elim (fun t => .inl (.inl t)) fun ⟨j, o, h1, h2, h3⟩ => by
    rcases back j b h1 with z | ⟨_, z⟩
    · left
      have hl : j < s1.length := by rw [← S1.len]; exact (List.getElem?_eq_some_iff.mp z).1
      rw [List.getElem?_append_left hl] at h2
      exact .inr ⟨j, o, z, h2, h3⟩
    · exact .inr z
  -- what a value that was read while p was busy names, is not p
  have conv : ∀ (n : Nat) {es : List D} {ws : List V}, RDs K q.fa H1 (Mu ρ1 s1) (p :: β) ρ1 n es ws → RDs K q.fa H1 (fun b => Mu ρ1 s1 b ∨ b = p) β ρ1 n es ws := fun n es ws r => r.busyMu
  have S2 : RS K q.fa β (ρ1 ++ [p]) (s1 ++ [.lst ds]) H1 := by
    refine ⟨fun i j b h1 h2 => ?_, by simp [S1.len], fun j o h => ?_, fun b hb => ?_, S1.tabs⟩
    · rcases back i b h1 with q1 | ⟨q1, e1⟩
      · rcases back j b h2 with q2 | ⟨q2, e2⟩
        · exact S1.nd i j b q1 q2
        · exact absurd (List.mem_iff_getElem?.mpr ⟨i, by rw [← e2]; exact q1⟩) np
      · rcases back j b h2 with q2 | ⟨q2, e2⟩
        · exact absurd (List.mem_iff_getElem?.mpr ⟨j, by rw [← e1]; exact q2⟩) np
        · omega
    · by_cases hj : j < s1.length
      · rw [List.getElem?_append_left hj] at h
        obtain ⟨b, ws, e1, e2, e3⟩ := S1.obj j o h
        exact ⟨b, ws, old j b e1, e2, (conv j e3).mono (fun a o x y => ⟨x, fun z => y (mu a z)⟩) old (fun _ x => .inl x) (Nat.le_refl _)⟩
      · rw [List.getElem?_append_right (by omega)] at h
        have hj2 : j - s1.length = 0 := by
          have := (List.getElem?_eq_some_iff.mp h).1
          simp at this
          omega
        rw [hj2] at h
        simp at h
        subst h
        have ej : j = s1.length := by omega
        subst ej
        exact ⟨p, vs, by rw [← S1.len]; simp, hp, (conv _ r1).mono (fun a o x y => ⟨x, fun z => y (mu a z)⟩) old (fun _ x => .inl x) (Nat.le_refl _)⟩
    · obtain ⟨⟨o, e⟩, nb'⟩ := S1.busy b (List.mem_cons_of_mem _ hb)
      refine ⟨⟨o, e⟩, fun z => ?_⟩
      rcases List.mem_append.mp z with z | z
      · exact nb' z
      · rw [List.mem_singleton.mp z] at hb
        exact nb hb
  have a2 : Stp ρ st H (ρ1 ++ [p]) (s1 ++ [.lst ds]) H1 := by
    refine ⟨?_, Nat.le_trans a1.le (by simp), fun b o h m => ?_, fun j es h => ?_⟩
    · obtain ⟨t, rfl⟩ := a1.pre
      exact ⟨t ++ [p], by simp⟩
    · obtain ⟨k1, k2⟩ := a1.keep b o h m
      refine ⟨k1, fun z => ?_⟩
      rcases mu b z with z | z
      · exact k2 z
      · exact ne_of_none h hn z
    · have := a1.lck j es h
      rw [List.getElem?_append_left (its_get this)]
      exact this
  exact h1 (.ref p) H1 (ρ1 ++ [p]) a2 S2 (.lst (by simp) (by rw [← S1.len]; simp))
theorem w_list {σ H Q} (h : tNew X.K q (fun env st => (evs q.C q.G es env st).bind fun ds s => if szOk ds.length then .ok ds s else .bad) σ H Q) : tLst (tWs X.K q es) σ H Q := by
  obtain ⟨β, ρ, env, st, e, S, h⟩ := h
  refine ⟨β, ρ, env, st, e, S, h.bind.imp (fun ds s1 h1 vs H1 ρ1 a1 S1 r1 => ?_) fun _ _ _ g => g⟩
  split at h1
  · rename_i c
    refine ⟨by rw [← r1.length]; exact szOk_le c, fun p hp => ?_⟩
    have hpH : H p = none := by
      cases hh : H p with
      | none => rfl
      | some o =>
        by_cases hm : Mu ρ st p
        · rcases hm with hm | ⟨i, o', e1, e2, e3⟩
          · exact absurd hm (S1.notTb hp)
          obtain ⟨a, ws, f1, f2, f3⟩ := S1.obj i _ (List.getElem?_eq_getElem (show i < s1.length from Nat.lt_of_lt_of_le (its_get e2) a1.le))
          rw [a1.at i p e1] at f1
          cases f1
          rw [hp] at f2
          cases f2
        · have := (a1.keep p o hh hm).1
          rw [hp] at this
          cases this
    have L := S1.lay (o := .lst vs) hp
    obtain ⟨f1, f2, f3⟩ := S1.fresh hp
    have Sb : RS X.K q.fa (p :: β) ρ1 s1 (upd H1 p (.lst vs)) := by
      refine ⟨S1.nd, S1.len, fun i u e => ?_, fun b hb => ?_, tabs_new S1.tabs hp⟩
      · obtain ⟨a, ws, e1, e2, e3⟩ := S1.obj i u e
        refine ⟨a, ws, e1, by rw [upd_ne (ne_of_none e2 hp)]; exact e2, e3.mono L.2.keep (fun _ _ x => x) (fun b hb => ?_) (Nat.le_refl _)⟩
        rcases List.mem_cons.mp hb with z | z
        · exact .inr (by rw [z]; exact hp)
        · exact .inl z
      · rcases List.mem_cons.mp hb with z | z
        · rw [z]
          exact ⟨⟨_, upd_same⟩, f1⟩
        · exact L.1.busy b z
    exact h1 p vs _ ρ1 _ (a1.trans L.2) rfl Sb (r1.mono L.2.keep (fun _ _ x => x) (fun b hb => by
      rcases List.mem_cons.mp hb with z | z
      · exact .inr (by rw [z]; exact hp)
      · exact .inl z) (Nat.le_refl _)) upd_same hpH
  · exact h1.elim
end
end PL

set_option Elab.async false
set_option linter.all false
set_option maxRecDepth 100000
set_option maxHeartbeats 1000000
/-! Subscripts, slices, calls, methods. -/
namespace PL
open PySem PySem.Spec PyProof.Rows L2
variable [Tbl]
section
variable {X : Cx} {q : Qm} {a b c : E} {pa pb pc pe : Expr} {pos : Pos} {es : Es} {pes : List Expr} {fa : Nat → Addr}
/-! ### lists -/
theorem s_list (h : PA X pes (tWs X.K q es)) : PE X (.List pes pos) (tW X.K q (.list es)) :=
  (pe_lst h).w fun σ H Q ⟨β, ρ, env, st, e, S, h⟩ => w_list (new_frz ⟨β, ρ, env, st, e, S, by
    simp only [ev] at h
    cases hv : evs q.C q.G es env st with
    | ok ds s1 =>
      rw [hv] at h
      have h : RP (if szOk ds.length = true then R.ok (D.frz ds) s1 else .bad) _ _ := h
      show RP ((if szOk ds.length = true then R.ok ds s1 else .bad).bind fun ds s => R.ok (D.frz ds) s) _ _
      split at h
      · rename_i c
        rw [if_pos c]
        exact h
      · exact h.elim
    | exn c d s1 =>
      rw [hv] at h
      exact h
    | bad =>
      rw [hv] at h
      exact h⟩)
/-! displays with stars -/
def tWz (K : PySem.W.Frag) (q : Qm) (zs : Zs) : TA := fun σ H Q => ∃ β ρ env st, RE K q.fa β ρ env st σ H ∧ RS K q.fa β ρ st H ∧ RP (evz q.C q.G zs env st) (fun ds st' => PostS K q.fa β ρ st H ds st' Q) (PostX K q β ρ st H)
variable {zs : Zs}
theorem zz_nil : PA X [] (tWz X.K q .nil) := pa_nil.w fun σ H Q ⟨β, ρ, env, st, e, S, h⟩ => h [] H ρ .refl S .nil
theorem zz_cons (ha : PE X pa (tW X.K q a)) (hr : PA X pes (tWz X.K q zs)) (hs : starEach (pa :: pes) X.env = (false, eval pa X.env) :: starEach pes X.env) : PA X (pa :: pes) (tWz X.K q (.cons a zs)) :=
  (pa_cons ha hr hs).w fun σ H Q h => by
    obtain ⟨β, ρ, env, st, e, S, h⟩ := h
    simp only [evz] at h
    refine ⟨β, ρ, env, st, e, S, h.bind.imp (fun x s1 h1 v1 H1 ρ1 a1 S1 r1 => ?_) fun _ _ _ g => g⟩
    refine ⟨β, ρ1, env, s1, e.stp a1, S1, (h1.bind.aftX a1).imp (fun xs s2 h2 vs H2 ρ2 a2 S2 r2 => ?_) fun _ _ _ g => g⟩
    exact h2 _ H2 ρ2 (a1.trans a2) S2 (.cons (r1.stp a2) r2)
theorem zz_star {p : Pos} (ha : PE X pa (tW X.K q a)) (hr : PA X pes (tWz X.K q zs)) : PA X (.Starred pa p :: pes) (tWz X.K q (.star a zs)) :=
  (StX.pa_star ha hr).w fun σ H Q h => by
    obtain ⟨β, ρ, env, st, e, S, h⟩ := h
    simp only [evz] at h
    refine ⟨β, ρ, env, st, e, S, h.bind.imp (fun x s1 h1 v1 H1 ρ1 a1 S1 r1 => ?_) fun _ _ _ g => g⟩
    obtain ⟨es, he, h2⟩ := h1.bind.oD
    obtain ⟨p1, vs, rfl, hq, hr⟩ := rd_sv S1 r1 he
    refine ⟨p1, vs, rfl, hq.symm, β, ρ1, env, s1, e.stp a1, S1, (h2.bind.aftX a1).imp (fun xs s2 h3 ws H2 ρ2 a2 S2 r2 => ?_) fun _ _ _ g => g⟩
    exact h3 _ H2 ρ2 (a1.trans a2) S2 ((hr.stp a2).append r2)
theorem s_tups {x1} (h : PA X pes (tWz X.K q zs)) : PE X (.Tuple pes x1 pos) (tW X.K q (.tups zs)) :=
  (pe_tupX h).w fun σ H Q ⟨β, ρ, env, st, e, S, h⟩ => by
    simp only [ev] at h
    refine ⟨β, ρ, env, st, e, S, h.bind.imp (fun ds s1 h1 vs H1 ρ1 a1 S1 r1 => ?_) fun _ _ _ g => g⟩
    split at h1
    · rename_i c
      exact ⟨by rw [← r1.length]; exact szOk_le c, fun p o hp ho => (Post.after h1 a1).tup S1 r1 hp ho⟩
    · exact h1.elim
theorem s_listT (h : PA X pes (tWs X.K q es)) : PE X (.List pes pos) (tW X.K q (.thaw (.list es))) :=
  (pe_lst h).w fun σ H Q ⟨β, ρ, env, st, e, S, h⟩ => w_list (new_thaw ⟨β, ρ, env, st, e, S, by
    simp only [ev] at h
    cases hv : evs q.C q.G es env st with
    | ok ds s1 =>
      rw [hv] at h
      have h : RP ((if szOk ds.length = true then R.ok (D.frz ds) s1 else .bad).bind fun x s1 => thawD x s1) _ _ := h
      show RP ((if szOk ds.length = true then R.ok ds s1 else .bad).bind fun ds s => R.ok (D.lst s.length) (s ++ [.lst ds])) _ _
      split at h
      · rename_i c
        rw [if_pos c]
        exact h
      · exact h.elim
    | exn c d s1 =>
      rw [hv] at h
      exact h
    | bad =>
      rw [hv] at h
      exact h⟩)
/-! ### a subscript -/
def rIxD (K : PySem.W.Frag) (fa : Nat → Addr) : R2 := fun x y H Q => ∃ β ρ st dx i d, RS K fa β ρ st H ∧ RD K fa H (Mu ρ st) β ρ st.length dx x ∧ y = .int i ∧ ixD st dx i = some d ∧ Post K fa β ρ st H d st Q
theorem atI_eq {α : Type} (xs : List α) (i : Int) : PL.atI xs i = L2.atI xs i := rfl
theorem atI_at {α : Type} {xs : List α} {i : Int} {x : α} (h : PL.atI xs i = some x) : ∃ j, PL.ixN xs.length i = some j ∧ xs[j]? = some x := by
  unfold PL.atI at h
  obtain ⟨j, h1, h2⟩ := Option.bind_eq_some_iff.mp h
  exact ⟨j, h1, h2⟩
theorem ix_D : IxR X (rIxD X.K fa) := by
  intro value slice pins s σ H x y v u Q I rx ry h hs
  obtain ⟨β, ρ, st, dx, i, d, S, ra, rfl, hd, q⟩ := h
  unfold ixD at hd
  split at hd
  · split at hd
    · rename_i z c
      obtain ⟨k, hk, rfl⟩ := Option.map_eq_some_iff.mp hd
      cases ra
      exact ix_str value slice pins s σ H _ _ v u Q I rx ry ⟨_, i, k, rfl, rfl, by rw [str_len]; exact szOk_le c, hk, q.here S (.str [k])⟩ hs
    · cases hd
  · obtain ⟨ds, hds, hi⟩ := Option.bind_eq_some_iff.mp hd
    obtain ⟨p, vs, rfl, hq, hr⟩ := rd_sv S ra hds
    obtain ⟨j, h1, h2⟩ := atI_at hi
    obtain ⟨w, h3, r3⟩ := hr.get h2
    have hw : L2.atI vs i = some w := by
      unfold L2.atI
      have h1' : L2.ixN vs.length i = some j := by rw [← hr.length]; exact h1
      rw [h1']
      exact h3
    rcases hq with hq | hq
    · exact ix_list value slice pins s σ H _ _ v u Q I rx ry ⟨p, vs, i, w, rfl, rfl, hq, hw, q.here S r3⟩ hs
    · exact ix_tup value slice pins s σ H _ _ v u Q I rx ry ⟨p, vs, i, w, rfl, rfl, hq, hw, q.here S r3⟩ hs
theorem s_idx (ha : PE X pa (tW X.K q a)) (hb : PE X pb (tW X.K q b)) (hs : PlainIx pb) : PE X (.Subscript pa pb pos) (tW X.K q (.idx a b)) :=
  (pe_ix (ix_D (fa := q.fa)) ha hb hs).w fun σ H Q ⟨β, ρ, env, st, e, S, h⟩ => by
    simp only [ev] at h
    refine ⟨β, ρ, env, st, e, S, h.bind.imp (fun x s1 h1 v1 H1 ρ1 a1 S1 r1 => ?_) fun _ _ _ g => g⟩
    refine ⟨β, ρ1, env, s1, e.stp a1, S1, (h1.bind.aftX a1).imp (fun y s2 h2 v2 H2 ρ2 a2 S2 r2 => ?_) fun _ _ _ g => g⟩
    obtain ⟨i, rfl, h3⟩ := h2.bind.toI
    obtain ⟨d, h4, h5⟩ := h3.oD
    exact ⟨β, ρ2, s2, x, i, d, S2, r1.stp a2, rd_int r2, h4, Post.after h5 (a1.trans a2)⟩
/-! ### slices -/
def rSlD (K : PySem.W.Frag) (fa : Nat → Addr) : V → Option Int → Option Int → Hp → VK → Prop := fun x lo hi H Q => ∃ β ρ st dx d, RS K fa β ρ st H ∧ RD K fa H (Mu ρ st) β ρ st.length dx x ∧ slD st dx lo hi = some d ∧ Post K fa β ρ st H d st Q
theorem cut_whole {α : Type} (xs : List α) (lo hi : Option Int) (h : PL.sIx xs.length 0 lo = 0 ∧ PL.sIx xs.length xs.length hi = xs.length) : cut xs lo hi = xs := by
  unfold cut
  rw [h.1, h.2, List.drop_zero, Nat.sub_zero, List.take_length]
theorem RDs.cut {K : PySem.W.Frag} {fa : Nat → Addr} {H : Hp} {m : Addr → Prop} {β ρ : List Addr} {n : Nat} {ds : List D} {vs : List V} (r : RDs K fa H m β ρ n ds vs) (lo hi : Option Int) : RDs K fa H m β ρ n (PL.cut ds lo hi) (cutV vs lo hi) := by
  unfold PL.cut cutV
  rw [r.length]
  exact (r.drop _).take _
theorem sl_D : SlR X (rSlD X.K fa) := by
  intro pins s σ H x v vl vu lo hi sl Q I rx hs pl pu h
  obtain ⟨β, ρ, st, dx, d, S, ra, hd, q⟩ := h
  unfold slD at hd
  split at hd
  · split at hd
    · rename_i z c
      cases hd
      cases ra
      refine sl_str pins s σ H _ v vl vu lo hi sl Q I rx hs pl pu ⟨_, rfl, by rw [str_len]; exact szOk_le c, ?_⟩
      have e : cutS ⟨z.toArray⟩ lo hi = ⟨(PL.cut z lo hi).toArray⟩ := by
        unfold cutS PL.cut
        rw [str_len]
        rfl
      rw [e]
      exact q.here S (.str _)
    · cases hd
  · rename_i ds
    cases hd
    obtain ⟨p, vs, rfl, hq, hr⟩ := rd_tup ra
    refine sl_tupX pins s σ H _ v vl vu lo hi sl Q I rx hs pl pu ⟨p, vs, rfl, hq, fun hw => ?_, fun _ p o hp ho => q.tup S (hr.cut lo hi) hp ho⟩
    have e : PL.cut ds lo hi = ds := cut_whole ds lo hi (by rw [hr.length]; exact hw)
    rw [e] at q
    exact q.here S ra
  · obtain ⟨ds, hds, rfl⟩ := Option.map_eq_some_iff.mp hd
    obtain ⟨p, vs, rfl, hq, hr⟩ := rd_lv S ra hds
    exact sl_list pins s σ H _ v vl vu lo hi sl Q I rx hs pl pu ⟨p, vs, rfl, hq, fun p hp => q.frz S (hr.cut lo hi) hp⟩
theorem s_onone : PO X none (tWo X.K q .none) := po_none.w fun σ H Q ⟨β, ρ, env, st, e, S, h⟩ => h H ρ .refl S
theorem s_osome (ha : PE X pa (tW X.K q a)) : PO X (some pa) (tWo X.K q (.some a)) := (po_some ha).w fun σ H Q ⟨β, ρ, env, st, e, S, h⟩ => by
  simp only [evo] at h
  refine ⟨β, ρ, env, st, e, S, h.bind.imp (fun x s1 h1 v1 H1 ρ1 a1 S1 r1 => ?_) fun _ _ _ g => g⟩
  obtain ⟨i, rfl, h2⟩ := h1.bind.toI
  exact ⟨i, rd_int r1, h2 H1 ρ1 a1 S1⟩
theorem w_slc {lo hi : Oe} {d : Bool} {σ H Q} (h : tW X.K q (.slc a lo hi) σ H Q) : tSl (rSlD X.K q.fa) (tW X.K q a) (tWo X.K q lo) (tWo X.K q hi) σ H Q := by
  obtain ⟨β, ρ, env, st, e, S, h⟩ := h
  simp only [ev] at h
  refine ⟨β, ρ, env, st, e, S, h.bind.imp (fun x s1 h1 v1 H1 ρ1 a1 S1 r1 => ?_) fun _ _ _ g => g⟩
  refine ⟨β, ρ1, env, s1, e.stp a1, S1, (h1.bind.aftX a1).imp (fun l s2 h2 H2 ρ2 a2 S2 => ?_) fun _ _ _ g => g⟩
  refine ⟨β, ρ2, env, s2, (e.stp a1).stp a2, S2, (h2.bind.aftX (a1.trans a2)).imp (fun u s3 h3 H3 ρ3 a3 S3 => ?_) fun _ _ _ g => g⟩
  obtain ⟨d, h4, h5⟩ := h3.oD
  exact ⟨β, ρ3, s3, x, d, S3, (r1.stp a2).stp a3, h4, Post.after h5 ((a1.trans a2).trans a3)⟩
theorem s_slc {lo hi : Oe} {plo phi : Option Expr} {p2 : Pos} (ha : PE X pa (tW X.K q a)) (hl : PO X plo (tWo X.K q lo)) (hh : PO X phi (tWo X.K q hi)) : PE X (.Subscript pa (.Slice plo phi none p2) pos) (tW X.K q (.slc a lo hi)) :=
  (pe_slice (sl_D (fa := q.fa)) ha hl hh).w fun σ H Q h => w_slc (d := true) h
/-! ### built-in functions, isinstance -/
theorem s_blB {i : String} {x : Str} {p : Pos} {bl : Bl} (hc : X.calm = true) (hi : blV bl = .builtin i) (hg : Gl X x) (hm : X.mg x = none) (hv : bootBuiltins x = some (.builtin i)) (hn : x ≠ "__name__") (hdb : (x == ("__debug__" : Str)) = false)
    (ha : PA X (pe :: pes) (tWs X.K q es)) (he : starEach (pe :: pes) X.env = (false, eval pe X.env) :: starEach pes X.env) (hpl : (backTo pos (starEach pes X.env)).any (·.1) = false) : PE X (.Call (.Name x p) (pe :: pes) [] pos) (tW X.K q (.blt bl es)) :=
  (pe_callB (r := rBl X.K q.fa bl) (hi ▸ call_bl hc bl) hg hm hv ha hn hdb he hpl).w fun σ H Q ⟨β, ρ, env, st, e, S, h⟩ => by
    simp only [ev] at h
    refine ⟨β, ρ, env, st, e, S, h.bind.imp (fun ds s1 h1 vs H1 ρ1 a1 S1 r1 => ?_) fun _ _ _ g => g⟩
    obtain ⟨d, h4, h5⟩ := h1.oD
    exact ⟨β, ρ1, s1, ds, d, S1, r1, h4, Post.after h5 a1⟩
theorem s_blT {i : String} {x : Str} {p : Pos} {bl : Bl} (hc : X.calm = true) (hi : blV bl = .type i) (hg : Gl X x) (hm : X.mg x = none) (hv : bootBuiltins x = some (.type i)) (hn : x ≠ "__name__") (hdb : (x == ("__debug__" : Str)) = false)
    (ha : PA X (pe :: pes) (tWs X.K q es)) (he : starEach (pe :: pes) X.env = (false, eval pe X.env) :: starEach pes X.env) (hpl : (backTo pos (starEach pes X.env)).any (·.1) = false) : PE X (.Call (.Name x p) (pe :: pes) [] pos) (tW X.K q (.blt bl es)) :=
  (pe_callTy (r := rBl X.K q.fa bl) (hi ▸ call_bl hc bl) hg hm hv ha hn hdb he hpl).w fun σ H Q ⟨β, ρ, env, st, e, S, h⟩ => by
    simp only [ev] at h
    refine ⟨β, ρ, env, st, e, S, h.bind.imp (fun ds s1 h1 vs H1 ρ1 a1 S1 r1 => ?_) fun _ _ _ g => g⟩
    obtain ⟨d, h4, h5⟩ := h1.oD
    exact ⟨β, ρ1, s1, ds, d, S1, r1, h4, Post.after h5 a1⟩
def rIsD (K : PySem.W.Frag) (fa : Nat → Addr) (t : Ty) : List V → Hp → VK → Prop := fun vs H Q => ∃ β ρ st d x k, vs = [x, .ty (tyN t)] ∧ RS K fa β ρ st H ∧ RD K fa H (Mu ρ st) β ρ st.length d x ∧ isInst t d = some k ∧ Q (.bl k) H
theorem call_isD (t : Ty) : CallR X (.builtin "isinstance") (rIsD X.K fa t) := by
  intro pins s σ H xs us Q I r h
  obtain ⟨β, ρ, st, d, x, k, rfl, S, ra, hk, q⟩ := h
  exact isi_ok I S ra r hk q
theorem s_isi {t : Ty} {x y : Str} {p p2 : Pos} (hg : Gl X x) (hm : X.mg x = none) (hv : bootBuiltins x = some (.builtin "isinstance")) (hn : x ≠ "__name__") (hdb : (x == ("__debug__" : Str)) = false)
    (hg2 : Gl X y) (hm2 : X.mg y = none) (hv2 : bootBuiltins y = some (.type (tyN t))) (hn2 : y ≠ "__name__") (hdb2 : (y == ("__debug__" : Str)) = false)
    (ha : PE X pa (tW X.K q a)) (he : starEach [pa, .Name y p2] X.env = (false, eval pa X.env) :: starEach [.Name y p2] X.env) : PE X (.Call (.Name x p) [pa, .Name y p2] [] pos) (tW X.K q (.isi a t)) :=
  (pe_callB (r := rIsD X.K q.fa t) (call_isD t) hg hm hv (pa_cons ha (pa_cons (pe_bltn (v := .ty (tyN t)) hg2 hm2 hv2 rfl hn2 hdb2) pa_nil) he) hn hdb he rfl).w fun σ H Q ⟨β, ρ, env, st, e, S, h⟩ => by
    simp only [ev] at h
    refine ⟨β, ρ, env, st, e, S, h.bind.imp (fun x s1 h1 v H1 ρ1 a1 S1 r1 => ?_) fun _ _ _ g => g⟩
    obtain ⟨d, h4, h5⟩ := h1.oD
    obtain ⟨k, hk, rfl⟩ := Option.map_eq_some_iff.mp h4
    exact ⟨β, ρ1, s1, x, v, k, rfl, S1, r1, hk, (Post.after h5 a1).here S1 (.bl _)⟩
/-! ### calls of defs -/
/-- a def's promise -/
def spC (K : PySem.W.Frag) (q : Qm) (C : Nat → List D → Sto → R D) (f np : Nat) : Sp := fun vs H Q E => ∃ β ρ st ds, RS K q.fa β ρ st H ∧ RDs K q.fa H (Mu ρ st) β ρ st.length ds vs ∧ ds.length = np ∧
  RP (C f ds st) (fun d st' => Post K q.fa β ρ st H d st' Q) (PostX K { q with XE := E } β ρ st H)
theorem w_call {f np : Nat} {σ H Q} (hlen : ∀ ds st, RP (q.C f ds st) (fun _ _ => True) (fun _ _ _ => True) → ds.length = np) (h : tW X.K q (.call f es) σ H Q) : tCall (spC X.K q q.C f np) [] q.XE (tWs X.K q es) σ H Q := by
  obtain ⟨β, ρ, env, st, e, S, h⟩ := h
  simp only [ev] at h
  refine ⟨β, ρ, env, st, e, S, h.bind.imp (fun ds s1 h1 vs H1 ρ1 a1 S1 r1 => ?_) fun _ _ _ g => g⟩
  show spC X.K q q.C f np (vs ++ []) H1 Q q.XE
  rw [List.append_nil]
  exact ⟨β, ρ1, s1, ds, S1, r1, hlen ds s1 (h1.imp (fun _ _ _ => trivial) fun _ _ _ _ => trivial), h1.aft a1⟩
theorem s_call {CX : CXT} {k f np : Nat} {fd : FuncData} {ps : List Str} {x : Str} {p : Pos} (hlen : ∀ ds st, RP (q.C f ds st) (fun _ _ => True) (fun _ _ _ => True) → ds.length = np) (F : FnOk X.prog X.w X.K X.mg X.base CX k (q.fa f) fd ps (spC X.K q q.C f np)) (hr : Room k X.A) (hg : Gl X x) (hm : X.mg x = some (.ref (q.fa f)))
    (hk : PySem.W.keepIn X.K (.ref (q.fa f)) = true) (hb : Binds X.K fd ps []) (hx : Passes CX X q.XE) (hdb : (x == ("__debug__" : Str)) = false)
    (ha : PA X (pe :: pes) (tWs X.K q es)) (he : starEach (pe :: pes) X.env = (false, eval pe X.env) :: starEach pes X.env) (hpl : (backTo pos (starEach pes X.env)).any (·.1) = false) : PE X (.Call (.Name x p) (pe :: pes) [] pos) (tW X.K q (.call f es)) :=
  (pe_call F hr hg hm hk hb .nil hx ha hdb he hpl).w fun σ H Q h => w_call hlen h
theorem s_call0 {CX : CXT} {k f np : Nat} {fd : FuncData} {ps : List Str} {x : Str} {p : Pos} (hlen : ∀ ds st, RP (q.C f ds st) (fun _ _ => True) (fun _ _ _ => True) → ds.length = np) (F : FnOk X.prog X.w X.K X.mg X.base CX k (q.fa f) fd ps (spC X.K q q.C f np)) (hr : Room k X.A) (hg : Gl X x) (hm : X.mg x = some (.ref (q.fa f)))
    (hk : PySem.W.keepIn X.K (.ref (q.fa f)) = true) (hb : Binds X.K fd ps []) (hx : Passes CX X q.XE) (hdb : (x == ("__debug__" : Str)) = false) : PE X (.Call (.Name x p) [] [] pos) (tW X.K q (.call f .nil)) :=
  (pe_call0 F hr hg hm hk hb .nil hx hdb).w fun σ H Q h => by
    obtain ⟨β, ρ, env, st, e, S, h⟩ := w_call (X := X) (es := .nil) hlen h
    exact h [] H ρ .refl S .nil
/-- keywords: the values in the parameters' order -/
def gK {α : Type} (dflt : α) (pm : List Nat) (us ws : List α) : List α := pm.map fun j => (us ++ ws).getD j dflt
theorem vals_getD : ∀ {vs : List V} {us : List Value}, Vals vs us → ∀ j, RelV (vs.getD j .non) (us.getD j .none)
  | _, _, .nil, _ => rfl
  | _, _, .cons r _, 0 => r
  | _, _, .cons _ t, j + 1 => vals_getD t j
theorem gK_rel (pm : List Nat) {vs : List V} {us : List Value} {zs : List V} {ws : List Value} (h : Vals vs us) (h2 : Vals zs ws) : Vals (gK V.non pm vs zs) (gK Value.none pm us ws) := by
  unfold gK
  induction pm with
  | nil => exact .nil
  | cons j r ih => exact .cons (vals_getD (h.append h2) j) ih
theorem rds_getD {K : PySem.W.Frag} {fa : Nat → Addr} {H : Hp} {m : Addr → Prop} {β ρ : List Addr} {n : Nat} : ∀ {ds : List D} {vs : List V}, RDs K fa H m β ρ n ds vs → ∀ j, RD K fa H m β ρ n (ds.getD j .non) (vs.getD j .non)
  | _, _, .nil, _ => .non
  | _, _, .cons r _, 0 => r
  | _, _, .cons _ t, j + 1 => rds_getD t j
theorem rds_gK {K : PySem.W.Frag} {fa : Nat → Addr} {H : Hp} {m : Addr → Prop} {β ρ : List Addr} {n : Nat} {ds es : List D} {vs zs : List V} (pm : List Nat) (r : RDs K fa H m β ρ n ds vs) (r2 : RDs K fa H m β ρ n es zs) :
    RDs K fa H m β ρ n (pm.map fun j => (ds ++ es).getD j .non) (gK V.non pm vs zs) := by
  unfold gK
  induction pm with
  | nil => exact .nil
  | cons j t ih => exact .cons (rds_getD (r.append r2) j) ih
theorem w_callk {f np : Nat} {pm : List Nat} {ks : Es} {n m : Nat} {σ H Q} (hlen : ∀ ds st, RP (q.C f ds st) (fun _ _ => True) (fun _ _ _ => True) → ds.length = np) (hn : ∀ env st, RP (evs q.C q.G es env st) (fun ds _ => ds.length = n) (fun _ _ _ => True) ∨ evs q.C q.G es env st = .bad)
    (hm : ∀ env st, RP (evs q.C q.G ks env st) (fun ds _ => ds.length = m) (fun _ _ _ => True) ∨ evs q.C q.G ks env st = .bad) (h : tW X.K q (.callk f es ks pm) σ H Q) :
    tCallN n m (spC X.K q q.C f np) (gK V.non pm) q.XE (tWs X.K q es) (tWs X.K q ks) σ H Q := by
  obtain ⟨β, ρ, env, st, e, S, h⟩ := h
  simp only [ev] at h
  refine ⟨β, ρ, env, st, e, S, ?_⟩
  have h' := h.bind
  have l1 := hn env st
  cases hv : evs q.C q.G es env st with
  | bad =>
    rw [hv] at h'
    exact h'
  | exn c d s1 =>
    rw [hv] at h'
    exact h'
  | ok ds s1 =>
    rw [hv] at h' l1
    have hl : ds.length = n := l1.elim id fun z => nomatch z
    intro vs H1 ρ1 a1 S1 r1
    refine ⟨β, ρ1, env, s1, e.stp a1, S1, ?_⟩
    have h2 := RP.aftX (RP.bind h') a1
    have l2 := hm env s1
    cases hw : evs q.C q.G ks env s1 with
    | bad =>
      rw [hw] at h2
      exact h2
    | exn c d s2 =>
      rw [hw] at h2
      exact h2
    | ok ws s2 =>
      rw [hw] at h2 l2
      have hl2 : ws.length = m := l2.elim id fun z => nomatch z
      intro zs H2 ρ2 a2 S2 r2
      refine ⟨by rw [← r1.length]; exact hl, by rw [← r2.length]; exact hl2, β, ρ2, s2, _, S2, rds_gK pm (r1.stp a2) r2, ?_, ?_⟩
      · exact hlen _ s2 (RP.imp h2 (fun _ _ _ => trivial) fun _ _ _ _ => trivial)
      · have h3 : RP (q.C f (pm.map fun j => (ds ++ ws).getD j .non) s2) (fun d st' => Post X.K q.fa β ρ st H d st' Q) (PostX X.K q β ρ st H) := h2
        exact h3.imp (fun _ _ g => Post.after g (a1.trans a2)) fun _ _ _ g => PostX.after g (a1.trans a2)
theorem evs_len : ∀ (es : Es) (C : Nat → List D → Sto → R D) (G : Nat → D), ∃ n, ∀ env st, RP (evs C G es env st) (fun ds _ => ds.length = n) (fun _ _ _ => True) ∨ evs C G es env st = .bad
  | .nil, C, G => ⟨0, fun env st => .inl rfl⟩
  | .cons e es, C, G => by
    obtain ⟨n, h⟩ := evs_len es C G
    refine ⟨n + 1, fun env st => ?_⟩
    simp only [evs]
    cases hv : ev C G e env st with
    | ok x s1 =>
      show RP ((evs C G es env s1).bind fun xs s2 => R.ok (x :: xs) s2) _ _ ∨ ((evs C G es env s1).bind fun xs s2 => R.ok (x :: xs) s2) = .bad
      have q := h env s1
      cases hw : evs C G es env s1 with
      | ok xs s2 =>
        rw [hw] at q
        left
        have q2 : xs.length = n := q.elim id fun z => nomatch z
        show xs.length + 1 = n + 1
        rw [q2]
      | exn c d s2 => exact .inl trivial
      | bad => exact .inr rfl
    | exn c d s1 => exact .inl trivial
    | bad => exact .inr rfl
end
end PL

set_option Elab.async false
set_option linter.all false
set_option maxRecDepth 100000
set_option maxHeartbeats 1000000
/-! Methods; a call through a name; lists into the store. -/
namespace PL
open PySem PySem.Spec PyProof.Rows L2 PySem.SeqAt
variable [Tbl]
def mId : Mt → String
  | .append => "list.append" | .pop => "list.pop" | .popAt => "list.pop" | .index => "str.index" | .count => "list.count" | .split => "str.split" | .join => "str.join" | .bitlen => "int.bit_length" | .tindex => "tuple.index" | .partition => "str.partition"
def mT : Mt → String
  | .append => "list" | .pop => "list" | .popAt => "list" | .index => "str" | .count => "list" | .split => "str" | .join => "str" | .bitlen => "int" | .tindex => "tuple" | .partition => "str"
def mN : Mt → Str
  | .append => "append" | .pop => "pop" | .popAt => "pop" | .index => "index" | .count => "count" | .split => "split" | .join => "join" | .bitlen => "bit_length" | .tindex => "index" | .partition => "partition"
def rM (K : PySem.W.Frag) (fa : Nat → Addr) (m : Mt) : V → List V → Hp → VK → Prop := fun x vs H Q => ∃ β ρ st dx ds d st', RS K fa β ρ st H ∧ RD K fa H (Mu ρ st) β ρ st.length dx x ∧ RDs K fa H (Mu ρ st) β ρ st.length ds vs ∧ mcall st m dx ds = .ok d st' ∧ Post K fa β ρ st H d st' Q
section
variable {X : Cx} {q : Qm} {a b c : E} {pa pb pc pe : Expr} {pos : Pos} {es : Es} {pes : List Expr} {fa : Nat → Addr}
theorem idx_at {z : List Nat} {k : Nat} : ∀ {j : Nat}, idxOf k z = some j → z[j]? = some k ∧ ∀ i, i < j → z[i]? ≠ some k := by
  induction z with
  | nil => intro j h; cases h
  | cons y ys ih =>
    intro j h
    simp only [idxOf] at h
    split at h
    · rename_i e
      cases h
      exact ⟨by rw [e]; rfl, fun i hi => absurd hi (Nat.not_lt_zero _)⟩
    · rename_i ne
      obtain ⟨j', h1, rfl⟩ := Option.map_eq_some_iff.mp h
      obtain ⟨h2, h3⟩ := ih h1
      refine ⟨by simpa using h2, fun i hi => ?_⟩
      cases i with
      | zero => simpa using ne
      | succ i => simpa using h3 i (by omega)
theorem pre_one (k : Nat) (z : List Nat) (i : Nat) : StrLaws.At ⟨z.toArray⟩ ⟨#[k]⟩ (⟨z.toArray⟩ : Str).length i ↔ z[i]? = some k := by
  have h1 : (⟨#[k]⟩ : Str).length = 1 := rfl
  have h2 : (⟨z.toArray⟩ : Str).length = z.length := str_len z
  unfold StrLaws.At
  rw [StrLaws.subAt_eq, h1, h2]
  show (i + 1 ≤ z.length ∧ ((z.drop i).take 1 == [k]) = true) ↔ _
  constructor
  · rintro ⟨h3, h4⟩
    have e : (z.drop i).take 1 = [k] := by simpa using h4
    have h5 : i < z.length := h3
    rw [List.drop_eq_getElem_cons h5, List.take_succ_cons, List.take_zero] at e
    rw [List.getElem?_eq_getElem h5, (List.cons.inj e).1]
  · intro h
    obtain ⟨h3, h4⟩ := List.getElem?_eq_some_iff.mp h
    refine ⟨h3, ?_⟩
    rw [List.drop_eq_getElem_cons h3, h4]
    simp
theorem occ_idx {z : List Nat} {k j : Nat} (h : idxOf k z = some j) : ∃ r, Builtin.Str.occurrences ⟨z.toArray⟩ ⟨#[k]⟩ 0 (⟨z.toArray⟩ : Str).length 1 = j :: r := by
  obtain ⟨h1, h2⟩ := idx_at h
  rcases StrLaws.occ_head ⟨z.toArray⟩ ⟨#[k]⟩ 1 (Nat.le_refl _) with ⟨_, hn⟩ | ⟨i, r, e, hi, hk⟩
  · exact absurd ((pre_one k z j).mpr h1) (hn j)
  · have e1 := (pre_one k z i).mp hi
    have hij : i = j := by
      rcases Nat.lt_trichotomy i j with l | l | l
      · exact absurd e1 (h2 i l)
      · exact l
      · exact absurd ((pre_one k z j).mpr h1) (hk j l)
    subst hij
    exact ⟨r, e⟩
theorem ixN_seqI {n : Nat} {i : Int} {j : Nat} (h : PL.ixN n i = some j) : seqIndex? i n = some j := (L2.ixN_seq (show L2.ixN n i = some j from h)).1
theorem spl_C (c : Nat) : ∀ (s acc : List Nat), TL.spl [c] 0 acc s = (match splitC c s with | w :: ws => (acc ++ w) :: ws | [] => [acc])
  | [], acc => by simp [TL.spl, splitC]
  | x :: r, acc => by
    have pr : TL.pre [c] (x :: r) = decide (x = c) := by
      unfold TL.pre
      by_cases h : x = c
      · subst h
        simp
      · have : ([x] == [c]) = false := by simpa using h
        simp [h]
    unfold TL.spl splitC
    rw [pr]
    by_cases h : x = c
    · rw [if_pos (by simpa using h), if_pos h]
      show acc :: TL.spl [c] 0 [] r = _
      rw [spl_C c r []]
      have ne : splitC c r ≠ [] := by
        cases r with
        | nil => simp [splitC]
        | cons y r =>
          unfold splitC
          split
          · simp
          · split <;> simp
      cases hs : splitC c r with
      | nil => exact absurd hs ne
      | cons w ws => simp
    · rw [if_neg (by simpa using h), if_neg h, spl_C c r (acc ++ [x])]
      cases hs : splitC c r with
      | nil => simp
      | cons w ws => simp
theorem split_C (c : Nat) (s : List Nat) : TL.spl [c] 0 [] s = splitC c s := by
  rw [spl_C c s []]
  cases hs : splitC c s with
  | nil =>
    exfalso
    revert hs
    cases s with
    | nil => simp [splitC]
    | cons y r =>
      unfold splitC
      split
      · simp
      · split <;> simp
  | cons w ws => simp
theorem idx_none {z : List Nat} {k : Nat} (h : idxOf k z = none) : ∀ i : Nat, z[i]? ≠ some k := by
  induction z with
  | nil => intro i; simp
  | cons y ys ih =>
    intro i
    simp only [idxOf] at h
    split at h
    · cases h
    · rename_i ne
      cases i with
      | zero => simpa using ne
      | succ i => simpa using ih (Option.map_eq_none_iff.mp h) i
theorem occ_none {z : List Nat} {k : Nat} (h : idxOf k z = none) : Builtin.Str.occurrences ⟨z.toArray⟩ ⟨#[k]⟩ 0 (⟨z.toArray⟩ : Str).length 1 = [] := by
  rcases StrLaws.occ_head ⟨z.toArray⟩ ⟨#[k]⟩ 1 (Nat.le_refl _) with ⟨e, _⟩ | ⟨i, r, e, hi, hk⟩
  · exact e
  · exact absurd ((pre_one k z i).mp hi) (idx_none h i)
/-- x.partition(sign) -/
theorem mt_partX : MtR X "str.partition" (fun x xs H Q => ∃ (z : List Nat) (k : Nat), x = .str ⟨z.toArray⟩ ∧ xs = [.str ⟨#[k]⟩] ∧ z.length ≤ sizeLine ∧ ∀ p o, H p = none → o.dict = none →
    Q (.ref p) (upd H p (.frz o (.tup (match idxOf k z with | some j => [.str ⟨(z.take j).toArray⟩, .str ⟨#[k]⟩, .str ⟨(z.drop (j + 1)).toArray⟩] | none => [.str ⟨z.toArray⟩, .str ⟨#[]⟩, .str ⟨#[]⟩]))))) := by
  intro pins s σ H x xs v us Q I rx rs ⟨z, k, ex, exs, hz, h⟩
  subst ex exs
  obtain ⟨t, rfl⟩ := rx
  obtain ⟨u, rfl, t2, rfl⟩ := vals1 rs
  refine call_meets F.slot_str_partition (typeIs_str _ _ _) F.entry_str_partition (F.args_str_partition_2 _ _) (meets_str_partition ⟨z.toArray⟩ ⟨#[k]⟩ t t2 rfl (by rw [str_len]; exact hz)) ?_
  have three : (3 : Nat) ≤ sizeLine := by rw [sizeLine_eq]; decide
  cases e : idxOf k z with
  | none =>
    rw [e] at h
    rw [occ_none e]
    have J : Inv X pins σ H { s with toks := s.toks + 1 } := I.tok _
    exact tupAns (us := [.str ⟨z.toArray⟩ t, .str ⟨#[]⟩ s.toks, .str ⟨#[]⟩ s.toks]) (xs := [.str ⟨z.toArray⟩, .str ⟨#[]⟩, .str ⟨#[]⟩]) J three (.cons (show RelV (.str _) _ from ⟨_, rfl⟩) (.cons (show RelV (.str _) _ from ⟨_, rfl⟩) (.cons (show RelV (.str _) _ from ⟨_, rfl⟩) .nil))) h
  | some j =>
    rw [e] at h
    obtain ⟨r, eo⟩ := occ_idx e
    rw [eo]
    have J : Inv X pins σ H { s with toks := s.toks + 1 + 1 } := I.tok _
    have hj : j < z.length := (List.getElem?_eq_some_iff.mp (idx_at e).1).1
    have e1 : Builtin.Str.strSub ⟨z.toArray⟩ 0 j = ⟨(z.take j).toArray⟩ := by
      unfold Builtin.Str.strSub
      simp
    have e2 : Builtin.Str.strSub ⟨z.toArray⟩ (j + (⟨#[k]⟩ : Str).length) (⟨z.toArray⟩ : Str).length = ⟨(z.drop (j + 1)).toArray⟩ := by
      unfold Builtin.Str.strSub
      rw [str_len]
      show (⟨z.toArray.extract (j + 1) z.length⟩ : Str) = _
      simp
      exact List.take_of_length_le (by simp)
    have A := tupAns (us := [.str (Builtin.Str.strSub ⟨z.toArray⟩ 0 j) s.toks, .str ⟨#[k]⟩ t2, .str (Builtin.Str.strSub ⟨z.toArray⟩ (j + (⟨#[k]⟩ : Str).length) (⟨z.toArray⟩ : Str).length) (s.toks + 1)]) (xs := [.str ⟨(z.take j).toArray⟩, .str ⟨#[k]⟩, .str ⟨(z.drop (j + 1)).toArray⟩]) J three (by
      rw [e1, e2]
      exact .cons (show RelV (.str _) _ from ⟨_, rfl⟩) (.cons (show RelV (.str _) _ from ⟨_, rfl⟩) (.cons (show RelV (.str _) _ from ⟨_, rfl⟩) .nil))) h
    exact A
theorem mt_tup_indexI : MtR X "tuple.index" (fun x xs H Q => ∃ p, ∃ ns : List Int, ∃ k, x = .ref p ∧ xs = [.int k] ∧ SqT X.K H p (ns.map V.int) ∧ k ∈ ns ∧ Q (.int (ns.idxOf k : Nat)) H) := by
  intro pins s σ H x xs v us Q I rx rs h
  obtain ⟨p, ns, k, rfl, rfl, hq, hk, q⟩ := h
  cases rx
  obtain ⟨u, rfl, t, rfl⟩ := vals1 rs
  obtain ⟨its, r, pl, hz⟩ := I.tuple hq
  exact tuple_index_ints pl r.ints hk ⟨.int (ns.idxOf k : Nat), H, I.tok _, ⟨_, rfl⟩, q⟩
theorem mt_D (m : Mt) : MtR X (mId m) (rM X.K fa m) := by
  intro pins s σ H x xs v us Q I rx rs h
  obtain ⟨β, ρ, st, dx, ds, d, st', S, ra, rds, hm, q⟩ := h
  unfold mcall at hm
  split at hm
  · -- append
    split at hm
    · rename_i i d0 _ es hi
      split at hm
      · rename_i ok
        rw [Bool.and_eq_true] at ok
        cases hm
        cases ra with
        | lst h1 h2 =>
          cases rds with
          | cons r1 r2 =>
            cases r2
            obtain ⟨a, vs, e1, e2, e3⟩ := S.obj i _ hi
            rw [h2] at e1
            cases e1
            have P := S.put (ds' := es ++ [d0]) (vs' := vs ++ [_]) hi h2 (e3.append (.cons (r1.older ok.2) .nil))
            exact mt_append pins s σ H _ _ v us Q I rx rs ⟨_, vs, _, rfl, rfl, e2, by rw [← e3.length]; exact szLt_lt ok.1, q _ _ ρ P.2 P.1 .non⟩
      · cases hm
    · cases hm
  · -- pop
    split at hm
    · rename_i i _ es hi
      split at hm
      · rename_i d0 hd
        cases hm
        cases ra with
        | lst h1 h2 =>
          cases rds
          obtain ⟨a, vs, e1, e2, e3⟩ := S.obj i _ hi
          rw [h2] at e1
          cases e1
          obtain ⟨w, hw, rw'⟩ := e3.get hd
          have P := S.put (ds' := es.dropLast) (vs' := vs.dropLast) hi h2 e3.dropLast
          refine mt_pop pins s σ H _ _ v us Q I rx rs ⟨_, vs, w, rfl, rfl, e2, by rw [← e3.length]; exact hw, q _ _ ρ P.2 P.1 ?_⟩
          exact (rw'.mono (fun _ _ x y => ⟨x, y⟩) (fun _ _ x => x) (fun _ x => .inl x) (Nat.le_of_lt h1)).stp P.2
      · cases hm
    · cases hm
  · -- pop(i)
    split at hm
    · rename_i i k _ es hi
      split at hm
      · rename_i ok
        simp only [Bool.and_eq_true, decide_eq_true_eq] at ok
        split at hm
        · rename_i j hj
          split at hm
          · rename_i d0 hd
            cases hm
            cases ra with
            | lst h1 h2 =>
              cases rds with
              | cons r1 r2 =>
                cases r2
                cases r1
                obtain ⟨a, vs, e1, e2, e3⟩ := S.obj i _ hi
                rw [h2] at e1
                cases e1
                obtain ⟨w, hw, rw'⟩ := e3.get hd
                have P := S.put (ds' := es.eraseIdx j) (vs' := vs.eraseIdx j) hi h2 (e3.erase j)
                refine mt_popAt pins s σ H _ _ v us Q I rx rs ⟨_, vs, k, j, w, rfl, rfl, e2, ok.1, ok.2, by rw [← e3.length]; exact ixN_seqI hj, hw, q _ _ ρ P.2 P.1 ?_⟩
                exact (rw'.mono (fun _ _ x y => ⟨x, y⟩) (fun _ _ x => x) (fun _ x => .inl x) (Nat.le_of_lt h1)).stp P.2
          · cases hm
        · cases hm
      · cases hm
    · cases hm
  · -- str.index
    split at hm
    · rename_i z k _ j hj
      cases hm
      cases ra
      cases rds with
      | cons r1 r2 =>
        cases r2
        cases r1
        obtain ⟨r, e⟩ := occ_idx hj
        exact mt_sindex pins s σ H _ _ v us Q I rx rs ⟨_, _, j, r, rfl, rfl, e, q.here S (.int _)⟩
    · cases hm
  · -- list.count
    split at hm
    · rename_i o k _ ns hns
      cases hm
      obtain ⟨es, he, hi⟩ := Option.bind_eq_some_iff.mp hns
      cases rds with
      | cons r1 r2 =>
        cases r2
        cases r1
        obtain ⟨a, vs, rfl, hq, hr⟩ := rd_lv S ra he
        have e := hr.ints hi
        subst e
        exact mt_lcount pins s σ H _ _ v us Q I rx rs ⟨a, ns, k, rfl, rfl, hq, q.here S (.int _)⟩
    · cases hm
  · -- join
    split at hm
    · rename_i z d0 _ ps hps
      split at hm
      · rename_i ok
        cases hm
        obtain ⟨es, he, hi⟩ := Option.bind_eq_some_iff.mp hps
        cases ra
        cases rds with
        | cons r1 r2 =>
          cases r2
          obtain ⟨a, vs, rfl, hq, hr⟩ := rd_sv S r1 he
          have e := hr.strs hi
          subst e
          refine mt_join pins s σ H _ _ v us Q I rx rs ⟨_, a, ps.map fun s => (⟨s.toArray⟩ : Str), rfl, rfl, hq, ?_, ?_⟩
          · rw [show (List.map (fun s => (⟨s.toArray⟩ : Str)) ps).map (·.length) = ps.map List.length by
              rw [List.map_map]
              exact List.map_congr_left fun y _ => str_len y, List.length_map, str_len]
            have := szOk_le ok
            rw [sizeLine_eq] at this
            exact this
          · have e : Txt.join ⟨z.toArray⟩ (ps.map fun s => (⟨s.toArray⟩ : Str)) = ⟨(joinL z ps).toArray⟩ := by
              have j := SX.join_S z ps
              have jl : ∀ l : List (List Nat), TL.joinL z l = joinL z l := by
                intro l
                induction l with
                | nil => rfl
                | cons x r ih =>
                  cases r with
                  | nil => rfl
                  | cons y r => simp only [TL.joinL, joinL, ih]
              rw [jl] at j
              exact j
            rw [e]
            exact q.here S (.str _)
      · cases hm
    · cases hm
  · -- bit_length
    rename_i i
    cases hm
    cases ra
    cases rds
    obtain ⟨t, rfl⟩ := rx
    cases rs
    refine PyProof.Rows.call_int_bit_length ⟨.int (Builtin.Int.intBits i : Nat), H, I.tok _, ⟨_, rfl⟩, ?_⟩
    have e : ((Builtin.Int.intBits i : Nat) : Int) = bitLen i := by
      unfold Builtin.Int.intBits bitLen
      by_cases h : i = 0
      · subst h
        rfl
      · rw [if_neg h, if_neg (by simpa using h)]
    rw [e]
    exact q.here S (.int _)
  · -- partition
    rename_i z c
    split at hm
    · rename_i ok
      cases hm
      cases ra
      cases rds with
      | cons r1 r2 =>
        cases r2
        cases r1
        refine mt_partX pins s σ H _ _ v us Q I rx rs ⟨z, c, rfl, rfl, szOk_le ok, fun p o hp ho => ?_⟩
        unfold partC at q
        cases e : idxOf c z with
        | none =>
          rw [e] at q
          exact q.tup S (.cons (.str _) (.cons (.str []) (.cons (.str []) .nil))) hp ho
        | some j =>
          rw [e] at q
          exact q.tup S (.cons (.str _) (.cons (.str [c]) (.cons (.str _) .nil))) hp ho
    · cases hm
  · -- tuple.index
    split at hm
    · rename_i ns hns
      split at hm
      · rename_i hk
        cases hm
        obtain ⟨a, vs, rfl, hq, hr⟩ := rd_tup ra
        have e := hr.ints hns
        subst e
        cases rds with
        | cons r1 r2 =>
          cases r2
          cases r1
          exact mt_tup_indexI pins s σ H _ _ v us Q I rx rs ⟨a, ns, _, rfl, rfl, hq, of_decide_eq_true hk, q.here S (.int _)⟩
      · cases hm
    · cases hm
  · -- split
    rename_i z c
    split at hm
    · rename_i ok
      cases hm
      simp only [Bool.and_eq_true] at ok
      cases ra
      cases rds with
      | cons r1 r2 =>
        cases r2
        cases r1
        refine mt_split pins s σ H _ _ v us Q I rx rs ⟨_, _, rfl, rfl, rfl, by rw [str_len]; exact szOk_le ok.1, fun p hp => ?_⟩
        have hc : ([c] : List Nat).all (· < 256) = true := by
          have := ok.2
          simp only [Nat.blt_eq] at this
          simpa using this
        have e := SX.split_S (a := z) (b := [c]) (by simp) hc
        rw [split_C] at e
        have e : Txt.split ⟨z.toArray⟩ ⟨[c].toArray⟩ = (splitC c z).map fun s => (⟨s.toArray⟩ : Str) := e
        rw [e]
        refine q.frz S ?_ hp
        have go : ∀ l : List (List Nat), RDs X.K fa H (Mu ρ st) β ρ st.length (l.map D.str) ((l.map fun s => (⟨s.toArray⟩ : Str)).map V.str) := fun l => by
          induction l with
          | nil => exact .nil
          | cons a l ih => exact .cons (.str a) ih
        exact go _
    · cases hm
  · cases hm
/-- the value is of that builtin type: a tuple of the heap too -/
def tyW (K : PySem.W.Frag) (T : String) (x : V) (H : Hp) : Prop := tyV K T x H ∨ (T = "tuple" ∧ ∃ p vs, x = .ref p ∧ Tx H p vs)
theorem tyW_is {pins : List (Addr × PySem.Obj)} {σ : L2.St} {H : Hp} {s : Shared} {T : String} {x : V} {v : Value} (I : Inv X pins σ H s) (r : RelV x v) (ty : tyW X.K T x H) : s.TypeIs v T ∧ ∀ a, v = .ref a → ∃ ob, s.heap.get? a = some ob ∧ ob.dict = none := by
  rcases ty with ty | ⟨rfl, p, vs, rfl, o, h, d⟩
  · exact tyV_is I r ty
  · cases r
    obtain ⟨e, _, us, _, o', e', hc, _⟩ := I.hok p _ h
    rw [e] at e'
    cases e'
    exact ⟨⟨o, e, hc⟩, fun a z => by cases z; exact ⟨o, e, d⟩⟩
def tBX (K : PySem.W.Frag) (T : String) (r : V → List V → Hp → VK → Prop) (to : TE) (t : TA) : TE := fun σ H Q => to σ H fun x H1 => tyW K T x H1 ∧ t σ H1 fun xs H2 => r x xs H2 Q
section
variable {o e : Expr} {es : List Expr} {to : TE} {t : TA} {name : Str} {apos cpos : Pos} {T id : String} {r : V → List V → Hp → VK → Prop}
theorem pe_bX0 (pa : PlainAttrs T) (slot : Slot T name id) (hty : typeOf (.builtin id) = pure (.type "method_descriptor")) (hm : MtR X id r) (ho : PE X o to) (hbase : attributeBase o name X.env (eval o X.env) = eval o X.env) (hline : (apos.endLine == cpos.line) = true) :
    PE X (.Call (.Attribute o name apos) [] [] cpos) (tBX X.K T r to tNil) := ⟨fun pins s σ H Q I h =>
  wpAny_Call_method0_late hbase hline (thn (ho.run pins s σ H _ I h) fun v s1 ⟨x, H1, J, rx, ty, q⟩ =>
    ⟨T, id, pa, slot, hty, (tyW_is J rx ty).1, (tyW_is J rx ty).2, Calls.callWith_builtin rfl (PySem.evalArgs_none (hm pins s1 σ H1 x [] v [] Q J rx .nil q))⟩)⟩
theorem pe_bX (pa : PlainAttrs T) (slot : Slot T name id) (hty : typeOf (.builtin id) = pure (.type "method_descriptor")) (hm : MtR X id r) (ho : PE X o to) (ha : PA X (e :: es) t) (hbase : attributeBase o name X.env (eval o X.env) = eval o X.env)
    (hfew : ((backTo cpos (starEach (e :: es) X.env)).all (fun x => !x.1) && (backToKw cpos (keywordEach [] X.env)).all (fun x => x.1.isSome) && decide ((e :: es).length + ([] : List Keyword).length + (if ([] : List Keyword).isEmpty then 0 else 1) < 30)) = true)
    (hline : (apos.endLine == cpos.line) = true) (hs : starEach (e :: es) X.env = (false, eval e X.env) :: starEach es X.env) (hpl : (backTo cpos (starEach es X.env)).any (·.1) = false) :
    PE X (.Call (.Attribute o name apos) (e :: es) [] cpos) (tBX X.K T r to t) := ⟨fun pins s σ H Q I h => by
  refine wpAny_Call_method_late hbase hfew hline rfl (thn (ho.run pins s σ H _ I h) fun v s1 ⟨x, H1, J, rx, ty, q⟩ => ⟨T, id, pa, slot, hty, (tyW_is J rx ty).1, (tyW_is J rx ty).2, ?_⟩)
  have g := ha.run cpos pins s1 σ H1 _ J q
  rw [hs] at g ⊢
  have no : ((false, eval e X.env) :: backTo cpos (starEach es X.env)).any (·.1) = false := by
    show (false || (backTo cpos (starEach es X.env)).any (·.1)) = false
    rw [hpl]
    rfl
  exact Calls.callWith_builtin no (Calls.evalArgs_plain (thn g fun us s2 ⟨vs, H2, J2, rv, q2⟩ => hm pins s2 σ H2 x vs v us Q J2 rx rv q2))⟩
end
theorem mOk_ty (m : Mt) {K : PySem.W.Frag} {H : Hp} {β ρ : List Addr} {st : Sto} {d : D} {x : V} (S : RS K fa β ρ st H) (r : RD K fa H (Mu ρ st) β ρ st.length d x) (h : mOk m d = true) : tyW K (mT m) x H := by
  have hl : ∀ {d : D} {es : List D}, RD K fa H (Mu ρ st) β ρ st.length d x → lv st d = some es → (∃ p, x = .ref p ∧ ∃ xs, SqL K H p xs) := fun r e => by
    obtain ⟨a, vs, e1, e2, _⟩ := rd_lv S r e
    exact ⟨a, e1, vs, e2⟩
  have hlst : ∀ {i : Nat}, RD K fa H (Mu ρ st) β ρ st.length (.lst i) x → ∃ p, x = .ref p ∧ ∃ xs, SqL K H p xs := fun {i} r => by
    cases r with
    | lst h1 h2 =>
      obtain ⟨a, vs, e1, e2, _⟩ := S.obj i _ (List.getElem?_eq_getElem h1)
      rw [h2] at e1
      cases e1
      exact ⟨_, rfl, vs, .inl (.inl e2)⟩
  cases m <;> cases d <;> first
    | exact absurd h Bool.false_ne_true
    | (refine (fun (h0 : ∃ p, x = .ref p ∧ ∃ xs, SqL K H p xs) => ?_) (hlst r); obtain ⟨p, rfl, z⟩ := h0; exact .inl (.inl ⟨rfl, z⟩))
    | (refine (fun (h0 : ∃ p, x = .ref p ∧ ∃ xs, SqL K H p xs) => ?_) (hl r rfl); obtain ⟨p, rfl, z⟩ := h0; exact .inl (.inl ⟨rfl, z⟩))
    | (cases r; exact .inl rfl)
    | (cases r with
       | tupH h1 => exact .inr ⟨rfl, _, _, rfl, h1⟩
       | tupK h1 => obtain ⟨o, _, _, ⟨z1, z2⟩, z3, _⟩ := h1; exact .inl (.inr (.inl ⟨rfl, o, z1, z3, z2⟩)))
theorem w_mth {m : Mt} {σ H Q} (h : tW X.K q (.mth m a es) σ H Q) : tBX X.K (mT m) (rM X.K q.fa m) (tW X.K q a) (tWs X.K q es) σ H Q := by
  obtain ⟨β, ρ, env, st, e, S, h⟩ := h
  simp only [ev] at h
  refine ⟨β, ρ, env, st, e, S, h.bind.imp (fun x s1 h1 v1 H1 ρ1 a1 S1 r1 => ?_) fun _ _ _ g => g⟩
  split at h1
  · rename_i ok
    refine ⟨mOk_ty m S1 r1 ok, β, ρ1, env, s1, e.stp a1, S1, (h1.bind.aftX a1).imp (fun ds s2 h2 vs H2 ρ2 a2 S2 r2 => ?_) fun _ _ _ g => g⟩
    cases hm : mcall s2 m x ds with
    | ok d s3 =>
      rw [hm] at h2
      exact ⟨β, ρ2, s2, x, ds, d, s3, S2, r1.stp a2, r2, hm, Post.after h2 (a1.trans a2)⟩
    | exn c d s3 =>
      exfalso
      revert hm
      unfold mcall
      repeat' split
      all_goals (intro z; cases z)
    | bad =>
      rw [hm] at h2
      exact h2.elim
  · exact h1.elim
theorem slot_m (m : Mt) : PlainAttrs (mT m) ∧ Slot (mT m) (mN m) (mId m) ∧ typeOf (.builtin (mId m)) = pure (.type "method_descriptor") := by
  cases m with
  | append => exact ⟨F.plainAttrs_list, F.slot_list_append, F.type_list_append⟩
  | pop => exact ⟨F.plainAttrs_list, F.slot_list_pop, F.type_list_pop⟩
  | popAt => exact ⟨F.plainAttrs_list, F.slot_list_pop, F.type_list_pop⟩
  | index => exact ⟨F.plainAttrs_str, F.slot_str_index, F.type_str_index⟩
  | count => exact ⟨F.plainAttrs_list, F.slot_list_count, F.type_list_count⟩
  | join => exact ⟨F.plainAttrs_str, F.slot_str_join, F.type_str_join⟩
  | split => exact ⟨F.plainAttrs_str, F.slot_str_split, F.type_str_split⟩
  | partition => exact ⟨F.plainAttrs_str, F.slot_str_partition, F.type_str_partition⟩
  | tindex => exact ⟨F.plainAttrs_tuple, F.slot_tuple_index, F.type_tuple_index⟩
  | bitlen => exact ⟨F.plainAttrs_int, F.slot_int_bit_length, F.type_int_bit_length⟩
theorem s_mth {m : Mt} {apos cpos : Pos} (ho : PE X pa (tW X.K q a)) (ha : PA X (pe :: pes) (tWs X.K q es)) (hbase : attributeBase pa (mN m) X.env (eval pa X.env) = eval pa X.env)
    (hfew : ((backTo cpos (starEach (pe :: pes) X.env)).all (fun x => !x.1) && (backToKw cpos (keywordEach [] X.env)).all (fun x => x.1.isSome)
      && decide ((pe :: pes).length + ([] : List Keyword).length + (if ([] : List Keyword).isEmpty then 0 else 1) < 30)) = true)
    (hline : (apos.endLine == cpos.line) = true) (hs : starEach (pe :: pes) X.env = (false, eval pe X.env) :: starEach pes X.env) (hplain : (backTo cpos (starEach pes X.env)).any (·.1) = false) :
    PE X (.Call (.Attribute pa (mN m) apos) (pe :: pes) [] cpos) (tW X.K q (.mth m a es)) :=
  (pe_bX (slot_m m).1 (slot_m m).2.1 (slot_m m).2.2 (mt_D (fa := q.fa) m) ho ha hbase hfew hline hs hplain).w fun σ H Q h => w_mth h
theorem s_mth0 {m : Mt} {apos cpos : Pos} (ho : PE X pa (tW X.K q a)) (hbase : attributeBase pa (mN m) X.env (eval pa X.env) = eval pa X.env) (hline : (apos.endLine == cpos.line) = true) :
    PE X (.Call (.Attribute pa (mN m) apos) [] [] cpos) (tW X.K q (.mth m a .nil)) :=
  (pe_bX0 (slot_m m).1 (slot_m m).2.1 (slot_m m).2.2 (mt_D (fa := q.fa) m) ho hbase hline).w fun σ H Q h => by
    obtain ⟨β, ρ, env, st, e, S, h⟩ := w_mth (X := X) h
    refine ⟨β, ρ, env, st, e, S, h.imp (fun x s1 h1 v1 H1 ρ1 a1 S1 r1 => ?_) fun _ _ _ g => g⟩
    obtain ⟨ty, β', ρ', env', st', e', S', h'⟩ := h1 v1 H1 ρ1 a1 S1 r1
    exact ⟨ty, h' [] H1 ρ' .refl S' .nil⟩
/-! ### a call through a name -/
theorem s_callv {CX : CXT} {k i : Nat} {x : Str} {p : Pos} (F : ∀ f ds st, RP (q.C f ds st) (fun _ _ => True) (fun _ _ _ => True) → ∃ fd ps, FnOk X.prog X.w X.K X.mg X.base CX k (q.fa f) fd ps (spC X.K q q.C f ds.length) ∧ PySem.W.keepIn X.K (.ref (q.fa f)) = true ∧ Binds X.K fd ps [])
    (hr : Room k X.A) (hN : X.N[i]? = some x) (hv : Vis X.env.scope x) (hx : Passes CX X q.XE) (hdb : (x == ("__debug__" : Str)) = false) (hcd : (x == ("__classdict__" : Str)) = false)
    (ha : PA X (pe :: pes) (tWs X.K q es)) (he : starEach (pe :: pes) X.env = (false, eval pe X.env) :: starEach pes X.env) (hpl : (backTo pos (starEach pes X.env)).any (·.1) = false) : PE X (.Call (.Name x p) (pe :: pes) [] pos) (tW X.K q (.callv i es)) := by
  refine ⟨fun pins s σ H Q I h => ?_⟩
  obtain ⟨β, ρ, env, st, e, S, h⟩ := h
  simp only [ev] at h
  split at h
  · rename_i f hf
    obtain ⟨v0, h1, r0⟩ := e.get i _ hf
    cases r0
    cases hds : evs q.C q.G es env st with
    | ok ds st1 =>
      rw [hds] at h
      have h : RP (q.C f ds st1) _ _ := h
      obtain ⟨fd, ps, FF, hk, hb⟩ := F f ds st1 (h.imp (fun _ _ _ => trivial) fun _ _ _ _ => trivial)
      refine (pe_callL (i := i) (f := q.fa f) (dvs := []) (E := q.XE) FF hr hN hv hk hb .nil hx ha hdb hcd he hpl).run pins s σ H Q I ⟨h1, β, ρ, env, st, e, S, ?_⟩
      rw [hds]
      intro vs H1 ρ1 a1 S1 r1
      show spC X.K q q.C f ds.length (vs ++ []) H1 Q q.XE
      rw [List.append_nil]
      exact ⟨β, ρ1, st1, ds, S1, r1, rfl, h.aft a1⟩
    | bad =>
      rw [hds] at h
      exact h.elim
    | exn c d st1 =>
      rw [hds] at h
      exact h.elim
  · exact h.elim
end
end PL

set_option Elab.async false
set_option linter.all false
set_option maxRecDepth 100000
set_option maxHeartbeats 1000000
/-! f-strings; x[::-1]. -/
namespace PL
open PySem PySem.Spec PyProof.Rows L2
variable [Tbl]
section
variable {X : Cx} {q : Qm} {a : E} {pa : Expr} {es : Es} {pos : Pos}
/-! a field -/
theorem str_app (a b : List Nat) : (⟨a.toArray⟩ : Str) ++ (⟨b.toArray⟩ : Str) = ⟨(a ++ b).toArray⟩ := by
  show (⟨a.toArray ++ b.toArray⟩ : Str) = _
  simp
def tFd (X : Cx) (q : Qm) (e : E) : TE := tFmt (tW X.K q e)
def tsOf (X : Cx) (q : Qm) : Es → List TE
  | .nil => []
  | .cons e es => tFd X q e :: tsOf X q es
theorem fmt_v {K : PySem.W.Frag} {fa : Nat → Addr} {H : Hp} {m : Addr → Prop} {β ρ : List Addr} {n : Nat} {x : D} {v : V} {y : List Nat} (r : RD K fa H m β ρ n x v) (h : fmtD x = some y) : (v = .str ⟨y.toArray⟩ ∧ y.length ≤ sizeLine) ∨ ∃ i : Int, v = .int i ∧ i.natAbs.log2 < 1920 ∧ (toString i : Str) = ⟨y.toArray⟩ := by
  cases r with
  | str s =>
    simp only [fmtD] at h
    split at h
    · rename_i c
      cases h
      exact .inl ⟨rfl, szOk_le c⟩
    · cases h
  | int i =>
    simp only [fmtD] at h
    split at h
    · rename_i c
      cases h
      refine .inr ⟨i, rfl, by simpa using c, ?_⟩
      show (Str.ofString (toString i) : Str) = ⟨(strI i).toArray⟩
      unfold strI
      simp
    · cases h
  | _ => cases h
theorem w_js : ∀ (es : Es) (acc : List Nat) {β ρ : List Addr} {env : PL.Env} {st : Sto} {σ : L2.St} {H : Hp} {Q : Str → Hp → Prop}, RE X.K q.fa β ρ env st σ H → RS X.K q.fa β ρ st H →
    RP (evf q.C q.G es acc env st) (fun z st' => ∀ H' ρ', Stp ρ st H ρ' st' H' → RS X.K q.fa β ρ' st' H' → Q ⟨z.toArray⟩ H') (PostX X.K q β ρ st H) → tJs (tsOf X q es) ⟨acc.toArray⟩ σ H Q
  | .nil, acc, β, ρ, env, st, σ, H, Q, e, S, h => by
    simp only [evf] at h
    exact h H ρ .refl S
  | .cons e1 es, acc, β, ρ, env, st, σ, H, Q, e, S, h => by
    simp only [evf] at h
    refine ⟨β, ρ, env, st, e, S, h.bind.imp (fun x s1 h1 v1 H1 ρ1 a1 S1 r1 => ?_) fun _ _ _ g => g⟩
    obtain ⟨y, hy, h2⟩ := h1.bind.oD
    split at h2
    · rename_i c
      have go : ∃ y' : Str, V.str ⟨y.toArray⟩ = .str y' ∧ ((⟨acc.toArray⟩ : Str) ++ y').length ≤ sizeLine ∧ tJs (tsOf X q es) (⟨acc.toArray⟩ ++ y') σ H1 Q := by
        refine ⟨_, rfl, ?_, ?_⟩
        · rw [str_app, str_len, List.length_append]
          exact szOk_le c
        · rw [str_app]
          exact w_js es (acc ++ y) (e.stp a1) S1 ((h2.aftX a1).imp (fun z s3 h3 H' ρ' b S' => h3 H' ρ' (a1.trans b) S') fun _ _ _ g => g)
      rcases fmt_v r1 hy with ⟨rfl, hz⟩ | ⟨i, rfl, hi, hs⟩
      · exact .inl ⟨_, rfl, hz, go⟩
      · refine .inr ⟨i, rfl, hi, ?_⟩
        rw [hs]
        exact go
    · exact h2.elim
/-- the parts of an f-string, as they stand -/
inductive Pts (X : Cx) (q : Qm) : Es → List Expr → Prop where
  | nil : Pts X q .nil []
  | fv {e : E} {es : Es} {pe : Expr} {pes : List Expr} {p : Pos} (h : PE X pe (tW X.K q e)) (r : Pts X q es pes) : Pts X q (.cons e es) (.FormattedValue pe (-1) none p :: pes)
  | lit {z : List Nat} {es : Es} {pe : Expr} {pes : List Expr} (h : PE X pe (tW X.K q (.str z))) (r : Pts X q es pes) : Pts X q (.cons (.str z) es) (pe :: pes)
theorem fd_lit {z : List Nat} {pe : Expr} (h : PE X pe (tW X.K q (.str z))) : PE X pe (tFd X q (.str z)) := h.w fun σ H Q ⟨β, ρ, env, st, e, S, g⟩ => by
  refine ⟨β, ρ, env, st, e, S, ?_⟩
  simp only [ev] at g ⊢
  intro v H1 ρ1 a1 S1 r1
  rcases g v H1 ρ1 a1 S1 r1 with ⟨y, rfl, _, k⟩ | ⟨i, rfl, _, _⟩
  · exact k
  · cases r1
theorem pts_pj : ∀ {es : Es} {pes : List Expr}, Pts X q es pes → PJ X pes (tsOf X q es)
  | _, _, .nil => .nil
  | _, _, .fv h r => .cons (pe_fmt h) (pts_pj r)
  | _, _, .lit h r => .cons (fd_lit h) (pts_pj r)
theorem tW_mono {e : E} {σ : L2.St} {H : Hp} {Q Q' : VK} (h : tW X.K q e σ H Q) (k : ∀ x H, Q x H → Q' x H) : tW X.K q e σ H Q' := by
  obtain ⟨β, ρ, env, st, e, S, g⟩ := h
  exact ⟨β, ρ, env, st, e, S, g.imp (fun d st' g v H' ρ' a S' r => k _ _ (g v H' ρ' a S' r)) fun _ _ _ g => g⟩
theorem emp_app (y : Str) : Str.empty ++ y = y := by
  show (⟨#[] ++ y.cps⟩ : Str) = y
  simp
theorem js_one {e : E} {σ : L2.St} {H : Hp} {Q : VK} (h : tJs [tFd X q e] Str.empty σ H fun out H1 => Q (.str out) H1) : tFd X q e σ H Q := by
  refine tW_mono (show tW X.K q e σ H _ from h) fun x H1 k => ?_
  rcases k with ⟨y, rfl, hy, y', e1, _, g⟩ | ⟨i, rfl, hi, y', e1, _, g⟩
  · cases e1
    rw [emp_app] at g
    exact .inl ⟨_, rfl, hy, g⟩
  · cases e1
    rw [emp_app] at g
    exact .inr ⟨i, rfl, hi, g⟩
theorem s_fst {pes : List Expr} (h : Pts X q es pes) (hn : pes ≠ []) : PE X (.JoinedStr pes pos) (tW X.K q (.fst es)) := by
  have J := pts_pj h
  have W : ∀ σ H Q, tW X.K q (.fst es) σ H Q → tJs (tsOf X q es) Str.empty σ H fun out H1 => Q (.str out) H1 := fun σ H Q ⟨β, ρ, env, st, e, S, g⟩ => by
    simp only [ev] at g
    exact w_js es [] e S (g.bind.imp (fun z s1 k H' ρ' a S' => k (.str ⟨z.toArray⟩) H' ρ' a S' (.str z)) fun _ _ _ g => g)
  cases h with
  | nil => exact absurd rfl hn
  | fv h r =>
    cases r with
    | nil => exact (pe_joined1 (pe_fmt h)).w fun σ H Q g => js_one (W σ H Q g)
    | fv h2 r2 => exact (pe_joined J).w fun σ H Q g => W σ H Q g
    | lit h2 r2 => exact (pe_joined J).w fun σ H Q g => W σ H Q g
  | lit h r =>
    cases r with
    | nil => exact (pe_joined1 (fd_lit h)).w fun σ H Q g => js_one (W σ H Q g)
    | fv h2 r2 => exact (pe_joined J).w fun σ H Q g => W σ H Q g
    | lit h2 r2 => exact (pe_joined J).w fun σ H Q g => W σ H Q g
/-! x[::-1] -/
theorem RDs.reverse {K : PySem.W.Frag} {fa : Nat → Addr} {H : Hp} {m : Addr → Prop} {β ρ : List Addr} {n : Nat} : ∀ {ds : List D} {vs : List V}, RDs K fa H m β ρ n ds vs → RDs K fa H m β ρ n ds.reverse vs.reverse
  | _, _, .nil => .nil
  | _, _, .cons h t => by
    rw [List.reverse_cons, List.reverse_cons]
    exact (RDs.reverse t).append (.cons h .nil)
theorem rev_str (z : List Nat) (t u : Tok) : sliceMade ⟨z.toArray⟩ t none none (some (-1, u)) = .str ⟨z.reverse.toArray⟩ := by
  unfold sliceMade slicePicked
  have e : Builtin.Str.strSliceIndices none none (-1) (⟨z.toArray⟩ : Str).length = (List.range z.length).reverse := by
    rw [str_len]
    show sliceRange ((z.length : Int) - 1) (-1) (-1) = _
    rw [PySem.W.krv_sliceRange, PySem.W.krv_range]
  show (if _ then _ else _) = _
  rw [if_neg (by show ¬ ((((-1 : Int) == 1) && _) = true); simp)]
  congr 1
  show (⟨((Builtin.Str.strSliceIndices none none (-1) (⟨z.toArray⟩ : Str).length).filterMap (z.toArray[·]?)).toArray⟩ : Str) = _
  rw [e, List.filterMap_reverse]
  have := PySem.W.krv_all z.toArray
  simp only [List.size_toArray] at this
  rw [this]
theorem pe_revS {e : Expr} {te : TE} {k : Nat} {p1 p2 p3 : Pos} (he : PE X e te) : PE X (.Subscript e (.Slice none none (some (.UnaryOp .USub (.Constant (.int 1) k p1) p2)) p3) pos) (fun σ H Q => te σ H fun x H1 => ∃ z : List Nat, x = .str ⟨z.toArray⟩ ∧ z.length ≤ sizeLine ∧ Q (.str ⟨z.reverse.toArray⟩) H1) := ⟨fun pins s σ H Q I h => by
  refine Subscript_ (thn (he.run pins s σ H _ I h) fun v s1 ⟨x, H1, J1, r1, z, ex, hz, g⟩ => ?_)
  subst ex
  obtain ⟨t, rfl⟩ := r1
  have st1 : PO X (some (.UnaryOp .USub (.Constant (.int 1) k p1) p2)) (tPart (tUn (rU fun i => .int (-i)) (tC (.int 1)))) := po_some (pe_un un_neg pe_int)
  refine wpAny_Slice (thn (po_none.run pins s1 σ H1 (fun o Ha => o = none ∧ Ha = H1) J1 ⟨rfl, rfl⟩) fun vl s2 ⟨o1, Ha, J2, w1, y1, y2⟩ => ?_)
  subst y1 y2
  refine thn (po_none.run pins s2 σ Ha (fun o Hb => o = none ∧ Hb = Ha) J2 ⟨rfl, rfl⟩) fun vu s3 ⟨o2, Hb, J3, w2, y3, y4⟩ => ?_
  subst y3 y4
  refine thn (st1.run pins s3 σ Hb (fun o Hc => o = some (-1) ∧ Hc = Hb) J3 ⟨1, rfl, -1, rfl, rfl, rfl⟩) fun vs s4 ⟨o3, Hc, J4, w3, y5, y6⟩ => ?_
  subst y5 y6
  cases w1
  cases w2
  cases w3 with
  | int i tk =>
    have J5 : Inv X pins σ Hc { s4 with heap := s4.heap.push { cls := .type "slice", data := .fields #[.none, .none, .int (-1) tk] } } := J4.kept (t' := s4.toks) fun _ _ y => Heap.get?_push_of_some _ y
    show wpAny (model X.prog X.w) X.A (subscriptTail e (.Slice none none (some (.UnaryOp .USub (.Constant (.int 1) k p1) p2)) p3) (.str ⟨z.toArray⟩ t) (.ref s4.heap.objs.size)) (EP X pins σ Q) X.xe { s4 with heap := s4.heap.push { cls := .type "slice", data := .fields #[.none, .none, .int (-1) tk] } }
    refine tail_any (ops := [.str ⟨z.toArray⟩ t, .ref s4.heap.objs.size]) (typeIs_str _ _ t) (F.slot_str_getitem.lookup) ?_ (by with_unfolding_all rfl)
    refine wpAny_getItem_str_slice (l := none) (u := none) (st := some (-1, tk)) ⟨_, Heap.get?_push_size _ rfl, rfl, rfl⟩ rfl ?_
    rw [rev_str]
    exact ⟨by rw [str_len, List.length_reverse]; exact hz, .str ⟨z.reverse.toArray⟩, Hc, J5.tok _, ⟨_, rfl⟩, g⟩⟩
theorem s_rev {k : Nat} {p1 p2 p3 : Pos} (he : PE X pa (tW X.K q a)) : PE X (.Subscript pa (.Slice none none (some (.UnaryOp .USub (.Constant (.int 1) k p1) p2)) p3) pos) (tW X.K q (.rev a)) := ⟨fun pins s σ H Q I h => by
  obtain ⟨β, ρ, env, st, e, S, h⟩ := h
  simp only [ev] at h
  have str : (∃ z s1, ev q.C q.G a env st = .ok (.str z) s1) ∨ ¬ ∃ z s1, ev q.C q.G a env st = .ok (.str z) s1 := Classical.em _
  rcases str with ⟨z, s1, ea⟩ | no
  · refine (pe_revS he).run pins s σ H Q I ⟨β, ρ, env, st, e, S, ?_⟩
    have hb := h.bind
    rw [ea] at hb ⊢
    intro v1 H1 ρ1 a1 S1 r1
    obtain ⟨d, hd, g⟩ := (show RP (oD (revD s1 (.str z)) s1) _ _ from hb).oD
    simp only [revD] at hd
    split at hd
    · rename_i c
      cases hd
      cases r1
      exact ⟨z, rfl, szOk_le c, (Post.after g a1).here S1 (.str _)⟩
    · cases hd
  · refine (pe_revL he).run pins s σ H Q I ⟨β, ρ, env, st, e, S, ?_⟩
    have hb := h.bind
    cases ha : ev q.C q.G a env st with
    | bad => rw [ha] at hb; exact hb.elim
    | exn c d s1 => rw [ha] at hb; exact hb
    | ok x s2 =>
      rw [ha] at hb
      intro v1 H1 ρ1 a1 S1 r1
      obtain ⟨d, hd, g⟩ := (show RP (oD (revD s2 x) s2) _ _ from hb).oD
      have hx : (lv s2 x).map (fun ds => D.frz ds.reverse) = some d := by
        cases x with
        | str z => exact absurd ⟨z, s2, ha⟩ no
        | _ => exact hd
      obtain ⟨ds, hds, rfl⟩ := Option.map_eq_some_iff.mp hx
      obtain ⟨p, vs, rfl, hq, hr⟩ := rd_lv S1 r1 hds
      exact ⟨p, vs, rfl, hq, fun p' hp => (Post.after g a1).frz S1 hr.reverse hp⟩⟩
end
end PL

set_option Elab.async false
set_option linter.all false
set_option maxRecDepth 100000
set_option maxHeartbeats 1000000
/-! Loops over what a value gives: enumerate and zip over lists, tuples, texts. -/
namespace PL
open PySem PySem.Spec PyProof.Rows L2
variable [Tbl]
theorem meets_enum1 {v : Value} {o : PySem.Obj} {H : Heap → Prop} (B : Begins v o H) :
    Meets (Builtin.«enumerate.__new__» ⟨[.type "enumerate", v], []⟩) (fun _ R s => H s.heap ∧
      R (.ok (.ret (.ref (s.heap.push o).objs.size))) { s with heap := (s.heap.push o).push { cls := .type "enumerate", data := .fields #[.none, .bool false, .ref s.heap.objs.size, rawInt 0, .none, .none] } }) :=
  .of_wp fun prog w A R s h => by
    obtain ⟨hp, g, d, tk, os⟩ := s
    obtain ⟨h1, h⟩ := h
    have hsub := sub_enumerate
    have q1 : ∀ {A' : Around} {E : Value → Shared → Prop} {Q : Value → Shared → Prop}, Q (.ref hp.objs.size) ⟨hp.push o, g, d, tk, os⟩ → wpAny (model prog w) A' (pyIter v) Q E ⟨hp, g, d, tk, os⟩ :=
      fun q => B.iter prog w _ _ ⟨hp, g, d, tk, os⟩ _ h1 q
    wp_walk using q1
    refine wpAny_stack_any fun st => wpAny_pure ?_
    split
    · rename_i c _ _ _ _ _
      cases (c == Value.type "enumerate")
      · wp_walk using q1
        exact ⟨_, rfl, h⟩
      · wp_walk using q1
        exact ⟨_, rfl, h⟩
    · wp_walk using q1
      exact ⟨_, rfl, h⟩
section
variable {prog : Program} {w : World} {A : Around} {E : Value → Shared → Prop} {s : Shared}
theorem enum1_begins {v : Value} {o : PySem.Obj} {H : Heap → Prop} {Q : Value → Shared → Prop} (B : Begins v o H) (h1 : H s.heap)
    (h : ∀ h', IsEnum h' (s.heap.objs.size + 1) s.heap.objs.size 0 .none → h'.get? s.heap.objs.size = some o → h'.objs.size = s.heap.objs.size + 2 →
      (∀ b o, s.heap.get? b = some o → h'.get? b = some o) → Q (.ref (s.heap.objs.size + 1)) { s with heap := h' }) :
    wpAny (model prog w) A (PySem.call (.type "enumerate") [v]) Q E s := by
  refine callType_new F.called_enumerate (by decide) (F.typeCall_enumerate_1 _) (F.newCall_enumerate_1 _) (fun obj => F.args_object_init_2 obj _) F.entry_enumerate_new
    (meets_enum1 B) ⟨h1, ?_⟩
  have hz : (s.heap.push o).objs.size = s.heap.objs.size + 1 := Heap.size_push ..
  show _ ∧ _
  rw [hz]
  have he : IsEnum ((s.heap.push o).push { cls := .type "enumerate", data := .fields #[.none, .bool false, .ref s.heap.objs.size, rawInt 0, .none, .none] }) (s.heap.objs.size + 1) s.heap.objs.size 0 .none := by
    have := Heap.get?_push_size (s.heap.push o) (o := { cls := .type "enumerate", data := .fields #[.none, .bool false, .ref s.heap.objs.size, rawInt 0, .none, .none] }) rfl
    rw [hz] at this
    exact this
  exact ⟨⟨_, he, rfl⟩, h _ he (Heap.get?_push_of_some _ (Heap.get?_push_size _ B.free)) (by rw [Heap.size_push, hz]) fun b o x => Heap.get?_push_of_some _ (Heap.get?_push_of_some _ x)⟩
end
/-- what is walked: a list, a tuple, a text -/
inductive Sk where
  | l (a : Addr) | t (a : Addr) | s (x : Str) (k : Tok)
def Sk.val : Sk → Value
  | .l a => .ref a
  | .t a => .ref a
  | .s x k => .str x k
def Sk.obj : Sk → PySem.Obj
  | .l a => { cls := .type "list_iterator", data := .fields #[.ref a, .int 0 0] }
  | .t a => { cls := .type "tuple_iterator", data := .fields #[.ref a, .int 0 0] }
  | .s x k => { cls := .type (strIterType x), data := .fields #[.str x k, .int 0 0] }
def Sk.tn (k : Sk) (it : Addr) (i : Nat) (h : Heap) : Prop := match k with
  | .l a => h.IsListIter it a i
  | .t a => h.IsTupleIter it a i
  | .s x tk => h.IsStrIter it (strIterType x) x tk i
def Sk.ok (k : Sk) (K : PySem.W.Frag) (H : Hp) (xs : List V) : Prop := match k with
  | .l a => SqL K H a xs
  | .t a => SqT K H a xs
  | .s x _ => xs = x.cps.toList.map fun c => V.str ⟨#[c]⟩
def Sk.apart (k : Sk) (b : Addr) : Prop := ∀ a, k.val = .ref a → a ≠ b
theorem Sk.obj_at {k : Sk} {it : Addr} {i : Nat} {h : Heap} (st : k.tn it i h) : ∃ o, h.get? it = some o ∧ ∀ v, o.data ≠ .cell v := by
  cases k with
  | l a =>
    obtain ⟨o, e, c, d⟩ := st
    exact ⟨o, e, fun v z => by rw [d] at z; cases z⟩
  | t a =>
    obtain ⟨o, e, c, d⟩ := st
    exact ⟨o, e, fun v z => by rw [d] at z; cases z⟩
  | s x t =>
    obtain ⟨o, e, c, d⟩ := st
    exact ⟨o, e, fun v z => by rw [d] at z; cases z⟩
theorem Sk.keep {k : Sk} {it : Addr} {i : Nat} {h h' : Heap} (st : k.tn it i h) (hk : ∀ o, h.get? it = some o → h'.get? it = some o) : k.tn it i h' := by
  cases k with
  | l a =>
    obtain ⟨o, e, r⟩ := st
    exact ⟨o, hk o e, r⟩
  | t a =>
    obtain ⟨o, e, r⟩ := st
    exact ⟨o, hk o e, r⟩
  | s x t =>
    obtain ⟨o, e, r⟩ := st
    exact ⟨o, hk o e, r⟩
theorem Sk.start {k : Sk} {it : Addr} {h : Heap} (e : h.get? it = some k.obj) : k.tn it 0 h := by
  cases k <;> exact ⟨_, e, rfl, rfl⟩
section
variable {X : Cx} {pins : List (Addr × PySem.Obj)} {s : Shared} {σ : L2.St} {H : Hp}
theorem Sk.inj {k : Sk} {xs ys : List V} (I : Inv X pins σ H s) (h : k.ok X.K H xs) (h' : k.ok X.K H ys) : xs = ys := by
  cases k with
  | l a => exact I.list_inj h h'
  | t a => exact I.tuple_inj h h'
  | s x t => exact h.trans (Eq.symm h')
theorem Sk.begins {k : Sk} {xs : List V} (I : Inv X pins σ H s) (h : k.ok X.K H xs) : ∃ Hb, Begins k.val k.obj Hb ∧ Hb s.heap := by
  cases k with
  | l a =>
    obtain ⟨its, rv, p, hz⟩ := I.list h
    exact ⟨_, begins_list a its.toArray, p.isList⟩
  | t a =>
    obtain ⟨its, rv, p, hz⟩ := I.tuple h
    exact ⟨_, begins_tuple a its.toArray, p⟩
  | s x t => exact ⟨_, begins_text x t, trivial⟩
theorem Sk.lt {k : Sk} {xs : List V} (I : Inv X pins σ H s) (h : k.ok X.K H xs) {a : Addr} (e : k.val = .ref a) : a < s.heap.objs.size := by
  cases k with
  | l b =>
    cases e
    obtain ⟨its, rv, p, hz⟩ := I.list h
    exact p.lt
  | t b =>
    cases e
    obtain ⟨its, rv, ⟨o, e, _⟩, hz⟩ := I.tuple h
    exact Heap.lt_size e
  | s x t => cases e
theorem Sk.draws {A : Around} {k : Sk} {it : Addr} {i : Nat} {xs : List V} (hh : A.handled = none) (I : Inv X pins σ H s) (h : k.ok X.K H xs) (st : k.tn it i s.heap) (ap : k.apart it) :
    ∃ (fp : List Addr) (St : Nat → Heap → Prop) (Pv : Nat → Value → Prop), Draws X.prog X.w A it fp xs.length Pv St ∧ St i s.heap ∧ (∀ j h, St j h → k.tn it j h) ∧ (∀ j v, Pv j v → ∃ y, xs[j]? = some y ∧ RelV y v) ∧ it ∈ fp ∧ ∀ b ∈ fp, b = it ∨ k.val = .ref b := by
  cases k with
  | l a =>
    obtain ⟨its, rv, p, hz⟩ := I.list h
    have D := Draws.list (prog := X.prog) (w := X.w) hh it a (ap a rfl) its.toArray
    have el : its.toArray.size = xs.length := by rw [rv.length]; simp
    rw [el] at D
    refine ⟨_, _, _, D, ⟨st, p.isList⟩, fun j h z => z.1, fun j v z => ?_, by simp, fun b hb => ?_⟩
    · have z : its[j]? = some v := by simpa using z
      have hj : j < xs.length := by rw [rv.length]; exact (List.getElem?_eq_some_iff.mp z).1
      obtain ⟨u, hu, ru⟩ := rv.get (List.getElem?_eq_getElem hj)
      rw [z] at hu
      cases hu
      exact ⟨_, List.getElem?_eq_getElem hj, ru⟩
    · have e : b = it ∨ b = a := by simpa using hb
      rcases e with e | e
      · exact .inl e
      · exact .inr (by rw [e]; rfl)
  | t a =>
    obtain ⟨its, rv, p, hz⟩ := I.tuple h
    have D := Draws.tuple (prog := X.prog) (w := X.w) hh it a (ap a rfl) its.toArray
    have el : its.toArray.size = xs.length := by rw [rv.length]; simp
    rw [el] at D
    refine ⟨_, _, _, D, ⟨st, p⟩, fun j h z => z.1, fun j v z => ?_, by simp, fun b hb => ?_⟩
    · have z : its[j]? = some v := by simpa using z
      have hj : j < xs.length := by rw [rv.length]; exact (List.getElem?_eq_some_iff.mp z).1
      obtain ⟨u, hu, ru⟩ := rv.get (List.getElem?_eq_getElem hj)
      rw [z] at hu
      cases hu
      exact ⟨_, List.getElem?_eq_getElem hj, ru⟩
    · have e : b = it ∨ b = a := by simpa using hb
      rcases e with e | e
      · exact .inl e
      · exact .inr (by rw [e]; rfl)
  | s x t =>
    subst h
    have D := Draws.text (prog := X.prog) (w := X.w) hh it x t
    have hl : x.cps.size = (x.cps.toList.map fun c => V.str ⟨#[c]⟩).length := by simp
    rw [hl] at D
    refine ⟨_, _, _, D, st, fun j h z => z, fun j v z => ?_, by simp, fun b hb => ?_⟩
    · obtain ⟨c, u, hc, rfl⟩ := z
      have hc' : x.cps.toList[j]? = some c := by simpa using hc
      exact ⟨V.str ⟨#[c]⟩, by rw [List.getElem?_map, hc']; rfl, ⟨u, rfl⟩⟩
    · left
      simpa using hb
end

/-! ### enumerate -/
def IteG (K : PySem.W.Frag) (k : Sk) : L2.It :=
  ⟨fun i H => ∃ (xs : List V) (x : V), k.ok K H xs ∧ xs[i]? = some x, fun i H v H' => ∃ T x o, v = .ref T ∧ H T = none ∧ o.dict = none ∧ H' = upd H T (.frz o (.tup [.int (i : Nat), x])) ∧ ∀ xs, k.ok K H xs → xs[i]? = some x, fun i H => ∃ xs : List V, k.ok K H xs ∧ i = xs.length⟩
theorem turn_enumG {P : Program} {w : World} {K : PySem.W.Frag} {elts : List Expr} {kk : Nat} {tpos : Pos} (k : Sk) (e it : Addr) :
    Turn P w K (.Tuple elts kk tpos) (IteG K k) [e, it] e (fun i h => (∃ old, IsEnum h e it ((i : Nat) : Int) old) ∧ k.tn it i h ∧ e ≠ it ∧ k.apart it ∧ k.apart e) where
  mem := by simp
  obj := fun i h st b hb => by
    obtain ⟨⟨old, he⟩, hi, _⟩ := st
    have e' : b = e ∨ b = it := by simpa using hb
    rcases e' with z | z
    · rw [z]; exact ⟨_, he, fun v q => nomatch q⟩
    · rw [z]; exact Sk.obj_at hi
  keep := fun i h h' st kp => let ⟨⟨old, he⟩, hi, hne⟩ := st; ⟨⟨old, kp e (by simp) _ he⟩, Sk.keep hi fun o q => kp it (by simp) o q, hne⟩
  item := by
    intro X hP hw hK hc i pins s σ H E I hf st hg
    subst hP hw hK
    obtain ⟨⟨old, he⟩, hit, hne, ap1, ap2⟩ := st
    obtain ⟨xs, x, hq, hx⟩ := hg
    obtain ⟨fp, St, Pv, D, hst, hSt, hPv, hm, hfp⟩ := Sk.draws (A := X.A.in1) (show X.A.in1.handled = none from I.ok.hd hc) I hq hit ap1
    have hef : e ∉ fp := fun z => (hfp e z).elim (fun q => hne q) fun q => ap2 e q rfl
    have hel : e < s.heap.objs.size := Heap.lt_size he
    obtain ⟨oi, ei, _⟩ := Sk.obj_at hit
    have hil : it < s.heap.objs.size := Heap.lt_size ei
    have hlt : i < xs.length := (List.getElem?_eq_some_iff.mp hx).1
    refine wpAny_pyNext_enum_itemD D he hst hlt hne hef fun u h' tk hP ho hit' hT hsz hk => ?_
    obtain ⟨y, hy, ry⟩ := hPv _ _ hP
    rw [hx] at hy
    cases hy
    refine ⟨_, rfl, wpAny_letOwnedTupleGo_enum (s := { s with heap := h', toks := tk + 1 }) ho fun h'' he' sb => ?_⟩
    have hT2 : h''.get? s.heap.objs.size = some { cls := .type "tuple", data := .seq #[.int i tk, u] } := (sb.2 _ (Nat.ne_of_gt hel)).trans hT
    have new : ObjOk X.prog X.w (upd H s.heap.objs.size (.frz { cls := .type "tuple", data := .seq #[.int i tk, u] } (.tup [.int (i : Nat), x]))) h'' s.heap.objs.size (.frz { cls := .type "tuple", data := .seq #[.int i tk, u] } (.tup [.int (i : Nat), x])) :=
      ⟨hT2, by show 2 ≤ sizeLine; decide, [.int i tk, u], .cons ⟨_, rfl⟩ (.cons ry .nil), ⟨_, hT2, rfl, _, rfl⟩⟩
    have I1 : Inv X pins σ (upd H s.heap.objs.size (.frz { cls := .type "tuple", data := .seq #[.int i tk, u] } (.tup [.int (i : Nat), x]))) { s with heap := h'', toks := tk + 1 } :=
      I.turnedNew (ch := [e, it]) (fun b ob hb q => (sb.2 b (fun z => hb (by simp [z]))).trans (hk b ob (fun z => hb (by simp [z])) (fun z => hb (by simp [z])) q)) hf (Nat.le_refl _) new
    refine ⟨.ref s.heap.objs.size, _, I1, rfl, ⟨_, x, _, rfl, I.hok.fresh (Nat.le_refl _), rfl, rfl, fun ys hy => by rw [Sk.inj I hy hq]; exact hx⟩, ⟨⟨u, ?_⟩, Sk.keep (hSt _ _ hit') fun o q => (sb.2 it (Ne.symm hne)).trans q, hne, ap1, ap2⟩, fun b hb => ?_⟩
    · have e1 : ((i + 1 : Nat) : Int) = (i : Int) + 1 := by omega
      rw [e1]; exact he'
    · have hb' : b < s.heap.objs.size := by
        have e' : b = e ∨ b = it := by simpa using hb
        rcases e' with z | z
        · rw [z]; exact hel
        · rw [z]; exact hil
      rw [upd_ne (Nat.ne_of_lt hb')]
      exact (hf b hb).1
  done := by
    intro X hP hw hK hc i pins s σ H E I hf st hg
    subst hP hw hK
    obtain ⟨⟨old, he⟩, hit, hne, ap1, ap2⟩ := st
    obtain ⟨xs, hq, hx⟩ := hg
    subst hx
    obtain ⟨fp, St, Pv, D, hst, hSt, hPv, hm, hfp⟩ := Sk.draws (A := X.A.in1) (show X.A.in1.handled = none from I.ok.hd hc) I hq hit ap1
    obtain ⟨f0, f1, f2, f3, f4, f5⟩ := hf it (by simp)
    exact wpAny_pyNext_enum_endD D he hst fun h' eb => ⟨rfl, I.turned (t' := s.toks) (fun b o hb q => eb b o hb q) f0 f1 f3 f4 f5⟩
  self := fun A i s Q E st h => let ⟨⟨_, he⟩, _⟩ := st; wpAny_pyIter_enum he h
/-- a value that can be walked -/
def iEnumG (K : PySem.W.Frag) (ta : TA) : TI := fun σ H R => ta σ H fun vs H1 => ∃ x, vs = [x] ∧ ∀ u, RelV x u → ∃ k : Sk, k.val = u ∧ (∃ xs, k.ok K H1 xs) ∧ R (IteG K k) H1
theorem pi_enumG {X : Cx} {e : Expr} {ta : TA} {p pos tpos : Pos} {elts : List Expr} {kk : Nat} (hg : Gl X "enumerate") (hm : X.mg "enumerate" = none) (ha : PA X [e] ta) (hs : starEach [e] X.env = (false, eval e X.env) :: starEach [] X.env) :
    PI X (.Tuple elts kk tpos) (.Call (.Name "enumerate" p) [e] [] pos) (iEnumG X.K ta) := by
  refine ⟨fun pins s σ H R I h => ?_⟩
  refine Call_ (ld_blt I hg hm boot_enumerate (PyProof.Rows.callWith_type1 (thn (ha.run pos pins s σ H _ I h) fun us s1 ⟨vs, H1, I1, r1, q1⟩ => ?_) hs rfl))
  obtain ⟨x, ex, hq⟩ := q1
  subst ex
  cases r1 with
  | cons r rr =>
    cases rr
    obtain ⟨k, rfl, ⟨xs, hx⟩, q⟩ := hq _ r
    obtain ⟨Hb, B, hb⟩ := Sk.begins I1 hx
    refine enum1_begins B hb fun h' he ho hsz hk => wpAny_pyIter_enum he ?_
    have I2 : Inv X pins σ H1 { s1 with heap := h' } := I1.kept (t' := s1.toks) hk
    refine ⟨s1.heap.objs.size + 1, [s1.heap.objs.size + 1, s1.heap.objs.size], _, _, H1, rfl, I2, turn_enumG k (s1.heap.objs.size + 1) s1.heap.objs.size, ⟨⟨.none, he⟩, Sk.start ho, Nat.succ_ne_self _, fun a e z => ?_, fun a e z => ?_⟩, fun b hb => ?_, q⟩
    · have := Sk.lt I1 hx e
      rw [z] at this
      exact Nat.lt_irrefl _ this
    · have := Sk.lt I1 hx e
      rw [z] at this
      exact Nat.lt_irrefl _ (Nat.lt_of_succ_lt this)
    · have e' : b = s1.heap.objs.size + 1 ∨ b = s1.heap.objs.size := by simpa using hb
      have hle : s1.heap.objs.size ≤ b := by
        rcases e' with z | z
        · rw [z]; exact Nat.le_add_right _ _
        · rw [z]; exact Nat.le_refl _
      exact I1.fpOk hle (I1.hok.fresh hle)

/-! ### zip -/
def ItzG (K : PySem.W.Frag) (k1 k2 : Sk) : L2.It :=
  ⟨fun i H => ∃ (xs ys : List V) (x y : V), k1.ok K H xs ∧ k2.ok K H ys ∧ xs[i]? = some x ∧ ys[i]? = some y,
    fun i H v H' => ∃ T x y o, v = .ref T ∧ H T = none ∧ o.dict = none ∧ H' = upd H T (.frz o (.tup [x, y])) ∧ (∀ xs, k1.ok K H xs → xs[i]? = some x) ∧ ∀ ys, k2.ok K H ys → ys[i]? = some y,
    fun i H => ∃ xs ys : List V, k1.ok K H xs ∧ k2.ok K H ys ∧ i ≤ xs.length ∧ i ≤ ys.length ∧ (i = xs.length ∨ i = ys.length)⟩
theorem Sk.sep {k1 k2 : Sk} {z TI TO i1 i2 : Addr} {fp1 fp2 : List Addr} (h : TI ≠ z ∧ TO ≠ z ∧ TI ≠ TO ∧ TI ≠ i1 ∧ TI ≠ i2 ∧ z ≠ i1 ∧ z ≠ i2 ∧ TO ≠ i1 ∧ TO ≠ i2 ∧ i1 ≠ i2)
    (a1 : ∀ b ∈ [z, TI, TO, i1, i2], k1.apart b) (a2 : ∀ b ∈ [z, TI, TO, i1, i2], k2.apart b) (m1 : i1 ∈ fp1) (m2 : i2 ∈ fp2) (f1 : ∀ b ∈ fp1, b = i1 ∨ k1.val = .ref b) (f2 : ∀ b ∈ fp2, b = i2 ∨ k2.val = .ref b) : ZipSep2 z TI TO i1 i2 fp1 fp2 := by
  obtain ⟨h1, h2, h3, h4, h5, h6, h7, h8, h9, h10⟩ := h
  have o1 : ∀ b ∈ [z, TI, TO, i1, i2], b ≠ i1 → b ∉ fp1 := fun b hb hne z => (f1 b z).elim hne fun q => a1 b hb b q rfl
  have o2 : ∀ b ∈ [z, TI, TO, i1, i2], b ≠ i2 → b ∉ fp2 := fun b hb hne z => (f2 b z).elim hne fun q => a2 b hb b q rfl
  exact ⟨h1, h2, h3, h4, m1, o1 z (by simp) h6, o1 TO (by simp) h8, h5, m2, o2 z (by simp) h7, o2 TO (by simp) h9, o2 i1 (by simp) h10, o1 i2 (by simp) (Ne.symm h10)⟩
theorem turn_zipG {P : Program} {w : World} {K : PySem.W.Frag} {elts : List Expr} {kk : Nat} {tpos : Pos} {k1 k2 : Sk} {z TI TO i1 i2 : Addr} (hd : TI ≠ z ∧ TO ≠ z ∧ TI ≠ TO ∧ TI ≠ i1 ∧ TI ≠ i2 ∧ z ≠ i1 ∧ z ≠ i2 ∧ TO ≠ i1 ∧ TO ≠ i2 ∧ i1 ≠ i2)
    (ap1 : ∀ b ∈ [z, TI, TO, i1, i2], k1.apart b) (ap2 : ∀ b ∈ [z, TI, TO, i1, i2], k2.apart b) :
    Turn P w K (.Tuple elts kk tpos) (ItzG K k1 k2) [z, TI, TO, i1, i2] z (fun i h => IsZip h z TI TO .none ∧ IsTupOf2 h TI (.ref i1) (.ref i2) ∧ (∃ x y, IsTupOf2 h TO x y) ∧ k1.tn i1 i h ∧ k2.tn i2 i h) where
  mem := by simp
  obj := fun i h st c hc => by
    obtain ⟨hz, hTI, ⟨x, y, hTO⟩, h1, h2⟩ := st
    have e' : c = z ∨ c = TI ∨ c = TO ∨ c = i1 ∨ c = i2 := by simpa using hc
    rcases e' with q | q | q | q | q
    · rw [q]; exact ⟨_, hz, fun v q => nomatch q⟩
    · rw [q]; exact ⟨_, hTI, fun v q => nomatch q⟩
    · rw [q]; exact ⟨_, hTO, fun v q => nomatch q⟩
    · rw [q]; exact Sk.obj_at h1
    · rw [q]; exact Sk.obj_at h2
  keep := fun i h h' st k => by
    obtain ⟨hz, hTI, ⟨x, y, hTO⟩, h1, h2⟩ := st
    exact ⟨k z (by simp) _ hz, k TI (by simp) _ hTI, ⟨x, y, k TO (by simp) _ hTO⟩, Sk.keep h1 fun o q => k i1 (by simp) o q, Sk.keep h2 fun o q => k i2 (by simp) o q⟩
  item := by
    intro X hP hw hK hc i pins s σ H E I hf st hg
    subst hP hw hK
    obtain ⟨hz, hTI, ⟨x0, y0, hTO⟩, h1, h2⟩ := st
    obtain ⟨xs, ys, x, y, hqx, hqy, hx, hy⟩ := hg
    obtain ⟨fp1, St1, P1, D1, st1, hS1, hP1, m1, f1⟩ := Sk.draws (A := X.A.in1) (show X.A.in1.handled = none from I.ok.hd hc) I hqx h1 (ap1 i1 (by simp))
    obtain ⟨fp2, St2, P2, D2, st2, hS2, hP2, m2, f2⟩ := Sk.draws (A := X.A.in1) (show X.A.in1.handled = none from I.ok.hd hc) I hqy h2 (ap2 i2 (by simp))
    have S := Sk.sep hd ap1 ap2 m1 m2 f1 f2
    have hzl : z < s.heap.objs.size := Heap.lt_size hz
    refine wpAny_pyNext_zipD2_item S D1 D2 hz hTI hTO st1 st2 (List.getElem?_eq_some_iff.mp hx).1 (List.getElem?_eq_some_iff.mp hy).1 fun u u2 h' tk q1 q2 z' TO' t1' t2' hT hsz hk => ?_
    obtain ⟨x', ex, ru⟩ := hP1 _ _ q1
    rw [hx] at ex
    cases ex
    obtain ⟨y', ey, ru2⟩ := hP2 _ _ q2
    rw [hy] at ey
    cases ey
    refine ⟨_, rfl, wpAny_letOwnedTupleGo_zip (s := { s with heap := h', toks := tk }) z' fun h'' z'' sb => ?_⟩
    have hT2 : h''.get? s.heap.objs.size = some { cls := .type "tuple", data := .seq #[u, u2] } := (sb.2 _ (Nat.ne_of_gt hzl)).trans hT
    have new : ObjOk X.prog X.w (upd H s.heap.objs.size (.frz { cls := .type "tuple", data := .seq #[u, u2] } (.tup [x, y]))) h'' s.heap.objs.size (.frz { cls := .type "tuple", data := .seq #[u, u2] } (.tup [x, y])) :=
      ⟨hT2, by show 2 ≤ sizeLine; decide, [u, u2], .cons ru (.cons ru2 .nil), ⟨_, hT2, rfl, _, rfl⟩⟩
    have I1 : Inv X pins σ (upd H s.heap.objs.size (.frz { cls := .type "tuple", data := .seq #[u, u2] } (.tup [x, y]))) { s with heap := h'', toks := tk } :=
      I.turnedNew (t' := tk) (ch := [z, TI, TO, i1, i2]) (fun c o hb q => (sb.2 c (fun q' => hb (by simp [q']))).trans (hk c o (fun q' => hb (by simp [q'])) (fun q' => hb (by simp [q'])) (fun q' => hb (by simp [q'])) (fun q' => hb (by simp [q'])) q)) hf (Nat.le_refl _) new
    refine ⟨.ref s.heap.objs.size, _, I1, rfl, ⟨_, x, y, _, rfl, I.hok.fresh (Nat.le_refl _), rfl, rfl, fun l hl => by rw [Sk.inj I hl hqx]; exact hx, fun l hl => by rw [Sk.inj I hl hqy]; exact hy⟩, ⟨z'', ?_, ⟨u, u2, ?_⟩, ?_, ?_⟩, fun c hcm => ?_⟩
    · exact (sb.2 _ S.TIz).trans (hk _ _ S.TIz S.TITO S.TIi1 S.TIi2 hTI)
    · exact (sb.2 _ S.TOz).trans TO'
    · exact Sk.keep (hS1 _ _ t1') fun o q => (sb.2 _ (Ne.symm S.zi1)).trans q
    · exact Sk.keep (hS2 _ _ t2') fun o q => (sb.2 _ (Ne.symm S.zi2)).trans q
    · have hlt : c < s.heap.objs.size := by
        have e' : c = z ∨ c = TI ∨ c = TO ∨ c = i1 ∨ c = i2 := by simpa using hcm
        rcases e' with q | q | q | q | q
        · rw [q]; exact hzl
        · rw [q]; exact Heap.lt_size hTI
        · rw [q]; exact Heap.lt_size hTO
        · rw [q]; obtain ⟨_, e1, _⟩ := Sk.obj_at h1; exact Heap.lt_size e1
        · rw [q]; obtain ⟨_, e2, _⟩ := Sk.obj_at h2; exact Heap.lt_size e2
      rw [upd_ne (Nat.ne_of_lt hlt)]
      exact (hf c hcm).1
  done := by
    intro X hP hw hK hc i pins s σ H E I hf st hg
    subst hP hw hK
    obtain ⟨hz, hTI, ⟨x0, y0, hTO⟩, h1, h2⟩ := st
    obtain ⟨xs, ys, hqx, hqy, l1, l2, hend⟩ := hg
    obtain ⟨fp1, St1, P1, D1, st1, hS1, hP1, m1, f1⟩ := Sk.draws (A := X.A.in1) (show X.A.in1.handled = none from I.ok.hd hc) I hqx h1 (ap1 i1 (by simp))
    obtain ⟨fp2, St2, P2, D2, st2, hS2, hP2, m2, f2⟩ := Sk.draws (A := X.A.in1) (show X.A.in1.handled = none from I.ok.hd hc) I hqy h2 (ap2 i2 (by simp))
    have S := Sk.sep hd ap1 ap2 m1 m2 f1 f2
    exact wpAny_pyNext_zipD2_end S D1 D2 hz hTI hTO st1 st2 l1 l2 hend fun h' tk hk => ⟨rfl, I.turnedL (t' := tk) (ch := [z, TI, TO, i1, i2]) (fun c o hb q =>
      hk c o (fun q' => hb (by simp [q'])) (fun q' => hb (by simp [q'])) (fun q' => hb (by simp [q'])) (fun q' => hb (by simp [q'])) q) hf⟩
  self := fun A i s Q E st h => wpAny_pyIter_zip st.1 h
def iZipG (K : PySem.W.Frag) (ta : TA) : TI := fun σ H R => ta σ H fun vs H1 => ∃ x y, vs = [x, y] ∧ ∀ u w, RelV x u → RelV y w → ∃ k1 k2 : Sk, k1.val = u ∧ k2.val = w ∧ (∃ xs, k1.ok K H1 xs) ∧ (∃ ys, k2.ok K H1 ys) ∧ R (ItzG K k1 k2) H1
theorem pi_zipG {X : Cx} {e e2 : Expr} {ta : TA} {p pos tpos : Pos} {elts : List Expr} {kk : Nat} (hg : Gl X "zip") (hm : X.mg "zip" = none) (ha : PA X [e, e2] ta)
    (hs : starEach [e, e2] X.env = (false, eval e X.env) :: starEach [e2] X.env) (hpl : (backTo pos (starEach [e2] X.env)).any (·.1) = false) :
    PI X (.Tuple elts kk tpos) (.Call (.Name "zip" p) [e, e2] [] pos) (iZipG X.K ta) := by
  refine ⟨fun pins s σ H R I h => ?_⟩
  refine Call_ (ld_blt I hg hm PyProof.Rows.boot_zip (PyProof.Rows.callWith_type1 (thn (ha.run pos pins s σ H _ I h) fun us s1 ⟨vs, H1, I1, r1, q1⟩ => ?_) hs hpl))
  obtain ⟨x, y, ex, hq⟩ := q1
  subst ex
  cases r1 with
  | cons r rr =>
    cases rr with
    | cons r' rr =>
      cases rr
      obtain ⟨k1, k2, rfl, rfl, ⟨xs, hx⟩, ⟨ys, hy⟩, q⟩ := hq _ _ r r'
      obtain ⟨Hb1, B1, hb1⟩ := Sk.begins I1 hx
      obtain ⟨Hb2, B2, hb2⟩ := Sk.begins I1 hy
      refine zip_begins2 B1 B2 hb1 hb2 fun h' hz hTI hTO h1 h2 hsz hk => wpAny_pyIter_zip hz ?_
      have I2 : Inv X pins σ H1 { s1 with heap := h' } := I1.kept (t' := s1.toks) hk
      have hle : ∀ c ∈ [s1.heap.objs.size + 4, s1.heap.objs.size + 2, s1.heap.objs.size + 3, s1.heap.objs.size, s1.heap.objs.size + 1], s1.heap.objs.size ≤ c := fun c hcm => by
        have e' : c = s1.heap.objs.size + 4 ∨ c = s1.heap.objs.size + 2 ∨ c = s1.heap.objs.size + 3 ∨ c = s1.heap.objs.size ∨ c = s1.heap.objs.size + 1 := by simpa using hcm
        rcases e' with z | z | z | z | z
        · rw [z]; exact Nat.le_add_right _ _
        · rw [z]; exact Nat.le_add_right _ _
        · rw [z]; exact Nat.le_add_right _ _
        · rw [z]; exact Nat.le_refl _
        · rw [z]; exact Nat.le_add_right _ _
      have nq : ∀ i j : Nat, i ≠ j → s1.heap.objs.size + i ≠ s1.heap.objs.size + j := fun i j h z => h (Nat.add_left_cancel z)
      have n0 : ∀ i : Nat, i ≠ 0 → s1.heap.objs.size + i ≠ s1.heap.objs.size := fun i h z => h (Nat.add_left_cancel (k := 0) z)
      refine ⟨s1.heap.objs.size + 4, [s1.heap.objs.size + 4, s1.heap.objs.size + 2, s1.heap.objs.size + 3, s1.heap.objs.size, s1.heap.objs.size + 1], _, _, H1, rfl, I2,
        turn_zipG (k1 := k1) (k2 := k2) ⟨nq 2 4 (by decide), nq 3 4 (by decide), nq 2 3 (by decide), n0 2 (by decide), nq 2 1 (by decide), n0 4 (by decide), nq 4 1 (by decide), n0 3 (by decide), nq 3 1 (by decide), Ne.symm (n0 1 (by decide))⟩
          (fun b hb a e z => ?_) (fun b hb a e z => ?_), ⟨hz, hTI, ⟨_, _, hTO⟩, Sk.start h1, Sk.start h2⟩, fun c hcm => I1.fpOk (hle c hcm) (I1.hok.fresh (hle c hcm)), q⟩
      · exact Nat.not_lt.mpr (hle b hb) (z ▸ Sk.lt I1 hx e)
      · exact Nat.not_lt.mpr (hle b hb) (z ▸ Sk.lt I1 hy e)
end PL

set_option Elab.async false
set_option linter.all false
set_option maxRecDepth 100000
set_option maxHeartbeats 1000000
/-! What a loop is fed; targets. -/
namespace PL
open PySem PySem.Spec PyProof.Rows L2
variable [Tbl]
theorem R.bind_ok {α β : Type} {r : R α} {f : α → Sto → R β} {b : β} {s : Sto} (h : r.bind f = .ok b s) : ∃ a s1, r = .ok a s1 ∧ f a s1 = .ok b s := by
  cases r with
  | ok a s1 => exact ⟨a, s1, rfl, h⟩
  | exn c d s1 => cases h
  | bad => cases h
theorem oD_ok {α : Type} {o : Option α} {st s : Sto} {a : α} (h : oD o st = .ok a s) : o = some a ∧ s = st := by
  cases o with
  | none => cases h
  | some b =>
    cases h
    exact ⟨rfl, rfl⟩
theorem RP.eq {α : Type} {r : R α} {P : α → Sto → Prop} {X : Nat → D → Sto → Prop} (h : RP r P X) : RP r (fun a s => r = .ok a s ∧ P a s) X := by
  cases r with
  | ok a s => exact ⟨rfl, h⟩
  | exn c d s => exact h
  | bad => exact h

/-! ### locks -/
def tag (o : Obj) : List D × Bool := (o.its, o.isFz)
def Sim (st st' : Sto) : Prop := st.map tag = st'.map tag
section
variable {K : PySem.W.Frag} {fa : Nat → Addr} {H H1 H2 : Hp} {β ρ ρ1 ρ2 : List Addr} {st s1 s2 : Sto} {n : Nat}
theorem Sim.refl : Sim st st := rfl
theorem Sim.symm (h : Sim st s1) : Sim s1 st := Eq.symm h
theorem Sim.trans (h : Sim st s1) (g : Sim s1 s2) : Sim st s2 := Eq.trans h g
theorem Sim.len (h : Sim st s1) : st.length = s1.length := by
  have := congrArg List.length h
  simpa using this
theorem Sim.get (h : Sim st s1) {i : Nat} {o : Obj} (e : s1[i]? = some o) : ∃ o', st[i]? = some o' ∧ o'.its = o.its ∧ o'.isFz = o.isFz := by
  have q : (st.map tag)[i]? = (s1.map tag)[i]? := by rw [show st.map tag = s1.map tag from h]
  rw [List.getElem?_map, List.getElem?_map, e] at q
  obtain ⟨o', e', q'⟩ := Option.map_eq_some_iff.mp q
  exact ⟨o', e', congrArg Prod.fst q', congrArg Prod.snd q'⟩
theorem Sim.mu (h : Sim st s1) : Mu ρ st = Mu ρ s1 := by
  funext a
  apply propext
  constructor
  · rintro (t | ⟨i, o, h1, h2, h3⟩)
    · exact .inl t
    right
    obtain ⟨o', e, _, q⟩ := h.symm.get h2
    exact ⟨i, o', h1, e, by rw [q]; exact h3⟩
  · rintro (t | ⟨i, o, h1, h2, h3⟩)
    · exact .inl t
    right
    obtain ⟨o', e, _, q⟩ := h.get h2
    exact ⟨i, o', h1, e, by rw [q]; exact h3⟩
theorem RS.sim (S : RS K fa β ρ st H) (h : Sim st s1) : RS K fa β ρ s1 H := by
  refine ⟨S.nd, by rw [← h.len]; exact S.len, fun i o e => ?_, S.busy, S.tabs⟩
  obtain ⟨o', e', q, _⟩ := h.get e
  obtain ⟨a, vs, h1, h2, h3⟩ := S.obj i o' e'
  refine ⟨a, vs, h1, h2, ?_⟩
  rw [← h.mu, ← q]
  exact h3
theorem RE.sim {env : PL.Env} {σ : L2.St} (e : RE K fa β ρ env st σ H) (h : Sim st s1) : RE K fa β ρ env s1 σ H := by
  refine ⟨e.len, fun i d q => ?_⟩
  obtain ⟨v, h1, r⟩ := e.get i d q
  refine ⟨v, h1, ?_⟩
  rw [← h.mu, ← h.len]
  exact r
theorem RD.sim {d : D} {v : V} (r : RD K fa H (Mu ρ st) β ρ st.length d v) (h : Sim st s1) : RD K fa H (Mu ρ s1) β ρ s1.length d v := by
  rw [← h.mu, ← h.len]
  exact r
theorem tag_lockO (o : Obj) : tag (lockO o) = tag o := by cases o <;> rfl
theorem tag_unlockO (o : Obj) : tag (unlockO o) = tag o := by cases o <;> rfl
theorem sim_mod {f : Obj → Obj} (hf : ∀ o, tag (f o) = tag o) (i : Nat) : Sim st (st.modify i f) := by
  unfold Sim
  apply List.ext_getElem?
  intro j
  rw [List.getElem?_map, List.getElem?_map, List.getElem?_modify]
  cases st[j]? with
  | none => rfl
  | some o =>
    by_cases hj : i = j
    · simp [hj, hf]
    · simp [hj]
theorem sim_lock : ∀ {ids : List Nat} {st : Sto}, Sim st (lock st ids)
  | [], _ => rfl
  | i :: r, st => (sim_mod tag_lockO i).trans sim_lock
theorem sim_unlock : ∀ {ids : List Nat} {st : Sto}, Sim st (unlock st ids)
  | [], _ => rfl
  | i :: r, st => (sim_mod tag_unlockO i).trans sim_unlock
theorem lock_lck : ∀ {ids : List Nat} {st : Sto} {i : Nat} {ds : List D}, st[i]? = some (.lck ds) → (lock st ids)[i]? = some (.lck ds)
  | [], _, _, _, h => h
  | j :: r, st, i, ds, h => lock_lck (ids := r) (st := st.modify j lockO) (by
      rw [List.getElem?_modify, h]
      by_cases hj : j = i
      · simp [hj, lockO]
      · simp [hj])
theorem lock_at : ∀ {ids : List Nat} {st : Sto} {i : Nat} {ds : List D}, i ∈ ids → st[i]? = some (.lst ds) → (lock st ids)[i]? = some (.lck ds)
  | j :: r, st, i, ds, hm, h => by
    by_cases hj : j = i
    · refine lock_lck (ids := r) (st := st.modify j lockO) ?_
      rw [List.getElem?_modify, h]
      simp [hj, lockO]
    · refine lock_at (ids := r) (st := st.modify j lockO) ?_ ?_
      · rcases List.mem_cons.mp hm with e | e
        · exact absurd e.symm hj
        · exact e
      · rw [List.getElem?_modify, h]
        simp [hj]
theorem lock_lst : ∀ {ids : List Nat} {st : Sto} {i : Nat} {ds : List D}, (lock st ids)[i]? = some (.lst ds) → st[i]? = some (.lst ds)
  | [], _, _, _, h => h
  | j :: r, st, i, ds, h => by
    have q := lock_lst (ids := r) h
    rw [List.getElem?_modify] at q
    cases ho : st[i]? with
    | none => rw [ho] at q; cases q
    | some o =>
      rw [ho] at q
      by_cases hj : j = i
      · simp [hj] at q
        cases o <;> simp [lockO] at q
      · simpa [hj] using q
theorem lock_app : ∀ {a b : List Nat} {st : Sto}, lock st (a ++ b) = lock (lock st a) b
  | [], _, _ => rfl
  | i :: r, b, st => lock_app (a := r)
theorem unlock_ne : ∀ {ids : List Nat} {st : Sto} {i : Nat}, i ∉ ids → (unlock st ids)[i]? = st[i]?
  | [], _, _, _ => rfl
  | j :: r, st, i, h => by
    have h1 : j ≠ i := fun e => h (by simp [e])
    have h2 : i ∉ r := fun e => h (List.mem_cons_of_mem _ e)
    show (unlock (st.modify j unlockO) r)[i]? = _
    rw [unlock_ne h2, List.getElem?_modify]
    simp [h1]
/-- lists that a loop may lock -/
def Can (st : Sto) (ids : List Nat) : Prop := ∀ i ∈ ids, ∃ ds, st[i]? = some (.lst ds)
theorem stp_lock {ids : List Nat} : Stp ρ st H ρ (lock st ids) H :=
  ⟨⟨[], by simp⟩, Nat.le_of_eq (sim_lock (ids := ids)).len, fun a o h m => ⟨h, by rw [← (sim_lock (ids := ids) (st := st)).mu]; exact m⟩, fun i ds h => lock_lck h⟩
theorem stp_unlock {ids : List Nat} (c : Can st ids) (a : Stp ρ (lock st ids) H ρ1 s1 H1) : Stp ρ st H ρ1 (unlock s1 ids) H1 := by
  refine ⟨a.pre, ?_, fun p o h m => ?_, fun i ds h => ?_⟩
  · rw [(sim_lock (ids := ids) (st := st)).len, ← (sim_unlock (ids := ids) (st := s1)).len]
    exact a.le
  · rw [(sim_lock (ids := ids) (st := st)).mu] at m
    rw [← (sim_unlock (ids := ids) (st := s1)).mu]
    exact a.keep p o h m
  · have hi : i ∉ ids := fun q => by
      obtain ⟨es, e⟩ := c i q
      rw [h] at e
      cases e
    rw [unlock_ne hi]
    exact a.lck i ds (lock_lck h)

/-! ### what is walked -/
def BetaOk (β β' : List Addr) (H : Hp) : Prop := ∀ b ∈ β', b ∈ β ∨ H b = none
/-- the same, but for what is busy -/
structure StpB (β ρ : List Addr) (st : Sto) (H : Hp) (ρ' : List Addr) (st' : Sto) (H' : Hp) : Prop where
  pre : ∃ t, ρ' = ρ ++ t
  le : st.length ≤ st'.length
  keep : ∀ a o, H a = some o → ¬ Mu ρ st a → a ∉ β → H' a = some o ∧ ¬ Mu ρ' st' a
  lck : ∀ (i : Nat) (ds : List D), st[i]? = some (.lck ds) → st'[i]? = some (.lck ds)
theorem Stp.toB (a : Stp ρ st H ρ1 s1 H1) : StpB β ρ st H ρ1 s1 H1 := ⟨a.pre, a.le, fun p o h m _ => a.keep p o h m, a.lck⟩
theorem Stp.transB (a : Stp ρ st H ρ1 s1 H) (b : StpB β ρ1 s1 H ρ2 s2 H2) : StpB β ρ st H ρ2 s2 H2 := by
  refine ⟨?_, Nat.le_trans a.le b.le, fun p o h m nb => ?_, fun i ds h => b.lck i ds (a.lck i ds h)⟩
  · obtain ⟨t, rfl⟩ := a.pre
    obtain ⟨u, rfl⟩ := b.pre
    exact ⟨t ++ u, by simp⟩
  · obtain ⟨h1, m1⟩ := a.keep p o h m
    exact b.keep p o h1 m1 nb
theorem StpB.refl : StpB β ρ st H ρ st H := Stp.toB .refl
theorem StpB.at (a : StpB β ρ st H ρ1 s1 H1) : ∀ (i : Nat) (p : Addr), ρ[i]? = some p → ρ1[i]? = some p := fun i p h => by
  obtain ⟨t, rfl⟩ := a.pre
  rw [List.getElem?_append_left (List.getElem?_eq_some_iff.mp h).1]
  exact h
mutual
theorem RD.free {m : Addr → Prop} : ∀ {d : D} {v : V}, RD K fa H m β ρ n d v → RD K fa H (fun a => m a ∨ a ∈ β) β ρ n d v
  | _, _, .non => .non
  | _, _, .bl b => .bl b
  | _, _, .int i => .int i
  | _, _, .str s => .str s
  | _, _, .tupH h1 h2 h3 h4 => .tupH h1 (fun z => z.elim h2 h3) h3 (RDs.free h4)
  | _, _, .tupK h1 h4 => .tupK h1 (RDs.free h4)
  | _, _, .frz h1 h2 h3 h4 => .frz h1 (fun z => z.elim h2 h3) h3 (RDs.free h4)
  | _, _, .scrH h1 h2 h3 h4 => .scrH h1 (fun z => z.elim h2 h3) h3 (RDs.free h4)
  | _, _, .scrK h1 h4 => .scrK h1 (RDs.free h4)
  | _, _, .lst h1 h2 => .lst h1 h2
  | _, _, .fn k => .fn k
theorem RDs.free {m : Addr → Prop} : ∀ {ds : List D} {vs : List V}, RDs K fa H m β ρ n ds vs → RDs K fa H (fun a => m a ∨ a ∈ β) β ρ n ds vs
  | _, _, .nil => .nil
  | _, _, .cons h t => .cons (RD.free h) (RDs.free t)
end
theorem StpB.kp (a : StpB β ρ st H ρ1 s1 H1) : ∀ p o, H p = some o → ¬ (Mu ρ st p ∨ p ∈ β) → H1 p = some o ∧ ¬ Mu ρ1 s1 p := fun p o h z => a.keep p o h (fun q => z (.inl q)) fun q => z (.inr q)
def Src (K : PySem.W.Frag) (fa : Nat → Addr) (β ρ : List Addr) (st : Sto) (H : Hp) (k : Sk) (ds : List D) : Prop :=
  ∀ β' ρ' st' H', BetaOk β β' H → StpB β ρ st H ρ' st' H' → RS K fa β' ρ' st' H' → ∃ xs, k.ok K H' xs ∧ RDs K fa H' (Mu ρ' st') β' ρ' st'.length ds xs
theorem Src.stp {k : Sk} {ds : List D} (h : Src K fa β ρ st H k ds) (a : Stp ρ st H ρ s1 H) : Src K fa β ρ s1 H k ds := fun β' ρ' st' H' b c d => h β' ρ' st' H' b (a.transB c) d
theorem RD.go {m : Addr → Prop} {β' : List Addr} {d : D} {v : V} (a : Stp ρ st H ρ1 s1 H1) (b : BetaOk β β' H) (r : RD K fa H (Mu ρ st) β ρ st.length d v) : RD K fa H1 (Mu ρ1 s1) β' ρ1 s1.length d v := r.mono a.keep a.at b a.le
theorem RDs.go {β' : List Addr} {ds : List D} {vs : List V} (a : Stp ρ st H ρ1 s1 H1) (b : BetaOk β β' H) (r : RDs K fa H (Mu ρ st) β ρ st.length ds vs) : RDs K fa H1 (Mu ρ1 s1) β' ρ1 s1.length ds vs := r.mono a.keep a.at b a.le
theorem Rd.go {m : Addr → Prop} {a : Addr} {u : HO} (c : Stp ρ st H ρ1 s1 H1) (h : Rd H a u) (hm : ¬ Mu ρ st a) : Rd H1 a u := (Rd.keepP c.keep h hm).1
theorem RD.goB {β' : List Addr} {d : D} {v : V} (a : StpB β ρ st H ρ1 s1 H1) (b : BetaOk β β' H) (r : RD K fa H (Mu ρ st) β ρ st.length d v) : RD K fa H1 (Mu ρ1 s1) β' ρ1 s1.length d v := r.free.mono a.kp a.at b a.le
theorem RDs.goB {β' : List Addr} {ds : List D} {vs : List V} (a : StpB β ρ st H ρ1 s1 H1) (b : BetaOk β β' H) (r : RDs K fa H (Mu ρ st) β ρ st.length ds vs) : RDs K fa H1 (Mu ρ1 s1) β' ρ1 s1.length ds vs := r.free.mono a.kp a.at b a.le
theorem Rd.goB {a : Addr} {u : HO} (c : StpB β ρ st H ρ1 s1 H1) (h : Rd H a u) (hm : ¬ Mu ρ st a) (hb : a ∉ β) : Rd H1 a u := (Rd.keepP c.kp h fun z => z.elim hm hb).1
theorem chars_rd {m : Addr → Prop} : ∀ s : List Nat, RDs K fa H m β ρ n (s.map fun c => .str [c]) (s.map fun c => V.str ⟨#[c]⟩)
  | [] => .nil
  | c :: r => .cons (.str [c]) (chars_rd r)
def skOf (x : D) (u : Value) : Sk := match u with
  | .ref a => (match x with | .tup _ => .t a | _ => .l a)
  | .str x t => .s x t
  | _ => .l 0
theorem walk_src {x : D} {v : V} {u : Value} {ds : List D} {ids : List Nat} (S : RS K fa β ρ st H) (r : RD K fa H (Mu ρ st) β ρ st.length x v) (hw : walk st x = some (ds, ids)) (hu : RelV v u) :
    (skOf x u).val = u ∧ Src K fa β ρ (lock st ids) H (skOf x u) ds ∧ Can st ids := by
  cases r with
  | tupH h1 h2 h3 h4 =>
    cases hw
    cases hu
    exact ⟨rfl, fun β' ρ' st' H' b c d => ⟨_, .inl (Rd.goB c h1.rd h2 h3), h4.goB c b⟩, fun i h => nomatch h⟩
  | tupK h1 h4 =>
    cases hw
    cases hu
    exact ⟨rfl, fun β' ρ' st' H' b c d => ⟨_, h1.sq, h4.goB c b⟩, fun i h => nomatch h⟩
  | frz h1 h2 h3 h4 =>
    cases hw
    cases hu
    exact ⟨rfl, fun β' ρ' st' H' b c d => ⟨_, .inl (Rd.goB c (.inl h1) h2 h3), h4.goB c b⟩, fun i h => nomatch h⟩
  | scrH h1 h2 h3 h4 =>
    cases hw
    cases hu
    exact ⟨rfl, fun β' ρ' st' H' b c d => ⟨_, .inl (Rd.goB c h1 h2 h3), h4.goB c b⟩, fun i h => nomatch h⟩
  | scrK h1 h4 =>
    cases hw
    cases hu
    exact ⟨rfl, fun β' ρ' st' H' b c d => ⟨_, .inr h1, h4.goB c b⟩, fun i h => nomatch h⟩
  | str s =>
    cases hw
    obtain ⟨t, rfl⟩ := hu
    exact ⟨rfl, fun β' ρ' st' H' b c d => ⟨_, rfl, by
      show RDs _ _ _ _ _ _ _ _ ((⟨s.toArray⟩ : Str).cps.toList.map _)
      simpa using chars_rd s⟩, fun i h => nomatch h⟩
  | @lst i a h1 h2 =>
    cases hu
    have go : ∀ {o : Obj} {ids : List Nat}, st[i]? = some o → ((∃ ds, (lock st ids)[i]? = some (.lck ds)) ∨ o.isFz = true) → Src K fa β ρ (lock st ids) H (.l a) o.its := by
      intro o ids ho hk β' ρ' st' H' b c d
      rcases hk with ⟨ds', hk⟩ | hk
      · obtain ⟨o', e', q1, q2⟩ := (sim_lock (ids := ids) (st := st)).get hk
        rw [ho] at e'
        cases e'
        have hk' := c.lck i _ hk
        obtain ⟨p, vs, e1, e2, e3⟩ := rs_at d hk'
        have e4 := c.at i a h2
        rw [e1] at e4
        cases e4
        refine ⟨vs, .inl (.inl e2), ?_⟩
        rw [q1]
        exact e3
      · obtain ⟨p, vs, e1, e2, e3⟩ := rs_at S ho
        rw [h2] at e1
        cases e1
        have nm : ¬ Mu ρ st a := fun z => z.elim (S.notTbL e2) fun ⟨j, oj, g1, g2, g3⟩ => by
          have := S.nd i j a h2 g1
          subst this
          rw [ho] at g2
          cases g2
          rw [hk] at g3
          cases g3
        have nm' : ¬ Mu ρ (lock st ids) a := by rw [← (sim_lock (ids := ids) (st := st)).mu]; exact nm
        have nb : a ∉ β := fun z => (S.busy a z).2 (List.mem_iff_getElem?.mpr ⟨i, h2⟩)
        refine ⟨vs, .inl (.inl (c.keep a _ e2 nm' nb).1), RDs.goB c b ?_⟩
        rw [← (sim_lock (ids := ids) (st := st)).mu, ← (sim_lock (ids := ids) (st := st)).len]
        exact e3
    refine ⟨rfl, ?_⟩
    show Src K fa β ρ (lock st ids) H (.l a) ds ∧ Can st ids
    simp only [walk] at hw
    split at hw
    · rename_i es ho
      cases hw
      exact ⟨go (o := .lst ds) ho (.inl ⟨_, lock_at (by simp) ho⟩), fun j hj => ⟨ds, by rw [List.mem_singleton.mp hj]; exact ho⟩⟩
    · rename_i es ho
      cases hw
      exact ⟨go (o := .lck ds) ho (.inl ⟨_, ho⟩), fun j hj => nomatch hj⟩
    · rename_i es ho
      cases hw
      exact ⟨go (o := .fz ds) ho (.inr rfl), fun j hj => nomatch hj⟩
    · cases hw
  | _ => cases hw

/-- what each turn brings -/
def Feeds (K : PySem.W.Frag) (fa : Nat → Addr) (β ρ : List Addr) (st : Sto) (H : Hp) (J : L2.It) (ds : List D) : Prop :=
  ∀ β' ρ' st' H', BetaOk β β' H → StpB β ρ st H ρ' st' H' → RS K fa β' ρ' st' H' →
    (∀ i d, ds[i]? = some d → J.go i H' ∧ ∀ x H2, J.yld i H' x H2 → Stp ρ' st' H' ρ' st' H2 ∧ RS K fa β' ρ' st' H2 ∧ RD K fa H2 (Mu ρ' st') β' ρ' st'.length d x) ∧ J.stop ds.length H'
theorem feeds_range {lo : Int} {n : Nat} : Feeds K fa β ρ st H (Itr lo n) (rngD lo n) := fun β' ρ' st' H' b c d => by
  refine ⟨fun i x h => ?_, by show n ≤ (rngD lo n).length; simp [rngD]⟩
  have hi : i < n := by
    have := (List.getElem?_eq_some_iff.mp h).1
    simpa [rngD] using this
  refine ⟨hi, fun v H2 y => ?_⟩
  obtain ⟨rfl, rfl⟩ := y
  have e : x = .int (lo + (i : Nat)) := by
    unfold rngD at h
    rw [List.getElem?_map, List.getElem?_range hi] at h
    exact (Option.some.inj h).symm
  subst e
  exact ⟨.refl, d, .int _⟩
theorem feeds_rangeC {lo c : Int} {n : Nat} : Feeds K fa β ρ st H (Itc lo c n) (rngC lo c n) := fun β' ρ' st' H' b cc d => by
  refine ⟨fun i x h => ?_, by show n ≤ (rngC lo c n).length; simp [rngC]⟩
  have hi : i < n := by
    have := (List.getElem?_eq_some_iff.mp h).1
    simpa [rngC] using this
  refine ⟨hi, fun v H2 y => ?_⟩
  obtain ⟨rfl, rfl⟩ := y
  have e : x = .int (lo + (i : Nat) * c) := by
    unfold rngC at h
    rw [List.getElem?_map, List.getElem?_range hi] at h
    exact (Option.some.inj h).symm
  subst e
  exact ⟨.refl, d, .int _⟩
/-- the bare walk of a source -/
def itOf (K : PySem.W.Frag) : Sk → L2.It
  | .l a => Itl K a
  | .t a => Itt K a
  | .s x _ => Its x
theorem feeds_src {k : Sk} {ds : List D} (h : Src K fa β ρ st H k ds) : Feeds K fa β ρ st H (itOf K k) ds := fun β' ρ' st' H' b c d => by
  obtain ⟨xs, hk, rs⟩ := h β' ρ' st' H' b c d
  have get : ∀ {i : Nat} {x : D}, ds[i]? = some x → ∃ v, xs[i]? = some v ∧ RD K fa H' (Mu ρ' st') β' ρ' st'.length x v := fun e => rs.get e
  cases k with
  | l a =>
    refine ⟨fun i x e => ?_, ⟨xs, hk, Nat.le_of_eq rs.length.symm⟩⟩
    obtain ⟨v, hv, r⟩ := get e
    refine ⟨⟨xs, v, hk, hv⟩, fun y H2 z => ?_⟩
    obtain ⟨rfl, z⟩ := z
    have := z xs hk
    rw [hv] at this
    cases this
    exact ⟨.refl, d, r⟩
  | t a =>
    refine ⟨fun i x e => ?_, ⟨xs, hk, Nat.le_of_eq rs.length.symm⟩⟩
    obtain ⟨v, hv, r⟩ := get e
    refine ⟨⟨xs, v, hk, hv⟩, fun y H2 z => ?_⟩
    obtain ⟨rfl, z⟩ := z
    have := z xs hk
    rw [hv] at this
    cases this
    exact ⟨.refl, d, r⟩
  | s x t =>
    have hk : xs = x.cps.toList.map fun c => V.str ⟨#[c]⟩ := hk
    have hl : x.cps.size = ds.length := by rw [rs.length, hk]; simp
    refine ⟨fun i y e => ?_, show x.cps.size ≤ ds.length from Nat.le_of_eq hl⟩
    obtain ⟨v, hv, r⟩ := get e
    have hi : i < x.cps.size := by rw [hl]; exact (List.getElem?_eq_some_iff.mp e).1
    refine ⟨hi, fun w H2 z => ?_⟩
    obtain ⟨rfl, ch, hc, rfl⟩ := z
    have hc' : x.cps.toList[i]? = some ch := by simpa using hc
    rw [hk, List.getElem?_map, hc'] at hv
    cases hv
    exact ⟨.refl, d, r⟩
theorem feeds_enum {k : Sk} {ds : List D} (h : Src K fa β ρ st H k ds) : Feeds K fa β ρ st H (IteG K k) (enumD ds) := fun β' ρ' st' H' b c d => by
  obtain ⟨xs, hk, rs⟩ := h β' ρ' st' H' b c d
  refine ⟨fun i x e => ?_, ⟨xs, hk, by rw [← rs.length]; simp [enumD]⟩⟩
  unfold enumD at e
  rw [List.getElem?_map] at e
  obtain ⟨⟨y, j⟩, e1, e2⟩ := Option.map_eq_some_iff.mp e
  rw [List.getElem?_zipIdx] at e1
  obtain ⟨y', e3, e4⟩ := Option.map_eq_some_iff.mp e1
  have e4 : y' = y ∧ i = j := by simpa using e4
  obtain ⟨rfl, rfl⟩ := e4
  subst e2
  obtain ⟨v, hv, r⟩ := rs.get e3
  refine ⟨⟨xs, v, hk, hv⟩, fun w H2 z => ?_⟩
  obtain ⟨T, v', o, rfl, hT, ho, rfl, z⟩ := z
  have := z xs hk
  rw [hv] at this
  cases this
  exact ⟨(d.lay hT).2, (d.lay hT).1, lay_tup d hT ho (.cons (.int _) (.cons r .nil))⟩
theorem feeds_zip {k1 k2 : Sk} {ds es : List D} (h : Src K fa β ρ st H k1 ds) (h2 : Src K fa β ρ st H k2 es) : Feeds K fa β ρ st H (ItzG K k1 k2) (zipD ds es) := fun β' ρ' st' H' b c d => by
  obtain ⟨xs, hk, rs⟩ := h β' ρ' st' H' b c d
  obtain ⟨ys, hk2, rs2⟩ := h2 β' ρ' st' H' b c d
  have hl : (zipD ds es).length = min xs.length ys.length := by
    rw [← rs.length, ← rs2.length]
    simp [zipD]
  refine ⟨fun i x e => ?_, ⟨xs, ys, hk, hk2, by rw [hl]; exact Nat.min_le_left _ _, by rw [hl]; exact Nat.min_le_right _ _, by rw [hl]; omega⟩⟩
  unfold zipD at e
  rw [List.getElem?_map] at e
  obtain ⟨⟨y, y2⟩, e1, e2⟩ := Option.map_eq_some_iff.mp e
  rw [List.getElem?_zip_eq_some] at e1
  subst e2
  obtain ⟨v, hv, r⟩ := rs.get e1.1
  obtain ⟨v2, hv2, r2⟩ := rs2.get e1.2
  refine ⟨⟨xs, ys, v, v2, hk, hk2, hv, hv2⟩, fun w H2 z => ?_⟩
  obtain ⟨T, w1, w2, o, rfl, hT, ho, rfl, z1, z2⟩ := z
  have q1 := z1 xs hk
  rw [hv] at q1
  cases q1
  have q2 := z2 ys hk2
  rw [hv2] at q2
  cases q2
  exact ⟨(d.lay hT).2, (d.lay hT).1, lay_tup d hT ho (.cons r (.cons r2 .nil))⟩
end
/-! a target changes only its own names -/
mutual
def tgv : Tg → List Nat
  | .var i => [i]
  | .idx _ _ => []
  | .tup ts => tgvs ts
  | .tupS i j => [i, j]
def tgvs : Tgs → List Nat
  | .nil => []
  | .cons t ts => tgv t ++ tgvs ts
end
def Kp (l : List Nat) (σ σ' : L2.St) : Prop := σ'.length = σ.length ∧ ∀ k, k ∉ l → σ'[k]? = σ[k]?
section
variable (K : PySem.W.Frag) (q : Qm)
def tWi (it : It) : TI := fun σ H Rr => ∃ β ρ env st, RE K q.fa β ρ env st σ H ∧ RS K q.fa β ρ st H ∧ RP (evi q.C q.G it env st) (fun p st' => Can st' p.2 → ∀ J H' ρ', Stp ρ st H ρ' st' H' → RS K q.fa β ρ' st' H' → Feeds K q.fa β ρ' (lock st' p.2) H' J p.1 → Rr J H') (PostX K q β ρ st H)
def tWg (t : Tg) : TG := fun v σ H Q => ∃ β ρ env st d, RE K q.fa β ρ env st σ H ∧ RS K q.fa β ρ st H ∧ RD K q.fa H (Mu ρ st) β ρ st.length d v ∧
  RP (evt q.C q.G t d env st) (fun env' st' => ∀ σ' H' ρ', Kp (tgv t) σ σ' → Stp ρ st H ρ' st' H' → RS K q.fa β ρ' st' H' → RE K q.fa β ρ' env' st' σ' H' → Q σ' H') (PostX K q β ρ st H)
def tWgs (ts : Tgs) : TGs := fun vs σ H Q => ∃ β ρ env st ds, RE K q.fa β ρ env st σ H ∧ RS K q.fa β ρ st H ∧ RDs K q.fa H (Mu ρ st) β ρ st.length ds vs ∧
  RP (evts q.C q.G ts ds env st) (fun env' st' => ∀ σ' H' ρ', Kp (tgvs ts) σ σ' → Stp ρ st H ρ' st' H' → RS K q.fa β ρ' st' H' → RE K q.fa β ρ' env' st' σ' H' → Q σ' H') (PostX K q β ρ st H)
end
section
variable {X : Cx} {q : Qm} {a b c : E} {pa pb pc pe tg : Expr} {pos : Pos} {es : Es} {pes : List Expr}
theorem _root_.L2.PI.or {X : Cx} {tg e : Expr} {t t' : TI} (h : PI X tg e t) (h' : PI X tg e t') : PI X tg e (fun σ H Q => t σ H Q ∨ t' σ H Q) := ⟨fun pins s σ H Q I q => q.elim (h.run pins s σ H Q I) (h'.run pins s σ H Q I)⟩
/-- by the value that comes -/
theorem i_val (ha : PE X pa (tW X.K q a)) : PI X tg pa (tWi X.K q (.val a)) :=
  (((pi_list ha).or (pi_tup ha)).or (pi_str ha)).w fun σ H Rr ⟨β, ρ, env, st, e, S, h⟩ => by
    simp only [evi] at h
    have h' := h.bind
    cases hv : ev q.C q.G a env st with
    | bad =>
      rw [hv] at h'
      exact h'.elim
    | exn c d s1 =>
      rw [hv] at h'
      exact .inr ⟨β, ρ, env, st, e, S, by rw [hv]; exact h'⟩
    | ok x s1 =>
      rw [hv] at h'
      obtain ⟨p, hp, h2⟩ := RP.oD h'
      have key : ∀ v H1 ρ1, Stp ρ st H ρ1 s1 H1 → RS X.K q.fa β ρ1 s1 H1 → RD X.K q.fa H1 (Mu ρ1 s1) β ρ1 s1.length x v → ∀ u, RelV v u → (skOf x u).val = u ∧ (∃ xs, (skOf x u).ok X.K H1 xs) ∧ Rr (itOf X.K (skOf x u)) H1 := fun v H1 ρ1 a1 S1 r1 u hu => by
        obtain ⟨hk, src, can⟩ := walk_src S1 r1 (ds := p.1) (ids := p.2) hp hu
        obtain ⟨xs, ok, _⟩ := src β ρ1 _ H1 (fun _ z => .inl z) .refl (S1.sim sim_lock)
        exact ⟨hk, ⟨xs, ok⟩, h2 can _ H1 ρ1 a1 S1 (feeds_src src)⟩
      have lists : (∀ ds, x ≠ .tup ds) → (∀ v H1 ρ1, RS X.K q.fa β ρ1 s1 H1 → RD X.K q.fa H1 (Mu ρ1 s1) β ρ1 s1.length x v → ∃ p1, v = .ref p1) → tWi X.K q (.val a) σ H Rr → iList X.K (tW X.K q a) σ H Rr := fun nt hl _ => by
        refine ⟨β, ρ, env, st, e, S, ?_⟩
        rw [hv]
        intro v H1 ρ1 a1 S1 r1
        obtain ⟨p1, rfl⟩ := hl v H1 ρ1 S1 r1
        obtain ⟨_, hs, hR⟩ := key _ H1 ρ1 a1 S1 r1 _ rfl
        have hk : skOf x (.ref p1) = .l p1 := by
          cases x with
          | tup ds => exact absurd rfl (nt ds)
          | _ => rfl
        rw [hk] at hs hR
        exact ⟨p1, rfl, hs, hR⟩
      have me : tWi X.K q (.val a) σ H Rr := ⟨β, ρ, env, st, e, S, by
        simp only [evi]
        exact h⟩
      cases x with
      | tup ds =>
        refine .inl (.inr ⟨β, ρ, env, st, e, S, ?_⟩)
        rw [hv]
        intro v H1 ρ1 a1 S1 r1
        obtain ⟨p1, vs, rfl, hq, _⟩ := rd_tup r1
        obtain ⟨_, hs, hR⟩ := key _ H1 ρ1 a1 S1 r1 _ rfl
        exact ⟨p1, rfl, hs, hR⟩
      | str z =>
        refine .inr ⟨β, ρ, env, st, e, S, ?_⟩
        rw [hv]
        intro v H1 ρ1 a1 S1 r1
        obtain ⟨_, hs, hR⟩ := key _ H1 ρ1 a1 S1 r1 (.str ⟨z.toArray⟩ 0) (by cases r1; exact ⟨0, rfl⟩)
        cases r1
        exact ⟨_, rfl, hR⟩
      | frz ds => exact .inl (.inl (lists (fun ds z => by cases z) (fun v H1 ρ1 S1 r1 => by cases r1; exact ⟨_, rfl⟩) me))
      | scr ds => exact .inl (.inl (lists (fun ds z => by cases z) (fun v H1 ρ1 S1 r1 => by cases r1 <;> exact ⟨_, rfl⟩) me))
      | lst i => exact .inl (.inl (lists (fun ds z => by cases z) (fun v H1 ρ1 S1 r1 => by cases r1; exact ⟨_, rfl⟩) me))
      | _ => cases hp
/-! ranges -/
theorem rng_ok {i : Int} (h : rngOk i = true) : -(2 ^ 62) ≤ i ∧ i < 2 ^ 62 := by
  simpa [rngOk] using h
theorem i_rng1 {p : Pos} (hg : Gl X "range") (hm : X.mg "range" = none) (ha : PA X [pa] (tWs X.K q (.cons a .nil))) (hs : starEach [pa] X.env = [(false, eval pa X.env)]) : PI X tg (.Call (.Name "range" p) [pa] [] pos) (tWi X.K q (.rng1 a)) :=
  (pi_range1 hg hm ha hs).w fun σ H Rr ⟨β, ρ, env, st, e, S, h⟩ => by
    simp only [evi] at h
    refine ⟨β, ρ, env, st, e, S, ?_⟩
    simp only [evs]
    cases hv : ev q.C q.G a env st with
    | bad => rw [hv] at h; exact h.elim
    | exn c d s1 => rw [hv] at h; exact h
    | ok x s1 =>
      rw [hv] at h
      have h : RP ((toI x s1).bind _) _ _ := h
      obtain ⟨i, rfl, h2⟩ := h.bind.toI
      intro vs H1 ρ1 a1 S1 r1
      split at h2
      · rename_i ok
        cases r1 with
        | cons r r' =>
          cases r
          cases r'
          refine ⟨i, rfl, (rng_ok ok).1, (rng_ok ok).2, ?_⟩
          exact h2 (fun i h => nomatch h) _ H1 ρ1 a1 S1 feeds_range
      · exact h2.elim
theorem rp_two {α γ : Type} {r1 : R D} {r2 : Sto → R D} {f : D → D → Sto → R α} {g : D → D → Sto → R γ} {P : α → Sto → Prop} {P' : γ → Sto → Prop} {Xx : Nat → D → Sto → Prop}
    (h : RP (r1.bind fun x s1 => (r2 s1).bind fun y s2 => f x y s2) P Xx) (k : ∀ x y s2, RP (f x y s2) P Xx → RP (g x y s2) P' Xx) : RP (r1.bind fun x s1 => (r2 s1).bind fun y s2 => g x y s2) P' Xx := by
  cases r1 with
  | bad => exact h
  | exn c d s => exact h
  | ok x s1 =>
    have h : RP ((r2 s1).bind fun y s2 => f x y s2) P Xx := h
    show RP ((r2 s1).bind fun y s2 => g x y s2) P' Xx
    cases hw : r2 s1 with
    | bad => rw [hw] at h; exact h
    | exn c d s => rw [hw] at h; exact h
    | ok y s2 =>
      rw [hw] at h
      exact k x y s2 h
theorem rp_evs2 {env : PL.Env} {st : Sto} {P : List D → Sto → Prop} {Xx : Nat → D → Sto → Prop} (h : RP ((ev q.C q.G a env st).bind fun x s1 => (ev q.C q.G b env s1).bind fun y s2 => R.ok [x, y] s2) P Xx) : RP (evs q.C q.G (.cons a (.cons b .nil)) env st) P Xx := by
  simp only [evs]
  cases hv : ev q.C q.G a env st with
  | bad => rw [hv] at h; exact h.elim
  | exn c d s1 => rw [hv] at h; exact h
  | ok x s1 =>
    rw [hv] at h
    have h : RP ((ev q.C q.G b env s1).bind fun y s2 => R.ok [x, y] s2) P Xx := h
    show RP (((ev q.C q.G b env s1).bind fun x s1 => R.ok [x] s1).bind fun xs s2 => R.ok (x :: xs) s2) P Xx
    cases hw : ev q.C q.G b env s1 with
    | bad => rw [hw] at h; exact h.elim
    | exn c d s2 => rw [hw] at h; exact h
    | ok y s2 => rw [hw] at h; exact h
theorem i_rng2 {p : Pos} (hg : Gl X "range") (hm : X.mg "range" = none) (ha : PA X [pa, pb] (tWs X.K q (.cons a (.cons b .nil)))) (hs : starEach [pa, pb] X.env = [(false, eval pa X.env), (false, eval pb X.env)]) (hs2 : starEach [pb] X.env = [(false, eval pb X.env)]) :
    PI X tg (.Call (.Name "range" p) [pa, pb] [] pos) (tWi X.K q (.rng2 a b)) :=
  (pi_range2 hg hm ha hs hs2).w fun σ H Rr ⟨β, ρ, env, st, e, S, h⟩ => by
    simp only [evi] at h
    refine ⟨β, ρ, env, st, e, S, rp_evs2 ?_⟩
    refine rp_two h fun x y s2 h1 => ?_
    · · 
        have h1 : RP ((toI x s2).bind _) _ _ := h1
        obtain ⟨i, rfl, h2⟩ := h1.bind.toI
        obtain ⟨j, rfl, h3⟩ := h2.bind.toI
        intro vs H1 ρ1 a1 S1 r1
        split at h3
        · rename_i ok
          rw [Bool.and_eq_true] at ok
          cases r1 with
          | cons r r' =>
            cases r
            cases r' with
            | cons r r' =>
              cases r
              cases r'
              exact ⟨i, j, rfl, ⟨(rng_ok ok.1).1, (rng_ok ok.1).2, (rng_ok ok.2).1, (rng_ok ok.2).2⟩, h3 (fun i h => nomatch h) _ H1 ρ1 a1 S1 feeds_range⟩
        · exact h3.elim
theorem i_rng3 {p : Pos} {k : Int} {pk : Expr} (hg : Gl X "range") (hm : X.mg "range" = none) (ha : PA X [pa, pb, pk] (tWs X.K q (.cons a (.cons b (.cons (.int k) .nil))))) (hs : starEach [pa, pb, pk] X.env = (false, eval pa X.env) :: starEach [pb, pk] X.env) (hpl : (backTo pos (starEach [pb, pk] X.env)).any (·.1) = false) :
    PI X tg (.Call (.Name "range" p) [pa, pb, pk] [] pos) (tWi X.K q (.rng3 a b k)) :=
  (pi_range3 hg hm ha hs hpl).w fun σ H Rr ⟨β, ρ, env, st, e, S, h⟩ => by
    simp only [evi] at h
    refine ⟨β, ρ, env, st, e, S, ?_⟩
    have e3 : evs q.C q.G (.cons a (.cons b (.cons (.int k) .nil))) env st = (ev q.C q.G a env st).bind fun x s1 => (ev q.C q.G b env s1).bind fun y s2 => R.ok [x, y, .int k] s2 := by
      simp only [evs, ev]
      congr 1
      funext x s1
      cases ev q.C q.G b env s1 <;> rfl
    rw [e3]
    refine rp_two h fun x y s2 h1 => ?_
    · · 
        have h1 : RP ((toI x s2).bind _) _ _ := h1
        obtain ⟨i, rfl, h2⟩ := h1.bind.toI
        obtain ⟨j, rfl, h3⟩ := h2.bind.toI
        intro vs H1 ρ1 a1 S1 r1
        split at h3
        · rename_i ok
          simp only [Bool.and_eq_true, decide_eq_true_eq] at ok
          obtain ⟨o1, o2, rfl⟩ := ok
          cases r1 with
          | cons r r' =>
            cases r
            cases r' with
            | cons r r' =>
              cases r
              cases r' with
              | cons r r' =>
                cases r
                cases r'
                exact ⟨i, j, -1, _, rfl, RgC.neg (rng_ok o1).1 (rng_ok o1).2 (rng_ok o2).1 (rng_ok o2).2, h3 (fun i h => nomatch h) _ H1 ρ1 a1 S1 feeds_rangeC⟩
        · exact h3.elim
/-! enumerate, zip -/
theorem i_enum {p tpos : Pos} {elts : List Expr} {kk : Nat} (hg : Gl X "enumerate") (hm : X.mg "enumerate" = none) (ha : PA X [pa] (tWs X.K q (.cons a .nil))) (hs : starEach [pa] X.env = (false, eval pa X.env) :: starEach [] X.env) :
    PI X (.Tuple elts kk tpos) (.Call (.Name "enumerate" p) [pa] [] pos) (tWi X.K q (.enum a)) :=
  (pi_enumG hg hm ha hs).w fun σ H Rr ⟨β, ρ, env, st, e, S, h⟩ => by
    simp only [evi] at h
    refine ⟨β, ρ, env, st, e, S, ?_⟩
    simp only [evs]
    cases hv : ev q.C q.G a env st with
    | bad => rw [hv] at h; exact h.elim
    | exn c d s1 => rw [hv] at h; exact h
    | ok x s1 =>
      rw [hv] at h
      have h : RP ((oD (walk s1 x) s1).bind _) _ _ := h
      obtain ⟨p, hp, h2⟩ := h.bind.oD
      intro vs H1 ρ1 a1 S1 r1
      cases r1 with
      | cons r r' =>
        cases r'
        refine ⟨_, rfl, fun u hu => ?_⟩
        obtain ⟨hk, src, can⟩ := walk_src S1 r (ds := p.1) (ids := p.2) hp hu
        obtain ⟨xs, ok, _⟩ := src β ρ1 _ H1 (fun _ z => .inl z) .refl (S1.sim sim_lock)
        exact ⟨_, hk, ⟨xs, ok⟩, h2 can _ H1 ρ1 a1 S1 (feeds_enum src)⟩
theorem i_zip {p tpos : Pos} {elts : List Expr} {kk : Nat} (hg : Gl X "zip") (hm : X.mg "zip" = none) (ha : PA X [pa, pb] (tWs X.K q (.cons a (.cons b .nil)))) (hs : starEach [pa, pb] X.env = (false, eval pa X.env) :: starEach [pb] X.env) (hpl : (backTo pos (starEach [pb] X.env)).any (·.1) = false) :
    PI X (.Tuple elts kk tpos) (.Call (.Name "zip" p) [pa, pb] [] pos) (tWi X.K q (.zip a b)) :=
  (pi_zipG hg hm ha hs hpl).w fun σ H Rr ⟨β, ρ, env, st, e, S, h⟩ => by
    simp only [evi] at h
    refine ⟨β, ρ, env, st, e, S, rp_evs2 ?_⟩
    refine rp_two h fun x y s2 h1 => ?_
    · · 
        have h1 : RP ((oD (walk s2 x) s2).bind _) _ _ := h1
        obtain ⟨p, hp, h2⟩ := h1.bind.oD
        obtain ⟨p2, hp2, h3⟩ := h2.bind.oD
        intro vs H1 ρ1 a1 S1 r1
        cases r1 with
        | cons r r' =>
          cases r' with
          | cons r2 r' =>
            cases r'
            refine ⟨_, _, rfl, fun u w hu hw => ?_⟩
            obtain ⟨hk, src, can⟩ := walk_src S1 r (ds := p.1) (ids := p.2) hp hu
            obtain ⟨hk2, src2, can2⟩ := walk_src (S1.sim (sim_lock (ids := p.2))) (r2.sim sim_lock) (ds := p2.1) (ids := p2.2) hp2 hw
            have src' := src.stp (stp_lock (ids := p2.2))
            obtain ⟨xs, ok, _⟩ := src β ρ1 _ H1 (fun _ z => .inl z) .refl (S1.sim sim_lock)
            obtain ⟨ys, ok2, _⟩ := src2 β ρ1 _ H1 (fun _ z => .inl z) .refl ((S1.sim sim_lock).sim sim_lock)
            refine ⟨_, _, hk, hk2, ⟨xs, ok⟩, ⟨ys, ok2⟩, h3 (fun i hi => ?_) _ H1 ρ1 a1 S1 ?_⟩
            · rcases List.mem_append.mp hi with z | z
              · exact can i z
              · obtain ⟨ds, e⟩ := can2 i z
                exact ⟨ds, lock_lst e⟩
            · show Feeds X.K q.fa β ρ1 (lock s2 (p.2 ++ p2.2)) H1 _ _
              rw [lock_app]
              exact feeds_zip src' src2
/-! ### targets -/
theorem g_var {i : Nat} {x : Str} (hN : X.N.Nodup) (hi : X.N[i]? = some x) (hx : Loc X.env.scope x) (hf : X.fn x = true ∨ X.env.scope.names.lookup x = some .local) : PG X (.Name x pos) (tWg X.K q (.var i)) :=
  (pg_name hN hi hx hf).w fun v σ H Q ⟨β, ρ, env, st, d, e, S, r, h⟩ => by
    simp only [evt] at h
    split at h
    · exact h _ H ρ ⟨by simp, fun k hk => List.getElem?_set_ne (fun z => hk (by simp [tgv, z]))⟩ .refl S (e.set r)
    · exact h.elim
theorem g_nil : PGs X [] (tWgs X.K q .nil) := ⟨fun pins s σ H vs us Q I r ⟨β, ρ, env, st, ds, e, S, rs, h⟩ => by
  refine pgs_nil.run pins s σ H vs us Q I r ?_
  cases rs with
  | nil =>
    simp only [evts] at h
    exact ⟨rfl, h σ H ρ ⟨rfl, fun _ _ => rfl⟩ .refl S e⟩
  | cons r1 r2 =>
    simp only [evts] at h
    exact h.elim⟩
theorem g_cons {t : Tg} {ts : Tgs} {pt : Expr} {pts : List Expr} (h1 : PG X pt (tWg X.K q t)) (h2 : PGs X pts (tWgs X.K q ts))
    (hs : (assignEach (pt :: pts) X.env).map (·.2) = assign pt X.env :: (assignEach pts X.env).map (·.2)) : PGs X (pt :: pts) (tWgs X.K q (.cons t ts)) := ⟨fun pins s σ H vs us Q I r ⟨β, ρ, env, st, ds, e, S, rs, h⟩ => by
  refine (pgs_cons h1 h2 hs).run pins s σ H vs us Q I r ?_
  cases rs with
  | nil =>
    simp only [evts] at h
    exact h.elim
  | cons r1 r2 =>
    simp only [evts] at h
    refine ⟨_, _, rfl, β, ρ, env, st, _, e, S, r1, h.bind.imp (fun env1 s1 g σ1 H1 ρ1 k1 a1 S1 e1 => ?_) fun _ _ _ g => g⟩
    refine ⟨β, ρ1, env1, s1, _, e1, S1, r2.stp a1, g.imp (fun env2 s2 g2 σ2 H2 ρ2 k2 a2 S2 e2 => g2 σ2 H2 ρ2 ⟨k2.1.trans k1.1, fun k hk => ?_⟩ (a1.trans a2) S2 e2) fun _ _ _ g2 => g2.after a1⟩
    rw [k2.2 k fun z => hk (List.mem_append_right _ z), k1.2 k fun z => hk (List.mem_append_left _ z)]⟩
theorem g_tup {ts : Tgs} {pts : List Expr} {k : Nat} (hc : X.calm = true) (h : PGs X pts (tWgs X.K q ts)) (hn : (assignEach pts X.env).length = tgLen ts) (hst : (assignEach pts X.env).findIdx? (·.1) = none) : PG X (.Tuple pts k pos) (tWg X.K q (.tup ts)) :=
  (pg_tup hc h hn hst).w fun v σ H Q ⟨β, ρ, env, st, d, e, S, r, h⟩ => by
    simp only [evt] at h
    split at h
    · split at h
      · rename_i ds hl
        obtain ⟨a, vs, rfl, hq, rs⟩ := rd_tup r
        exact ⟨a, vs, rfl, hq, by rw [← rs.length]; exact hl, β, ρ, env, st, _, e, S, rs, h⟩
      · exact h.elim
    · exact h.elim
theorem g_tupS {i j k : Nat} {x y : Str} {p1 p2 p3 : Pos} (hc : X.calm = true) (hN : X.N.Nodup) (hi : X.N[i]? = some x) (hj : X.N[j]? = some y) (hx : Loc X.env.scope x ∧ (X.fn x = true ∨ X.env.scope.names.lookup x = some .local)) (hy : Loc X.env.scope y ∧ (X.fn y = true ∨ X.env.scope.names.lookup y = some .local)) :
    PG X (.Tuple [.Name x p1, .Starred (.Name y p2) p3] k pos) (tWg X.K q (.tupS i j)) :=
  (pg_star hc (pgs_cons (pg_name hN hi hx.1 hx.2) (pgs_cons (pg_name hN hj hy.1 hy.2) pgs_nil rfl) rfl) rfl rfl).w fun v σ H Q ⟨β, ρ, env, st, d, e, S, r, h⟩ => by
    simp only [evt] at h
    split at h
    · rename_i dx ds hl
      split at h
      · rename_i c
        simp only [Bool.and_eq_true, decide_eq_true_eq, Nat.blt_eq] at c
        obtain ⟨a, vs, rfl, hq, rs⟩ := rd_lv S r hl
        cases rs with
        | @cons _ _ vx vs1 r1 r2 =>
        refine ⟨a, vx, vs1, rfl, hq, by rw [← r2.length]; exact c.2.2, fun p hp => ?_⟩
        have L := S.lay (o := .lst vs1) hp
        obtain ⟨f1, f2, f3⟩ := S.fresh hp
        refine ⟨vx, [.ref p], rfl, .ref p, [], rfl, rfl, ?_⟩
        have e1 := (e.stp L.2).set (i := i) (r1.stp L.2)
        have e2 := e1.set (i := j) (.frz upd_same f3 f2 (r2.stp L.2))
        exact h _ _ ρ ⟨by simp, fun k hk => by
          rw [List.getElem?_set_ne (fun z => hk (by simp [tgv, z])), List.getElem?_set_ne (fun z => hk (by simp [tgv, z]))]⟩ L.2 L.1 e2
      · exact h.elim
    · exact h.elim
theorem g_idx (ha : PE X pa (tW X.K q a)) (hb : PE X pb (tW X.K q b))
    (hs : ∀ v, PySem.assign (.Subscript pa pb pos) X.env v = (do
      let ov ← holding [v] (eval pa X.env)
      let iv ← holding [v, ov] (eval pb X.env)
      standAt pos
      holding [v, ov, iv] (setItem ov iv v)
      release [v, ov, iv] [])) : PG X (.Subscript pa pb pos) (tWg X.K q (.idx a b)) :=
  (pg_sub ha hb set_list hs).w fun v σ H Q ⟨β, ρ, env, st, d, e, S, r, h⟩ => by
    simp only [evt] at h
    refine ⟨β, ρ, env, st, e, S, h.bind.imp (fun x s1 h1 v1 H1 ρ1 a1 S1 r1 => ?_) fun _ _ _ g => g⟩
    refine ⟨β, ρ1, env, s1, e.stp a1, S1, (h1.bind.aftX a1).imp (fun y s2 h2 v2 H2 ρ2 a2 S2 r2 => ?_) fun _ _ _ g => g⟩
    obtain ⟨k, rfl, h3⟩ := h2.bind.toI
    split at h3
    · rename_i i
      split at h3
      · rename_i ds hi
        split at h3
        · rename_i hr
          split at h3
          · rename_i j hj
            cases r2
            have r1' := r1.stp a2
            cases r1' with
            | lst g1 g2 =>
              obtain ⟨p, vs, e1, e2, e3⟩ := S2.obj i _ hi
              rw [g2] at e1
              cases e1
              have rd := ((r.stp a1).stp a2).older hr
              have P := S2.put (ds' := ds.set j d) (vs' := vs.set j v) hi g2 (e3.set rd j)
              refine ⟨_, vs, k, j, rfl, rfl, e2, ?_, ?_⟩
              · have : PL.ixN vs.length k = some j := by rw [← e3.length]; exact hj
                exact this
              · have z := h3 σ _ ρ2 ⟨rfl, fun _ _ => rfl⟩ ((a1.trans a2).trans P.2) P.1 (((e.stp a1).stp a2).stp P.2)
                exact z
          · exact h3.elim
        · exact h3.elim
      · exact h3.elim
    · exact h3.elim
end
end PL

set_option Elab.async false
set_option linter.all false
set_option maxRecDepth 100000
set_option maxHeartbeats 1000000
/-! Comprehensions, statements. -/
namespace PL
open PySem PySem.Spec PyProof.Rows L2
variable [Tbl]
theorem tx_offU {H : Hp} {a p : Addr} {vs : List V} {o : HO} (h : Tx H a vs) (ne : a ≠ p) : Tx (upd H p o) a vs := by
  obtain ⟨x, h, d⟩ := h
  exact ⟨x, by rw [upd_ne ne]; exact h, d⟩
theorem rd_offU {H : Hp} {a p : Addr} {u o : HO} (h : Rd H a u) (ne : a ≠ p) : Rd (upd H p o) a u := by
  rcases h with h | ⟨x, h⟩
  · exact .inl (by rw [upd_ne ne]; exact h)
  · exact .inr ⟨x, by rw [upd_ne ne]; exact h⟩
section
variable {K : PySem.W.Frag} {fa : Nat → Addr} {H H1 H2 : Hp} {β β' ρ ρ1 ρ2 : List Addr} {st s1 s2 : Sto} {n : Nat} {m : Addr → Prop}
mutual
/-- a busy object is written -/
theorem RD.off {p : Addr} {o : HO} (hp : p ∈ β) : ∀ {d : D} {v : V}, RD K fa H m β ρ n d v → RD K fa (upd H p o) m β ρ n d v
  | _, _, .non => .non
  | _, _, .bl b => .bl b
  | _, _, .int i => .int i
  | _, _, .str s => .str s
  | _, _, .tupH h1 h2 h3 h4 => .tupH (tx_offU h1 (fun e => h3 (by rw [e]; exact hp))) h2 h3 (RDs.off hp h4)
  | _, _, .tupK h1 h4 => .tupK h1 (RDs.off hp h4)
  | _, _, .frz h1 h2 h3 h4 => .frz (by rw [upd_ne (fun e => h3 (by rw [e]; exact hp))]; exact h1) h2 h3 (RDs.off hp h4)
  | _, _, .scrH h1 h2 h3 h4 => .scrH (rd_offU h1 (fun e => h3 (by rw [e]; exact hp))) h2 h3 (RDs.off hp h4)
  | _, _, .scrK h1 h4 => .scrK h1 (RDs.off hp h4)
  | _, _, .lst h1 h2 => .lst h1 h2
  | _, _, .fn k => .fn k
theorem RDs.off {p : Addr} {o : HO} (hp : p ∈ β) : ∀ {ds : List D} {vs : List V}, RDs K fa H m β ρ n ds vs → RDs K fa (upd H p o) m β ρ n ds vs
  | _, _, .nil => .nil
  | _, _, .cons h t => .cons (RD.off hp h) (RDs.off hp t)
end
theorem RS.off {p : Addr} {ws : List V} (S : RS K fa β ρ st H) (hp : p ∈ β) : RS K fa β ρ st (upd H p (.lst ws)) := by
  obtain ⟨⟨us, hus⟩, np⟩ := S.busy p hp
  refine ⟨S.nd, S.len, fun i u h => ?_, fun b hb => ?_, tabs_lst S.tabs hus⟩
  · obtain ⟨a, vs, h1, h2, h3⟩ := S.obj i u h
    have ne : a ≠ p := fun e => np (by rw [← e]; exact List.mem_iff_getElem?.mpr ⟨i, h1⟩)
    exact ⟨a, vs, h1, by rw [upd_ne ne]; exact h2, h3.off hp⟩
  · obtain ⟨⟨u, e⟩, nb⟩ := S.busy b hb
    refine ⟨?_, nb⟩
    by_cases hb : b = p
    · exact ⟨ws, by rw [hb, upd_same]⟩
    · exact ⟨u, by rw [upd_ne hb]; exact e⟩
theorem Stp.off {p : Addr} {o : HO} (a : Stp ρ st H ρ1 s1 H1) (hp : H p = none) : Stp ρ st H ρ1 s1 (upd H1 p o) :=
  ⟨a.pre, a.le, fun b u h mm => ⟨by rw [upd_ne (ne_of_none h hp)]; exact (a.keep b u h mm).1, (a.keep b u h mm).2⟩, a.lck⟩
/-- a new busy object -/
theorem RS.busyNew {p : Addr} {ws : List V} (S : RS K fa β ρ st H) (hp : H p = none) : RS K fa (p :: β) ρ st (upd H p (.lst ws)) ∧ BetaOk β (p :: β) H := by
  have S1 := (S.lay (o := .lst ws) hp).1
  have bo : BetaOk β (p :: β) H := fun b hb => by
    rcases List.mem_cons.mp hb with e | e
    · exact .inr (by rw [e]; exact hp)
    · exact .inl e
  refine ⟨⟨S.nd, S.len, fun i u h => ?_, fun b hb => ?_, tabs_new S.tabs hp⟩, bo⟩
  · obtain ⟨a, vs, h1, h2, h3⟩ := S.obj i u h
    exact ⟨a, vs, h1, by rw [upd_ne (ne_of_none h2 hp)]; exact h2, h3.mono (S.lay hp).2.keep (fun _ _ x => x) bo (Nat.le_refl _)⟩
  · rcases List.mem_cons.mp hb with e | e
    · exact ⟨⟨ws, by rw [e, upd_same]⟩, by rw [e]; exact (S.fresh hp).1⟩
    · exact S1.busy b e
theorem RS.less (S : RS K fa β ρ st H) (h : ∀ b ∈ β', b ∈ β) : RS K fa β' ρ st H :=
  ⟨S.nd, S.len, fun i u e => by
    obtain ⟨a, vs, h1, h2, h3⟩ := S.obj i u e
    exact ⟨a, vs, h1, h2, h3.mono (fun _ _ x y => ⟨x, y⟩) (fun _ _ x => x) (fun b hb => .inl (h b hb)) (Nat.le_refl _)⟩, fun b hb => S.busy b (h b hb), S.tabs⟩
theorem RE.go {env : PL.Env} {σ : L2.St} (e : RE K fa β ρ env st σ H) (a : Stp ρ st H ρ1 s1 H1) (b : BetaOk β β' H) : RE K fa β' ρ1 env s1 σ H1 := ⟨e.len, fun i d h => by
  obtain ⟨v, h1, r⟩ := e.get i d h
  exact ⟨v, h1, r.go (m := fun _ => False) a b⟩⟩
end
/-- what is free behind was free ahead -/
theorem none_back {K : PySem.W.Frag} {fa : Nat → Addr} {H H1 : Hp} {β ρ ρ1 : List Addr} {st s1 : Sto} {p : Addr} (S : RS K fa β ρ st H) (a1 : Stp ρ st H ρ1 s1 H1) (S1 : RS K fa β ρ1 s1 H1) (hp : H1 p = none) : H p = none := by
  cases hh : H p with
  | none => rfl
  | some o =>
    by_cases hm : Mu ρ st p
    · rcases hm with hm | ⟨i, o', e1, e2, e3⟩
      · exact absurd hm (S1.notTb hp)
      obtain ⟨a, ws, f1, f2, f3⟩ := S1.obj i _ (List.getElem?_eq_getElem (show i < s1.length from Nat.lt_of_lt_of_le (its_get e2) a1.le))
      rw [a1.at i p e1] at f1
      cases f1
      rw [hp] at f2
      cases f2
    · have := (a1.keep p o hh hm).1
      rw [hp] at this
      cases this
theorem wipe_none : ∀ {vs : List Nat} {σ : L2.St} {k : Nat}, k ∈ vs → (L2.wipe σ vs)[k]? = if k < σ.length then some none else none
  | v :: vs, σ, k, h => by
    unfold L2.wipe
    by_cases hk : v = k
    · subst hk
      by_cases hl : v < σ.length
      · rw [if_pos hl, List.getElem?_set_self (by rw [wipe_length]; exact hl)]
      · rw [if_neg hl, List.getElem?_eq_none (by rw [List.length_set, wipe_length]; omega)]
    · rw [List.getElem?_set_ne hk]
      exact wipe_none (by
        rcases List.mem_cons.mp h with e | e
        · exact absurd e.symm hk
        · exact e)
theorem kp_wipe {l vs : List Nat} {σ σ' : L2.St} (h : Kp l (L2.wipe σ vs) σ') (hl : ∀ k ∈ l, k ∈ vs) : L2.wipe σ' vs = L2.wipe σ vs := by
  have len : σ'.length = σ.length := by rw [h.1, wipe_length]
  apply List.ext_getElem?
  intro k
  by_cases hk : k ∈ vs
  · rw [wipe_none hk, wipe_none hk, len]
  · rw [wipe_keep hk, h.2 k fun z => hk (hl k z)]
section
variable {X : Cx} {q : Qm} {a b c : E} {pa pb pc pe tg : Expr} {pos : Pos} {es : Es} {pes : List Expr}
def qF (q : Qm) : Qm := { q with XE := fun _ _ _ => False }
theorem noX_ok {α : Type} {r : R α} {P : α → Sto → Prop} {Xx : Nat → D → Sto → Prop} (h : RP r.noX P Xx) : ∃ a s, r = .ok a s ∧ P a s := by
  cases r with
  | ok a s => exact ⟨a, s, rfl, h⟩
  | exn c d s => exact h.elim
  | bad => exact h.elim
theorem RP.unl {α : Type} {r : R α} {ids : List Nat} {P : α → Sto → Prop} {Xx : Nat → D → Sto → Prop} (h : RP (r.unl ids) P Xx) : RP r (fun a s => P a (unlock s ids)) (fun c d s => Xx c d (unlock s ids)) := by
  cases r <;> exact h
/-- a list comprehension: its parts, in the block's context -/
structure LcOk (X : Cx) (q : Qm) (own : List (Str × Nat)) (elt : E) (tg : Tg) (it : It) (c : Oe) (pelt ptg pit : Expr) (pifs : List Expr) (scope : Scope) : Prop where
  calm : X.calm = true
  nd : X.N.Nodup
  it : PI X ptg pit (tWi X.K q it)
  blk : BlkOk X.N X.env.scope scope own
  tgt : ∀ (s : Shared) (H : Hp) (C : Addr) (cl : List (Str × Addr)) (fp : List Addr), PG (X.blk s H scope (compEnvC scope cl C X.env) fp) ptg (tWg X.K (qF q) tg)
  ifs : ∀ (s : Shared) (H : Hp) (C : Addr) (cl : List (Str × Addr)) (fp : List Addr), PTs (X.blk s H scope (compEnvC scope cl C X.env) fp) pifs (tWc X.K (qF q) c)
  elt : ∀ (s : Shared) (H : Hp) (C : Addr) (cl : List (Str × Addr)) (fp : List Addr), PE (X.blk s H scope (compEnvC scope cl C X.env) fp) pelt (tW X.K (qF q) elt)
  fold : ∀ x, foldedSetIterable pit X.env x = pure x
  own : ∀ k ∈ tgv tg, k ∈ own.map (·.2)
def fComp (C : Nat → List D → Sto → R D) (G : Nat → D) (own : List Nat) (elt : E) (tg : Tg) (it : It) (c : Oe) (env : PL.Env) (st : Sto) : R (List D) := (evi C G it env st).bind fun p s1 =>
  if szOk p.1.length then ((compL (fun x s2 => (evt C G tg x (PL.wipe env own) s2).bind fun env2 s3 => (evc C G c env2 s3).bind fun b s4 =>
    if b then (ev C G elt env2 s4).bind fun y s5 => .ok (some y) s5 else .ok none s4) p.1 (lock s1 p.2)).noX.unl p.2) else .bad
theorem R.assoc {α β γ : Type} (r : R α) (f : α → Sto → R β) (g : β → Sto → R γ) : (r.bind f).bind g = r.bind fun a s => (f a s).bind g := by cases r <;> rfl
theorem ev_comp {own : List Nat} {elt : E} {tg : Tg} {it : It} {c : Oe} {env : PL.Env} {st : Sto} : ev q.C q.G (.comp own elt tg it c) env st = (fComp q.C q.G own elt tg it c env st).bind fun ds s => R.ok (D.frz ds) s := by
  simp only [ev, fComp]
  rw [R.assoc]
  congr 1
  funext p s1
  split <;> rfl
theorem w_comp {own : List (Str × Nat)} {elt : E} {tg : Tg} {it : It} {c : Oe} {σ H Q} (hown : ∀ k ∈ tgv tg, k ∈ own.map (·.2)) (h : tNew X.K q (fComp q.C q.G (own.map (·.2)) elt tg it c) σ H Q) :
    tLc (tWi X.K q it) (tWg X.K (qF q) tg) (tWc X.K (qF q) c) (tW X.K (qF q) elt) (own.map (·.2)) σ H Q := by
  generalize own.map (·.2) = vs at hown h ⊢
  obtain ⟨β, ρ, env, st, e, S, h⟩ := h
  simp only [fComp] at h
  refine ⟨β, ρ, env, st, e, S, h.bind.imp (fun p s1 h1 can J H1 ρ1 a1 S1 F1 P hP => ?_) fun _ _ _ g => g⟩
  split at h1
  · rename_i hz
    obtain ⟨ds, s6, hc, hQ⟩ := noX_ok (RP.unl h1)
    have BN := S1.busyNew (ws := []) hP
    generalize hf : (fun (x : D) (s2 : Sto) => (evt q.C q.G tg x (PL.wipe env vs) s2).bind fun env2 s3 => (evc q.C q.G c env2 s3).bind fun b s4 =>
      if b = true then (ev q.C q.G elt env2 s4).bind fun y s5 => R.ok (some y) s5 else R.ok none s4) = f at hc
    refine ⟨fun i m H' => m = p.1.length - i ∧ i ≤ p.1.length ∧ ∃ ρ2 st2 acc accD, Stp ρ1 (lock s1 p.2) H1 ρ2 st2 H' ∧ RS X.K q.fa (P :: β) ρ2 st2 H' ∧ H' P = some (.lst acc) ∧ RDs X.K q.fa H' (Mu ρ2 st2) (P :: β) ρ2 st2.length accD acc ∧
      acc.length ≤ i ∧ ∃ rest, compL f (p.1.drop i) st2 = .ok rest s6 ∧ accD ++ rest = ds, ⟨_, rfl, Nat.zero_le _, ρ1, lock s1 p.2, [], [], Stp.off .refl hP, BN.1.sim sim_lock, upd_same, .nil, Nat.le_refl _, ds, hc, rfl⟩, ?_⟩
    rintro i m H' ⟨rfl, hi, ρ2, st2, acc, accD, a2, S2, hacc, rs, hlen, rest, hrest, hds⟩
    obtain ⟨F2, F3⟩ := F1 (P :: β) ρ2 st2 H' BN.2 a2.toB S2
    by_cases hlt : i < p.1.length
    · right
      obtain ⟨go, yl⟩ := F2 i p.1[i] (List.getElem?_eq_getElem hlt)
      refine ⟨go, fun H'' => ∃ m', m' < p.1.length - i ∧ (m' = p.1.length - (i + 1) ∧ i + 1 ≤ p.1.length ∧ ∃ ρ2 st2 acc accD, Stp ρ1 (lock s1 p.2) H1 ρ2 st2 H'' ∧ RS X.K q.fa (P :: β) ρ2 st2 H'' ∧ H'' P = some (.lst acc) ∧ RDs X.K q.fa H'' (Mu ρ2 st2) (P :: β) ρ2 st2.length accD acc ∧
        acc.length ≤ i + 1 ∧ ∃ rest, compL f (p.1.drop (i + 1)) st2 = .ok rest s6 ∧ accD ++ rest = ds), fun _ z => z, fun x H2 hy => ?_⟩
      obtain ⟨y1, y2, y3⟩ := yl x H2 hy
      have e2 : RE X.K q.fa (P :: β) ρ2 (PL.wipe env vs) st2 (L2.wipe σ vs) H2 := (((e.stp a1).stp stp_lock).go (a2.trans y1) BN.2).wipe vs
      rw [List.drop_eq_getElem_cons hlt] at hrest
      simp only [compL] at hrest
      obtain ⟨o, s3, hfx, hrest⟩ := R.bind_ok hrest
      rw [← hf] at hfx
      obtain ⟨env2, t1, hv1, hfx⟩ := R.bind_ok hfx
      refine ⟨P :: β, ρ2, _, st2, _, e2, y2, y3, ?_⟩
      rw [show (qF q).C = q.C from rfl, show (qF q).G = q.G from rfl, hv1]
      intro σ3 H3 ρ3 k3 a3 S3 e3
      refine ⟨kp_wipe k3 hown, ?_⟩
      obtain ⟨cb, t2, hv2, hfx⟩ := R.bind_ok hfx
      refine ⟨P :: β, ρ3, env2, t1, e3, S3, ?_⟩
      rw [show (qF q).C = q.C from rfl, show (qF q).G = q.G from rfl, hv2]
      intro H4 ρ4 a4 S4
      have hP2 : ∀ {ρ' : List Addr} {st' : Sto} {H' H'' : Hp} {ρ'' : List Addr} {st'' : Sto} {u : HO}, RS X.K q.fa (P :: β) ρ' st' H' → Stp ρ' st' H' ρ'' st'' H'' → H' P = some u → H'' P = some u := fun SS aa hh => by
        refine (aa.keep P _ hh fun z => z.elim (SS.notTbL (SS.busy P (by simp)).1.choose_spec) fun ⟨j, _, hj, _⟩ => ?_).1
        exact (SS.busy P (by simp)).2 (List.mem_iff_getElem?.mpr ⟨j, hj⟩)
      have a34 := (y1.trans a3).trans a4
      have step : ∀ {H5 : Hp} {ρ5 : List Addr} {t5 : Sto} {acc5 : List V} {accD5 : List D}, Stp ρ1 (lock s1 p.2) H1 ρ5 t5 H5 → RS X.K q.fa (P :: β) ρ5 t5 H5 → H5 P = some (.lst acc5) → RDs X.K q.fa H5 (Mu ρ5 t5) (P :: β) ρ5 t5.length accD5 acc5 → acc5.length ≤ i + 1 →
          (∃ rest, compL f (p.1.drop (i + 1)) t5 = .ok rest s6 ∧ accD5 ++ rest = ds) → ∃ m', m' < p.1.length - i ∧ (m' = p.1.length - (i + 1) ∧ i + 1 ≤ p.1.length ∧ ∃ ρ2 st2 acc accD, Stp ρ1 (lock s1 p.2) H1 ρ2 st2 H5 ∧ RS X.K q.fa (P :: β) ρ2 st2 H5 ∧ H5 P = some (.lst acc) ∧ RDs X.K q.fa H5 (Mu ρ2 st2) (P :: β) ρ2 st2.length accD acc ∧
        acc.length ≤ i + 1 ∧ ∃ rest, compL f (p.1.drop (i + 1)) st2 = .ok rest s6 ∧ accD ++ rest = ds) := fun z1 z2 z3 z4 z5 z6 => ⟨_, by omega, rfl, hlt, _, _, _, _, z1, z2, z3, z4, z5, z6⟩
      cases cb with
      | false =>
        rw [if_neg Bool.false_ne_true] at hfx ⊢
        cases hfx
        exact step (a2.trans a34) S4 (hP2 S2 a34 hacc) (rs.stp a34) (by omega) ⟨rest, hrest, hds⟩
      | true =>
        rw [if_pos rfl] at hfx ⊢
        obtain ⟨y, t3, hv3, hfx⟩ := R.bind_ok hfx
        cases hfx
        refine ⟨P :: β, ρ4, env2, t2, e3.stp a4, S4, ?_⟩
        rw [show (qF q).C = q.C from rfl, show (qF q).G = q.G from rfl, hv3]
        intro v H5 ρ5 a5 S5 r5
        have a35 := a34.trans a5
        refine ⟨acc, hP2 S2 a35 hacc, ?_, ?_⟩
        · have := szOk_le hz
          omega
        · obtain ⟨rest', s7, hr7⟩ := R.bind_ok hrest
          obtain ⟨hr8, hr9⟩ := hr7
          cases hr9
          refine step ((a2.trans a35).off hP) (S5.off (by simp)) upd_same (((rs.stp a35).append (.cons r5 .nil)).off (by simp)) (by simp; omega) ⟨rest', hr8, by rw [← hds]; simp⟩
    · left
      have ei : i = p.1.length := by omega
      subst ei
      refine ⟨F3, ?_⟩
      rw [List.drop_length] at hrest
      cases hrest
      rw [List.append_nil] at hds
      subst hds
      have aF := a1.trans (stp_unlock can a2)
      have SF : RS X.K q.fa (P :: β) ρ2 (unlock s6 p.2) H' := S2.sim sim_unlock
      have hPH : H P = none := none_back S a1 S1 hP
      refine hQ P _ H' ρ2 _ aF rfl SF ?_ hacc hPH
      rw [← (sim_unlock (ids := p.2) (st := s6)).mu, ← (sim_unlock (ids := p.2) (st := s6)).len]
      exact rs
  · exact h1.elim
theorem s_comp {own : List (Str × Nat)} {elt : E} {tg : Tg} {it : It} {c : Oe} {pelt ptg pit : Expr} {pifs : List Expr} {scope : Scope} (L : LcOk X q own elt tg it c pelt ptg pit pifs scope) :
    PE X (.ListComp pelt [⟨ptg, pit, pifs, 0⟩] scope pos) (tNew X.K q (fComp q.C q.G (own.map (·.2)) elt tg it c)) :=
  (pe_lc L.calm L.nd L.it L.blk L.tgt L.ifs L.elt L.fold).w fun σ H Q h => w_comp L.own h

/-! two generators -/
def fIn (C : Nat → List D → Sto → R D) (G : Nat → D) (own1 : List Nat) (elt : E) (tg1 : Tg) (c1 : Oe) (env2 : PL.Env) (y : D) (s6 : Sto) : R (Option D) := (evt C G tg1 y (PL.wipe env2 own1) s6).bind fun env3 s7 => (evc C G c1 env3 s7).bind fun b1 s8 => if b1 then (ev C G elt env3 s8).bind fun z s9 => .ok (some z) s9 else .ok none s8
def fOut (C : Nat → List D → Sto → R D) (G : Nat → D) (own own1 : List Nat) (elt : E) (tg : Tg) (c : Oe) (tg1 : Tg) (it1 : It) (c1 : Oe) (env : PL.Env) (x : D) (s2 : Sto) : R (List D) := (evt C G tg x (PL.wipe env own) s2).bind fun env2 s3 => (evc C G c env2 s3).bind fun b s4 =>
      if b then (evi C G it1 env2 s4).bind fun p1 s5 => (compL (fIn C G own1 elt tg1 c1 env2) p1.1 (lock s5 p1.2)).unl p1.2 else .ok [] s4
def fComp2 (C : Nat → List D → Sto → R D) (G : Nat → D) (own own1 : List Nat) (elt : E) (tg : Tg) (it : It) (c : Oe) (tg1 : Tg) (it1 : It) (c1 : Oe) (env : PL.Env) (st : Sto) : R (List D) := (evi C G it env st).bind fun p s1 =>
  ((compLL (fOut C G own own1 elt tg c tg1 it1 c1 env) p.1 (lock s1 p.2)).noX.unl p.2).bind fun ds s6 => if szOk ds.length then .ok ds s6 else .bad
theorem ev_comp2 {own own1 : List Nat} {elt : E} {tg tg1 : Tg} {it it1 : It} {c c1 : Oe} {env : PL.Env} {st : Sto} : ev q.C q.G (.comp2 own own1 elt tg it c tg1 it1 c1) env st = (fComp2 q.C q.G own own1 elt tg it c tg1 it1 c1 env st).bind fun ds s => R.ok (D.frz ds) s := by
  simp only [ev, fComp2]
  rw [R.assoc]
  congr 1
  funext p s1
  rw [R.assoc]
  congr 1
  funext ds s6
  split <;> rfl
theorem unl_ok {α : Type} {r : R α} {ids : List Nat} {a : α} {s : Sto} (h : r.unl ids = .ok a s) : ∃ s', r = .ok a s' ∧ s = unlock s' ids := by
  cases r with
  | ok b s' => cases h; exact ⟨s', rfl, rfl⟩
  | exn c d s' => cases h
  | bad => cases h
def hide (H : Hp) (p : Addr) : Hp := fun a => if a = p then none else H a
theorem hide_same {H : Hp} {p : Addr} : hide H p p = none := if_pos rfl
theorem hide_ne {H : Hp} {p a : Addr} (h : a ≠ p) : hide H p a = H a := if_neg h
section
variable {K : PySem.W.Frag} {fa : Nat → Addr} {H H1 : Hp} {β ρ ρ1 : List Addr} {st s1 : Sto} {p : Addr}
theorem _root_.PL.Stp.hide (a : Stp ρ st H ρ1 s1 H1) (hp : H p = none) : Stp ρ st H ρ1 s1 (PL.hide H1 p) :=
  ⟨a.pre, a.le, fun b o h m => ⟨by rw [hide_ne (ne_of_none h hp)]; exact (a.keep b o h m).1, (a.keep b o h m).2⟩, a.lck⟩
theorem _root_.PL.Stp.ofHide : Stp ρ st (PL.hide H p) ρ st H := ⟨⟨[], by simp⟩, Nat.le_refl _, fun b o h m => by
  by_cases hb : b = p
  · rw [hb, hide_same] at h
    cases h
  · rw [hide_ne hb] at h
    exact ⟨h, m⟩, fun _ _ h => h⟩
theorem _root_.PL.Stp.unB (a : Stp ρ st (PL.hide H p) ρ1 s1 H1) (hp : p ∈ β) : StpB β ρ st H ρ1 s1 H1 := ⟨a.pre, a.le, fun b o h m nb => by
  have hb : b ≠ p := fun e => nb (e ▸ hp)
  exact a.keep b o (by rw [hide_ne hb]; exact h) m, a.lck⟩
theorem _root_.PL.RE.goB {env : PL.Env} {σ : L2.St} (e : RE K fa β ρ env st σ H) (a : StpB β ρ st H ρ1 s1 H1) : RE K fa β ρ1 env s1 σ H1 := ⟨e.len, fun i d h => by
  obtain ⟨v, h1, r⟩ := e.get i d h
  exact ⟨v, h1, r.goB a fun _ z => .inl z⟩⟩
end
theorem w_comp2 {vs vs1 : List Nat} {elt : E} {tg tg1 : Tg} {it it1 : It} {c c1 : Oe} {σ H Q} (hown : ∀ k ∈ tgv tg, k ∈ vs) (hown1 : ∀ k ∈ tgv tg1, k ∈ vs1) (h : tNew X.K q (fComp2 q.C q.G vs vs1 elt tg it c tg1 it1 c1) σ H Q) :
    tLc2 (tWi X.K q it) (tWg X.K (qF q) tg) (tWc X.K (qF q) c) (tWi X.K (qF q) it1) (tWg X.K (qF q) tg1) (tWc X.K (qF q) c1) (tW X.K (qF q) elt) vs vs1 σ H Q := by
  obtain ⟨β, ρ, env, st, e, S, h⟩ := h
  simp only [fComp2] at h
  refine ⟨β, ρ, env, st, e, S, h.bind.imp (fun p s1 h1 can J H1 ρ1 a1 S1 F1 P hP => ?_) fun _ _ _ g => g⟩
  obtain ⟨ds, s6, hc, hQ⟩ := noX_ok (RP.unl h1.bind)
  split at hQ
  · rename_i hz
    have BN := S1.busyNew (ws := []) hP
    generalize hf : fOut q.C q.G vs vs1 elt tg c tg1 it1 c1 env = f at hc
    refine ⟨fun i m H' => m = p.1.length - i ∧ i ≤ p.1.length ∧ ∃ ρ2 st2 acc accD, Stp ρ1 (lock s1 p.2) H1 ρ2 st2 H' ∧ RS X.K q.fa (P :: β) ρ2 st2 H' ∧ H' P = some (.lst acc) ∧ RDs X.K q.fa H' (Mu ρ2 st2) (P :: β) ρ2 st2.length accD acc ∧
      ∃ rest, compLL f (p.1.drop i) st2 = .ok rest s6 ∧ accD ++ rest = ds, ⟨_, rfl, Nat.zero_le _, ρ1, lock s1 p.2, [], [], Stp.off .refl hP, BN.1.sim sim_lock, upd_same, .nil, ds, hc, rfl⟩, ?_⟩
    rintro i m H' ⟨rfl, hi, ρ2, st2, acc, accD, a2, S2, hacc, rs, rest, hrest, hds⟩
    obtain ⟨F2, F3⟩ := F1 (P :: β) ρ2 st2 H' BN.2 a2.toB S2
    by_cases hlt : i < p.1.length
    · right
      obtain ⟨go, yl⟩ := F2 i p.1[i] (List.getElem?_eq_getElem hlt)
      refine ⟨go, fun H'' => ∃ m', m' < p.1.length - i ∧ (m' = p.1.length - (i + 1) ∧ i + 1 ≤ p.1.length ∧ ∃ ρ2 st2 acc accD, Stp ρ1 (lock s1 p.2) H1 ρ2 st2 H'' ∧ RS X.K q.fa (P :: β) ρ2 st2 H'' ∧ H'' P = some (.lst acc) ∧ RDs X.K q.fa H'' (Mu ρ2 st2) (P :: β) ρ2 st2.length accD acc ∧
        ∃ rest, compLL f (p.1.drop (i + 1)) st2 = .ok rest s6 ∧ accD ++ rest = ds), fun _ z => z, fun x H2 hy => ?_⟩
      obtain ⟨y1, y2, y3⟩ := yl x H2 hy
      have e2 : RE X.K q.fa (P :: β) ρ2 (PL.wipe env vs) st2 (L2.wipe σ vs) H2 := (((e.stp a1).stp stp_lock).go (a2.trans y1) BN.2).wipe vs
      rw [List.drop_eq_getElem_cons hlt] at hrest
      simp only [compLL] at hrest
      obtain ⟨ys, s3, hfx, hrest⟩ := R.bind_ok hrest
      obtain ⟨rest', s7, hr7, hr8⟩ := R.bind_ok hrest
      cases hr8
      rw [← hf] at hfx
      unfold fOut at hfx
      obtain ⟨env2, t1, hv1, hfx⟩ := R.bind_ok hfx
      refine ⟨P :: β, ρ2, _, st2, _, e2, y2, y3, ?_⟩
      rw [show (qF q).C = q.C from rfl, show (qF q).G = q.G from rfl, hv1]
      intro σ3 H3 ρ3 k3 a3 S3 e3
      refine ⟨kp_wipe k3 hown, ?_⟩
      obtain ⟨cb, t2, hv2, hfx⟩ := R.bind_ok hfx
      refine ⟨P :: β, ρ3, env2, t1, e3, S3, ?_⟩
      rw [show (qF q).C = q.C from rfl, show (qF q).G = q.G from rfl, hv2]
      intro H4 ρ4 a4 S4
      have hP2 : ∀ {ρ' : List Addr} {st' : Sto} {H' H'' : Hp} {ρ'' : List Addr} {st'' : Sto} {u : HO}, RS X.K q.fa (P :: β) ρ' st' H' → Stp ρ' st' H' ρ'' st'' H'' → H' P = some u → H'' P = some u := fun SS aa hh => by
        refine (aa.keep P _ hh fun z => z.elim (SS.notTbL (SS.busy P (by simp)).1.choose_spec) fun ⟨j, _, hj, _⟩ => ?_).1
        exact (SS.busy P (by simp)).2 (List.mem_iff_getElem?.mpr ⟨j, hj⟩)
      have a34 := (y1.trans a3).trans a4
      have step : ∀ {H5 : Hp} {ρ5 : List Addr} {t5 : Sto} {acc5 : List V} {accD5 : List D}, Stp ρ1 (lock s1 p.2) H1 ρ5 t5 H5 → RS X.K q.fa (P :: β) ρ5 t5 H5 → H5 P = some (.lst acc5) → RDs X.K q.fa H5 (Mu ρ5 t5) (P :: β) ρ5 t5.length accD5 acc5 →
          (∃ rest, compLL f (p.1.drop (i + 1)) t5 = .ok rest s6 ∧ accD5 ++ rest = ds) → ∃ m', m' < p.1.length - i ∧ (m' = p.1.length - (i + 1) ∧ i + 1 ≤ p.1.length ∧ ∃ ρ2 st2 acc accD, Stp ρ1 (lock s1 p.2) H1 ρ2 st2 H5 ∧ RS X.K q.fa (P :: β) ρ2 st2 H5 ∧ H5 P = some (.lst acc) ∧ RDs X.K q.fa H5 (Mu ρ2 st2) (P :: β) ρ2 st2.length accD acc ∧
        ∃ rest, compLL f (p.1.drop (i + 1)) st2 = .ok rest s6 ∧ accD ++ rest = ds) := fun z1 z2 z3 z4 z6 => ⟨_, by omega, rfl, hlt, _, _, _, _, z1, z2, z3, z4, z6⟩
      cases cb with
      | false =>
        rw [if_neg Bool.false_ne_true] at hfx ⊢
        cases hfx
        exact step (a2.trans a34) S4 (hP2 S2 a34 hacc) (rs.stp a34) ⟨rest', hr7, by simpa using hds⟩
      | true =>
        rw [if_pos rfl] at hfx ⊢
        obtain ⟨p1, t3, hv3, hfx⟩ := R.bind_ok hfx
        obtain ⟨t9, hin, e9⟩ := unl_ok hfx
        refine ⟨P :: β, ρ4, env2, t2, e3.stp a4, S4, ?_⟩
        rw [show (qF q).C = q.C from rfl, show (qF q).G = q.G from rfl, hv3]
        intro can1 J1 H5 ρ5 a5 S5 G1
        have a35 := a34.trans a5
        generalize hfi : fIn q.C q.G vs1 elt tg1 c1 env2 = f1 at hin
        refine ⟨fun j k H' => k = p1.1.length - j ∧ j ≤ p1.1.length ∧ ∃ ρ6 st6 acc6 accD6, Stp ρ5 (lock t3 p1.2) (hide H5 P) ρ6 st6 H' ∧ RS X.K q.fa (P :: β) ρ6 st6 H' ∧ H' P = some (.lst acc6) ∧ RDs X.K q.fa H' (Mu ρ6 st6) (P :: β) ρ6 st6.length accD6 acc6 ∧
          ∃ rest1, compL f1 (p1.1.drop j) st6 = .ok rest1 t9 ∧ accD6 ++ rest1 = accD ++ ys, ⟨_, rfl, Nat.zero_le _, ρ5, lock t3 p1.2, acc, accD, .ofHide, S5.sim sim_lock, hP2 S2 a35 hacc, (rs.stp a35).stp stp_lock, ys, hin, rfl⟩, ?_⟩
        rintro j k H' ⟨rfl, hj, ρ6, st6, acc6, accD6, a6, S6, hacc6, rs6, rest1, hrest1, hds1⟩
        obtain ⟨G2, G3⟩ := G1 (P :: β) ρ6 st6 H' (fun _ z => .inl z) (a6.unB (by simp)) S6
        by_cases hlt1 : j < p1.1.length
        · right
          obtain ⟨go1, yl1⟩ := G2 j p1.1[j] (List.getElem?_eq_getElem hlt1)
          refine ⟨go1, fun H'' => ∃ k', k' < p1.1.length - j ∧ (k' = p1.1.length - (j + 1) ∧ j + 1 ≤ p1.1.length ∧ ∃ ρ6 st6 acc6 accD6, Stp ρ5 (lock t3 p1.2) (hide H5 P) ρ6 st6 H'' ∧ RS X.K q.fa (P :: β) ρ6 st6 H'' ∧ H'' P = some (.lst acc6) ∧ RDs X.K q.fa H'' (Mu ρ6 st6) (P :: β) ρ6 st6.length accD6 acc6 ∧
            ∃ rest1, compL f1 (p1.1.drop (j + 1)) st6 = .ok rest1 t9 ∧ accD6 ++ rest1 = accD ++ ys), fun _ z => z, fun x1 H7 hy1 => ?_⟩
          obtain ⟨b1, b2, b3⟩ := yl1 x1 H7 hy1
          have e7 : RE X.K q.fa (P :: β) ρ6 (PL.wipe env2 vs1) st6 (L2.wipe σ3 vs1) H7 := (((((e3.stp a4).stp a5).stp stp_lock).goB (a6.unB (by simp))).stp b1).wipe vs1
          rw [List.drop_eq_getElem_cons hlt1] at hrest1
          simp only [compL] at hrest1
          obtain ⟨o, u3, hfx1, hrest1⟩ := R.bind_ok hrest1
          rw [← hfi] at hfx1
          unfold fIn at hfx1
          obtain ⟨env3, u1, hw1, hfx1⟩ := R.bind_ok hfx1
          refine ⟨P :: β, ρ6, _, st6, _, e7, b2, b3, ?_⟩
          rw [show (qF q).C = q.C from rfl, show (qF q).G = q.G from rfl, hw1]
          intro σ8 H8 ρ8 k8 a8 S8 e8
          refine ⟨kp_wipe k8 hown1, ?_⟩
          obtain ⟨cb1, u2, hw2, hfx1⟩ := R.bind_ok hfx1
          refine ⟨P :: β, ρ8, env3, u1, e8, S8, ?_⟩
          rw [show (qF q).C = q.C from rfl, show (qF q).G = q.G from rfl, hw2]
          intro H9 ρ9 a9 S9
          have a89 := (b1.trans a8).trans a9
          have step1 : ∀ {H10 : Hp} {ρ10 : List Addr} {t10 : Sto} {acc10 : List V} {accD10 : List D}, Stp ρ5 (lock t3 p1.2) (hide H5 P) ρ10 t10 H10 → RS X.K q.fa (P :: β) ρ10 t10 H10 → H10 P = some (.lst acc10) → RDs X.K q.fa H10 (Mu ρ10 t10) (P :: β) ρ10 t10.length accD10 acc10 →
              (∃ rest1, compL f1 (p1.1.drop (j + 1)) t10 = .ok rest1 t9 ∧ accD10 ++ rest1 = accD ++ ys) → ∃ k', k' < p1.1.length - j ∧ (k' = p1.1.length - (j + 1) ∧ j + 1 ≤ p1.1.length ∧ ∃ ρ6 st6 acc6 accD6, Stp ρ5 (lock t3 p1.2) (hide H5 P) ρ6 st6 H10 ∧ RS X.K q.fa (P :: β) ρ6 st6 H10 ∧ H10 P = some (.lst acc6) ∧ RDs X.K q.fa H10 (Mu ρ6 st6) (P :: β) ρ6 st6.length accD6 acc6 ∧
            ∃ rest1, compL f1 (p1.1.drop (j + 1)) st6 = .ok rest1 t9 ∧ accD6 ++ rest1 = accD ++ ys) := fun z1 z2 z3 z4 z6 => ⟨_, by omega, rfl, hlt1, _, _, _, _, z1, z2, z3, z4, z6⟩
          cases cb1 with
          | false =>
            rw [if_neg Bool.false_ne_true] at hfx1 ⊢
            cases hfx1
            exact step1 (a6.trans a89) S9 (hP2 S6 a89 hacc6) (rs6.stp a89) ⟨rest1, hrest1, hds1⟩
          | true =>
            rw [if_pos rfl] at hfx1 ⊢
            obtain ⟨y, u4, hw3, hfx1⟩ := R.bind_ok hfx1
            cases hfx1
            refine ⟨P :: β, ρ9, env3, u2, e8.stp a9, S9, ?_⟩
            rw [show (qF q).C = q.C from rfl, show (qF q).G = q.G from rfl, hw3]
            intro v H11 ρ11 a11 S11 r11
            have a12 := a89.trans a11
            obtain ⟨rest2, u5, hr5, hr6⟩ := R.bind_ok hrest1
            cases hr6
            refine ⟨acc6, hP2 S6 a12 hacc6, ?_, ?_⟩
            · have h1 := szOk_le hz
              have h2 := rs6.length
              have h3 : (accD ++ (ys ++ rest')).length = ds.length := by rw [hds]
              have h4 : (accD6 ++ y :: rest2).length = (accD ++ ys).length := by rw [hds1]
              simp only [List.length_append, List.length_cons] at h3 h4
              omega
            · refine step1 ((a6.trans a12).off hide_same) (S11.off (by simp)) upd_same (((rs6.stp a12).append (.cons r11 .nil)).off (by simp)) ⟨rest2, hr5, by rw [← hds1]; simp⟩
        · left
          have ej : j = p1.1.length := by omega
          subst ej
          rw [List.drop_length] at hrest1
          cases hrest1
          rw [List.append_nil] at hds1
          subst hds1
          refine ⟨G3, ?_⟩
          have aF := ((a2.trans a35).hide hP).trans (stp_unlock can1 a6)
          have SF : RS X.K q.fa (P :: β) ρ6 (unlock t9 p1.2) H' := S6.sim sim_unlock
          rw [e9] at hr7
          exact step aF SF hacc6 (by rw [← (sim_unlock (ids := p1.2) (st := t9)).mu, ← (sim_unlock (ids := p1.2) (st := t9)).len]; exact rs6) ⟨rest', hr7, (List.append_assoc ..).trans hds⟩
    · left
      have ei : i = p.1.length := by omega
      subst ei
      refine ⟨F3, ?_⟩
      rw [List.drop_length] at hrest
      cases hrest
      rw [List.append_nil] at hds
      subst hds
      have aF := a1.trans (stp_unlock can a2)
      have SF : RS X.K q.fa (P :: β) ρ2 (unlock s6 p.2) H' := S2.sim sim_unlock
      have hPH : H P = none := none_back S a1 S1 hP
      refine hQ P _ H' ρ2 _ aF rfl SF ?_ hacc hPH
      rw [← (sim_unlock (ids := p.2) (st := s6)).mu, ← (sim_unlock (ids := p.2) (st := s6)).len]
      exact rs
  · exact hQ.elim

structure LcOk2 (X : Cx) (q : Qm) (own : List (Str × Nat)) (vs1 : List Nat) (elt : E) (tg : Tg) (it : It) (c : Oe) (tg1 : Tg) (it1 : It) (c1 : Oe) (pelt ptg pit ptg1 pit1 : Expr) (pifs pifs1 : List Expr) (scope : Scope) : Prop where
  calm : X.calm = true
  nd : X.N.Nodup
  it : PI X ptg pit (tWi X.K q it)
  blk : BlkOk X.N X.env.scope scope own
  tgt : ∀ (s : Shared) (H : Hp) (C : Addr) (cl : List (Str × Addr)) (fp : List Addr), PG (X.blk s H scope (compEnvC scope cl C X.env) fp) ptg (tWg X.K (qF q) tg)
  ifs : ∀ (s : Shared) (H : Hp) (C : Addr) (cl : List (Str × Addr)) (fp : List Addr), PTs (X.blk s H scope (compEnvC scope cl C X.env) fp) pifs (tWc X.K (qF q) c)
  it1 : ∀ (s : Shared) (H : Hp) (C : Addr) (cl : List (Str × Addr)) (fp : List Addr), PI (X.blk s H scope (compEnvC scope cl C X.env) fp) ptg1 pit1 (tWi X.K (qF q) it1)
  tgt1 : ∀ (s : Shared) (H : Hp) (C : Addr) (cl : List (Str × Addr)) (fp : List Addr), PG (X.blk s H scope (compEnvC scope cl C X.env) fp) ptg1 (tWg X.K (qF q) tg1)
  ifs1 : ∀ (s : Shared) (H : Hp) (C : Addr) (cl : List (Str × Addr)) (fp : List Addr), PTs (X.blk s H scope (compEnvC scope cl C X.env) fp) pifs1 (tWc X.K (qF q) c1)
  elt : ∀ (s : Shared) (H : Hp) (C : Addr) (cl : List (Str × Addr)) (fp : List Addr), PE (X.blk s H scope (compEnvC scope cl C X.env) fp) pelt (tW X.K (qF q) elt)
  fold : ∀ x, foldedSetIterable pit X.env x = pure x
  fold1 : ∀ env x, foldedSetIterable pit1 env x = pure x
  sub : ∀ k ∈ vs1, k ∈ own.map (·.2)
  own1 : ∀ k ∈ tgv tg1, k ∈ vs1
  own : ∀ k ∈ tgv tg, k ∈ own.map (·.2)
theorem s_comp2 {own : List (Str × Nat)} {vs1 : List Nat} {elt : E} {tg tg1 : Tg} {it it1 : It} {c c1 : Oe} {pelt ptg pit ptg1 pit1 : Expr} {pifs pifs1 : List Expr} {scope : Scope} (L : LcOk2 X q own vs1 elt tg it c tg1 it1 c1 pelt ptg pit ptg1 pit1 pifs pifs1 scope) :
    PE X (.ListComp pelt [⟨ptg, pit, pifs, 0⟩, ⟨ptg1, pit1, pifs1, 0⟩] scope pos) (tNew X.K q (fComp2 q.C q.G (own.map (·.2)) vs1 elt tg it c tg1 it1 c1)) :=
  (pe_lc2 L.calm L.nd L.it L.blk L.sub L.tgt L.ifs L.it1 L.tgt1 L.ifs1 L.elt L.fold L.fold1).w fun σ H Q h => w_comp2 L.own L.own1 h

/-! ### statements -/
def PostF (K : PySem.W.Frag) (fa : Nat → Addr) (β ρ : List Addr) (st : Sto) (H : Hp) (En : Ends) (fl : Fl) (st' : Sto) : Prop := match fl with
  | .nx env' => ∀ σ' H' ρ', Stp ρ st H ρ' st' H' → RS K fa β ρ' st' H' → RE K fa β ρ' env' st' σ' H' → En.nx σ' H'
  | .bk env' => ∀ σ' H' ρ', Stp ρ st H ρ' st' H' → RS K fa β ρ' st' H' → RE K fa β ρ' env' st' σ' H' → En.bk σ' H'
  | .ct env' => ∀ σ' H' ρ', Stp ρ st H ρ' st' H' → RS K fa β ρ' st' H' → RE K fa β ρ' env' st' σ' H' → En.ct σ' H'
  | .rt d => ∀ v H' ρ', Stp ρ st H ρ' st' H' → RS K fa β ρ' st' H' → RD K fa H' (Mu ρ' st') β ρ' st'.length d v → En.rt v H'
theorem PostF.after {K : PySem.W.Frag} {fa : Nat → Addr} {β ρ ρ1 : List Addr} {st s1 st' : Sto} {H H1 : Hp} {En : Ends} {fl : Fl} (h : PostF K fa β ρ st H En fl st') (a : Stp ρ st H ρ1 s1 H1) : PostF K fa β ρ1 s1 H1 En fl st' := by
  cases fl with
  | nx env => exact fun σ' H' ρ' b S e => h σ' H' ρ' (a.trans b) S e
  | bk env => exact fun σ' H' ρ' b S e => h σ' H' ρ' (a.trans b) S e
  | ct env => exact fun σ' H' ρ' b S e => h σ' H' ρ' (a.trans b) S e
  | rt d => exact fun v H' ρ' b S r => h v H' ρ' (a.trans b) S r
section
variable (K : PySem.W.Frag) (q : Qm)
def tS (s : S) : TS := fun En σ H => ∃ β ρ env st, RE K q.fa β ρ env st σ H ∧ RS K q.fa β ρ st H ∧ RP (ex q.C q.G q.W s env st) (PostF K q.fa β ρ st H En) (PostX K q β ρ st H)
def tSs (s : Ss) : TS := fun En σ H => ∃ β ρ env st, RE K q.fa β ρ env st σ H ∧ RS K q.fa β ρ st H ∧ RP (exs q.C q.G q.W s env st) (PostF K q.fa β ρ st H En) (PostX K q β ρ st H)
end
theorem RP.aftF {K : PySem.W.Frag} {β ρ ρ1 : List Addr} {st s1 : Sto} {H H1 : Hp} {En : Ends} {r : R Fl} (h : RP r (PostF K q.fa β ρ st H En) (PostX K q β ρ st H)) (a : Stp ρ st H ρ1 s1 H1) : RP r (PostF K q.fa β ρ1 s1 H1 En) (PostX K q β ρ1 s1 H1) :=
  h.imp (fun _ _ g => g.after a) fun _ _ _ g => g.after a
theorem rp_tru {α : Type} {r : R D} {f : Bool → Sto → R α} {P : α → Sto → Prop} {Xx : Nat → D → Sto → Prop} (h : RP (r.bind fun x s1 => (tru x s1).bind f) P Xx) : RP (r.bind fun x s1 => tru x s1) (fun b s => RP (f b s) P Xx) Xx := by
  cases r with
  | ok x s1 =>
    have h : RP ((tru x s1).bind f) P Xx := h
    exact h.bind
  | exn c d s1 => exact h
  | bad => exact h
section
variable {s : S} {ss ss2 : Ss} {ps : Stmt} {pss pss2 : List Stmt}
theorem z_nil : PSs X [] (tSs X.K q .nil) := ⟨fun pins s σ H En I ⟨β, ρ, env, st, e, S, h⟩ => by
  simp only [exs] at h
  exact pss_nil.run pins s σ H En I (h σ H ρ .refl S e)⟩
theorem z_cons (h1 : PS X ps (tS X.K q s)) (h2 : PSs X pss (tSs X.K q ss)) : PSs X (ps :: pss) (tSs X.K q (.cons s ss)) :=
  (pss_cons h1 h2).w fun En σ H ⟨β, ρ, env, st, e, S, h⟩ => by
    simp only [exs] at h
    refine ⟨β, ρ, env, st, e, S, h.bind.imp (fun fl s1 g => ?_) fun _ _ _ g => g⟩
    cases fl with
    | nx env1 => exact fun σ' H' ρ' a1 S1 e1 => ⟨β, ρ', env1, s1, e1, S1, RP.aftF g a1⟩
    | bk env1 => exact g
    | ct env1 => exact g
    | rt d => exact g
theorem z_pas : PS X (.Pass pos) (tS X.K q .pas) := ps_pass.w fun En σ H ⟨β, ρ, env, st, e, S, h⟩ => by
  simp only [ex] at h
  exact h σ H ρ .refl S e
theorem z_brk : PS X (.Break pos) (tS X.K q .brk) := ps_break.w fun En σ H ⟨β, ρ, env, st, e, S, h⟩ => by
  simp only [ex] at h
  exact h σ H ρ .refl S e
theorem z_cnt : PS X (.Continue pos) (tS X.K q .cnt) := ps_continue.w fun En σ H ⟨β, ρ, env, st, e, S, h⟩ => by
  simp only [ex] at h
  exact h σ H ρ .refl S e
theorem z_retn : PS X (.Return none pos) (tS X.K q .retn) := ps_retN.w fun En σ H ⟨β, ρ, env, st, e, S, h⟩ => by
  simp only [ex] at h
  exact h .non H ρ .refl S .non
theorem z_ret (ha : PE X pa (tW X.K q a)) : PS X (.Return (some pa) pos) (tS X.K q (.ret a)) := (ps_ret ha).w fun En σ H ⟨β, ρ, env, st, e, S, h⟩ => by
  simp only [ex] at h
  exact ⟨β, ρ, env, st, e, S, h.bind.imp (fun x s1 g v H1 ρ1 a1 S1 r1 => g v H1 ρ1 a1 S1 r1) fun _ _ _ g => g⟩
theorem z_exp (ha : PE X pa (tW X.K q a)) (hs : swapsWith pa none pos.line X.env = pure false) : PS X (.Expr pa pos) (tS X.K q (.exp a)) := (ps_expr ha hs).w fun En σ H ⟨β, ρ, env, st, e, S, h⟩ => by
  simp only [ex] at h
  exact ⟨β, ρ, env, st, e, S, h.bind.imp (fun x s1 g v H1 ρ1 a1 S1 r1 => g σ H1 ρ1 a1 S1 (e.stp a1)) fun _ _ _ g => g⟩
theorem z_if (hc : PT X pc (tWT X.K q c)) (h1 : PSs X pss (tSs X.K q ss)) (h2 : PSs X pss2 (tSs X.K q ss2)) : PS X (.If pc pss pss2 pos) (tS X.K q (.ifs c ss ss2)) := (ps_if hc h1 h2).w fun En σ H ⟨β, ρ, env, st, e, S, h⟩ => by
  simp only [ex] at h
  refine ⟨β, ρ, env, st, e, S, (rp_tru h).imp (fun k s1 g H1 ρ1 a1 S1 => ?_) fun _ _ _ g => g⟩
  cases k with
  | true =>
    rw [if_pos rfl] at g ⊢
    exact ⟨β, ρ1, env, s1, e.stp a1, S1, RP.aftF g a1⟩
  | false =>
    rw [if_neg Bool.false_ne_true] at g ⊢
    exact ⟨β, ρ1, env, s1, e.stp a1, S1, RP.aftF g a1⟩
theorem w_asg {t : Tg} {En : Ends} {σ H} (h : tS X.K q (.asg t a) En σ H) : tAsg (tW X.K q a) (tWg X.K q t) En σ H := by
  obtain ⟨β, ρ, env, st, e, S, h⟩ := h
  simp only [ex] at h
  refine ⟨β, ρ, env, st, e, S, h.bind.imp (fun x s1 g v H1 ρ1 a1 S1 r1 => ?_) fun _ _ _ g => g⟩
  exact ⟨β, ρ1, env, s1, x, e.stp a1, S1, r1, (g.bind.aftX a1).imp (fun env1 s2 g2 σ2 H2 ρ2 _ a2 S2 e2 => g2 σ2 H2 ρ2 (a1.trans a2) S2 e2) fun _ _ _ g2 => g2⟩
theorem z_asg {t : Tg} {pt : Expr} (ha : PE X pa (tW X.K q a)) (hg : PG X pt (tWg X.K q t)) (hs : swapsWithSole [pt] pa pos.line X.env = pure false) (hw : swappedStores [pt] pa X.env = pure none) (h1 : (assignEach [pt] X.env).map (·.2) = [PySem.assign pt X.env]) :
    PS X (.Assign [pt] pa pos) (tS X.K q (.asg t a)) := (ps_asg ha hg hs hw h1).w fun En σ H h => w_asg h
/-- a list into a place of the store, or as a value -/
def evF (C : Nat → List D → Sto → R D) (G : Nat → D) (e : E) (env : PL.Env) (st : Sto) : R (List D) := (ev C G e env st).bind fun d s => match d with
  | .frz ds => .ok ds s
  | _ => .bad
theorem s_thaw (h : PE X pe (tNew X.K q (evF q.C q.G a))) : PE X pe (tW X.K q (.thaw a)) := h.w fun σ H Q ⟨β, ρ, env, st, e, S, h⟩ => new_thaw ⟨β, ρ, env, st, e, S, by
  simp only [ev] at h
  unfold evF
  rw [R.assoc]
  cases hv : ev q.C q.G a env st with
  | bad => rw [hv] at h; exact h.elim
  | exn c d s1 => rw [hv] at h; exact h
  | ok d s1 =>
    rw [hv] at h
    cases d with
    | frz ds => exact h
    | _ => exact h.elim⟩
theorem f_comp {own : List Nat} {elt : E} {tg : Tg} {it : It} {c : Oe} (h : PE X pe (tNew X.K q (fComp q.C q.G own elt tg it c))) : PE X pe (tW X.K q (.comp own elt tg it c)) ∧ PE X pe (tNew X.K q (evF q.C q.G (.comp own elt tg it c))) := by
  refine ⟨h.w fun σ H Q ⟨β, ρ, env, st, e, S, h⟩ => new_frz ⟨β, ρ, env, st, e, S, by rw [← ev_comp]; exact h⟩, h.w fun σ H Q ⟨β, ρ, env, st, e, S, h⟩ => ⟨β, ρ, env, st, e, S, ?_⟩⟩
  unfold evF at h
  rw [ev_comp, R.assoc] at h
  cases hv : fComp q.C q.G own elt tg it c env st with
  | bad => rw [hv] at h; exact h.elim
  | exn c d s1 => rw [hv] at h; exact h
  | ok d s1 => rw [hv] at h; exact h
theorem f_comp2 {own own1 : List Nat} {elt : E} {tg tg1 : Tg} {it it1 : It} {c c1 : Oe} (h : PE X pe (tNew X.K q (fComp2 q.C q.G own own1 elt tg it c tg1 it1 c1))) : PE X pe (tW X.K q (.comp2 own own1 elt tg it c tg1 it1 c1)) ∧ PE X pe (tNew X.K q (evF q.C q.G (.comp2 own own1 elt tg it c tg1 it1 c1))) := by
  refine ⟨h.w fun σ H Q ⟨β, ρ, env, st, e, S, h⟩ => new_frz ⟨β, ρ, env, st, e, S, by rw [← ev_comp2]; exact h⟩, h.w fun σ H Q ⟨β, ρ, env, st, e, S, h⟩ => ⟨β, ρ, env, st, e, S, ?_⟩⟩
  unfold evF at h
  rw [ev_comp2, R.assoc] at h
  cases hv : fComp2 q.C q.G own own1 elt tg it c tg1 it1 c1 env st with
  | bad => rw [hv] at h; exact h.elim
  | exn c d s1 => rw [hv] at h; exact h
  | ok d s1 => rw [hv] at h; exact h
/-- name = a comprehension on the same line -/
theorem z_asgLc2 {i : Nat} {y : Str} {py cpos : Pos} {own : List (Str × Nat)} {vs1 : List Nat} {elt : E} {tg tg1 : Tg} {it it1 : It} {c c1 : Oe} {pelt ptg pit ptg1 pit1 : Expr} {pifs pifs1 : List Expr} {scope : Scope} (th : Bool) (L : LcOk2 X q own vs1 elt tg it c tg1 it1 c1 pelt ptg pit ptg1 pit1 pifs pifs1 scope) (hy : X.N[i]? = some y) (hyl : X.env.scope.names.lookup y = some .local)
    (hsw : swapsWith (.ListComp pelt [⟨ptg, pit, pifs, 0⟩, ⟨ptg1, pit1, pifs1, 0⟩] scope cpos) (some (.Name y py)) pos.line X.env = pure true) :
    PS X (.Assign [.Name y py] (.ListComp pelt [⟨ptg, pit, pifs, 0⟩, ⟨ptg1, pit1, pifs1, 0⟩] scope cpos) pos) (tS X.K q (.asg (.var i) (if th then .thaw (.comp2 (own.map (·.2)) vs1 elt tg it c tg1 it1 c1) else .comp2 (own.map (·.2)) vs1 elt tg it c tg1 it1 c1))) :=
  (ps_setLc2 L.calm L.nd hy hyl hsw L.it L.blk L.sub L.tgt L.ifs L.it1 L.tgt1 L.ifs1 L.elt L.fold L.fold1).w fun En σ H h => by
    have g := w_asg h
    refine w_comp2 L.own L.own1 ?_
    have g : tW X.K q (if th then .thaw (.comp2 (own.map (·.2)) vs1 elt tg it c tg1 it1 c1) else .comp2 (own.map (·.2)) vs1 elt tg it c tg1 it1 c1) σ H (fun x H1 => gName i x σ H1 En.nx) := by
      obtain ⟨β, ρ, env, st, e, S, g⟩ := g
      refine ⟨β, ρ, env, st, e, S, g.imp (fun x s1 g v H1 ρ1 a1 S1 r1 => ?_) fun _ _ _ g => g⟩
      obtain ⟨β', ρ', env', st', d, e', S', r', g'⟩ := g v H1 ρ1 a1 S1 r1
      simp only [evt] at g'
      split at g'
      · exact g' _ H1 ρ' ⟨by simp, fun k hk => List.getElem?_set_ne (fun z => hk (by simp [tgv, z]))⟩ .refl S' (e'.set r')
      · exact g'.elim
    cases th with
    | false =>
      obtain ⟨β, ρ, env, st, e, S, g⟩ := g
      exact new_frz ⟨β, ρ, env, st, e, S, by rw [← ev_comp2]; exact g⟩
    | true =>
      obtain ⟨β, ρ, env, st, e, S, g⟩ := g
      refine new_thaw ⟨β, ρ, env, st, e, S, ?_⟩
      rw [if_pos rfl] at g
      have e2 : ev q.C q.G (.thaw (.comp2 (own.map (·.2)) vs1 elt tg it c tg1 it1 c1)) env st = (ev q.C q.G (.comp2 (own.map (·.2)) vs1 elt tg it c tg1 it1 c1) env st).bind fun x s1 => thawD x s1 := by simp only [ev]
      rw [e2, ev_comp2, R.assoc] at g
      exact g
/-- name = a comprehension on the same line -/
theorem z_asgLc {i : Nat} {y : Str} {py cpos : Pos} {own : List (Str × Nat)} {elt : E} {tg : Tg} {it : It} {c : Oe} {pelt ptg pit : Expr} {pifs : List Expr} {scope : Scope} (th : Bool) (L : LcOk X q own elt tg it c pelt ptg pit pifs scope) (hy : X.N[i]? = some y) (hyl : X.env.scope.names.lookup y = some .local)
    (hsw : swapsWith (.ListComp pelt [⟨ptg, pit, pifs, 0⟩] scope cpos) (some (.Name y py)) pos.line X.env = pure true) :
    PS X (.Assign [.Name y py] (.ListComp pelt [⟨ptg, pit, pifs, 0⟩] scope cpos) pos) (tS X.K q (.asg (.var i) (if th then .thaw (.comp (own.map (·.2)) elt tg it c) else .comp (own.map (·.2)) elt tg it c))) :=
  (ps_setLc L.calm L.nd hy hyl hsw L.it L.blk L.tgt L.ifs L.elt L.fold).w fun En σ H h => by
    have g := w_asg h
    refine w_comp L.own ?_
    have g : tW X.K q (if th then .thaw (.comp (own.map (·.2)) elt tg it c) else .comp (own.map (·.2)) elt tg it c) σ H (fun x H1 => gName i x σ H1 En.nx) := by
      obtain ⟨β, ρ, env, st, e, S, g⟩ := g
      refine ⟨β, ρ, env, st, e, S, g.imp (fun x s1 g v H1 ρ1 a1 S1 r1 => ?_) fun _ _ _ g => g⟩
      obtain ⟨β', ρ', env', st', d, e', S', r', g'⟩ := g v H1 ρ1 a1 S1 r1
      simp only [evt] at g'
      split at g'
      · exact g' _ H1 ρ' ⟨by simp, fun k hk => List.getElem?_set_ne (fun z => hk (by simp [tgv, z]))⟩ .refl S' (e'.set r')
      · exact g'.elim
    cases th with
    | false =>
      obtain ⟨β, ρ, env, st, e, S, g⟩ := g
      exact new_frz ⟨β, ρ, env, st, e, S, by rw [← ev_comp]; exact g⟩
    | true =>
      obtain ⟨β, ρ, env, st, e, S, g⟩ := g
      refine new_thaw ⟨β, ρ, env, st, e, S, ?_⟩
      rw [if_pos rfl] at g
      simp only [ev] at g
      rw [show ((evi q.C q.G it env st).bind fun p s1 => _) = _ from ev_comp (q := q) (own := own.map (·.2)) (elt := elt) (tg := tg) (it := it) (c := c) (env := env) (st := st), R.assoc] at g
      exact g
/-- a, b = x, y -/
theorem z_par2 {i j : Nat} {x y : Str} {px py pt : Pos} {kt k2 pt2} (hc : X.calm = true) (hN : X.N.Nodup) (hi : X.N[i]? = some x) (hj : X.N[j]? = some y) (hij : i ≠ j)
    (hx : X.env.scope.names.lookup x = some .local) (hy : X.env.scope.names.lookup y = some .local) (ha : PA X [pa, pb] (tWs X.K q es))
    (hw : swappedStores [.Tuple [.Name x px, .Name y py] kt pt] (.Tuple [pa, pb] k2 pt2) X.env = pure (some [x, y]))
    (hs : swapsWithSole [.Tuple [.Name x px, .Name y py] kt pt] (.Tuple [pa, pb] k2 pt2) pos.line X.env = pure false) :
    PS X (.Assign [.Tuple [.Name x px, .Name y py] kt pt] (.Tuple [pa, pb] k2 pt2) pos) (tS X.K q (.par [i, j] es)) :=
  (ps_par hc hN hi hj hij hx hy ha hw hs).w fun En σ H ⟨β, ρ, env, st, e, S, h⟩ => by
    simp only [ex] at h
    refine ⟨β, ρ, env, st, e, S, h.bind.imp (fun ds s1 g vs H1 ρ1 a1 S1 r1 => ?_) fun _ _ _ g => g⟩
    split at g
    · rename_i hl
      cases r1 with
      | nil => simp at hl
      | cons r1 r2 =>
        cases r2 with
        | nil => simp at hl
        | cons r2 r3 =>
          cases r3 with
          | nil => exact ⟨_, _, rfl, g _ H1 ρ1 a1 S1 (((e.stp a1).set r1).set r2)⟩
          | cons r3 r4 => simp at hl
    · exact g.elim
theorem z_par3 {i j l : Nat} {x y z : Str} {px py pz pt : Pos} {kt k2 pt2} (hc : X.calm = true) (hN : X.N.Nodup) (hi : X.N[i]? = some x) (hj : X.N[j]? = some y) (hl : X.N[l]? = some z) (hij : i ≠ j) (hil : i ≠ l) (hjl : j ≠ l)
    (hx : X.env.scope.names.lookup x = some .local) (hy : X.env.scope.names.lookup y = some .local) (hz : X.env.scope.names.lookup z = some .local) (ha : PA X [pa, pb, pc] (tWs X.K q es))
    (hw : swappedStores [.Tuple [.Name x px, .Name y py, .Name z pz] kt pt] (.Tuple [pa, pb, pc] k2 pt2) X.env = pure (some [x, y, z]))
    (hs : swapsWithSole [.Tuple [.Name x px, .Name y py, .Name z pz] kt pt] (.Tuple [pa, pb, pc] k2 pt2) pos.line X.env = pure false) :
    PS X (.Assign [.Tuple [.Name x px, .Name y py, .Name z pz] kt pt] (.Tuple [pa, pb, pc] k2 pt2) pos) (tS X.K q (.par [i, j, l] es)) :=
  (ps_par3 hc hN hi hj hl hij hil hjl hx hy hz ha hw hs).w fun En σ H ⟨β, ρ, env, st, e, S, h⟩ => by
    simp only [ex] at h
    refine ⟨β, ρ, env, st, e, S, h.bind.imp (fun ds s1 g vs H1 ρ1 a1 S1 r1 => ?_) fun _ _ _ g => g⟩
    split at g
    · rename_i hl
      cases r1 with
      | nil => simp at hl
      | cons r1 r2 =>
        cases r2 with
        | nil => simp at hl
        | cons r2 r3 =>
          cases r3 with
          | nil => simp at hl
          | cons r3 r4 =>
            cases r4 with
            | nil => exact ⟨_, _, _, rfl, g _ H1 ρ1 a1 S1 ((((e.stp a1).set r1).set r2).set r3)⟩
            | cons r4 r5 => simp at hl
    · exact g.elim
/-! loops -/
theorem PostF.unl {K : PySem.W.Frag} {fa : Nat → Addr} {β ρ : List Addr} {st st' : Sto} {H : Hp} {En : Ends} {fl : Fl} {ids : List Nat} (can : Can st ids) (h : PostF K fa β ρ st H En fl (unlock st' ids)) : PostF K fa β ρ (lock st ids) H En fl st' := by
  cases fl with
  | nx env => exact fun σ' H' ρ' b S e => h σ' H' ρ' (stp_unlock can b) (S.sim sim_unlock) (e.sim sim_unlock)
  | bk env => exact fun σ' H' ρ' b S e => h σ' H' ρ' (stp_unlock can b) (S.sim sim_unlock) (e.sim sim_unlock)
  | ct env => exact fun σ' H' ρ' b S e => h σ' H' ρ' (stp_unlock can b) (S.sim sim_unlock) (e.sim sim_unlock)
  | rt d => exact fun v H' ρ' b S r => h v H' ρ' (stp_unlock can b) (S.sim sim_unlock) (r.sim sim_unlock)
theorem PostX.unl {K : PySem.W.Frag} {β ρ : List Addr} {st st' : Sto} {H : Hp} {c : Nat} {d : D} {ids : List Nat} (can : Can st ids) (h : PostX K q β ρ st H c d (unlock st' ids)) : PostX K q β ρ (lock st ids) H c d st' :=
  fun v H' ρ' dx b S r e => h v H' ρ' dx (stp_unlock can b) (S.sim sim_unlock) (r.sim sim_unlock) e
theorem w_for {t : Tg} {it : It} {En : Ends} {σ H} (h : tS X.K q (.fr t it ss) En σ H) : tFor (tWi X.K q it) (tWg X.K q t) (tSs X.K q ss) En σ H := by
  obtain ⟨β, ρ, env, st, e, S, h⟩ := h
  simp only [ex] at h
  refine ⟨β, ρ, env, st, e, S, h.bind.imp (fun p s1 h1 can J H1 ρ1 a1 S1 F1 => ?_) fun _ _ _ g => g⟩
  have h2 := (RP.aftF h1 a1).unl.imp (fun _ _ g => PostF.unl can g) fun _ _ _ g => PostX.unl can g
  clear h1
  generalize hf : (fun (x : D) (env : PL.Env) (s2 : Sto) => (evt q.C q.G t x env s2).bind fun env2 s3 => exs q.C q.G q.W ss env2 s3) = f at h2
  have e1 := (e.stp a1).stp (stp_lock (ids := p.2))
  have S1' := S1.sim (sim_lock (ids := p.2))
  generalize lock s1 p.2 = sl at h2 e1 S1' F1
  refine ⟨fun i m σ' H' => m = p.1.length - i ∧ i ≤ p.1.length ∧ ∃ ρ2 st2 env2, Stp ρ1 sl H1 ρ2 st2 H' ∧ RS X.K q.fa β ρ2 st2 H' ∧ RE X.K q.fa β ρ2 env2 st2 σ' H' ∧
    RP (forL f (p.1.drop i) env2 st2) (PostF X.K q.fa β ρ2 st2 H' En) (PostX X.K q β ρ2 st2 H'), ⟨_, rfl, Nat.zero_le _, ρ1, sl, env, .refl, S1', e1, h2⟩, ?_⟩
  rintro i m σ' H' ⟨rfl, hi, ρ2, st2, env2, a2, S2, e2, g⟩
  obtain ⟨F2, F3⟩ := F1 β ρ2 st2 H' (fun _ z => .inl z) a2.toB S2
  by_cases hlt : i < p.1.length
  · right
    obtain ⟨go, yl⟩ := F2 i p.1[i] (List.getElem?_eq_getElem hlt)
    refine ⟨go, fun σ'' H'' => ∃ m', m' < p.1.length - i ∧ (m' = p.1.length - (i + 1) ∧ i + 1 ≤ p.1.length ∧ ∃ ρ2 st2 env2, Stp ρ1 sl H1 ρ2 st2 H'' ∧ RS X.K q.fa β ρ2 st2 H'' ∧ RE X.K q.fa β ρ2 env2 st2 σ'' H'' ∧
      RP (forL f (p.1.drop (i + 1)) env2 st2) (PostF X.K q.fa β ρ2 st2 H'' En) (PostX X.K q β ρ2 st2 H'')), fun _ _ z => z, fun x H2 hy => ?_⟩
    obtain ⟨y1, y2, y3⟩ := yl x H2 hy
    rw [List.drop_eq_getElem_cons hlt] at g
    simp only [forL] at g
    have g := RP.aftF g y1
    have g2 : RP (f p.1[i] env2 st2) _ _ := g.bind
    rw [← hf] at g2
    refine ⟨β, ρ2, env2, st2, _, e2.stp y1, y2, y3, g2.bind.imp (fun env3 s3 g3 σ3 H3 ρ3 _ a3 S3 e3 => ?_) fun _ _ _ g => g⟩
    refine ⟨β, ρ3, env3, s3, e3, S3, g3.imp (fun fl s4 g4 => ?_) fun _ _ _ g => g.after a3⟩
    have step : ∀ env4, RP (forL f (p.1.drop (i + 1)) env4 s4) (PostF X.K q.fa β ρ2 st2 H2 En) (PostX X.K q β ρ2 st2 H2) → ∀ σ4 H4 ρ4, Stp ρ3 s3 H3 ρ4 s4 H4 → RS X.K q.fa β ρ4 s4 H4 → RE X.K q.fa β ρ4 env4 s4 σ4 H4 →
        ∃ m', m' < p.1.length - i ∧ (m' = p.1.length - (i + 1) ∧ i + 1 ≤ p.1.length ∧ ∃ ρ2 st2 env2, Stp ρ1 sl H1 ρ2 st2 H4 ∧ RS X.K q.fa β ρ2 st2 H4 ∧ RE X.K q.fa β ρ2 env2 st2 σ4 H4 ∧
      RP (forL f (p.1.drop (i + 1)) env2 st2) (PostF X.K q.fa β ρ2 st2 H4 En) (PostX X.K q β ρ2 st2 H4)) := fun env4 g5 σ4 H4 ρ4 a4 S4 e4 =>
      ⟨_, by omega, rfl, hlt, ρ4, s4, env4, (a2.trans y1).trans (a3.trans a4), S4, e4, RP.aftF g5 (a3.trans a4)⟩
    cases fl with
    | nx env4 => exact step env4 (by rw [← hf]; exact g4)
    | ct env4 => exact step env4 (by rw [← hf]; exact g4)
    | bk env4 => exact PostF.after (fl := .nx env4) g4 a3
    | rt d => exact PostF.after (fl := .rt d) g4 a3
  · left
    have ei : i = p.1.length := by omega
    subst ei
    rw [List.drop_length] at g
    exact ⟨F3, g σ' H' ρ2 .refl S2 e2⟩
theorem z_for {t : Tg} {it : It} {ptg pit : Expr} (hp : PassesOwn (model X.prog X.w) X.A X.env X.xe) (hc : X.calm = true) (hi : PI X ptg pit (tWi X.K q it)) (hg : PG X ptg (tWg X.K q t)) (hb : PSs X pss (tSs X.K q ss)) (hs : ∀ x, foldedSetIterable pit X.env x = pure x) :
    PS X (.For ptg pit pss [] pos) (tS X.K q (.fr t it ss)) := (ps_for hp hc hi hg hb hs).w fun En σ H h => w_for h
theorem w_while {En : Ends} {σ H} (h : tS X.K q (.whl c ss) En σ H) : tWhile (tWT X.K q c) (tSs X.K q ss) En σ H := by
  obtain ⟨β, ρ, env, st, e, S, h⟩ := h
  simp only [ex] at h
  generalize hf : (fun (env : PL.Env) (st : Sto) => exs q.C q.G q.W ss env st) = f at h
  generalize hcc : (fun (env : PL.Env) (st : Sto) => (ev q.C q.G c env st).bind fun x s1 => tru x s1) = cc at h
  refine ⟨fun m σ' H' => ∃ ρ2 st2 env2, RS X.K q.fa β ρ2 st2 H' ∧ RE X.K q.fa β ρ2 env2 st2 σ' H' ∧
    RP (whlL cc f m env2 st2) (PostF X.K q.fa β ρ2 st2 H' En) (PostX X.K q β ρ2 st2 H'), ⟨_, ρ, st, env, S, e, h⟩, ?_⟩
  rintro m σ' H' ⟨ρ2, st2, env2, S2, e2, g⟩
  cases m with
  | zero => exact g.elim
  | succ m =>
    simp only [whlL] at g
    have g2 : RP (cc env2 st2) _ _ := g.bind
    rw [← hcc] at g2
    refine ⟨β, ρ2, env2, st2, e2, S2, g2.imp (fun k s3 g3 H3 ρ3 a3 S3 => ?_) fun _ _ _ g => g⟩
    cases k with
    | false =>
      rw [if_neg Bool.false_ne_true] at g3 ⊢
      exact g3 σ' H3 ρ3 a3 S3 (e2.stp a3)
    | true =>
      rw [if_pos rfl] at g3 ⊢
      have g4 : RP (f env2 s3) _ _ := g3.bind
      rw [← hf] at g4
      refine ⟨fun σ'' H'' => ∃ m', m' < m + 1 ∧ ∃ ρ2 st2 env2, RS X.K q.fa β ρ2 st2 H'' ∧ RE X.K q.fa β ρ2 env2 st2 σ'' H'' ∧
        RP (whlL cc f m' env2 st2) (PostF X.K q.fa β ρ2 st2 H'' En) (PostX X.K q β ρ2 st2 H''), fun _ _ z => z, β, ρ3, env2, s3, e2.stp a3, S3, g4.imp (fun fl s4 g5 => ?_) fun _ _ _ g => g.after a3⟩
      have step : ∀ env4, RP (whlL cc f m env4 s4) (PostF X.K q.fa β ρ2 st2 H' En) (PostX X.K q β ρ2 st2 H') → ∀ σ4 H4 ρ4, Stp ρ3 s3 H3 ρ4 s4 H4 → RS X.K q.fa β ρ4 s4 H4 → RE X.K q.fa β ρ4 env4 s4 σ4 H4 →
          ∃ m', m' < m + 1 ∧ ∃ ρ2 st2 env2, RS X.K q.fa β ρ2 st2 H4 ∧ RE X.K q.fa β ρ2 env2 st2 σ4 H4 ∧ RP (whlL cc f m' env2 st2) (PostF X.K q.fa β ρ2 st2 H4 En) (PostX X.K q β ρ2 st2 H4) := fun env4 g5 σ4 H4 ρ4 a4 S4 e4 =>
        ⟨m, Nat.lt_succ_self m, ρ4, s4, env4, S4, e4, RP.aftF g5 (a3.trans a4)⟩
      cases fl with
      | nx env4 => exact step env4 (by rw [← hf, ← hcc]; exact g5)
      | ct env4 => exact step env4 (by rw [← hf, ← hcc]; exact g5)
      | bk env4 => exact PostF.after (fl := .nx env4) g5 a3
      | rt d => exact PostF.after (fl := .rt d) g5 a3
theorem z_while (hp : PassesOwn (model X.prog X.w) X.A X.env X.xe) (hc : PT X pc (tWT X.K q c)) (hb : PSs X pss (tSs X.K q ss)) : PS X (.While pc pss [] pos) (tS X.K q (.whl c ss)) := (ps_while hp hc hb).w fun En σ H h => w_while h
end
end
end PL

set_option Elab.async false
set_option linter.all false
set_option maxRecDepth 100000
set_option maxHeartbeats 1000000
/-! New lists, ranges as values, keyword calls. -/
namespace PL
open PySem PySem.Spec PyProof.Rows L2
variable [Tbl]
section
variable {X : Cx} {q : Qm} {a b c : E} {pa pb pc pe tg : Expr} {pos : Pos} {es : Es} {pes : List Expr} {fa : Nat → Addr}
/-- what is wanted of a new list -/
def PostN (K : PySem.W.Frag) (fa : Nat → Addr) (β ρ : List Addr) (st : Sto) (H : Hp) (ds : List D) (st' : Sto) (Q : VK) : Prop :=
  ∀ p vs H' ρ' b', Stp ρ st H ρ' st' H' → b' = p :: β → RS K fa b' ρ' st' H' → RDs K fa H' (Mu ρ' st') b' ρ' st'.length ds vs → H' p = some (.lst vs) → H p = none → Q (.ref p) H'
theorem PostN.lay {K : PySem.W.Frag} {fa : Nat → Addr} {β ρ ρ1 : List Addr} {st s1 : Sto} {H H1 : Hp} {ds : List D} {vs : List V} {p : Addr} {Q : VK} (h : PostN K fa β ρ st H ds s1 Q) (S : RS K fa β ρ st H) (a1 : Stp ρ st H ρ1 s1 H1) (S1 : RS K fa β ρ1 s1 H1)
    (r1 : RDs K fa H1 (Mu ρ1 s1) β ρ1 s1.length ds vs) (hp : H1 p = none) : Q (.ref p) (upd H1 p (.lst vs)) := by
  have B := S1.busyNew (ws := vs) hp
  exact h p vs _ ρ1 _ (a1.trans (S1.lay hp).2) rfl B.1 (r1.mono (S1.lay hp).2.keep (fun _ _ x => x) B.2 (Nat.le_refl _)) upd_same (none_back S a1 S1 hp)
theorem evF_ok {e : E} {env : PL.Env} {st : Sto} {P : List D → Sto → Prop} {Xx : Nat → D → Sto → Prop} (h : RP (evF q.C q.G e env st) P Xx) : RP (ev q.C q.G e env st) (fun d s => ∃ ds, d = .frz ds ∧ P ds s) Xx := by
  unfold evF at h
  exact h.bind.imp (fun d s g => by
    cases d with
    | frz ds => exact ⟨ds, rfl, g⟩
    | _ => exact g.elim) fun _ _ _ g => g
theorem f_list (h : PA X pes (tWs X.K q es)) : PE X (.List pes pos) (tNew X.K q (evF q.C q.G (.list es))) :=
  (pe_lst h).w fun σ H Q ⟨β, ρ, env, st, e, S, h⟩ => by
    have h := evF_ok h
    simp only [ev] at h
    refine ⟨β, ρ, env, st, e, S, h.bind.imp (fun ds s1 h1 vs H1 ρ1 a1 S1 r1 => ?_) fun _ _ _ g => g⟩
    split at h1
    · rename_i c
      obtain ⟨ds', e1, h2⟩ := h1
      cases e1
      exact ⟨by rw [← r1.length]; exact szOk_le c, fun p hp => PostN.lay h2 S a1 S1 r1 hp⟩
    · exact h1.elim
theorem f_lsts {zs : Zs} (h : PA X pes (tWz X.K q zs)) : PE X (.List pes pos) (tNew X.K q (evF q.C q.G (.lsts zs))) :=
  (pe_lst h).w fun σ H Q ⟨β, ρ, env, st, e, S, h⟩ => by
    have h := evF_ok h
    simp only [ev] at h
    refine ⟨β, ρ, env, st, e, S, h.bind.imp (fun ds s1 h1 vs H1 ρ1 a1 S1 r1 => ?_) fun _ _ _ g => g⟩
    split at h1
    · rename_i c
      obtain ⟨ds', e1, h2⟩ := h1
      cases e1
      exact ⟨by rw [← r1.length]; exact szOk_le c, fun p hp => PostN.lay h2 S a1 S1 r1 hp⟩
    · exact h1.elim
theorem s_ofF {e : E} (hf : ∀ env st, ev q.C q.G e env st = (evF q.C q.G e env st).bind fun ds s => R.ok (D.frz ds) s) (h : PE X pe (tNew X.K q (evF q.C q.G e))) : PE X pe (tW X.K q e) :=
  h.w fun σ H Q ⟨β, ρ, env, st, e, S, h⟩ => new_frz ⟨β, ρ, env, st, e, S, by rw [← hf]; exact h⟩
theorem lsts_F {zs : Zs} (env : PL.Env) (st : Sto) : ev q.C q.G (.lsts zs) env st = (evF q.C q.G (.lsts zs) env st).bind fun ds s => R.ok (D.frz ds) s := by
  unfold evF
  simp only [ev]
  cases evz q.C q.G zs env st with
  | ok ds s =>
    show (if _ then R.ok (D.frz ds) s else R.bad) = R.bind (R.bind (if _ then R.ok (D.frz ds) s else R.bad) _) _
    split <;> rfl
  | exn c d s => rfl
  | bad => rfl
/-! operators -/
def rBopF (K : PySem.W.Frag) (fa : Nat → Addr) (o : Op) : R2 := fun x y H Q => ∃ β ρ st dx dy ds, RS K fa β ρ st H ∧ RD K fa H (Mu ρ st) β ρ st.length dx x ∧ RD K fa H (Mu ρ st) β ρ st.length dy y ∧ bop st o dx dy = some (.frz ds) ∧
  ∀ vs p, RDs K fa H (Mu ρ st) β ρ st.length ds vs → H p = none → Q (.ref p) (upd H p (.lst vs))
theorem op_bopF (o : Op) : OpR X (binaryOp (opOf o)) (rBopF X.K fa o) := by
  intro pins s σ H x y v u Q I rx ry h
  obtain ⟨β, ρ, st, dx, dy, ds, S, ra, rb, hd, q⟩ := h
  have cat : ∀ {xs ys : List D}, lv st dx = some xs → lv st dy = some ys → (∀ ds, dx ≠ .scr ds) → (∀ ds, dy ≠ .scr ds) → szOk (xs.length + ys.length) = true → ds = xs ++ ys → wpAny (model X.prog X.w) X.A (binaryOp .Add v u) (EP X pins σ Q) X.xe s := fun ha hb na nb hz e => by
    obtain ⟨p1, vs, rfl, h1, r1⟩ := rd_lh S ra ha na
    obtain ⟨p2, ws, rfl, h2, r2⟩ := rd_lh S rb hb nb
    subst e
    exact op_cat pins s σ H _ _ v u Q I rx ry ⟨p1, p2, vs, ws, rfl, rfl, h1, h2, by rw [← r1.length, ← r2.length]; exact szOk_le hz, fun p hp => q _ p (r1.append r2) hp⟩
  have rp : ∀ {xs : List D} {k : Int}, dy = .int k → lv st dx = some xs → (∀ ds, dx ≠ .scr ds) → rep xs k = some (.frz ds) → wpAny (model X.prog X.w) X.A (binaryOp .Mult v u) (EP X pins σ Q) X.xe s := fun ey ha na hr => by
    obtain ⟨p1, vs, rfl, h1, r1⟩ := rd_lh S ra ha na
    subst ey
    cases rb
    unfold rep at hr
    split at hr
    · rename_i c
      simp only [Bool.and_eq_true, decide_eq_true_eq] at c
      cases hr
      exact op_rep pins s σ H _ _ v u Q I rx ry ⟨p1, _, vs, rfl, rfl, h1, c.1, c.2.1, by rw [← r1.length]; exact szOk_le c.2.2, fun p hp => q _ p (r1.rep _) hp⟩
    · cases hr
  unfold bop at hd
  split at hd
  · obtain ⟨k, hk, e⟩ := Option.map_eq_some_iff.mp hd
    cases e
  · split at hd
    · split at hd
      · cases hd
      · cases hd
    · cases hd
  · split at hd
    · split at hd
      · cases hd
      · cases hd
    · cases hd
  · split at hd
    · split at hd
      · cases hd
        exact cat rfl rfl (by intro ds z; cases z) (by intro ds z; cases z) (by assumption) rfl
      · cases hd
    · cases hd
  · split at hd
    · split at hd
      · cases hd
        exact cat rfl (by assumption) (by intro ds z; cases z) (by intro ds z; cases z) (by assumption) rfl
      · cases hd
    · cases hd
  · split at hd
    · split at hd
      · cases hd
        exact cat (by assumption) rfl (by intro ds z; cases z) (by intro ds z; cases z) (by assumption) rfl
      · cases hd
    · cases hd
  · split at hd
    · split at hd
      · cases hd
        exact cat (by assumption) (by assumption) (by intro ds z; cases z) (by intro ds z; cases z) (by assumption) rfl
      · cases hd
    · cases hd
  · split at hd
    · exact rp rfl rfl (by intro ds z; cases z) hd
    · cases hd
  · split at hd
    · exact rp rfl (by assumption) (by intro ds z; cases z) hd
    · cases hd
  · split at hd
    · unfold repT at hd
      split at hd <;> cases hd
    · cases hd
  · cases hd
theorem f_bin (o : Op) (ha : PE X pa (tW X.K q a)) (hb : PE X pb (tW X.K q b)) : PE X (.BinOp pa (opOf o) pb pos) (tNew X.K q (evF q.C q.G (.bin o a b))) :=
  (pe_op (op_bopF (fa := q.fa) o) ha hb).w fun σ H Q ⟨β, ρ, env, st, e, S, h⟩ => by
    have h := evF_ok h
    simp only [ev] at h
    refine ⟨β, ρ, env, st, e, S, h.bind.imp (fun x s1 h1 v1 H1 ρ1 a1 S1 r1 => ?_) fun _ _ _ g => g⟩
    refine ⟨β, ρ1, env, s1, e.stp a1, S1, (h1.bind.aftX a1).imp (fun y s2 h2 v2 H2 ρ2 a2 S2 r2 => ?_) fun _ _ _ g => g⟩
    obtain ⟨d, h3, ds, h4, h5⟩ := h2.oD
    subst h4
    exact ⟨β, ρ2, s2, x, y, ds, S2, r1.stp a2, r2, h3, fun vs p rs hp => PostN.lay h5 S (a1.trans a2) S2 rs hp⟩
/-! list(..), sorted(..) -/
def rBlF (K : PySem.W.Frag) (fa : Nat → Addr) (b : Bl) : List V → Hp → VK → Prop := fun vs H Q => ∃ β ρ st ds es, RS K fa β ρ st H ∧ RDs K fa H (Mu ρ st) β ρ st.length ds vs ∧ bcall st b ds = some (.frz es) ∧
  ∀ vs p, RDs K fa H (Mu ρ st) β ρ st.length es vs → H p = none → Q (.ref p) (upd H p (.lst vs))
theorem call_blF (hc : X.calm = true) (b : Bl) : CallR X (blV b) (rBlF X.K fa b) := by
  intro pins s σ H xs us Q I r h
  obtain ⟨β, ρ, st, ds, d, S, rs, hd, q⟩ := h
  unfold bcall at hd
  split at hd
  case h_16 =>
    obtain ⟨es, he, e⟩ := Option.map_eq_some_iff.mp hd
    cases e
  case h_17 =>
    obtain ⟨es, he, e⟩ := Option.map_eq_some_iff.mp hd
    cases e
    cases rs with
    | cons r1 r2 =>
      cases r2
      obtain ⟨a, vs, rfl, hq, hr⟩ := rd_sv S r1 he
      exact call_list_of pins s σ H _ us Q I r ⟨a, vs, rfl, hq, fun p hp => q _ p hr hp⟩
  case h_18 =>
    obtain ⟨ns, hk, hd⟩ := Option.bind_eq_some_iff.mp hd
    obtain ⟨es, he, hi⟩ := Option.bind_eq_some_iff.mp hk
    split at hd
    · rename_i c
      cases hd
      cases rs with
      | cons r1 r2 =>
        cases r2
        obtain ⟨a, vs, rfl, hq, hr⟩ := rd_sv S r1 he
        have e := hr.ints hi
        subst e
        rcases hq with hq | hq
        · refine cr_sorted pins s σ H _ us Q I r ⟨a, ns, rfl, hq, by simpa using c, fun ns' p h1 h2 hp => ?_⟩
          rw [sorted_eq ns ns' h1 h2]
          exact q _ p (rds_ints _) hp
        · refine cr_sortedTup hc pins s σ H _ us Q I r ⟨a, ns, rfl, hq, by simpa using c, fun ns' p h1 h2 hp => ?_⟩
          rw [sorted_eq ns ns' h1 h2]
          exact q _ p (rds_ints _) hp
    · cases hd
  all_goals first
    | cases hd
    | (split at hd <;> cases hd; done)
    | (split at hd <;> first
        | (cases hd; done)
        | (obtain ⟨es, he, e⟩ := Option.map_eq_some_iff.mp hd; cases e))
    | (obtain ⟨es, he, e⟩ := Option.map_eq_some_iff.mp hd; cases e)
theorem f_blB {i : String} {x : Str} {p : Pos} {bl : Bl} (hc : X.calm = true) (hi : blV bl = .builtin i) (hg : Gl X x) (hm : X.mg x = none) (hv : bootBuiltins x = some (.builtin i)) (hn : x ≠ "__name__") (hdb : (x == ("__debug__" : Str)) = false)
    (ha : PA X (pe :: pes) (tWs X.K q es)) (he : starEach (pe :: pes) X.env = (false, eval pe X.env) :: starEach pes X.env) (hpl : (backTo pos (starEach pes X.env)).any (·.1) = false) : PE X (.Call (.Name x p) (pe :: pes) [] pos) (tNew X.K q (evF q.C q.G (.blt bl es))) :=
  (pe_callB (r := rBlF X.K q.fa bl) (hi ▸ call_blF hc bl) hg hm hv ha hn hdb he hpl).w fun σ H Q ⟨β, ρ, env, st, e, S, h⟩ => by
    have h := evF_ok h
    simp only [ev] at h
    refine ⟨β, ρ, env, st, e, S, h.bind.imp (fun ds s1 h1 vs H1 ρ1 a1 S1 r1 => ?_) fun _ _ _ g => g⟩
    obtain ⟨d, h4, fs, h5, h6⟩ := h1.oD
    subst h5
    exact ⟨β, ρ1, s1, ds, fs, S1, r1, h4, fun vs p rs hp => PostN.lay h6 S a1 S1 rs hp⟩
theorem f_blT {i : String} {x : Str} {p : Pos} {bl : Bl} (hc : X.calm = true) (hi : blV bl = .type i) (hg : Gl X x) (hm : X.mg x = none) (hv : bootBuiltins x = some (.type i)) (hn : x ≠ "__name__") (hdb : (x == ("__debug__" : Str)) = false)
    (ha : PA X (pe :: pes) (tWs X.K q es)) (he : starEach (pe :: pes) X.env = (false, eval pe X.env) :: starEach pes X.env) (hpl : (backTo pos (starEach pes X.env)).any (·.1) = false) : PE X (.Call (.Name x p) (pe :: pes) [] pos) (tNew X.K q (evF q.C q.G (.blt bl es))) :=
  (pe_callTy (r := rBlF X.K q.fa bl) (hi ▸ call_blF hc bl) hg hm hv ha hn hdb he hpl).w fun σ H Q ⟨β, ρ, env, st, e, S, h⟩ => by
    have h := evF_ok h
    simp only [ev] at h
    refine ⟨β, ρ, env, st, e, S, h.bind.imp (fun ds s1 h1 vs H1 ρ1 a1 S1 r1 => ?_) fun _ _ _ g => g⟩
    obtain ⟨d, h4, fs, h5, h6⟩ := h1.oD
    subst h5
    exact ⟨β, ρ1, s1, ds, fs, S1, r1, h4, fun vs p rs hp => PostN.lay h6 S a1 S1 rs hp⟩
/-! list(range(..)), tuple(range(..)) -/
theorem rgV_rd {K : PySem.W.Frag} {H : Hp} {m : Addr → Prop} {β ρ : List Addr} {n : Nat} (i j : Int) : RDs K fa H m β ρ n (rngD i (j - i).toNat) (rgV i j) := by
  unfold rngD rgV
  generalize List.range (j - i).toNat = l
  induction l with
  | nil => exact .nil
  | cons k r ih => exact .cons (.int _) ih
theorem rg_ok {i j : Int} (h : (rngOk i && (rngOk j && szOk (j - i).toNat)) = true) : RgOk i j := by
  simp only [Bool.and_eq_true] at h
  exact ⟨(rng_ok h.1).1, (rng_ok h.1).2, (rng_ok h.2.1).1, (rng_ok h.2.1).2, Nat.le_of_ble_eq_true h.2.2⟩
/-- a range as an argument -/
def tRgW (K : PySem.W.Frag) (q : Qm) (lo : Oe) (b : E) : L2.St → Hp → (Int → Int → Hp → Prop) → Prop := fun σ H Q => ∃ β ρ env st, RE K q.fa β ρ env st σ H ∧ RS K q.fa β ρ st H ∧
  RP ((evo q.C q.G lo env st).bind fun l s1 => (ev q.C q.G b env s1).bind fun y s2 => (toI y s2).bind fun j s3 => R.ok (l.getD 0, j) s3) (fun p st' => ∀ H' ρ', Stp ρ st H ρ' st' H' → RS K q.fa β ρ' st' H' → Q p.1 p.2 H') (PostX K q β ρ st H)
theorem r_one {p : Pos} (hg : Gl X "range") (hm : X.mg "range" = none) (hb : PE X pb (tW X.K q b)) (na : starEach [pb] X.env = (false, eval pb X.env) :: starEach [] X.env) : PRg X (.Call (.Name "range" p) [pb] [] pos) (tRgW X.K q .none b) := fun pins s σ H Q I h => by
  refine prg_1 hg hm hb na pins s σ H Q I ?_
  obtain ⟨β, ρ, env, st, e, S, h⟩ := h
  simp only [evo] at h
  have h : RP ((ev q.C q.G b env st).bind fun y s2 => (toI y s2).bind fun j s3 => R.ok ((none : Option Int).getD 0, j) s3) _ _ := h
  refine ⟨β, ρ, env, st, e, S, h.bind.imp (fun x s1 h1 v1 H1 ρ1 a1 S1 r1 => ?_) fun _ _ _ g => g⟩
  obtain ⟨j, rfl, h2⟩ := h1.bind.toI
  exact ⟨j, rd_int r1, h2 H1 ρ1 a1 S1⟩
theorem r_two {p : Pos} (hg : Gl X "range") (hm : X.mg "range" = none) (ha : PE X pa (tW X.K q a)) (hb : PE X pb (tW X.K q b)) (na : starEach [pa, pb] X.env = (false, eval pa X.env) :: starEach [pb] X.env) (nb : starEach [pb] X.env = (false, eval pb X.env) :: starEach [] X.env)
    (hp : (backTo pos (starEach [pb] X.env)).any (·.1) = false) : PRg X (.Call (.Name "range" p) [pa, pb] [] pos) (tRgW X.K q (.some a) b) := fun pins s σ H Q I h => by
  refine prg_2 hg hm ha hb na nb hp pins s σ H Q I ?_
  obtain ⟨β, ρ, env, st, e, S, h⟩ := h
  simp only [evo] at h
  rw [R.assoc] at h
  refine ⟨β, ρ, env, st, e, S, h.bind.imp (fun x s1 h1 v1 H1 ρ1 a1 S1 r1 => ?_) fun _ _ _ g => g⟩
  rw [R.assoc] at h1
  obtain ⟨i, rfl, h2⟩ := h1.bind.toI
  have h2 : RP ((ev q.C q.G b env s1).bind fun y s2 => (toI y s2).bind fun j s3 => R.ok ((some i).getD 0, j) s3) _ _ := h2
  refine ⟨β, ρ1, env, s1, e.stp a1, S1, (h2.bind.aftX a1).imp (fun y s2 h3 v2 H2 ρ2 a2 S2 r2 => ?_) fun _ _ _ g => g⟩
  obtain ⟨j, rfl, h4⟩ := h3.bind.toI
  exact ⟨i, j, rd_int r1, rd_int r2, h4 H2 ρ2 (a1.trans a2) S2⟩
theorem rgv_split {tp : Bool} {lo : Oe} {env : PL.Env} {st : Sto} {P : D → Sto → Prop} {Xx : Nat → D → Sto → Prop} (h : RP (ev q.C q.G (.rgv tp lo b) env st) P Xx) :
    RP ((evo q.C q.G lo env st).bind fun l s1 => (ev q.C q.G b env s1).bind fun y s2 => (toI y s2).bind fun j s3 => R.ok (l.getD 0, j) s3) (fun p s => RgOk p.1 p.2 ∧ P (if tp then .tup (rngD p.1 (p.2 - p.1).toNat) else .frz (rngD p.1 (p.2 - p.1).toNat)) s) Xx := by
  simp only [ev] at h
  cases hl : evo q.C q.G lo env st with
  | bad => rw [hl] at h; exact h.elim
  | exn c d s1 => rw [hl] at h; exact h
  | ok l s1 =>
    rw [hl] at h
    show RP ((ev q.C q.G b env s1).bind fun y s2 => (toI y s2).bind fun j s3 => R.ok (l.getD 0, j) s3) _ _
    have h : RP ((ev q.C q.G b env s1).bind fun y s2 => _) P Xx := h
    cases hv : ev q.C q.G b env s1 with
    | bad => rw [hv] at h; exact h.elim
    | exn c d s2 => rw [hv] at h; exact h
    | ok y s2 =>
      rw [hv] at h
      have h : RP ((toI y s2).bind fun j s3 => _) P Xx := h
      obtain ⟨j, rfl, h2⟩ := h.bind.toI
      split at h2
      · rename_i ok
        exact ⟨rg_ok ok, h2⟩
      · exact h2.elim
theorem s_lrg {p : Pos} {lo : Oe} {pr : Expr} (hc : X.calm = true) (hg : Gl X "list") (hm : X.mg "list" = none) (hr : PRg X pr (tRgW X.K q lo b)) (na : starEach [pr] X.env = (false, eval pr X.env) :: starEach [] X.env) :
    PE X (.Call (.Name "list" p) [pr] [] pos) (tW X.K q (.rgv false lo b)) ∧ PE X (.Call (.Name "list" p) [pr] [] pos) (tNew X.K q (evF q.C q.G (.rgv false lo b))) := by
  refine ⟨(pe_listRg hc hg hm hr na).w fun σ H Q ⟨β, ρ, env, st, e, S, h⟩ => ?_, (pe_listRg hc hg hm hr na).w fun σ H Q ⟨β, ρ, env, st, e, S, h⟩ => ?_⟩
  · refine ⟨β, ρ, env, st, e, S, (rgv_split h).imp (fun p s1 ⟨ok, g⟩ H1 ρ1 a1 S1 => ⟨ok, fun x hx => ?_⟩) fun _ _ _ g => g⟩
    exact (Post.after g a1).frz S1 (rgV_rd _ _) hx
  · refine ⟨β, ρ, env, st, e, S, (rgv_split (evF_ok h)).imp (fun p s1 ⟨ok, ds, g0, g⟩ H1 ρ1 a1 S1 => ⟨ok, fun x hx => ?_⟩) fun _ _ _ g => g⟩
    cases g0
    exact PostN.lay g S a1 S1 (rgV_rd _ _) hx
theorem s_trg {p : Pos} {lo : Oe} {pr : Expr} (hc : X.calm = true) (hg : Gl X "tuple") (hm : X.mg "tuple" = none) (hr : PRg X pr (tRgW X.K q lo b)) (na : starEach [pr] X.env = (false, eval pr X.env) :: starEach [] X.env) :
    PE X (.Call (.Name "tuple" p) [pr] [] pos) (tW X.K q (.rgv true lo b)) := (pe_tupRgX hc hg hm hr na).w fun σ H Q ⟨β, ρ, env, st, e, S, h⟩ => by
  refine ⟨β, ρ, env, st, e, S, (rgv_split h).imp (fun p s1 ⟨ok, g⟩ H1 ρ1 a1 S1 => ⟨ok, fun x o hx ho => ?_⟩) fun _ _ _ g => g⟩
  exact (Post.after g a1).tup S1 (rgV_rd _ _) hx ho
/-! a list that is no longer changed -/
theorem s_frz (ha : PE X pa (tW X.K q a)) : PE X pa (tW X.K q (.frz a)) := ha.w fun σ H Q ⟨β, ρ, env, st, e, S, h⟩ => by
  simp only [ev] at h
  refine ⟨β, ρ, env, st, e, S, h.bind.imp (fun x s1 h1 v1 H1 ρ1 a1 S1 r1 => ?_) fun _ _ _ g => g⟩
  cases x with
  | frz ds => exact h1 v1 H1 ρ1 a1 S1 r1
  | lst i =>
    simp only [frzD] at h1
    split at h1
    · rename_i ds hi
      obtain ⟨S2, a2⟩ := S1.freeze hi
      cases r1 with
      | @lst _ p g1 g2 =>
        obtain ⟨a', vs, e1, e2, e3⟩ := rs_at S1 hi
        rw [g2] at e1
        cases e1
        refine h1 _ H1 ρ1 (a1.trans a2) S2 (.frz e2 (fun z => z.elim (S1.notTbL e2) fun ⟨j, o, f1, f2, f3⟩ => ?_) (fun z => ?_) (e3.stp a2))
        · have := S1.nd i j p g2 f1
          subst this
          rw [List.getElem?_set_self (its_get hi)] at f2
          cases f2
          cases f3
        · exact (S1.busy p z).2 (List.mem_iff_getElem?.mpr ⟨i, g2⟩)
    · exact h1.elim
  | _ => exact h1.elim
/-! keyword calls -/
theorem pe_callN0 {CX : CXT} {k : Nat} {f : Addr} {fd : FuncData} {ps ks : List Str} {sp : Sp} {E : XK} {x : Str} {p : Pos} {kws : List Keyword} {tk : TA} {g : List Value → List Value → List Value} {gV : List V → List V → List V} (F : FnOk X.prog X.w X.K X.mg X.base CX k f fd ps sp) (hr : Room k X.A) (hg : Gl X x) (hm : X.mg x = some (.ref f)) (hk : PySem.W.keepIn X.K (.ref f) = true) (hb : KBn X.K fd ps 0 ks g gV) (hx : Passes CX X E)
    (hkw : PK X kws tk) (hall : (backToKw pos (keywordEach kws X.env)).all (·.1.isSome) = true) (hks : (backToKw pos (keywordEach kws X.env)).filterMap (·.1) = ks)
    (hdb : (x == ("__debug__" : Str)) = false) (hpl : ((backTo pos (starEach [] X.env)).any (·.1) || (backToKw pos (keywordEach kws X.env)).any (·.1.isNone)) = false) :
    PE X (.Call (.Name x p) [] kws pos) (tCallN 0 ks.length sp gV E (fun σ H Q => Q [] H) tk) := by
  refine ⟨fun pins s σ H Q I h => ?_⟩
  refine wpAny_Call_Name_kw (ld_glob I hg hm ?_ hdb)
  refine PySem.W.callWith_KW0 (h₀ := X.base) I.ok.mod.kin hk hall ?_ hpl
  refine thn (hkw.run pos pins s σ H _ I h) fun ws s2 ⟨zs, H2, I2, rz, l1, l2, q2⟩ => ⟨I2.kIn, ?_⟩
  rw [hks]
  exact run_fnN (us := []) (vs := []) F hr hb hx I2 .nil rz l1 l2 q2
def esLen : Es → Nat
  | .nil => 0
  | .cons _ es => esLen es + 1
theorem evs_length {C : Nat → List D → Sto → R D} {G : Nat → D} : ∀ (es : Es) {env : PL.Env} {st : Sto}, RP (evs C G es env st) (fun ds _ => ds.length = esLen es) (fun _ _ _ => True) ∨ evs C G es env st = .bad
  | .nil, _, _ => .inl rfl
  | .cons e es, env, st => by
    simp only [evs]
    cases hv : ev C G e env st with
    | ok x s1 =>
      show RP ((evs C G es env s1).bind fun xs s2 => R.ok (x :: xs) s2) _ _ ∨ ((evs C G es env s1).bind fun xs s2 => R.ok (x :: xs) s2) = .bad
      have q := evs_length (C := C) (G := G) es (env := env) (st := s1)
      cases hw : evs C G es env s1 with
      | ok xs s2 =>
        rw [hw] at q
        left
        have q2 : xs.length = esLen es := q.elim id fun z => nomatch z
        show xs.length + 1 = esLen es + 1
        rw [q2]
      | exn c d s2 => exact .inl trivial
      | bad => exact .inr rfl
    | exn c d s1 => exact .inl trivial
    | bad => exact .inr rfl
theorem s_callk {CX : CXT} {k f np : Nat} {fd : FuncData} {ps ks : List Str} {x : Str} {p : Pos} {pm : List Nat} {kes : Es} {kws : List Keyword} (hlen : ∀ ds st, RP (q.C f ds st) (fun _ _ => True) (fun _ _ _ => True) → ds.length = np) (F : FnOk X.prog X.w X.K X.mg X.base CX k (q.fa f) fd ps (spC X.K q q.C f np)) (hr : Room k X.A) (hg : Gl X x) (hm : X.mg x = some (.ref (q.fa f)))
    (hk : PySem.W.keepIn X.K (.ref (q.fa f)) = true) (hb : KBn X.K fd ps (esLen es) ks (gK Value.none pm) (gK V.non pm)) (hx : Passes CX X q.XE) (hdb : (x == ("__debug__" : Str)) = false) (hn : esLen kes = ks.length)
    (ha : PA X pes (tWs X.K q es)) (hkw : PK X kws (tWs X.K q kes)) (he : ∀ pe r, pes = pe :: r → starEach (pe :: r) X.env = (false, eval pe X.env) :: starEach r X.env) (hall : (backToKw pos (keywordEach kws X.env)).all (·.1.isSome) = true) (hks : (backToKw pos (keywordEach kws X.env)).filterMap (·.1) = ks)
    (hpl : ((backTo pos (starEach pes X.env)).any (·.1) || (backToKw pos (keywordEach kws X.env)).any (·.1.isNone)) = false) (hes : pes = [] → es = .nil) : PE X (.Call (.Name x p) pes kws pos) (tW X.K q (.callk f es kes pm)) := by
  have key : ∀ σ H Q, tW X.K q (.callk f es kes pm) σ H Q → tCallN (esLen es) ks.length (spC X.K q q.C f np) (gK V.non pm) q.XE (tWs X.K q es) (tWs X.K q kes) σ H Q := fun σ H Q h =>
    w_callk hlen (fun env st => evs_length es) (fun env st => hn ▸ evs_length kes) h
  cases pes with
  | cons pe r => exact (pe_callN F hr hg hm hk hb hx ha hkw hall hks hdb (he pe r rfl) hpl).w key
  | nil =>
    have := hes rfl
    subst this
    refine (pe_callN0 F hr hg hm hk hb hx hkw hall hks hdb hpl).w fun σ H Q h => ?_
    obtain ⟨β, ρ, env, st, e, S, h⟩ := key σ H Q h
    simp only [evs] at h
    exact h [] H ρ .refl S .nil
theorem z_nev {ps : Stmt} : PS X ps (tS X.K q .nev) := ⟨fun pins s σ H En I ⟨β, ρ, env, st, e, S, h⟩ => by
  simp only [ex] at h
  exact h.elim⟩
end
end PL

set_option Elab.async false
set_option linter.all false
set_option maxRecDepth 100000
set_option maxHeartbeats 2000000
/-! math.comb, itertools.permutations. -/
namespace PL
open PySem PySem.Spec PyProof.Rows L2
/-! ### comb -/
theorem comb_log : ∀ n < 33, ∀ k < 33, (combV n k).natAbs.log2 < 64 := by decide +kernel
theorem entry_comb : entryFor table "math.comb" = some Builtin.«math.comb» := entryFor_of_tree (by kernel_rfl)
theorem kind_comb : builtinKind "math.comb" = none := by kernel_rfl
theorem plain_comb : plainId "math.comb" = true := by decide +kernel
theorem args_comb (a b : Value) : argsOk "math.comb" ⟨[a, b], []⟩ := by unfold argsOk; kernel_rfl
theorem run_comb0 (a : Nat) (t : Tok) (b : Nat) (u : Tok) (h : (b : Int) > (a : Int)) : Gives (Builtin.«math.comb» ⟨[.int (a : Nat) t, .int (b : Nat) u], []⟩) (.int 0) :=
  .of_wp fun M A E s Q hq => by
    obtain ⟨hp, g, d, tk, os⟩ := s
    have h1 : ¬ ((a : Nat) : Int) < 0 := by omega
    have h2 : ¬ ((b : Nat) : Int) < 0 := by omega
    wp_walk
    exact ⟨_, rfl, hq⟩
theorem run_comb1 (a : Nat) (t : Tok) (b : Nat) (u : Tok) (h : ¬ (b : Int) > (a : Int)) (ha : a < 33) (hsz : (Builtin.Math.fallingProduct (a : Int) (min (b : Int) ((a : Int) - (b : Int))).toNat / Builtin.Math.fallingProduct (min (b : Int) ((a : Int) - (b : Int))) (min (b : Int) ((a : Int) - (b : Int))).toNat).natAbs.log2 < bitsLine) :
    Gives (Builtin.«math.comb» ⟨[.int (a : Nat) t, .int (b : Nat) u], []⟩) (.int (Builtin.Math.fallingProduct (a : Int) (min (b : Int) ((a : Int) - (b : Int))).toNat / Builtin.Math.fallingProduct (min (b : Int) ((a : Int) - (b : Int))) (min (b : Int) ((a : Int) - (b : Int))).toNat)) :=
  .of_wp fun M A E s Q hq => by
    obtain ⟨hp, g, d, tk, os⟩ := s
    have h1 : ¬ ((a : Nat) : Int) < 0 := by omega
    have h2 : ¬ ((b : Nat) : Int) < 0 := by omega
    have h3 : ¬ (min (b : Int) ((a : Int) - (b : Int))) > Builtin.Math.maxSsize := by
      show ¬ _ > (2 ^ 63 - 1 : Int)
      omega
    have h4 : ¬ (min (b : Int) ((a : Int) - (b : Int))) > Builtin.Math.manyFactors := by
      show ¬ _ > (20000 : Int)
      omega
    have h5 : ¬ (min (b : Int) ((a : Int) - (b : Int))) > 9000 := by omega
    wp_walk
    try (refine wpAny_ite_false (decide_eq_false (Nat.not_le.mpr hsz)) ?_; wp_walk)
    exact ⟨_, rfl, hq⟩
theorem call_comb {X : Cx} {pins : List (Addr × PySem.Obj)} {σ : L2.St} {H : Hp} {s : Shared} {Q : VK} {n k : Nat} {t u : Tok} (I : Inv X pins σ H s) (hn : n < 33) (hk : k < 33) (q : Q (.int (combV n k)) H) :
    wpAny (model X.prog X.w) X.A (PySem.call (.builtin "math.comb") [.int (n : Nat) t, .int (k : Nat) u]) (EP X pins σ Q) X.xe s := by
  by_cases h : (k : Int) > (n : Int)
  · have e : combV n k = 0 := if_pos (by omega)
    rw [e] at q
    exact call_function_meets kind_comb plain_comb entry_comb (args_comb _ _) (run_comb0 n t k u h).meets ⟨.int 0, H, I.tok _, ⟨_, rfl⟩, q⟩
  · have e1 : (min (k : Int) ((n : Int) - (k : Int))) = ((min k (n - k) : Nat) : Int) := by omega
    have e2 : (min (k : Int) ((n : Int) - (k : Int))).toNat = min k (n - k) := by omega
    have e : combV n k = Builtin.Math.fallingProduct (n : Int) (min (k : Int) ((n : Int) - (k : Int))).toNat / Builtin.Math.fallingProduct (min (k : Int) ((n : Int) - (k : Int))) (min (k : Int) ((n : Int) - (k : Int))).toNat := by
      rw [e2, e1]
      exact if_neg (by omega)
    have hz := comb_log n hn k hk
    rw [e] at q hz
    exact call_function_meets kind_comb plain_comb entry_comb (args_comb _ _) (run_comb1 n t k u h hn (Nat.lt_of_lt_of_le hz (by decide))).meets ⟨.int _, H, I.tok _, ⟨_, rfl⟩, q⟩
/-! ### permutations -/
theorem slot_perm_next : Slot "itertools.permutations" "__next__" "itertools.permutations.__next__" :=
  .of (owner := "itertools.permutations") (n := "__next__") (by rw [typeLookup_type, builtinLookup_eq_fast]; kernel_rfl) (by decide +kernel) (by decide +kernel) (by decide +kernel)
    (by first | exact .inl (by decide +kernel) | exact .inr (by decide +kernel)) (by rw [isSubtype_type]; kernel_rfl)
theorem entry_perm_next : entryFor table "itertools.permutations.__next__" = some Builtin.«itertools.permutations.__next__» := entryFor_of_tree (by kernel_rfl)
theorem slot_perm_iter : Slot "itertools.permutations" "__iter__" "itertools.permutations.__iter__" :=
  .of (owner := "itertools.permutations") (n := "__iter__") (by rw [typeLookup_type, builtinLookup_eq_fast]; kernel_rfl) (by decide +kernel) (by decide +kernel) (by decide +kernel)
    (by first | exact .inl (by decide +kernel) | exact .inr (by decide +kernel)) (by rw [isSubtype_type]; kernel_rfl)
theorem entry_perm_iter : entryFor table "itertools.permutations.__iter__" = some Builtin.«dict_keyiterator.__iter__» :=
  entryFor_alias (id' := "dict_keyiterator.__iter__") (by kernel_rfl) (by first | rfl | decide +kernel | (unfold String.splitOn; simp +decide [String.splitOnAux])) (by decide +kernel) (by kernel_rfl)
theorem args_perm_next (a : Value) : argsOk "itertools.permutations.__next__" ⟨[a], []⟩ := by unfold argsOk; kernel_rfl
theorem args_perm_iter (a : Value) : argsOk "itertools.permutations.__iter__" ⟨[a], []⟩ := by unfold argsOk; kernel_rfl
theorem mro_perm : mroOf (.type "itertools.permutations") = pure [.type "itertools.permutations", .type "object"] := by rw [mroOf_type]; kernel_rfl
theorem lookup_perm_new : typeLookup (.type "itertools.permutations") "__new__" = pure (some (.builtin "itertools.permutations.__new__")) := by rw [typeLookup_type, builtinLookup_eq_fast]; kernel_rfl
theorem slot_perm_init : Slot "itertools.permutations" "__init__" "object.__init__" :=
  .of (owner := "object") (n := "__init__") (by rw [typeLookup_type, builtinLookup_eq_fast]; kernel_rfl) (by decide +kernel) (by decide +kernel) (by decide +kernel)
    (by first | exact .inl (by decide +kernel) | exact .inr (by decide +kernel)) (by rw [isSubtype_type]; kernel_rfl)
theorem called_perm : TypeCalled "itertools.permutations" "itertools.permutations.__new__" "object.__init__" :=
  ⟨by decide +kernel, by decide +kernel, ⟨_, _, mro_perm⟩, madeBy_type mro_perm lookup_perm_new (by decide +kernel), by decide +kernel, by rw [isSubtype_type]; kernel_rfl, slot_perm_init⟩
theorem typeCall_perm (a : Value) : checkTypeCall "itertools.permutations" ⟨[a], []⟩ = pure () := by kernel_rfl
theorem newCall_perm (a : Value) : checkBuiltinCall "itertools.permutations.__new__" ⟨[.type "itertools.permutations", a], []⟩ = pure () := by kernel_rfl
theorem entry_perm_new : entryFor table "itertools.permutations.__new__" = some Builtin.«itertools.permutations.__new__» := entryFor_of_tree (by kernel_rfl)
theorem sub_perm : isSubtype (.type "itertools.permutations") (.type "itertools.permutations") = pure true := by rw [isSubtype_type]; kernel_rfl
open Builtin Builtin.Itertools in
def permNext (f : Nat → Nat → List Nat → List Nat → Option (List Nat × List Nat)) : Builtin := fun args => do
  let (self, _) ← slotArgs "__next__" 0 args
  let items ← itPoolItems (← field self 0)
  let n := items.size
  let r := (← itIntField self 2).toNat
  let numbers ← itNumbersFrom self 4
  let result (indices : List Nat) : Sem Fin := do
    let t ← newTuple ((indices.take r).map fun i => items.getD i .none)
    let before ← field self 3
    setField self 3 t
    letGo [before] [t]
    ret t
  match ← itIntField self 1 with
  | 0 => setField self 1 (rawInt 1); result numbers
  | 1 =>
    match f n r (numbers.take n) (numbers.drop n) with
    | some (indices, cycles) => itSetNumbersFrom self 4 (indices ++ cycles); result indices
    | none => setField self 1 (rawInt 2); itStop
  | _ => rule "itertools.permutations.ended"; itStop
theorem perm_next_eq : ∃ f, (∀ n ix cy, f n 0 ix cy = none) ∧ (∀ n i ix cy, f n (i + 1) ix cy = if (cy.getD i 0 - 1 == 0) = true then f n i (ix.take i ++ ix.drop (i + 1) ++ [ix.getD i 0]) (cy.set i (n - i))
    else some ((ix.set i (ix.getD (n - (cy.getD i 0 - 1)) 0)).set (n - (cy.getD i 0 - 1)) (ix.getD i 0), cy.set i (cy.getD i 0 - 1))) ∧ Builtin.«itertools.permutations.__next__» = permNext f :=
  ⟨_, fun _ _ _ => rfl, fun _ _ _ _ => rfl, rfl⟩
theorem perm_next : Builtin.«itertools.permutations.__next__» = permNext nextP := by
  obtain ⟨f, h0, h1, e⟩ := perm_next_eq
  have : f = nextP := by
    funext n i ix cy
    induction i generalizing ix cy with
    | zero => rw [h0]; rfl
    | succ i ih => rw [h1, ih]; rfl
  rw [e, this]
end PL

set_option Elab.async false
set_option linter.all false
set_option maxRecDepth 100000
set_option maxHeartbeats 2000000
namespace PL
open PySem PySem.Spec PyProof.Rows L2
def permV (P : Addr) (m : Int) (n : Nat) (last : Value) (ns : List Nat) : List Value := .ref P :: rawInt m :: rawInt n :: last :: ns.map fun (k : Nat) => rawInt k
def IsPerm (h : Heap) (it P : Addr) (m : Int) (n : Nat) (last : Value) (ns : List Nat) : Prop := ∃ o, h.get? it = some o ∧ o.cls = .type "itertools.permutations" ∧ o.data = .fields (permV P m n last ns).toArray
theorem IsPerm.typeIs {s : Shared} {it P : Addr} {m : Int} {n : Nat} {last : Value} {ns : List Nat} (x : IsPerm s.heap it P m n last ns) : s.TypeIs (.ref it) "itertools.permutations" := let ⟨o, ho, hc, _⟩ := x; ⟨o, ho, hc⟩
theorem perm_nums (P : Addr) (m : Int) (n : Nat) (last : Value) (ns : List Nat) : ((permV P m n last ns).toArray.toList.drop 4).map (fun | .int n _ => n.toNat | _ => 0) = ns := by
  show (ns.map fun (k : Nat) => rawInt k).map _ = ns
  rw [List.map_map]
  conv => rhs; rw [← List.map_id ns]
  apply List.map_congr_left
  intro k _
  rfl
section
variable {prog : Program} {w : World} {A : Around} {E : Value → Shared → Prop} {s : Shared}
theorem perm_first {it P : Addr} {n : Nat} {last : Value} {ns : List Nat} {oP : PySem.Obj} {items : Array Value} {k : Nat} {Q : Option Value → Shared → Prop} (hit : IsPerm s.heap it P 0 n last ns) (hP : s.heap.get? P = some oP) (hPd : oP.data = .seq items k) (hsz : items.size = n) (hn : n ≤ 8)
    (hQ : ∀ h', IsPerm h' it P 1 n (.ref s.heap.objs.size) ns → h'.get? s.heap.objs.size = some { cls := .type "tuple", data := .seq ((ns.take n).map fun i => items.getD i .none).toArray } → (∀ b o, b ≠ it → s.heap.get? b = some o → h'.get? b = some o) → Q (some (.ref s.heap.objs.size)) { s with heap := h' }) :
    wpAny (model prog w) A (pyNext (.ref it)) Q E s := by
  obtain ⟨o, ho, hc, hd⟩ := id hit
  unfold pyNext
  refine wpAny_bind (wpAny_attempt (wpAny_callSpecial?_slot (name := Str.ofString "__next__") hit.typeIs slot_perm_next
    (wpAny_call_entry slot_perm_next hit.typeIs (perm_next ▸ entry_perm_next) ?_ (args_perm_next _))))
  unfold permNext
  refine wpAny_bind (wpAny_of_eq (a := (Value.ref it, [])) rfl ?_)
  try dsimp only
  refine wpAny_bind (wpAny_field ho hd (x := .ref P) rfl ?_)
  refine wpAny_bind (show wpAny _ _ (seqItems? (.ref P) >>= _) _ _ s from wpAny_bind (wpAny_seqItems hP hPd (wpAny_pure ?_)))
  try dsimp only
  refine wpAny_bind (show wpAny _ _ (field (.ref it) 2 >>= _) _ _ s from wpAny_bind (wpAny_field ho hd (x := rawInt n) rfl (wpAny_pure ?_)))
  try dsimp only
  refine wpAny_bind (show wpAny _ _ (load it >>= _) _ _ s from wpAny_bind (wpAny_load ho ?_))
  rw [hd]
  refine wpAny_of_eq (a := ns) (show (pure _ : Sem (List Nat)) = pure ns from congrArg pure (perm_nums P 0 n last ns)) ?_
  refine wpAny_bind (show wpAny _ _ (field (.ref it) 1 >>= _) _ _ s from wpAny_bind (wpAny_field ho hd (x := rawInt 0) rfl (wpAny_pure ?_)))
  show wpAny _ _ (setField (.ref it) 1 (rawInt 1) >>= _) _ _ s
  have hd1 : (PySem.Obj.mapFields (·.setIfInBounds 1 (rawInt 1)) o).data = .fields (permV P 1 n last ns).toArray := by
    rw [Obj.data_mapFields hd]
    simp [permV]
  have ho1 := Heap.get?_update_self (PySem.Obj.mapFields (·.setIfInBounds 1 (rawInt 1))) ho (Obj.isFreed_of_fields hd1)
  refine wpAny_bind (wpAny_setField ho hd (by simp [permV]) ?_)
  have hsz1 : (s.heap.update it (PySem.Obj.mapFields (·.setIfInBounds 1 (rawInt 1)))).objs.size = s.heap.objs.size := Heap.size_update ..
  simp only [Int.toNat_natCast]
  refine wpAny_bind (wpAny_newTuple ?_ ?_)
  · have e1 := Heap.get?_push_of_some { cls := .type "tuple", data := .seq ((ns.take n).map fun i => items.getD i .none).toArray } ho1
    refine wpAny_bind (wpAny_field e1 hd1 (x := last) rfl ?_)
    refine wpAny_bind (wpAny_setField e1 hd1 (by simp [permV]) ?_)
    refine wpAny_bind (wpAny_letGo (wpAny_pure ⟨_, rfl, wpAny_pure ?_⟩))
    rw [hsz1]
    have hT := Heap.get?_push_size (s.heap.update it (PySem.Obj.mapFields (·.setIfInBounds 1 (rawInt 1)))) (o := { cls := .type "tuple", data := .seq ((ns.take n).map fun i => items.getD i .none).toArray }) rfl
    rw [hsz1] at hT
    have hlt : it < s.heap.objs.size := Heap.lt_size ho
    have hd2 : (PySem.Obj.mapFields (·.setIfInBounds 3 (.ref s.heap.objs.size)) (PySem.Obj.mapFields (·.setIfInBounds 1 (rawInt 1)) o)).data = .fields (permV P 1 n (.ref s.heap.objs.size) ns).toArray := by
      rw [Obj.data_mapFields hd1]
      simp [permV]
    refine hQ _ ⟨_, Heap.get?_update_self _ e1 (Obj.isFreed_of_fields hd2), ?_, hd2⟩ ?_ fun b ob hb e => ?_
    · rw [Obj.cls_mapFields, Obj.cls_mapFields, hc]
    · rw [Heap.get?_update_other _ _ (Nat.ne_of_lt hlt)]
      exact hT
    · rw [Heap.get?_update_other _ _ (Ne.symm hb)]
      refine Heap.get?_push_of_some _ ?_
      rw [Heap.get?_update_other _ _ (Ne.symm hb)]
      exact e
  · rw [List.length_map, List.length_take]
    exact Nat.le_trans (Nat.min_le_left _ _) (Nat.le_trans hn (by decide))
theorem perm_more {it P : Addr} {n : Nat} {last : Value} {ns ix cy : List Nat} {oP : PySem.Obj} {items : Array Value} {k : Nat} {Q : Option Value → Shared → Prop} (hit : IsPerm s.heap it P 1 n last ns) (hP : s.heap.get? P = some oP) (hPd : oP.data = .seq items k) (hsz : items.size = n) (hn : n ≤ 8)
    (hx : nextP n n (ns.take n) (ns.drop n) = some (ix, cy)) (hl : (ix ++ cy).length ≤ 16)
    (hQ : ∀ h', IsPerm h' it P 1 n (.ref s.heap.objs.size) (ix ++ cy) → h'.get? s.heap.objs.size = some { cls := .type "tuple", data := .seq ((ix.take n).map fun i => items.getD i .none).toArray } → (∀ b o, b ≠ it → s.heap.get? b = some o → h'.get? b = some o) → Q (some (.ref s.heap.objs.size)) { s with heap := h' }) :
    wpAny (model prog w) A (pyNext (.ref it)) Q E s := by
  obtain ⟨o, ho, hc, hd⟩ := id hit
  unfold pyNext
  refine wpAny_bind (wpAny_attempt (wpAny_callSpecial?_slot (name := Str.ofString "__next__") hit.typeIs slot_perm_next
    (wpAny_call_entry slot_perm_next hit.typeIs (perm_next ▸ entry_perm_next) ?_ (args_perm_next _))))
  unfold permNext
  refine wpAny_bind (wpAny_of_eq (a := (Value.ref it, [])) rfl ?_)
  try dsimp only
  refine wpAny_bind (wpAny_field ho hd (x := .ref P) rfl ?_)
  refine wpAny_bind (show wpAny _ _ (seqItems? (.ref P) >>= _) _ _ s from wpAny_bind (wpAny_seqItems hP hPd (wpAny_pure ?_)))
  try dsimp only
  refine wpAny_bind (show wpAny _ _ (field (.ref it) 2 >>= _) _ _ s from wpAny_bind (wpAny_field ho hd (x := rawInt n) rfl (wpAny_pure ?_)))
  try dsimp only
  refine wpAny_bind (show wpAny _ _ (load it >>= _) _ _ s from wpAny_bind (wpAny_load ho ?_))
  rw [hd]
  refine wpAny_of_eq (a := ns) (show (pure _ : Sem (List Nat)) = pure ns from congrArg pure (perm_nums P 1 n last ns)) ?_
  refine wpAny_bind (show wpAny _ _ (field (.ref it) 1 >>= _) _ _ s from wpAny_bind (wpAny_field ho hd (x := rawInt 1) rfl (wpAny_pure ?_)))
  simp only [Int.toNat_natCast, hsz, hx]
  show wpAny _ _ (updateFields it (fun fs => fs.extract 0 4 ++ ((ix ++ cy).map fun (n : Nat) => rawInt n).toArray) >>= _) _ _ s
  have hd1 : (PySem.Obj.mapFields (fun fs => fs.extract 0 4 ++ ((ix ++ cy).map fun (n : Nat) => rawInt n).toArray) o).data = .fields (permV P 1 n last (ix ++ cy)).toArray := by
    rw [Obj.data_mapFields hd]
    simp [permV]
  have ho1 := Heap.get?_update_self (PySem.Obj.mapFields (fun fs => fs.extract 0 4 ++ ((ix ++ cy).map fun (n : Nat) => rawInt n).toArray)) ho (Obj.isFreed_of_fields hd1)
  have hsz1 : (s.heap.update it (PySem.Obj.mapFields (fun fs => fs.extract 0 4 ++ ((ix ++ cy).map fun (n : Nat) => rawInt n).toArray))).objs.size = s.heap.objs.size := Heap.size_update ..
  refine wpAny_bind (wpAny_updateFields ho hd ?_ ?_)
  · refine wpAny_bind (wpAny_newTuple ?_ ?_)
    · have e1 := Heap.get?_push_of_some { cls := .type "tuple", data := .seq ((ix.take n).map fun i => items.getD i .none).toArray } ho1
      refine wpAny_bind (wpAny_field e1 hd1 (x := last) rfl ?_)
      refine wpAny_bind (wpAny_setField e1 hd1 (by simp [permV]) ?_)
      refine wpAny_bind (wpAny_letGo (wpAny_pure ⟨_, rfl, wpAny_pure ?_⟩))
      rw [hsz1]
      have hT := Heap.get?_push_size (s.heap.update it (PySem.Obj.mapFields (fun fs => fs.extract 0 4 ++ ((ix ++ cy).map fun (n : Nat) => rawInt n).toArray))) (o := { cls := .type "tuple", data := .seq ((ix.take n).map fun i => items.getD i .none).toArray }) rfl
      rw [hsz1] at hT
      have hlt : it < s.heap.objs.size := Heap.lt_size ho
      have hd2 : (PySem.Obj.mapFields (·.setIfInBounds 3 (.ref s.heap.objs.size)) (PySem.Obj.mapFields (fun fs => fs.extract 0 4 ++ ((ix ++ cy).map fun (n : Nat) => rawInt n).toArray) o)).data = .fields (permV P 1 n (.ref s.heap.objs.size) (ix ++ cy)).toArray := by
        rw [Obj.data_mapFields hd1]
        simp [permV]
      refine hQ _ ⟨_, Heap.get?_update_self _ e1 (Obj.isFreed_of_fields hd2), ?_, hd2⟩ ?_ fun b ob hb e => ?_
      · rw [Obj.cls_mapFields, Obj.cls_mapFields, hc]
      · rw [Heap.get?_update_other _ _ (Nat.ne_of_lt hlt)]
        exact hT
      · rw [Heap.get?_update_other _ _ (Ne.symm hb)]
        refine Heap.get?_push_of_some _ ?_
        rw [Heap.get?_update_other _ _ (Ne.symm hb)]
        exact e
    · rw [List.length_map, List.length_take]
      exact Nat.le_trans (Nat.min_le_left _ _) (Nat.le_trans hn (by decide))
  · rw [show (((permV P 1 n last ns).toArray.extract 0 4 ++ ((ix ++ cy).map fun (n : Nat) => rawInt n).toArray)).size = 4 + (ix ++ cy).length by simp [permV]; omega]
    exact Nat.le_trans (Nat.add_le_add_left hl 4) (by decide)
theorem perm_end {it P : Addr} {n : Nat} {last : Value} {ns : List Nat} {oP : PySem.Obj} {items : Array Value} {k : Nat} {Q : Option Value → Shared → Prop} (hh : A.handled = none) (hit : IsPerm s.heap it P 1 n last ns) (hP : s.heap.get? P = some oP) (hPd : oP.data = .seq items k) (hsz : items.size = n)
    (hx : nextP n n (ns.take n) (ns.drop n) = none) (hQ : ∀ h', Heap.ExtBut it s.heap h' → Q none { s with heap := h' }) :
    wpAny (model prog w) A (pyNext (.ref it)) Q E s := by
  obtain ⟨o, ho, hc, hd⟩ := id hit
  unfold pyNext
  refine wpAny_bind (wpAny_attempt (wpAny_callSpecial?_slot (name := Str.ofString "__next__") hit.typeIs slot_perm_next
    (wpAny_call_entry slot_perm_next hit.typeIs (perm_next ▸ entry_perm_next) ?_ (args_perm_next _))))
  unfold permNext
  refine wpAny_bind (wpAny_of_eq (a := (Value.ref it, [])) rfl ?_)
  try dsimp only
  refine wpAny_bind (wpAny_field ho hd (x := .ref P) rfl ?_)
  refine wpAny_bind (show wpAny _ _ (seqItems? (.ref P) >>= _) _ _ s from wpAny_bind (wpAny_seqItems hP hPd (wpAny_pure ?_)))
  try dsimp only
  refine wpAny_bind (show wpAny _ _ (field (.ref it) 2 >>= _) _ _ s from wpAny_bind (wpAny_field ho hd (x := rawInt n) rfl (wpAny_pure ?_)))
  try dsimp only
  refine wpAny_bind (show wpAny _ _ (load it >>= _) _ _ s from wpAny_bind (wpAny_load ho ?_))
  rw [hd]
  refine wpAny_of_eq (a := ns) (show (pure _ : Sem (List Nat)) = pure ns from congrArg pure (perm_nums P 1 n last ns)) ?_
  refine wpAny_bind (show wpAny _ _ (field (.ref it) 1 >>= _) _ _ s from wpAny_bind (wpAny_field ho hd (x := rawInt 1) rfl (wpAny_pure ?_)))
  simp only [Int.toNat_natCast, hsz, hx]
  refine wpAny_bind (wpAny_setField ho hd (by simp [permV]) ?_)
  show wpAny _ _ (newExc (.type "StopIteration") [] >>= _) _ _ _
  refine wpAny_bind ?_
  simp only [newExc, newTuple]
  refine wpAny_bind (wpAny_newObj_type ?_ (by size_fits))
  refine wpAny_bind (m := firstArgMember _ _) (wpAny_of_eq (a := Value.none) (by first | rfl | (simp only [firstArgMember]; rfl)) ?_)
  refine wpAny_newObj_type ?_ (by size_fits)
  simp only [raiseNew]
  refine wpAny_bind (wpAny_handled ?_)
  first | rw [show A.in1.handled = none from hh] | rw [hh]
  refine wpAny_bind (wpAny_pure (wpAny_throw ?_))
  refine wpAny_bind (wpAny_isInstance (T := "StopIteration") (b := true) ⟨_, Heap.get?_push_size _ rfl, rfl⟩ isSubtype_stop ?_)
  exact wpAny_pure (hQ _ (((Heap.SameBut.update ..).extBut.push _).push _))
theorem perm_iter {it P : Addr} {m : Int} {n : Nat} {last : Value} {ns : List Nat} {Q : Value → Shared → Prop} (hit : IsPerm s.heap it P m n last ns) (h : Q (.ref it) s) : wpAny (model prog w) A (pyIter (.ref it)) Q E s := by
  refine wpAny_pyIter_slot hit.typeIs slot_perm_iter (wpAny_call_entry slot_perm_iter hit.typeIs entry_perm_iter ?_ (args_perm_iter _))
  show wpAny _ _ (ret (.ref it)) _ _ s
  exact wpAny_pure ⟨_, rfl, "itertools.permutations", _, hit.typeIs, slot_perm_next.lookup, h⟩
end
end PL

set_option Elab.async false
set_option linter.all false
set_option maxRecDepth 100000
set_option maxHeartbeats 2000000
namespace PL
open PySem PySem.Spec PyProof.Rows L2
theorem plain_perm_new : plainId "itertools.permutations.__new__" = true := by decide +kernel
theorem cls_perm (a : Value) : Builtin.Itertools.itClassAndRest "permutations" ⟨[.type "itertools.permutations", a], []⟩ = pure (.type "itertools.permutations", [a]) := by
  have e : ("itertools." ++ "permutations" : String) = "itertools.permutations" := by decide
  unfold Builtin.Itertools.itClassAndRest
  simp only [e, isType, sub_perm, pure_bind, Bool.not_true, Bool.false_eq_true, if_false]
section
variable {prog : Program} {w : World} {A : Around} {E : Value → Shared → Prop} {s : Shared}
theorem permV_start {P : Addr} {n : Nat} (last : Value) : [Value.ref P, rawInt 0, rawInt (n : Int), last] ++ (List.range n).map (fun (i : Nat) => rawInt i) ++ (List.range n).map (fun (i : Nat) => rawInt ((n : Int) - i)) = permV P 0 n last (permStart n) := by
  unfold permV permStart
  have e : (List.range n).map (fun (i : Nat) => rawInt ((n : Int) - i)) = ((List.range n).map fun i => n - i).map fun (k : Nat) => rawInt k := by
    rw [List.map_map]
    apply List.map_congr_left
    intro i hi
    have : i < n := by simpa using hi
    show rawInt ((n : Int) - (i : Int)) = rawInt ((n - i : Nat) : Int)
    congr 1
    omega
  rw [e, List.map_append]
  rfl
theorem code_perm_new {r : Addr} {b : Int} {t u v : Tok} {n : Nat} {Q₁ : Value → Shared → Prop} (hh : A.handled = none) (hr : IsRange s.heap r 0 b 1 t u v) (hsmall : Builtin.Range.small 0 b 1 = true) (hn : Builtin.Range.rangeSize 0 b 1 = n) (hlen : n ≤ 8)
    (h : ∀ (h' : Heap) (tk : Nat) (acc : Array Value), (∀ b o, s.heap.get? b = some o → h'.get? b = some o) → ItemsOf (fun i v => ∃ t, v = .int (0 + i * 1) t) acc n →
      Q₁ (.ref (h'.objs.size + 1)) { s with heap := (h'.push { cls := .type "tuple", data := .seq acc }).push { cls := .type "itertools.permutations", data := .fields (permV h'.objs.size 0 n .none (permStart n)).toArray }, toks := tk }) :
    codeAny (model prog w) A (.call (.builtin "itertools.permutations.__new__") ⟨[.type "itertools.permutations", .ref r], []⟩) (wants Q₁ E) s := by
  refine codeAny_of_tree ?_
  show wpAny _ A.in1 (do checkBuiltinCall "itertools.permutations.__new__" ⟨[.type "itertools.permutations", .ref r], []⟩; again (.builtin "itertools.permutations.__new__" ⟨[.type "itertools.permutations", .ref r], []⟩)) _ _ s
  refine wpAny_bind (wpAny_of_eq (newCall_perm _) (wpAny_pure ⟨plainId_quiet plain_perm_new _, codeAny_builtin entry_perm_new ?_⟩))
  rw [Around.under_plainId plain_perm_new _]
  have hsub := sub_perm
  have hTI : s.TypeIs (.ref r) "range" := ⟨_, hr, rfl⟩
  have hh1 : A.in1.handled = none := hh
  have hlen2 : n ≤ 2 ^ 24 := Nat.le_trans hlen (by decide)
  unfold Builtin.«itertools.permutations.__new__»
  refine wpAny_bind (wpAny_of_eq (cls_perm (.ref r)) ?_)
  try dsimp only
  refine wpAny_bind (wpAny_of_eq (a := [some (.ref r), none]) (by first | rfl | kernel_rfl) ?_)
  try dsimp only
  refine wpAny_bind (collect_range (A := A.in1) hh1 hr hsmall hn hlen2 fun h' tk acc hk hacc => ?_)
  have hl : acc.toList.length = n := by rw [Array.length_toList]; exact hacc.1
  try dsimp only
  rw [hl]
  show wpAny _ _ ((pure (n : Int) : Sem Int) >>= _) _ _ _
  refine wpAny_bind (wpAny_pure ?_)
  try dsimp only
  rw [if_neg (by omega)]
  rw [if_neg (by
    show ¬ (decide ((n : Int) > 2 ^ 20)) = true
    rw [decide_eq_true_eq]
    omega)]
  rw [Int.toNat_natCast, if_neg (Nat.lt_irrefl n)]
  show wpAny _ _ (newTuple acc.toList >>= _) _ _ _
  refine wpAny_bind (wpAny_newTuple ?_ (by rw [hl]; exact Nat.le_trans hlen (by decide)))
  have hd : typeHasDict (.type "itertools.permutations") = false := by kernel_rfl
  unfold Builtin.Itertools.itNewRecord
  rw [hd]
  have e : acc.toList.toArray = acc := by simp
  rw [if_pos (show (!false) = true from rfl), permV_start]
  refine wpAny_bind (wpAny_newObj_type ?_ ?_)
  · refine wpAny_pure ?_
    have hz : (h'.push { cls := .type "tuple", data := .seq acc.toList.toArray }).objs.size = h'.objs.size + 1 := Heap.size_push ..
    have := h h' tk acc hk hacc
    rw [← e, ← hz] at this
    exact this
  · show (permV h'.objs.size 0 n Value.none (permStart n)).toArray.size ≤ sizeLine + 2
    have : (permV h'.objs.size 0 n Value.none (permStart n)).toArray.size = 4 + (n + n) := by
      simp [permV, permStart]
      omega
    rw [this]
    exact Nat.le_trans (show 4 + (n + n) ≤ 20 by omega) (by decide)
theorem call_perm {r : Addr} {b : Int} {t u v : Tok} {n : Nat} {Q : Value → Shared → Prop} (hh : A.handled = none) (hr : IsRange s.heap r 0 b 1 t u v) (hsmall : Builtin.Range.small 0 b 1 = true) (hn : Builtin.Range.rangeSize 0 b 1 = n) (hlen : n ≤ 8)
    (hQ : ∀ (h' : Heap) (tk : Nat) (acc : Array Value), (∀ b o, s.heap.get? b = some o → h'.get? b = some o) → ItemsOf (fun i v => ∃ t, v = .int (0 + i * 1) t) acc n →
      Q (.ref (h'.objs.size + 1)) { s with heap := (h'.push { cls := .type "tuple", data := .seq acc }).push { cls := .type "itertools.permutations", data := .fields (permV h'.objs.size 0 n .none (permStart n)).toArray }, toks := tk }) :
    wpAny (model prog w) A (PySem.call (.type "itertools.permutations") [.ref r]) Q E s := by
  refine callType_codes (Q₁ := fun obj s₁ => s₁.TypeIs obj "itertools.permutations" ∧ Q obj s₁) called_perm (typeCall_perm _) F.entry_object_init
    (code_perm_new (A := A.in1) hh hr hsmall hn hlen fun h' tk acc hk hacc => ⟨⟨{ cls := .type "itertools.permutations", data := .fields (permV h'.objs.size 0 n .none (permStart n)).toArray }, ?_, rfl⟩, hQ h' tk acc hk hacc⟩) fun obj s₁ h₁ => ?_
  · have hz : (h'.push { cls := .type "tuple", data := .seq acc }).objs.size = h'.objs.size + 1 := Heap.size_push ..
    rw [← hz]
    exact Heap.get?_push_size _ rfl
  · exact ⟨h₁.1, F.args_object_init_2 obj _, object_init_meets called_perm.init.lookup called_perm.made (by decide) prog w A.in1 _ s₁ ⟨h₁.1, rfl, h₁.2⟩⟩
end
/-! ### the orders -/
theorem perm_facts : ∀ n ≤ 4, 1 ≤ n → (permSs n).head? = some (permStart n) ∧ (∀ i, i + 1 < (permSs n).length → nextP n n (((permSs n).getD i []).take n) (((permSs n).getD i []).drop n) = some (((permSs n).getD (i + 1) []).take n, ((permSs n).getD (i + 1) []).drop n)) ∧
    nextP n n (((permSs n).getD ((permSs n).length - 1) []).take n) (((permSs n).getD ((permSs n).length - 1) []).drop n) = none ∧ (∀ ns ∈ permSs n, ns.length = n + n ∧ ∀ k ∈ ns.take n, k < n) := by
  intro n h4 h1
  have : n = 1 ∨ n = 2 ∨ n = 3 ∨ n = 4 := by omega
  have fin : ∀ n, (∀ i < 30, i + 1 < (permSs n).length → nextP n n (((permSs n).getD i []).take n) (((permSs n).getD i []).drop n) = some (((permSs n).getD (i + 1) []).take n, ((permSs n).getD (i + 1) []).drop n)) → (permSs n).length ≤ 30 → ∀ i, i + 1 < (permSs n).length → nextP n n (((permSs n).getD i []).take n) (((permSs n).getD i []).drop n) = some (((permSs n).getD (i + 1) []).take n, ((permSs n).getD (i + 1) []).drop n) := fun n h hl i hi => h i (by omega) hi
  rcases this with rfl | rfl | rfl | rfl
  · exact ⟨by decide +kernel, fin 1 (by decide +kernel) (by decide +kernel), by decide +kernel, by decide +kernel⟩
  · exact ⟨by decide +kernel, fin 2 (by decide +kernel) (by decide +kernel), by decide +kernel, by decide +kernel⟩
  · exact ⟨by decide +kernel, fin 3 (by decide +kernel) (by decide +kernel), by decide +kernel, by decide +kernel⟩
  · exact ⟨by decide +kernel, fin 4 (by decide +kernel) (by decide +kernel), by decide +kernel, by decide +kernel⟩
theorem permSs_pos {n : Nat} (h4 : n ≤ 4) (h1 : 1 ≤ n) : 0 < (permSs n).length := by
  obtain ⟨h, _⟩ := perm_facts n h4 h1
  cases hs : permSs n with
  | nil => rw [hs] at h; cases h
  | cons a r => simp
end PL

set_option Elab.async false
set_option linter.all false
set_option maxRecDepth 100000
set_option maxHeartbeats 2000000
namespace PL
open PySem PySem.Spec PyProof.Rows L2
variable [Tbl]
/-! ### a loop over the orders of so many numbers -/
def ItP (n : Nat) : L2.It :=
  ⟨fun i H => i < (permSs n).length, fun i H v H' => ∃ T o, v = .ref T ∧ H T = none ∧ o.dict = none ∧ H' = upd H T (.frz o (.tup ((((permSs n).getD i []).take n).map fun (k : Nat) => V.int (k : Nat)))), fun i H => i = (permSs n).length⟩
theorem perm_vals {acc : Array Value} {n : Nat} (h : ItemsOf (fun i v => ∃ t, v = .int (0 + i * 1) t) acc n) : ∀ l : List Nat, (∀ k ∈ l, k < n) → Vals (l.map fun (k : Nat) => V.int (k : Nat)) (l.map fun i => acc.getD i .none)
  | [], _ => .nil
  | k :: r, hk => by
    have hlt : k < acc.size := by rw [h.1]; exact hk k (List.mem_cons_self ..)
    obtain ⟨t, ht⟩ := h.2 k acc[k] (by rw [Array.getElem?_eq_getElem hlt])
    refine .cons ⟨t, ?_⟩ (perm_vals h r fun x hx => hk x (List.mem_cons_of_mem _ hx))
    show acc.getD k Value.none = _
    rw [Array.getD_eq_getD_getElem?, Array.getElem?_eq_getElem hlt]
    show acc[k] = _
    rw [ht]
    congr 1
    omega
theorem turn_perm {P : Program} {w : World} {K : PySem.W.Frag} {tg : Expr} {n : Nat} (h4 : n ≤ 4) (h1 : 1 ≤ n) {acc : Array Value} (ha : ItemsOf (fun i v => ∃ t, v = .int (0 + i * 1) t) acc n) (it PA : Addr) (hne : PA ≠ it) :
    Turn P w K tg (ItP n) [it, PA] it (fun i h => (∃ last, IsPerm h it PA (if i = 0 then 0 else 1) n last ((permSs n).getD (i - 1) [])) ∧ h.get? PA = some { cls := .type "tuple", data := .seq acc }) where
  mem := by simp
  obj := fun i h st b hb => by
    obtain ⟨⟨last, o, ho, hc, hd⟩, hP⟩ := st
    have e' : b = it ∨ b = PA := by simpa using hb
    rcases e' with z | z
    · rw [z]; exact ⟨o, ho, fun v q => by rw [hd] at q; cases q⟩
    · rw [z]; exact ⟨_, hP, fun v q => by cases q⟩
  keep := fun i h h' st kp => by
    obtain ⟨⟨last, o, ho, hc, hd⟩, hP⟩ := st
    exact ⟨⟨last, o, kp it (by simp) _ ho, hc, hd⟩, kp PA (by simp) _ hP⟩
  item := by
    intro X hP hw hK hc i pins s σ H E I hf st hg
    subst hP hw hK
    obtain ⟨⟨last, hit⟩, hPA⟩ := st
    have hg : i < (permSs n).length := hg
    obtain ⟨f0, f1, f2, f3⟩ := perm_facts n h4 h1
    have hil : it < s.heap.objs.size := let ⟨o, ho, _⟩ := hit; Heap.lt_size ho
    have hPl : PA < s.heap.objs.size := Heap.lt_size hPA
    -- what comes of a step
    have fin : ∀ (ns : List Nat), (∀ k ∈ ns.take n, k < n) → ns.take n = ((permSs n).getD i []).take n → ∀ h' : Heap, IsPerm h' it PA 1 n (.ref s.heap.objs.size) ((permSs n).getD i []) → h'.get? s.heap.objs.size = some { cls := .type "tuple", data := .seq ((ns.take n).map fun i => acc.getD i .none).toArray } →
        (∀ b o, b ≠ it → s.heap.get? b = some o → h'.get? b = some o) → ∃ u, some (Value.ref s.heap.objs.size) = some u ∧ wpAny (model X.prog X.w) X.A (letOwnedTupleGo tg (.ref it) u) (fun _ s2 => ∃ x H', Inv X pins σ H' s2 ∧ RelV x u ∧ (ItP n).yld i H x H' ∧
          ((∃ last, IsPerm s2.heap it PA (if i + 1 = 0 then 0 else 1) n last ((permSs n).getD (i + 1 - 1) [])) ∧ s2.heap.get? PA = some { cls := .type "tuple", data := .seq acc }) ∧ ∀ b ∈ [it, PA], H' b = none) E { s with heap := h' } := by
      intro ns hk hns h' hit' hT hkp
      have rv := perm_vals ha (ns.take n) hk
      have hz : ((ns.take n).map fun i => acc.getD i .none).length ≤ sizeLine := by
        rw [List.length_map, List.length_take]
        exact Nat.le_trans (Nat.min_le_left _ _) (Nat.le_trans h4 (by decide))
      have new : ObjOk X.prog X.w (upd H s.heap.objs.size (.frz { cls := .type "tuple", data := .seq ((ns.take n).map fun i => acc.getD i .none).toArray } (.tup ((ns.take n).map fun (k : Nat) => V.int (k : Nat))))) h' s.heap.objs.size (.frz { cls := .type "tuple", data := .seq ((ns.take n).map fun i => acc.getD i .none).toArray } (.tup ((ns.take n).map fun (k : Nat) => V.int (k : Nat)))) :=
        ⟨hT, by rw [List.length_map]; rw [List.length_map] at hz; exact hz, _, rv, ⟨_, hT, rfl, _, rfl⟩⟩
      have I1 : Inv X pins σ (upd H s.heap.objs.size (.frz { cls := .type "tuple", data := .seq ((ns.take n).map fun i => acc.getD i .none).toArray } (.tup ((ns.take n).map fun (k : Nat) => V.int (k : Nat))))) { s with heap := h' } :=
        I.turnedNew (ch := [it, PA]) (t' := s.toks) (fun b ob hb q => hkp b ob (fun z => hb (by simp [z])) q) hf (Nat.le_refl _) new
      obtain ⟨o', ho', hc', hd'⟩ := id hit'
      refine ⟨_, rfl, go_of (s := { s with heap := h' }) ho' hc' hd' (by decide) ⟨.ref s.heap.objs.size, _, I1, rfl, ⟨_, _, rfl, I.hok.fresh (Nat.le_refl _), rfl, by rw [hns]⟩, ⟨⟨_, by rw [if_neg (Nat.succ_ne_zero i)]; exact hit'⟩, hkp _ _ hne hPA⟩, fun b hb => ?_⟩⟩
      have e' : b = it ∨ b = PA := by simpa using hb
      have hb' : b < s.heap.objs.size := by
        rcases e' with z | z
        · rw [z]; exact hil
        · rw [z]; exact hPl
      rw [upd_ne (Nat.ne_of_lt hb')]
      exact (hf b hb).1
    have mem : ∀ j, j < (permSs n).length → (permSs n).getD j [] ∈ permSs n := fun j hj => by
      rw [List.getD_eq_getElem?_getD, List.getElem?_eq_getElem hj]
      exact List.getElem_mem hj
    cases i with
    | zero =>
      rw [if_pos rfl] at hit
      exact perm_first hit hPA rfl ha.1 (Nat.le_trans h4 (by decide)) fun h' q1 q2 q3 => fin _ (f3 _ (mem 0 hg)).2 rfl h' q1 q2 q3
    | succ j =>
      rw [if_neg (Nat.succ_ne_zero j)] at hit
      have hx := f1 j hg
      obtain ⟨l1, l2⟩ := f3 _ (mem (j + 1) hg)
      have e : ((permSs n).getD (j + 1) []).take n ++ ((permSs n).getD (j + 1) []).drop n = (permSs n).getD (j + 1) [] := List.take_append_drop _ _
      refine perm_more hit hPA rfl ha.1 (Nat.le_trans h4 (by decide)) hx (by rw [e, l1]; omega) fun h' q1 q2 q3 => ?_
      rw [e] at q1
      rw [List.take_take, Nat.min_self] at q2
      exact fin _ l2 rfl h' q1 q2 q3
  done := by
    intro X hP hw hK hc i pins s σ H E I hf st hg
    subst hP hw hK
    obtain ⟨⟨last, hit⟩, hPA⟩ := st
    have hg : i = (permSs n).length := hg
    obtain ⟨f0, f1, f2, f3⟩ := perm_facts n h4 h1
    have hp := permSs_pos h4 h1
    rw [if_neg (by omega)] at hit
    rw [hg] at hit
    obtain ⟨g0, g1, g2, g3, g4, g5⟩ := hf it (by simp)
    exact perm_end (I.ok.hd hc) hit hPA rfl ha.1 f2 fun h' eb => ⟨rfl, I.turned (t' := s.toks) (fun b o hb q => eb b o hb q) g0 g1 g3 g4 g5⟩
  self := fun A i s Q E st h => let ⟨⟨_, hit⟩, _⟩ := st; perm_iter hit h
/-- permutations(range(n)) -/
def iPerm (t : L2.St → Hp → (Int → Int → Hp → Prop) → Prop) : TI := fun σ H R => t σ H fun a b H1 => ∃ n : Nat, a = 0 ∧ b = (n : Int) ∧ 1 ≤ n ∧ n ≤ 4 ∧ R (ItP n) H1
theorem pi_perm {X : Cx} {tg e : Expr} {te : L2.St → Hp → (Int → Int → Hp → Prop) → Prop} {p pos : Pos} {x : Str} (hc : X.calm = true) (hg : Gl X x) (hm : X.mg x = some (.type "itertools.permutations")) (he : PRg X e te) (hd : (x == ("__debug__" : Str)) = false) (hn : x ≠ "__name__") (hs : starEach [e] X.env = (false, eval e X.env) :: starEach [] X.env) :
    PI X tg (.Call (.Name x p) [e] [] pos) (iPerm te) := by
  refine ⟨fun pins s σ H R I h => ?_⟩
  refine wpAny_Call_Name_kw (ld_glob I hg hm ?_ hd)
  refine PyProof.Rows.callWith_type1 (args_cons (thn (he pins s σ H _ I h) fun v s1 ⟨r, a, b, t, u, w, H1, ex, hr, I1, n, ea, eb, h1, h4, q⟩ => args_nil ?_) hs) hs rfl
  subst ex ea eb
  have sm : Builtin.Range.small 0 (n : Int) 1 = true := small_one (by omega) (by omega) (by omega) (by omega)
  have rs : Builtin.Range.rangeSize 0 (n : Int) 1 = n := by
    have := rangeSize_nat 0 (n : Int)
    simpa using this
  refine call_perm (n := n) (I1.ok.hd hc) hr sm rs (by omega) fun h' tk acc hk hi => ?_
  have hz : (h'.push { cls := .type "tuple", data := .seq acc }).objs.size = h'.objs.size + 1 := Heap.size_push ..
  have e1 : ((h'.push { cls := .type "tuple", data := .seq acc }).push { cls := .type "itertools.permutations", data := .fields (permV h'.objs.size 0 n .none (permStart n)).toArray }).get? (h'.objs.size + 1) = some { cls := .type "itertools.permutations", data := .fields (permV h'.objs.size 0 n .none (permStart n)).toArray } := by
    rw [← hz]
    exact Heap.get?_push_size _ rfl
  have e2 : ((h'.push { cls := .type "tuple", data := .seq acc }).push { cls := .type "itertools.permutations", data := .fields (permV h'.objs.size 0 n .none (permStart n)).toArray }).get? h'.objs.size = some { cls := .type "tuple", data := .seq acc } :=
    Heap.get?_push_of_some _ (Heap.get?_push_size _ rfl)
  have ip : IsPerm ((h'.push { cls := .type "tuple", data := .seq acc }).push { cls := .type "itertools.permutations", data := .fields (permV h'.objs.size 0 n .none (permStart n)).toArray }) (h'.objs.size + 1) h'.objs.size 0 n .none (permStart n) := ⟨_, e1, rfl, rfl⟩
  refine perm_iter ip ?_
  have I0 : Inv X pins σ H1 { s1 with heap := h', toks := tk } := I1.kept (t' := tk) hk
  have I2 : Inv X pins σ H1 { s1 with heap := (h'.push { cls := .type "tuple", data := .seq acc }).push { cls := .type "itertools.permutations", data := .fields (permV h'.objs.size 0 n .none (permStart n)).toArray }, toks := tk } :=
    I1.kept (t' := tk) fun b o q => Heap.get?_push_of_some _ (Heap.get?_push_of_some _ (hk b o q))
  obtain ⟨f0, _⟩ := perm_facts n h4 h1
  have g0 : (permSs n).getD 0 [] = permStart n := by
    rw [List.getD_eq_getElem?_getD, ← List.head?_eq_getElem?, f0]
    rfl
  refine ⟨h'.objs.size + 1, [h'.objs.size + 1, h'.objs.size], _, _, H1, rfl, I2, turn_perm h4 h1 hi (h'.objs.size + 1) h'.objs.size (Nat.ne_of_lt (Nat.lt_succ_self _)), ⟨⟨.none, by rw [if_pos rfl, g0]; exact ip⟩, e2⟩, fun b hb => ?_, q⟩
  have e' : b = h'.objs.size + 1 ∨ b = h'.objs.size := by simpa using hb
  have hle : h'.objs.size ≤ b := by
    rcases e' with z | z
    · rw [z]; exact Nat.le_succ _
    · rw [z]; exact Nat.le_refl _
  exact I0.fpOk hle (I0.hok.fresh hle)
/-! ### in the small language -/
theorem feeds_perm {K : PySem.W.Frag} {fa : Nat → Addr} {β ρ : List Addr} {st : Sto} {H : Hp} {n : Nat} : Feeds K fa β ρ st H (ItP n) (permD n) := fun β' ρ' st' H' b c d => by
  have hl : (permD n).length = (permSs n).length := by simp [permD, permL]
  refine ⟨fun i x h => ?_, hl⟩
  have hi : i < (permSs n).length := by rw [← hl]; exact (List.getElem?_eq_some_iff.mp h).1
  refine ⟨hi, fun v H2 y => ?_⟩
  obtain ⟨T, o, rfl, hT, ho, rfl⟩ := y
  have e : x = .tup ((((permSs n).getD i []).take n).map fun (k : Nat) => .int (k : Nat)) := by
    unfold permD permL at h
    rw [List.map_map, List.getElem?_map, List.getElem?_eq_getElem hi] at h
    rw [List.getD_eq_getElem?_getD, List.getElem?_eq_getElem hi]
    exact (Option.some.inj h).symm
  subst e
  have rs : ∀ l : List Nat, RDs K fa H' (Mu ρ' st') β' ρ' st'.length (l.map fun (k : Nat) => D.int (k : Nat)) (l.map fun (k : Nat) => V.int (k : Nat)) := fun l => by
    induction l with
    | nil => exact .nil
    | cons a r ih => exact .cons (.int _) ih
  exact ⟨(d.lay hT).2, (d.lay hT).1, lay_tup d hT ho (rs _)⟩
section
variable {X : Cx} {q : Qm} {a : E} {pa : Expr} {es : Es} {pes : List Expr} {pe : Expr} {pos : Pos}
theorem i_perm {tg : Expr} {x : Str} {p p2 pos2 : Pos} (hc : X.calm = true) (hg : Gl X x) (hm : X.mg x = some (.type "itertools.permutations")) (hd : (x == ("__debug__" : Str)) = false) (hn : x ≠ "__name__") (hg2 : Gl X "range") (hm2 : X.mg "range" = none)
    (ha : PE X pa (tW X.K q a)) (na : starEach [pa] X.env = (false, eval pa X.env) :: starEach [] X.env) :
    PI X tg (.Call (.Name x p) [.Call (.Name "range" p2) [pa] [] pos2] [] pos) (tWi X.K q (.perm a)) :=
  (pi_perm hc hg hm (r_one hg2 hm2 ha na) hd hn rfl).w fun σ H Rr ⟨β, ρ, env, st, e, S, h⟩ => by
    simp only [evi] at h
    refine ⟨β, ρ, env, st, e, S, ?_⟩
    cases hv : ev q.C q.G a env st with
    | bad =>
      rw [hv] at h
      exact h.elim
    | exn c d s1 =>
      rw [hv] at h
      simp only [evo]
      show RP ((ev q.C q.G a env st).bind fun y s2 => (toI y s2).bind fun j s3 => R.ok ((none : Option Int).getD 0, j) s3) _ _
      rw [hv]
      exact h
    | ok x s1 =>
      rw [hv] at h
      have h : RP ((toI x s1).bind fun i s2 => if (decide (1 ≤ i) && decide (i ≤ 4)) = true then R.ok (permD i.toNat, []) s2 else .bad) _ _ := h
      simp only [evo]
      show RP ((ev q.C q.G a env st).bind fun y s2 => (toI y s2).bind fun j s3 => R.ok ((none : Option Int).getD 0, j) s3) _ _
      rw [hv]
      show RP ((toI x s1).bind fun j s3 => R.ok ((none : Option Int).getD 0, j) s3) _ _
      cases x with
      | int i =>
        have h : RP (if (decide (1 ≤ i) && decide (i ≤ 4)) = true then R.ok (permD i.toNat, []) s1 else .bad) _ _ := h
        split at h
        · rename_i c
          simp only [Bool.and_eq_true, decide_eq_true_eq] at c
          intro H1 ρ1 a1 S1
          exact ⟨i.toNat, rfl, by show i = _; omega, by omega, by omega, h (fun j hj => nomatch hj) _ H1 ρ1 a1 S1 feeds_perm⟩
        · exact h.elim
      | _ => exact h.elim
/-! imported functions -/
def imId : Im → String
  | .comb => "math.comb" | .gcd => "math.gcd"
def imV (f : Im) : Value := .builtin (imId f)
def rIm (K : PySem.W.Frag) (fa : Nat → Addr) (f : Im) : List V → Hp → VK → Prop := fun vs H Q => ∃ β ρ st ds d, RS K fa β ρ st H ∧ RDs K fa H (Mu ρ st) β ρ st.length ds vs ∧ imcall f ds = some d ∧ Post K fa β ρ st H d st Q
theorem call_im {fa : Nat → Addr} (f : Im) : CallR X (.builtin (imId f)) (rIm X.K fa f) := by
  intro pins s σ H xs us Q I r h
  obtain ⟨β, ρ, st, ds, d, S, rs, hd, q⟩ := h
  unfold imcall at hd
  split at hd
  · split at hd
    · rename_i n k c
      simp only [Bool.and_eq_true, decide_eq_true_eq] at c
      obtain ⟨c1, c2, c3, c4⟩ := c
      cases hd
      cases rs with
      | cons r1 r2 =>
        cases r2 with
        | cons r2 r3 =>
          cases r3
          cases r1
          cases r2
          obtain ⟨t, u, rfl⟩ := Vals.int2 r
          obtain ⟨n', rfl⟩ : ∃ n' : Nat, n = n' := ⟨n.toNat, by omega⟩
          obtain ⟨k', rfl⟩ : ∃ k' : Nat, k = k' := ⟨k.toNat, by omega⟩
          exact call_comb I (by omega) (by omega) (q.here S (.int _))
    · cases hd
  · cases hd
    cases rs with
    | cons r1 r2 =>
      cases r2 with
      | cons r2 r3 =>
        cases r3
        cases r1
        cases r2
        exact cr_gcd pins s σ H _ us Q I r ⟨_, _, rfl, q.here S (.int _)⟩
  · cases hd
theorem s_imp {f : Im} {x : Str} {p : Pos} (hg : Gl X x) (hm : X.mg x = some (imV f)) (ha : PA X (pe :: pes) (tWs X.K q es)) (hdb : (x == ("__debug__" : Str)) = false)
    (he : starEach (pe :: pes) X.env = (false, eval pe X.env) :: starEach pes X.env) (hpl : (backTo pos (starEach pes X.env)).any (·.1) = false) : PE X (.Call (.Name x p) (pe :: pes) [] pos) (tW X.K q (.imp f es)) :=
  (pe_callBfun (call_im (fa := q.fa) f) hg hm ha hdb he hpl).w fun σ H Q ⟨β, ρ, env, st, e, S, h⟩ => by
    simp only [ev] at h
    refine ⟨β, ρ, env, st, e, S, h.bind.imp (fun ds s1 h1 vs H1 ρ1 a1 S1 r1 => ?_) fun _ _ _ g => g⟩
    obtain ⟨d, h4, h5⟩ := h1.oD
    exact ⟨β, ρ1, s1, ds, d, S1, r1, h4, h5.after a1⟩
end
end PL

set_option Elab.async false
set_option linter.all false
set_option maxRecDepth 100000
set_option maxHeartbeats 2000000
/-! Own errors that keep one value in a field: given, or index. -/
namespace PySem
namespace XgX
open PySem.W PySem.Calls PyProof.Rows PySem.HandSPX
/-! ### the text of __init__ -/
def iA (p1 p2 : Pos) : Arguments := { posonlyargs := [], args := [{ arg := "self", annotation := none, pos := p1 }, { arg := "given", annotation := none, pos := p2 }], vararg := none, kwonlyargs := [], kw_defaults := [], kwarg := none, defaults := [] }
def iB (q1 q2 q3 q4 : Pos) : List Stmt := [.Assign [.Attribute (.Name "self" q1) "given" q2] (.Name "given" q3) q4]
def iS : Scope := { kind := .function, names := [(PySem.Str.ofString "self", .local), (PySem.Str.ofString "given", .local)], isGenerator := false, isCoroutine := false, more := [] }
/-- an own error's class x at C, its __init__ at fI, as the frozen part tells -/
structure XgTxt (K : Frag) (mg : Str → Option Value) (x qn : Str) (C fI : Addr) : Prop where
  gC : mg x = some (.ref C)
  cls : ∃ nm q N bs bm sn sub ab col dd k0 k1 k2 k3 k5, K.lookup C = some (excClassObj nm q C N bs bm true sn sub ab col dd k0 k1 k2 k3 k5 "ValueError.__new__") ∧ refsVE bm = true
  sa : findIn K (.ref C) "__setattr__" = some (some (.builtin "object.__setattr__"))
  ga : findIn K (.ref C) "__getattribute__" = some (some (.builtin "BaseException.__getattribute__"))
  gg : findIn K (.ref C) "__getattr__" = some none
  noN : findIn K (.ref C) "given" = some none
  iC : findIn K (.ref C) "__init__" = some (some (.ref fI))
  tC : typeIn K (.ref fI) = some (.type "function")
  kC : keepIn K (.ref C) = true
  exC : subIn K (.ref C) (.type "BaseException") = some true
  tyC : typeIn K (.ref C) = some (.type "type")
  hdC : hasDictIn K C = true
  te : exmOne K (.ref C) (.ref C) = some true
  fn : ∃ (oc : Value) (od : Option Addr) (kV doc pm : Value) (an : Option Addr) (cdv ct : Value) (osl : Array (Option Value)) (p1 p2 q1 q2 q3 q4 : Pos),
    K.lookup fI = some ⟨oc, od, .func (fnOf "__init__" qn (iA p1 p2) (iB q1 q2 q3 q4) iS .none kV doc pm an cdv ct), osl⟩ ∧ codeIn K cdv qn = true
theorem one_size (v : Value) : [v].length ≤ sizeLine := by
  rw [sizeLine_eq]
  exact (by decide : 1 ≤ 16777216)
theorem kept_but {K : Frag} {h h' : Heap} {x : Addr} (X : K.In h) (hx : K.lookup x = none) (k : ∀ b o, b ≠ x → h.get? b = some o → h'.get? b = some o) : K.In h' := fun a o e =>
  k a o (fun z => by rw [z, hx] at e; cases e) (X a o e)
theorem ldC {M : Model} {s : Shared} {name : Str} {scope : Scope} {L a : Addr} {cd : Value} {m : Str → Option Value} {x : Str} {pos : Pos} {v : Value} {Q : Value → Shared → Prop} {A : Around} {E : Value → Shared → Prop} (hn : s.heap.Ns L m) (hv : m x = some v) (h : Q v s)
    (hk : scope.kind = .function := by rfl) (hl : (envOfC name scope L a cd).kindOf x = some .local := by rfl) (hd : (x == ("__debug__" : Str)) = false := by decide) :
    wpAny M A (eval (.Name x pos) (envOfC name scope L a cd)) Q E s := wpAny_Name (wpAny_loadName_local hk hl hn hv h) hd
/-- behind its __init__ -/
structure InitEnd (h h' : Heap) (x C dx t1 : Addr) (v : Value) : Prop where
  keep : ∀ b o, b ≠ x → h.get? b = some o → h'.get? b = some o
  obj : h'.get? x = some { cls := .ref C, dict := some dx, data := .fields #[.ref t1, .none, .none, .none, .bool false, .none] }
  dbig : h.objs.size ≤ dx
  dne : dx ≠ x
  ns : h'.Ns1 dx (fun y => if y = "given" then some v else none)
/-- an own error is made -/
structure OwnMade (h h' : Heap) (e C d : Addr) (v : Value) : Prop where
  keep : ∀ b o, h.get? b = some o → h'.get? b = some o
  new : h.objs.size ≤ e
  obj : ∃ oe vs, h'.get? e = some oe ∧ oe.cls = .ref C ∧ oe.dict = some d ∧ oe.data = .fields vs ∧ vs[1]? = some .none
  dbig : h.objs.size ≤ d
  dne : d ≠ e
  ns : h'.Ns1 d (fun y => if y = "given" then some v else none)
section
variable {prog : Program} {w : World} {A : Around} {E : Value → Shared → Prop} {R : Result → Shared → Prop} {s : Shared} {K : Frag} {mg : Str → Option Value} {xn qn : Str} {C fI : Addr}
theorem xg_init (T : XgTxt K mg xn qn C fI) {x t0 : Addr} {v : Value} (X : K.In s.heap) (hlim : s.heap.NoLimit) (hx : s.heap.get? x = some (excO C t0)) (hnx : K.lookup x = none) (hroom : A.depth < recursionLimit)
    (hq : ∀ h' tk dx, InitEnd s.heap h' x C dx t0 v → R (.ok (.ret .none)) { s with heap := h', toks := tk }) :
    codeAny (model prog w) A (.call (.ref fI) ⟨[.ref x, v], []⟩) R s := by
  obtain ⟨oc, od, kV, doc, pm, an, cdv, ct, osl, p1, p2, q1, q2, q3, q4, ho, hcd⟩ := T.fn
  obtain ⟨nm, q, N, bs, bm, sn, sub, ab, col, dd, k0, k1, k2, k3, k5, hC, hbm⟩ := T.cls
  have hcl : clsIn K C = some { name := nm, bases := bs, mro := .ref C :: bm, ns := N, qualname := q, hasDict := true, slotNames := sn, subclasses := sub, abstract := ab, collection := col, hasDel := false } := by unfold clsIn; rw [hC] <;> rfl
  refine Att.call_fn (binds := [("self", .ref x), ("given", v)]) X hlim ho hcd hroom (BindsTo.of_eq (by first | rfl | with_unfolding_all rfl)) (by first | rfl | decide | with_unfolding_all rfl) (fun s₁ IC => ?_) rfl rfl rfl
  obtain ⟨h₁, tk₁, rfl⟩ := IC.toInCall.same
  have k : ∀ b o, s.heap.get? b = some o → h₁.get? b = some o := IC.toInCall.keep
  have hn := IC.toInCall.ns
  have hxL : s.heap.objs.size ≠ x := Nat.ne_of_gt (Heap.lt_size hx)
  have X₁ : K.In h₁ := X.keeps k
  have hx₁ := k _ _ hx
  -- self.by = by
  show wpAny _ _ (execs _ _) _ _ _
  refine wpAny_execs_cons (plainObj_wpAny_Assign_Attribute ?_)
  refine ldC (v := v) hn (by first | rfl | with_unfolding_all rfl | kernel_rfl) (ldC (v := .ref x) hn (by first | rfl | with_unfolding_all rfl | kernel_rfl) ?_)
  refine set_plain X₁ (ox := excO C t0) (od := none) ⟨hx₁, rfl, rfl, trivial⟩ T.sa ?_
  refine exc_osa X₁ hx₁ hcl (show refsVE (.ref C :: bm) = true from hbm) rfl T.noN (fun h₃ tk₃ dx k₃ dn dne hx₃ hn₃ => ?_)
  show wpAny _ _ (execs _ _) _ _ _
  have z : s.heap.objs.size < h₁.objs.size := hn.lt
  exact wpAny_execs_nil (hq h₃ tk₃ dx ⟨fun b o hb e => k₃ b o hb (k b o e), hx₃, Nat.le_of_lt (Nat.lt_of_lt_of_le z dn), dne, hn₃⟩)
theorem xg_made (T : XgTxt K mg xn qn C fI) {v : Value} (X : K.In s.heap) (hlim : s.heap.NoLimit) (hroom : A.depth + 1 < recursionLimit)
    (hq : ∀ h' tk e d, OwnMade s.heap h' e C d v → R (.ok (.ret (.ref e))) { s with heap := h', toks := tk }) :
    codeAny (model prog w) A (.call (.ref C) ⟨[v], []⟩) R s := by
  obtain ⟨nm, q, N, bs, bm, sn, sub, ab, col, dd, k0, k1, k2, k3, k5, hC, hbm⟩ := T.cls
  obtain ⟨hp, g, dr, tk, os⟩ := s
  have k : ∀ b o, hp.get? b = some o → ((hp.push (kdv_tup [v])).push (excO C hp.objs.size)).get? b = some o := fun b o e => Heap.get?_push_of_some _ (Heap.get?_push_of_some _ e)
  have hget : ((hp.push (kdv_tup [v])).push (excO C hp.objs.size)).get? (hp.objs.size + 1) = some (excO C hp.objs.size) := by heap_get
  have hnx : K.lookup (hp.objs.size + 1) = none := by
    cases e : K.lookup (hp.objs.size + 1) with
    | none => rfl
    | some o =>
      have z : hp.get? (hp.objs.size + 1) = some o := X _ _ e
      exact absurd (Nat.lt_of_succ_lt (Heap.lt_size z)) (Nat.lt_irrefl _)
  refine call_own F.excBase_ValueError (fun X => refsVE_contains X bm hbm) (X _ _ hC) (looks_findIn X T.iC) (fun self => bind_fn X self T.tC) (one_size v) ?_
  refine xg_init (s := ⟨(hp.push (kdv_tup [v])).push (excO C hp.objs.size), g, dr, tk, os⟩) T (X.keeps k) (hlim.keeps k) hget hnx ?_ fun h' tk' dx ⟨k', hx, dn, dne, hns⟩ => ?_
  · show A.depth + 1 < recursionLimit
    exact hroom
  · have old : ∀ b o, hp.get? b = some o → h'.get? b = some o := fun b o e => k' b o (Nat.ne_of_lt (Nat.lt_succ_of_lt (Heap.lt_size e))) (k b o e)
    have z : hp.objs.size + 1 + 1 ≤ dx := by
      first
        | (simpa only [Heap.size_push] using dn)
        | exact dn
        | (have q := dn; rw [Heap.size_push, Heap.size_push] at q; exact q)
    exact ⟨rfl, hq h' tk' (hp.objs.size + 1) dx ⟨old, Nat.le_succ _, ⟨_, _, hx, rfl, rfl, rfl, rfl⟩, Nat.le_trans (Nat.le_trans (Nat.le_succ _) (Nat.le_succ _)) z, dne, hns⟩⟩
end
end XgX
end PySem
namespace L2
open PySem PySem.Spec PyProof.Rows
theorem relO_given {v : V} {v' : Value} (r : RelV v v') (f : Str) : RelO (List.lookup f [(("given" : Str), v)]) (if f = "given" then some v' else none) := by
  by_cases hw : f = "given"
  · subst hw
    rw [if_pos rfl]
    have q : List.lookup ("given" : Str) [(("given" : Str), v)] = some v := by simp [List.lookup]
    rw [q]
    exact r
  · rw [if_neg hw]
    have qw : (f == ("given" : Str)) = false := by simpa using hw
    have q2 : List.lookup f [(("given" : Str), v)] = none := by simp [List.lookup, qw]
    rw [q2]
    trivial
section
variable {X : Cx} {xn qn : Str} {C fI : Addr}
/-- its making -/
def tMkXg (C : Addr) (ta : TA) : St → Hp → XK → Prop := fun σ H Q => ta σ H fun vs H1 => ∃ v, vs = [v] ∧ ∀ d, H1 d = none → Q (.ref C) (some d) (upd H1 d (.xd [(("given" : Str), v)]))
theorem pmk_xg {a : Expr} {ta : TA} {p pos : Pos} {k : Nat} (T : PySem.XgX.XgTxt X.K X.mg xn qn C fI) (hr : Room k X.A) (ha : PA X [a] ta) (hg : Gl X xn) (hdb : (xn == ("__debug__" : Str)) = false)
    (he : starEach (a :: []) X.env = (false, eval a X.env) :: starEach [] X.env := by rfl) (hpl : (backTo pos (starEach [] X.env)).any (·.1) = false := by rfl) :
    PMk X (.Call (.Name xn p) [a] [] pos) (tMkXg C ta) := by
  intro pins s σ H Q I h
  refine wpAny_Call_Name_kw (ld_glob I hg T.gC ?_ hdb)
  refine PySem.W.callWith_K (h₀ := X.base) I.ok.mod.kin T.kC (thn (ha.run pos pins s σ H _ I h) fun us s1 hh => ?_) he hpl
  obtain ⟨vs, H1, I1, r1, v, ev, q1⟩ := hh
  subst ev
  refine ⟨I1.kIn, ?_⟩
  cases r1 with
  | cons rv rn =>
    rename_i v' us'
    cases rn
    show wpAny _ _ (call (.ref C) [v']) _ _ _
    have hlim := I1.nolimit
    obtain ⟨hp, g, dr, tk, os⟩ := s1
    refine wpAny_call (PySem.XgX.xg_made T I1.kIn hlim (by have := hr.dp; omega) fun h' tk' e d M => ?_)
    show MkP X pins σ Q (.ref e) ⟨h', g, dr, tk', os⟩
    obtain ⟨oe, fv, hoe, hc, hd, hdat, h1⟩ := M.obj
    have hns := M.ns
    obtain ⟨G', g1, g2⟩ := restrict h' fun b => decide (b ≠ e)
    have gk : ∀ b, b ≠ e → G'.get? b = h'.get? b := fun b hb => g1 b (decide_eq_true hb)
    have ge : G'.get? e = none := g2 e (by simp)
    have old : ∀ b o, hp.get? b = some o → G'.get? b = some o := fun b o q => (gk b (Nat.ne_of_lt (Nat.lt_of_lt_of_le (Heap.lt_size q) M.new))).trans (M.keep b o q)
    have ob : ObjOk X.prog X.w (upd H1 d (.xd [(("given" : Str), v)])) G' d (.xd [(("given" : Str), v)]) :=
      ⟨_, hns.at (fun o q => (gk d M.dne).trans q), fun f => relO_given rv f⟩
    have J : Inv X pins σ (upd H1 d (.xd [(("given" : Str), v)])) ⟨G', g, dr, tk', os⟩ := I1.laid (t' := tk') old M.dbig ob
    refine ⟨e, oe, fv, ⟨G', g, dr, tk', os⟩, _, .ref C, some d, rfl, J, fun b o q => ?_, ge, hoe, ⟨hc, hd⟩, hdat, h1, ?_, rfl, I1.bare, raises_own T.exC T.tyC, q1 d (I1.hok.fresh M.dbig)⟩
    · by_cases hb : b = e
      · have q' : G'.get? b = some o := q
        rw [hb, ge] at q'; cases q'
      · exact (gk b hb).symm.trans q
    · rw [upd_ne (Ne.symm M.dne)]
      exact I1.hok.fresh M.new
/-- its raising -/
def tRaiseXg (C : Addr) (W : WX) (ta : TA) : TS := fun _ σ H => tMkXg C ta σ H fun cls d H' => W cls d σ H'
theorem ps_raiseXg {a : Expr} {ta : TA} {W : WX} {p pos pos2 : Pos} {k : Nat} (hc : X.calm = true) (T : PySem.XgX.XgTxt X.K X.mg xn qn C fI) (hr : Room k X.A) (tk : Takes X W) (ha : PA X [a] ta) (hg : Gl X xn) (hdb : (xn == ("__debug__" : Str)) = false)
    (he : starEach (a :: []) X.env = (false, eval a X.env) :: starEach [] X.env := by rfl) (hpl : (backTo pos (starEach [] X.env)).any (·.1) = false := by rfl) :
    PS X (.Raise (some (.Call (.Name xn p) [a] [] pos)) none pos2) (tRaiseXg C W ta) := ps_raise hc tk (pmk_xg T hr ha hg hdb he hpl)
/-- low.by, low the exception that the suite holds (at a; its class cls, its dict d) -/
def tGiven (C : Addr) (a : Addr) (cls : Value) (d : Option Addr) (te : TE) : TE := fun σ H Q => te σ H fun x H1 => x = .ref a ∧ cls = .ref C ∧ ∃ (dd : Addr) (v : V), d = some dd ∧ H1 dd = some (.xd [(("given" : Str), v)]) ∧ Q v H1
theorem pe_given {a : Addr} {oe : Obj} {cls : Value} {d : Option Addr} {pn : List (Addr × Obj)} {e : Expr} {te : TE} {pos : Pos} (T : PySem.XgX.XgTxt X.K X.mg xn qn C fI) (hz : Zc cls d oe) (hf : ∃ vs, oe.data = .fields vs) (he : PE (X.suite a ((a, oe) :: pn)) e te)
    (hb : attributeBase e "given" X.env (eval e X.env) = eval e X.env := by rfl) :
    PE (X.suite a ((a, oe) :: pn)) (.Attribute e "given" pos) (tGiven C a cls d te) := by
  refine ⟨fun pins s σ H Q I h => ?_⟩
  refine attr_of hb (thn (he.run pins s σ H _ I h) fun u s1 hh => ?_)
  obtain ⟨x, H1, I1, rx, ex, ec, dd, v, ed, ea, q⟩ := hh
  subst ex
  obtain rfl : u = Value.ref a := rx
  subst ec
  subst ed
  obtain ⟨ha, _⟩ := I1.pin (a, oe) (List.mem_append_left _ List.mem_cons_self)
  obtain ⟨vs, hd⟩ := hf
  have hx : ObjOk X.prog X.w H1 s1.heap dd (.xd [(("given" : Str), v)]) := I1.hok dd _ ea
  obtain ⟨mA, hns, hr⟩ := hx
  obtain ⟨od, ho, hl⟩ := lookIn_ns hns
  have l : List.lookup ("given" : Str) [(("given" : Str), v)] = some v := by simp [List.lookup]
  obtain ⟨u, hu, ru⟩ := RelO.some_of (v := v) (o := mA "given") (by rw [← l]; exact hr "given")
  have J : PySem.W.InstAt s1.heap a oe C (some od) := ⟨ha, hz.1, by unfold PySem.W.notCls; rw [hd] <;> rfl, by rw [hz.2]; exact ho⟩
  exact HandSPX.exc_get I1.kIn J T.ga T.gg T.exC (PySem.W.findObj_own T.hdC T.noN rfl (by rw [hl, hu])) (handed_of ru) ⟨v, H1, I1.tok _, ru, q⟩
end
end L2

namespace PySem
namespace XiX
open PySem.W PySem.Calls PyProof.Rows PySem.HandSPX
/-! ### the text of __init__ -/
def iA (p1 p2 : Pos) : Arguments := { posonlyargs := [], args := [{ arg := "self", annotation := none, pos := p1 }, { arg := "index", annotation := none, pos := p2 }], vararg := none, kwonlyargs := [], kw_defaults := [], kwarg := none, defaults := [] }
def iB (q1 q2 q3 q4 : Pos) : List Stmt := [.Assign [.Attribute (.Name "self" q1) "index" q2] (.Name "index" q3) q4]
def iS : Scope := { kind := .function, names := [(PySem.Str.ofString "self", .local), (PySem.Str.ofString "index", .local)], isGenerator := false, isCoroutine := false, more := [] }
/-- an own error's class x at C, its __init__ at fI, as the frozen part tells -/
structure XiTxt (K : Frag) (mg : Str → Option Value) (x qn : Str) (C fI : Addr) : Prop where
  gC : mg x = some (.ref C)
  cls : ∃ nm q N bs bm sn sub ab col dd k0 k1 k2 k3 k5, K.lookup C = some (excClassObj nm q C N bs bm true sn sub ab col dd k0 k1 k2 k3 k5 "ValueError.__new__") ∧ refsVE bm = true
  sa : findIn K (.ref C) "__setattr__" = some (some (.builtin "object.__setattr__"))
  ga : findIn K (.ref C) "__getattribute__" = some (some (.builtin "BaseException.__getattribute__"))
  gg : findIn K (.ref C) "__getattr__" = some none
  noN : findIn K (.ref C) "index" = some none
  iC : findIn K (.ref C) "__init__" = some (some (.ref fI))
  tC : typeIn K (.ref fI) = some (.type "function")
  kC : keepIn K (.ref C) = true
  exC : subIn K (.ref C) (.type "BaseException") = some true
  tyC : typeIn K (.ref C) = some (.type "type")
  hdC : hasDictIn K C = true
  te : exmOne K (.ref C) (.ref C) = some true
  fn : ∃ (oc : Value) (od : Option Addr) (kV doc pm : Value) (an : Option Addr) (cdv ct : Value) (osl : Array (Option Value)) (p1 p2 q1 q2 q3 q4 : Pos),
    K.lookup fI = some ⟨oc, od, .func (fnOf "__init__" qn (iA p1 p2) (iB q1 q2 q3 q4) iS .none kV doc pm an cdv ct), osl⟩ ∧ codeIn K cdv qn = true
theorem one_size (v : Value) : [v].length ≤ sizeLine := by
  rw [sizeLine_eq]
  exact (by decide : 1 ≤ 16777216)
theorem kept_but {K : Frag} {h h' : Heap} {x : Addr} (X : K.In h) (hx : K.lookup x = none) (k : ∀ b o, b ≠ x → h.get? b = some o → h'.get? b = some o) : K.In h' := fun a o e =>
  k a o (fun z => by rw [z, hx] at e; cases e) (X a o e)
theorem ldC {M : Model} {s : Shared} {name : Str} {scope : Scope} {L a : Addr} {cd : Value} {m : Str → Option Value} {x : Str} {pos : Pos} {v : Value} {Q : Value → Shared → Prop} {A : Around} {E : Value → Shared → Prop} (hn : s.heap.Ns L m) (hv : m x = some v) (h : Q v s)
    (hk : scope.kind = .function := by rfl) (hl : (envOfC name scope L a cd).kindOf x = some .local := by rfl) (hd : (x == ("__debug__" : Str)) = false := by decide) :
    wpAny M A (eval (.Name x pos) (envOfC name scope L a cd)) Q E s := wpAny_Name (wpAny_loadName_local hk hl hn hv h) hd
/-- behind its __init__ -/
structure InitEnd (h h' : Heap) (x C dx t1 : Addr) (v : Value) : Prop where
  keep : ∀ b o, b ≠ x → h.get? b = some o → h'.get? b = some o
  obj : h'.get? x = some { cls := .ref C, dict := some dx, data := .fields #[.ref t1, .none, .none, .none, .bool false, .none] }
  dbig : h.objs.size ≤ dx
  dne : dx ≠ x
  ns : h'.Ns1 dx (fun y => if y = "index" then some v else none)
/-- an own error is made -/
structure OwnMade (h h' : Heap) (e C d : Addr) (v : Value) : Prop where
  keep : ∀ b o, h.get? b = some o → h'.get? b = some o
  new : h.objs.size ≤ e
  obj : ∃ oe vs, h'.get? e = some oe ∧ oe.cls = .ref C ∧ oe.dict = some d ∧ oe.data = .fields vs ∧ vs[1]? = some .none
  dbig : h.objs.size ≤ d
  dne : d ≠ e
  ns : h'.Ns1 d (fun y => if y = "index" then some v else none)
section
variable {prog : Program} {w : World} {A : Around} {E : Value → Shared → Prop} {R : Result → Shared → Prop} {s : Shared} {K : Frag} {mg : Str → Option Value} {xn qn : Str} {C fI : Addr}
theorem xi_init (T : XiTxt K mg xn qn C fI) {x t0 : Addr} {v : Value} (X : K.In s.heap) (hlim : s.heap.NoLimit) (hx : s.heap.get? x = some (excO C t0)) (hnx : K.lookup x = none) (hroom : A.depth < recursionLimit)
    (hq : ∀ h' tk dx, InitEnd s.heap h' x C dx t0 v → R (.ok (.ret .none)) { s with heap := h', toks := tk }) :
    codeAny (model prog w) A (.call (.ref fI) ⟨[.ref x, v], []⟩) R s := by
  obtain ⟨oc, od, kV, doc, pm, an, cdv, ct, osl, p1, p2, q1, q2, q3, q4, ho, hcd⟩ := T.fn
  obtain ⟨nm, q, N, bs, bm, sn, sub, ab, col, dd, k0, k1, k2, k3, k5, hC, hbm⟩ := T.cls
  have hcl : clsIn K C = some { name := nm, bases := bs, mro := .ref C :: bm, ns := N, qualname := q, hasDict := true, slotNames := sn, subclasses := sub, abstract := ab, collection := col, hasDel := false } := by unfold clsIn; rw [hC] <;> rfl
  refine Att.call_fn (binds := [("self", .ref x), ("index", v)]) X hlim ho hcd hroom (BindsTo.of_eq (by first | rfl | with_unfolding_all rfl)) (by first | rfl | decide | with_unfolding_all rfl) (fun s₁ IC => ?_) rfl rfl rfl
  obtain ⟨h₁, tk₁, rfl⟩ := IC.toInCall.same
  have k : ∀ b o, s.heap.get? b = some o → h₁.get? b = some o := IC.toInCall.keep
  have hn := IC.toInCall.ns
  have hxL : s.heap.objs.size ≠ x := Nat.ne_of_gt (Heap.lt_size hx)
  have X₁ : K.In h₁ := X.keeps k
  have hx₁ := k _ _ hx
  -- self.by = by
  show wpAny _ _ (execs _ _) _ _ _
  refine wpAny_execs_cons (plainObj_wpAny_Assign_Attribute ?_)
  refine ldC (v := v) hn (by first | rfl | with_unfolding_all rfl | kernel_rfl) (ldC (v := .ref x) hn (by first | rfl | with_unfolding_all rfl | kernel_rfl) ?_)
  refine set_plain X₁ (ox := excO C t0) (od := none) ⟨hx₁, rfl, rfl, trivial⟩ T.sa ?_
  refine exc_osa X₁ hx₁ hcl (show refsVE (.ref C :: bm) = true from hbm) rfl T.noN (fun h₃ tk₃ dx k₃ dn dne hx₃ hn₃ => ?_)
  show wpAny _ _ (execs _ _) _ _ _
  have z : s.heap.objs.size < h₁.objs.size := hn.lt
  exact wpAny_execs_nil (hq h₃ tk₃ dx ⟨fun b o hb e => k₃ b o hb (k b o e), hx₃, Nat.le_of_lt (Nat.lt_of_lt_of_le z dn), dne, hn₃⟩)
theorem xi_made (T : XiTxt K mg xn qn C fI) {v : Value} (X : K.In s.heap) (hlim : s.heap.NoLimit) (hroom : A.depth + 1 < recursionLimit)
    (hq : ∀ h' tk e d, OwnMade s.heap h' e C d v → R (.ok (.ret (.ref e))) { s with heap := h', toks := tk }) :
    codeAny (model prog w) A (.call (.ref C) ⟨[v], []⟩) R s := by
  obtain ⟨nm, q, N, bs, bm, sn, sub, ab, col, dd, k0, k1, k2, k3, k5, hC, hbm⟩ := T.cls
  obtain ⟨hp, g, dr, tk, os⟩ := s
  have k : ∀ b o, hp.get? b = some o → ((hp.push (kdv_tup [v])).push (excO C hp.objs.size)).get? b = some o := fun b o e => Heap.get?_push_of_some _ (Heap.get?_push_of_some _ e)
  have hget : ((hp.push (kdv_tup [v])).push (excO C hp.objs.size)).get? (hp.objs.size + 1) = some (excO C hp.objs.size) := by heap_get
  have hnx : K.lookup (hp.objs.size + 1) = none := by
    cases e : K.lookup (hp.objs.size + 1) with
    | none => rfl
    | some o =>
      have z : hp.get? (hp.objs.size + 1) = some o := X _ _ e
      exact absurd (Nat.lt_of_succ_lt (Heap.lt_size z)) (Nat.lt_irrefl _)
  refine call_own F.excBase_ValueError (fun X => refsVE_contains X bm hbm) (X _ _ hC) (looks_findIn X T.iC) (fun self => bind_fn X self T.tC) (one_size v) ?_
  refine xi_init (s := ⟨(hp.push (kdv_tup [v])).push (excO C hp.objs.size), g, dr, tk, os⟩) T (X.keeps k) (hlim.keeps k) hget hnx ?_ fun h' tk' dx ⟨k', hx, dn, dne, hns⟩ => ?_
  · show A.depth + 1 < recursionLimit
    exact hroom
  · have old : ∀ b o, hp.get? b = some o → h'.get? b = some o := fun b o e => k' b o (Nat.ne_of_lt (Nat.lt_succ_of_lt (Heap.lt_size e))) (k b o e)
    have z : hp.objs.size + 1 + 1 ≤ dx := by
      first
        | (simpa only [Heap.size_push] using dn)
        | exact dn
        | (have q := dn; rw [Heap.size_push, Heap.size_push] at q; exact q)
    exact ⟨rfl, hq h' tk' (hp.objs.size + 1) dx ⟨old, Nat.le_succ _, ⟨_, _, hx, rfl, rfl, rfl, rfl⟩, Nat.le_trans (Nat.le_trans (Nat.le_succ _) (Nat.le_succ _)) z, dne, hns⟩⟩
end
end XiX
end PySem
namespace L2
open PySem PySem.Spec PyProof.Rows
theorem relO_index {v : V} {v' : Value} (r : RelV v v') (f : Str) : RelO (List.lookup f [(("index" : Str), v)]) (if f = "index" then some v' else none) := by
  by_cases hw : f = "index"
  · subst hw
    rw [if_pos rfl]
    have q : List.lookup ("index" : Str) [(("index" : Str), v)] = some v := by simp [List.lookup]
    rw [q]
    exact r
  · rw [if_neg hw]
    have qw : (f == ("index" : Str)) = false := by simpa using hw
    have q2 : List.lookup f [(("index" : Str), v)] = none := by simp [List.lookup, qw]
    rw [q2]
    trivial
section
variable {X : Cx} {xn qn : Str} {C fI : Addr}
/-- its making -/
def tMkXi (C : Addr) (ta : TA) : St → Hp → XK → Prop := fun σ H Q => ta σ H fun vs H1 => ∃ v, vs = [v] ∧ ∀ d, H1 d = none → Q (.ref C) (some d) (upd H1 d (.xd [(("index" : Str), v)]))
theorem pmk_xi {a : Expr} {ta : TA} {p pos : Pos} {k : Nat} (T : PySem.XiX.XiTxt X.K X.mg xn qn C fI) (hr : Room k X.A) (ha : PA X [a] ta) (hg : Gl X xn) (hdb : (xn == ("__debug__" : Str)) = false)
    (he : starEach (a :: []) X.env = (false, eval a X.env) :: starEach [] X.env := by rfl) (hpl : (backTo pos (starEach [] X.env)).any (·.1) = false := by rfl) :
    PMk X (.Call (.Name xn p) [a] [] pos) (tMkXi C ta) := by
  intro pins s σ H Q I h
  refine wpAny_Call_Name_kw (ld_glob I hg T.gC ?_ hdb)
  refine PySem.W.callWith_K (h₀ := X.base) I.ok.mod.kin T.kC (thn (ha.run pos pins s σ H _ I h) fun us s1 hh => ?_) he hpl
  obtain ⟨vs, H1, I1, r1, v, ev, q1⟩ := hh
  subst ev
  refine ⟨I1.kIn, ?_⟩
  cases r1 with
  | cons rv rn =>
    rename_i v' us'
    cases rn
    show wpAny _ _ (call (.ref C) [v']) _ _ _
    have hlim := I1.nolimit
    obtain ⟨hp, g, dr, tk, os⟩ := s1
    refine wpAny_call (PySem.XiX.xi_made T I1.kIn hlim (by have := hr.dp; omega) fun h' tk' e d M => ?_)
    show MkP X pins σ Q (.ref e) ⟨h', g, dr, tk', os⟩
    obtain ⟨oe, fv, hoe, hc, hd, hdat, h1⟩ := M.obj
    have hns := M.ns
    obtain ⟨G', g1, g2⟩ := restrict h' fun b => decide (b ≠ e)
    have gk : ∀ b, b ≠ e → G'.get? b = h'.get? b := fun b hb => g1 b (decide_eq_true hb)
    have ge : G'.get? e = none := g2 e (by simp)
    have old : ∀ b o, hp.get? b = some o → G'.get? b = some o := fun b o q => (gk b (Nat.ne_of_lt (Nat.lt_of_lt_of_le (Heap.lt_size q) M.new))).trans (M.keep b o q)
    have ob : ObjOk X.prog X.w (upd H1 d (.xd [(("index" : Str), v)])) G' d (.xd [(("index" : Str), v)]) :=
      ⟨_, hns.at (fun o q => (gk d M.dne).trans q), fun f => relO_index rv f⟩
    have J : Inv X pins σ (upd H1 d (.xd [(("index" : Str), v)])) ⟨G', g, dr, tk', os⟩ := I1.laid (t' := tk') old M.dbig ob
    refine ⟨e, oe, fv, ⟨G', g, dr, tk', os⟩, _, .ref C, some d, rfl, J, fun b o q => ?_, ge, hoe, ⟨hc, hd⟩, hdat, h1, ?_, rfl, I1.bare, raises_own T.exC T.tyC, q1 d (I1.hok.fresh M.dbig)⟩
    · by_cases hb : b = e
      · have q' : G'.get? b = some o := q
        rw [hb, ge] at q'; cases q'
      · exact (gk b hb).symm.trans q
    · rw [upd_ne (Ne.symm M.dne)]
      exact I1.hok.fresh M.new
/-- its raising -/
def tRaiseXi (C : Addr) (W : WX) (ta : TA) : TS := fun _ σ H => tMkXi C ta σ H fun cls d H' => W cls d σ H'
theorem ps_raiseXi {a : Expr} {ta : TA} {W : WX} {p pos pos2 : Pos} {k : Nat} (hc : X.calm = true) (T : PySem.XiX.XiTxt X.K X.mg xn qn C fI) (hr : Room k X.A) (tk : Takes X W) (ha : PA X [a] ta) (hg : Gl X xn) (hdb : (xn == ("__debug__" : Str)) = false)
    (he : starEach (a :: []) X.env = (false, eval a X.env) :: starEach [] X.env := by rfl) (hpl : (backTo pos (starEach [] X.env)).any (·.1) = false := by rfl) :
    PS X (.Raise (some (.Call (.Name xn p) [a] [] pos)) none pos2) (tRaiseXi C W ta) := ps_raise hc tk (pmk_xi T hr ha hg hdb he hpl)
/-- low.by, low the exception that the suite holds (at a; its class cls, its dict d) -/
def tIndex (C : Addr) (a : Addr) (cls : Value) (d : Option Addr) (te : TE) : TE := fun σ H Q => te σ H fun x H1 => x = .ref a ∧ cls = .ref C ∧ ∃ (dd : Addr) (v : V), d = some dd ∧ H1 dd = some (.xd [(("index" : Str), v)]) ∧ Q v H1
theorem pe_index {a : Addr} {oe : Obj} {cls : Value} {d : Option Addr} {pn : List (Addr × Obj)} {e : Expr} {te : TE} {pos : Pos} (T : PySem.XiX.XiTxt X.K X.mg xn qn C fI) (hz : Zc cls d oe) (hf : ∃ vs, oe.data = .fields vs) (he : PE (X.suite a ((a, oe) :: pn)) e te)
    (hb : attributeBase e "index" X.env (eval e X.env) = eval e X.env := by rfl) :
    PE (X.suite a ((a, oe) :: pn)) (.Attribute e "index" pos) (tIndex C a cls d te) := by
  refine ⟨fun pins s σ H Q I h => ?_⟩
  refine attr_of hb (thn (he.run pins s σ H _ I h) fun u s1 hh => ?_)
  obtain ⟨x, H1, I1, rx, ex, ec, dd, v, ed, ea, q⟩ := hh
  subst ex
  obtain rfl : u = Value.ref a := rx
  subst ec
  subst ed
  obtain ⟨ha, _⟩ := I1.pin (a, oe) (List.mem_append_left _ List.mem_cons_self)
  obtain ⟨vs, hd⟩ := hf
  have hx : ObjOk X.prog X.w H1 s1.heap dd (.xd [(("index" : Str), v)]) := I1.hok dd _ ea
  obtain ⟨mA, hns, hr⟩ := hx
  obtain ⟨od, ho, hl⟩ := lookIn_ns hns
  have l : List.lookup ("index" : Str) [(("index" : Str), v)] = some v := by simp [List.lookup]
  obtain ⟨u, hu, ru⟩ := RelO.some_of (v := v) (o := mA "index") (by rw [← l]; exact hr "index")
  have J : PySem.W.InstAt s1.heap a oe C (some od) := ⟨ha, hz.1, by unfold PySem.W.notCls; rw [hd] <;> rfl, by rw [hz.2]; exact ho⟩
  exact HandSPX.exc_get I1.kIn J T.ga T.gg T.exC (PySem.W.findObj_own T.hdC T.noN rfl (by rw [hl, hu])) (handed_of ru) ⟨v, H1, I1.tok _, ru, q⟩
end
end L2

set_option Elab.async false
set_option linter.all false
set_option maxRecDepth 100000
set_option maxHeartbeats 2000000
/-! raise; what a def hears of a call. -/
namespace PL
open PySem PySem.Spec PyProof.Rows L2
variable [Tbl]
/-- an own error's class, its field -/
def XcOk (K : PySem.W.Frag) (mg : Str → Option Value) (x : Str) (C : Addr) (fl : Str) : Prop := ∃ qn fI, (fl = "given" ∧ PySem.XgX.XgTxt K mg x qn C fI) ∨ (fl = "index" ∧ PySem.XiX.XiTxt K mg x qn C fI)
section
variable {X : Cx} {q : Qm} {a : E} {pa : Expr} {pos pos2 p : Pos}
theorem w_rai {c : Nat} {C : Addr} {fl : Str} {σ H} {En : Ends} (hC : q.ca c = C) (hf : q.xn c = fl) (h : tS X.K q (.rai c a) En σ H) :
    tWs X.K q (.cons a .nil) σ H fun vs H1 => ∃ v, vs = [v] ∧ ∀ d, H1 d = none → q.XE (.ref C) (some d) (upd H1 d (.xd [(fl, v)])) := by
  obtain ⟨β, ρ, env, st, e, S, h⟩ := h
  simp only [ex] at h
  refine ⟨β, ρ, env, st, e, S, ?_⟩
  simp only [evs]
  cases hv : ev q.C q.G a env st with
  | bad =>
    rw [hv] at h
    exact h.elim
  | exn k d s1 =>
    rw [hv] at h
    exact h
  | ok x s1 =>
    rw [hv] at h
    have h : PostX X.K q β ρ st H c x s1 := h
    intro vs H1 ρ1 a1 S1 r1
    cases r1 with
    | @cons _ _ v _ r1 r2 =>
      cases r2
      refine ⟨v, rfl, fun d hd => ?_⟩
      have L := S1.lay (o := .xd [(fl, v)]) hd
      rw [← hC]
      exact h _ _ ρ1 d (a1.trans L.2) L.1 (r1.stp L.2) (by rw [hf]; exact upd_same)
theorem z_rai {x : Str} {c k : Nat} (hc : X.calm = true) (T : XcOk X.K X.mg x (q.ca c) (q.xn c)) (hr : Room k X.A) (tk : Takes X fun cls d _ H => q.XE cls d H) (ha : PE X pa (tW X.K q a)) (hg : Gl X x) (hdb : (x == ("__debug__" : Str)) = false)
    (he : starEach [pa] X.env = (false, eval pa X.env) :: starEach [] X.env) : PS X (.Raise (some (.Call (.Name x p) [pa] [] pos)) none pos2) (tS X.K q (.rai c a)) := by
  obtain ⟨qn, fI, T | T⟩ := T
  · exact (ps_raiseXg hc T.2 hr tk (s_cons ha s_nil he) hg hdb he rfl).w fun D σ H h => w_rai rfl T.1 h
  · exact (ps_raiseXi hc T.2 hr tk (s_cons ha s_nil he) hg hdb he rfl).w fun D σ H h => w_rai rfl T.1 h
end
end PL

set_option Elab.async false
set_option linter.all false
set_option maxRecDepth 100000
set_option maxHeartbeats 2000000
/-! Several except clauses, each with the same name; a lambda handed to a def, the tables told by their place. -/
namespace L2
open PySem PySem.Spec PyProof.Rows
/-- what the clauses wish of an exception of the body, one after the other: slot i is the name's -/
def wManyAs (K : PySem.W.Frag) (m i : Nat) (Wout : WX) (D : Ends) : List (Value × (Addr → Value → Option Addr → TS)) → WX
  | [] => Wout
  | (c, ts) :: r => fun cls d σ H => ∃ b, PySem.W.exmOne K cls c = some b ∧
    (b = true → σ.length = m → ∀ a, H a = none → ts a cls d { nx := fun σ' H' => D.nx (σ'.set i none) H', rt := D.rt, bk := fun σ' H' => D.bk (σ'.set i none) H', ct := fun σ' H' => D.ct (σ'.set i none) H' } (σ.set i (some (.ref a))) H) ∧
    (b = false → wManyAs K m i Wout D r cls d σ H)
inductive HdsAs (X : Cx) (n : Str) : List ExceptHandler → List (Value × (Addr → Value → Option Addr → TS)) → Prop
  | nil : HdsAs X n [] []
  | cons {x : Str} {c : Value} {ts : Addr → Value → Option Addr → TS} {b₀ : Stmt} {suite : List Stmt} {np pos' : Pos} {hds : List ExceptHandler} {l : List (Value × (Addr → Value → Option Addr → TS))} (hc : Names X x c)
      (hsu : ∀ (a : Addr) (oe : Obj) (cls : Value) (d : Option Addr) (pn : List (Addr × Obj)), Zc cls d oe → (∃ vs, oe.data = .fields vs) → PSs (X.suite a ((a, oe) :: pn)) (b₀ :: suite) (ts a cls d)) (r : HdsAs X n hds l) :
      HdsAs X n (.ExceptHandler (some (.Name x np)) (some n) (b₀ :: suite) pos' :: hds) ((c, ts) :: l)
section
variable {X : Cx} {n : Str} {i : Nat} {body : List Stmt} {h₀ : ExceptHandler} {hds : List ExceptHandler} {l : List (Value × (Addr → Value → Option Addr → TS))} {pos : Pos} {tb : WX → TS} {Wout : WX}
theorem ps_try_manyAs (hs : X.stack = X.env :: X.outer) (hf : X.env.frame = some X.env.locals) (hN : X.N.Nodup) (hi : X.N[i]? = some n) (hln : X.env.kindOf n = some .local) (tk : Takes X Wout)
    (hb : ∀ (W : WX) (pn : List (Addr × Obj)) (xe : Value → Shared → Prop), Takes (X.tr pn xe) W → PassesOwn (model X.prog X.w) X.A X.env xe → PSs (X.tr pn xe) body (tb W))
    (hh : HdsAs X n (h₀ :: hds) l) : PS X (.Try body (h₀ :: hds) [] [] pos) (fun D σ H => tb (wManyAs X.K X.N.length i Wout D l) D σ H) := by
  refine ⟨fun pins s σ H D I h => ?_⟩
  have ok := I.ok
  have hfr : X.A.frames = some (X.env :: X.outer) := by rw [ok.frames, hs]
  have hloc : Loc X.env.scope n := .inl hln
  refine wpAny_Try_except ?_
  refine wpAny_mono ((hb (wManyAs X.K X.N.length i Wout D l) (X.pn ++ pins) (fun e s₁ => wpAny (model X.prog X.w) X.A (noteFrame e X.env) (fun _ s₂ => wpAny (model X.prog X.w) X.A (setFlight e none) (fun _ s₃ =>
    wpAny (model X.prog X.w) X.A (handleBy e X.env (h₀ :: hds)) (SP X pins D) X.xe s₃) X.xe s₂) X.xe s₁) (fun u s' xx => ?_) PassesOwn.looking).run [] s σ H D (I.toTry _) h) (fun f s1 hsp => ?_) (fun e s1 he => he)
  · obtain ⟨a, B, sI, pins', σ', H', cls, d, rfl, J', nb, up, sky, na, os, ag, w⟩ := xx
    have J : Inv X pins σ' H' sI := J'.ofTry ok
    have sky' : Sky B (X.env :: X.outer) a (Zc cls d) X.env.locals s'.heap := by rw [← hs]; exact sky
    show wpAny (model X.prog X.w) X.A (noteFrame (.ref a) X.env) _ _ _
    refine Sky.land Zc.steady hfr hf sky' fun h3 fl3 up3 => ?_
    have J3 : Inv X pins σ' H' { s' with heap := h3 } := J.landed nb fl3.1 (up.trans up3) os ag
    obtain ⟨oe3, vs3, he3, hz3, hd3⟩ := fl3.there
    have notFr : ∀ {h : Heap} {o : Obj} {vs : Array Value}, h.FunFrames B (X.env :: X.outer) → h.get? a = some o → o.data = .fields vs → a ∉ frs (X.env :: X.outer) := fun {h o vs} ff e dd hm => by
      obtain ⟨_, o', e', hnf⟩ := ff.mem hm
      rw [e] at e'; cases e'
      exact hnf _ dd
    have nfr := notFr fl3.2.2.1 he3 hd3
    have nL : a ≠ X.env.locals := fun z => nfr (List.mem_filterMap.mpr ⟨X.env, List.mem_cons_self, by rw [hf, z]⟩)
    have nF : a ∉ X.fs := fun hm => by
      obtain ⟨e, he, q⟩ := List.mem_filterMap.mp hm
      exact nfr (List.mem_filterMap.mpr ⟨e, List.mem_cons_of_mem _ he, q⟩)
    have S3 := J3.suite he3 hd3 na nL nF
    have go : ∀ {hds' : List ExceptHandler} {l' : List (Value × (Addr → Value → Option Addr → TS))}, HdsAs X n hds' l' → wManyAs X.K X.N.length i Wout D l' cls d σ' H' →
        wpAny (model X.prog X.w) X.A (handleBy (.ref a) X.env hds') (SP X pins D) X.xe { s' with heap := h3 } := by
      intro hds' l' hk
      induction hk with
      | nil =>
        intro w
        refine wpAny_handleBy_nil ?_
        obtain ⟨k1, k2, k3, oe, vs, T, oT, ts', he, hz, hd, h1, hr⟩ := id fl3
        unfold PySem.passOn
        refine wpAny_bind (wpAny_field he hd h1 ?_)
        rw [if_neg (show ¬ ((Value.ref T == Value.none) = true) from by simp)]
        have fin : wpAny (model X.prog X.w) X.A (setFlight (.ref a) X.env.frame) (fun _ s4 => wpAny (model X.prog X.w) X.A (throw (.ref a) : Sem Flow) (SP X pins D) X.xe s4) X.xe { s' with heap := h3 } := by
          rw [hf]
          refine HandSPX.setFlight_upZ fl3 fun h4 hh4 up4 => wpAny_throw (tk _ _ ?_)
          exact ⟨a, B, sI, pins, σ', H', cls, d, rfl, J, nb, (up.trans up3).trans up4, .inr (.inr (by rw [hs]; exact hh4)), na, os, ag, w⟩
        first
          | exact wpAny_bind (wpAny_pure (wpAny_bind fin))
          | exact wpAny_bind fin
      | @cons x c ts b₀ suite np pos' hds2 l2 hc hsu r ih =>
        intro w
        obtain ⟨b, hb1, hyes, hno⟩ := w
        refine wpAny_handleBy_cons (codeAny_handlers_test ?_) (by intro q; cases q)
        have LT : PySem.W.Looks (model X.prog X.w) h3 (typeOf (.ref a)) cls := fun A Q E s k q => wpAny_typeOf_ref (k _ _ he3) (by rw [hz3.1]; exact q)
        have LM := PySem.W.exm_one (M := model X.prog X.w) (J3.kIn) LT hb1
        have test : ∀ {Q : Value → Shared → Prop} {E : Value → Shared → Prop}, Q c { s' with heap := h3 } → wpAny (model X.prog X.w) (X.A.mark (some (.ref a))) (eval (.Name x np) X.env) Q E { s' with heap := h3 } := fun {Q E} q => by
          obtain ⟨hg, hdbg, hm | ⟨hm, hv, hnn⟩⟩ := hc
          · exact ld_glob (X := X.suite a ((a, oe3) :: (X.pn ++ pins))) S3 hg hm q hdbg
          · exact ld_blt (X := X.suite a ((a, oe3) :: (X.pn ++ pins))) S3 hg hm hv q hnn hdbg
        refine test (LM.here ?_)
        cases b with
        | true =>
          refine codeAny_handlers_suite_as ?_
          refine HandSPX.lands_againZ fl3 fun h4 fl4 up4 => ?_
          have J4 : Inv X pins σ' H' { s' with heap := h4 } := J.landed nb fl4.1 ((up.trans up3).trans up4) os ag
          obtain ⟨oe4, vs4, he4, hz4, hd4⟩ := fl4.there
          have S4 := J4.suite he4 hd4 na nL nF
          refine store_ok (X := X.suite a ((a, oe4) :: (X.pn ++ pins))) (v := .ref a) S4 hN hi hloc rfl (fun s5 S5 => ?_) (.inr hln)
          refine wpAny_mono ((hsu a oe4 cls d (X.pn ++ pins) hz4 ⟨_, hd4⟩).run [] s5 _ H' _ S5 (hyes rfl J.len a na)) (fun f s6 hsp => ?_) (fun _ _ z => False.elim z)
          have end_ : ∀ {σ6 : St} {H6 : Hp} {Q : Shared → Prop}, Inv (X.suite a ((a, oe4) :: (X.pn ++ pins))) [] σ6 H6 s6 → (∀ s7, Inv X pins (σ6.set i none) H6 s7 → Q s7) →
              wpAny (model X.prog X.w) X.A (do bindName X.env n .none; unbindBehindTheSuite X.env n pos') (fun _ s7 => Q s7) X.xe s6 := fun {σ6 H6 Q} S6 hq => gone_ok (S6.unsuite ok) hN hi hln hq
          cases f with
          | next =>
            obtain ⟨σ6, H6, S6, q6⟩ := hsp
            exact end_ S6 fun s7 J7 => ⟨_, _, J7, q6⟩
          | brk =>
            obtain ⟨σ6, H6, S6, q6⟩ := hsp
            exact end_ S6 fun s7 J7 => ⟨_, _, J7, q6⟩
          | cont =>
            obtain ⟨σ6, H6, S6, q6⟩ := hsp
            exact end_ S6 fun s7 J7 => ⟨_, _, J7, q6⟩
          | ret u =>
            obtain ⟨v6, σ6, H6, S6, r6, q6⟩ := hsp
            exact end_ S6 fun s7 J7 => ⟨_, _, _, J7, r6, q6⟩
        | false =>
          show wpAny _ X.A (handleBy (.ref a) X.env hds2) _ _ _
          exact ih (hno rfl)
    exact go hh w
  · cases f with
    | next =>
      obtain ⟨σ', H', J', q⟩ := hsp
      exact wpAny_execs_nil ⟨σ', H', J'.ofTry ok, q⟩
    | brk =>
      obtain ⟨σ', H', J', q⟩ := hsp
      exact ⟨σ', H', J'.ofTry ok, q⟩
    | cont =>
      obtain ⟨σ', H', J', q⟩ := hsp
      exact ⟨σ', H', J'.ofTry ok, q⟩
    | ret u =>
      obtain ⟨v, σ', H', J', r, q⟩ := hsp
      exact ⟨v, σ', H', J'.ofTry ok, r, q⟩
end
end L2
namespace LamP
open PySem PySem.Spec PyProof.Rows L2 LamX
/-- all but what stands at P stays -/
def ExtP (P : Addr) (H H' : Hp) : Prop := ∀ b o, H b = some o → b ≠ P → H' b = some o
section
variable {X : Cx} {pins : List (Addr × Obj)} {σ : L2.St} {H : Hp} {s : Shared}
theorem lam_makeP {T : List (Addr × Str)} {c P : Addr} {params : Arguments} {body : Expr} {scope : Scope} {pos : Pos} {E : Value → Shared → Prop} {Q : Value → Shared → Prop} (I : Inv X pins σ H s) (TB : TabB X.base X.mg c P) (hcode : X.env.code = .ref c)
    (hm : (P, X.env.qual ++ "<lambda>") ∈ T) (hu : ∀ p ∈ T, p.1 = P → p.2 = X.env.qual ++ "<lambda>") (hT : Tabs T H) (hdef : defaultsOf params X.env = ([], [])) (hfree : ∀ y ∈ scope.names, y.2 = .free → ∃ c, X.env.cells.lookup y.1 = some c)
    (h : ∀ (f c' : Addr) (pm ctv : Value) (H1 : Hp) (s' : Shared), Inv X pins σ H1 s' → ExtP P H H1 → Tabs T H1 →
      s'.heap.get? f = some (PySem.W.kla_obj "<lambda>" (X.env.qual ++ "<lambda>") params body scope (cloFrom X.env.cells scope.names []) pm c' ctv) → H1 f = none → f ∉ frs X.stack → H1 c' = some (CodeO c' (X.env.qual ++ "<lambda>")) → Q (.ref f) s') :
    wpAny (model X.prog X.w) X.A (eval (.Lambda params body scope pos) X.env) Q E s := by
  obtain ⟨ps, hP, ht, ha⟩ := hT _ hm
  refine PySem.W.kla_eval hdef ?_
  have bP : s.heap.BuiltinsAt X.mg P := TB.bm.keeps I.bk
  have hP' : s.heap.get? P = some { cls := .none, data := .fields ps } := I.hok P _ hP
  have nofr : ∀ f, s.heap.objs.size ≤ f → f ∉ frs X.stack := fun f hf z => by
    rcases List.mem_cons.mp (I.stkSub _ z) with e | e
    · have h1 := I.lt
      rw [← e] at h1
      exact Nat.lt_irrefl _ (Nat.lt_of_lt_of_le h1 hf)
    · exact I.nofs hf e
  cases hc : codeAmong pos ps.toList with
  | some cv =>
    obtain ⟨c', e, hco⟩ := ha pos cv hc
    subst e
    refine PySem.W.kla_makeFunctionHit (mg := X.mg) (c := c) (P := P) (ps := ps) (closure_ok hfree) I.ok.glob (I.mod.glob.keeps I.bk) hcode (TB.code.keeps I.bk) hP' ht hc bP fun ctv h' tk hx hsz => ?_
    have I1 : Inv X pins σ H { s with heap := h'.push (PySem.W.kla_obj "<lambda>" (X.env.qual ++ "<lambda>") params body scope (cloFrom X.env.cells scope.names []) ((X.mg "__name__").getD .none) c' ctv), toks := tk } := I.kept fun b o e => Heap.get?_push_of_some _ (hx b o e)
    exact h h'.objs.size c' ((X.mg "__name__").getD .none) ctv H _ I1 (fun _ _ e _ => e) hT (Heap.get?_push_size _ rfl) (I.hok.fresh hsz) (nofr _ hsz) hco
  | none =>
    refine PySem.W.kla_makeFunction (mg := X.mg) (c := c) (P := P) (ps := ps) (closure_ok hfree) I.ok.glob (I.mod.glob.keeps I.bk) hcode (TB.code.keeps I.bk) hP' ht hc TB.gP bP fun c' ctv h' tk hx hge hlt hrec htb => ?_
    obtain ⟨c2, oc, vs, t, e2, hoc, hd, hv⟩ := hrec
    cases e2
    have hsz : s.heap.objs.size ≤ h'.objs.size := Nat.le_trans hge (Nat.le_of_lt hlt)
    have nC : H c' = none := I.hok.fresh hge
    have I1 := inv_table (t' := tk) (more := #[rawInt pos.line, rawInt pos.col, .ref c']) (h' := h'.push (PySem.W.kla_obj "<lambda>" (X.env.qual ++ "<lambda>") params body scope (cloFrom X.env.cells scope.names []) ((X.mg "__name__").getD .none) c' ctv)) I hP
      (fun b o hb e => Heap.get?_push_of_some _ (hx b o hb e)) (Heap.get?_push_of_some _ htb) hge ⟨oc, vs, t, Heap.get?_push_of_some _ hoc, hd, hv⟩
    have hE : ExtP P H (upd (upd H P (.tbl (ps ++ #[rawInt pos.line, rawInt pos.col, .ref c']))) c' (CodeO c' (X.env.qual ++ "<lambda>"))) := fun b o e n => by
      rw [upd_ne (ne_of_none e nC), upd_ne n]
      exact e
    have nCP : ∀ c0 q, H c0 = some (CodeO c0 q) → c0 ≠ P := fun c0 q e z => by
      rw [z, hP] at e
      exact codeO_ne ps (Option.some.inj e).symm
    have eL : (ps ++ #[rawInt pos.line, rawInt pos.col, .ref c']).toList = ps.toList ++ [rawInt pos.line, rawInt pos.col, .ref c'] := by simp
    refine h h'.objs.size c' ((X.mg "__name__").getD .none) ctv _ _ I1 hE (fun p hp => ?_) (Heap.get?_push_size _ rfl) ?_ (nofr _ hsz) upd_same
    · by_cases hb : p.1 = P
      · rw [hu p hp hb, hb]
        refine ⟨_, by rw [upd_ne (ne_of_none hP nC), upd_same], by rw [eL]; exact PySem.TriplesOk_snoc _ _ _ _ ht, fun p' cv hcv => ?_⟩
        rw [eL] at hcv
        rcases among_app _ ht hcv with z | z
        · obtain ⟨c0, e1, e2⟩ := ha p' cv z
          exact ⟨c0, e1, hE _ _ e2 (nCP _ _ e2)⟩
        · exact ⟨c', z, upd_same⟩
      · obtain ⟨ps', a1, a2, a3⟩ := hT p hp
        refine ⟨ps', by rw [upd_ne (ne_of_none a1 nC), upd_ne hb]; exact a1, a2, fun p' cv hcv => ?_⟩
        obtain ⟨c0, e1, e2⟩ := a3 p' cv hcv
        exact ⟨c0, e1, hE _ _ e2 (nCP _ _ e2)⟩
    · have n1 : h'.objs.size ≠ c' := Nat.ne_of_gt hlt
      have n2 : h'.objs.size ≠ P := Nat.ne_of_gt (Nat.lt_of_lt_of_le (Heap.lt_size hP') hsz)
      rw [upd_ne n1, upd_ne n2]
      exact I.hok.fresh hsz
def tLamP (T : List (Addr × Str)) (P : Addr) (TT : (XK → Hp → VK → Prop) → Hp → VK → Prop) (t : XK → TE) : TE := fun σ H Q => Tabs T H ∧ ∀ H1, ExtP P H H1 → Tabs T H1 → TT (fun E H' Q' => t E σ H' Q') H1 Q
/-- x(lambda: body) -/
theorem pe_lamcallP {T : List (Addr × Str)} {TT : (XK → Hp → VK → Prop) → Hp → VK → Prop} {x a : Str} {g c P : Addr} {k : Nat} {pg : Arguments} {bg : List Stmt} {sg : Scope} {dV kV doc pm cdv ct oc : Value} {an od : Option Addr} {osl : Array (Option Value)} {Ng : List Str}
    {params : Arguments} {body : Expr} {scope : Scope} {t : XK → TE} {p lpos pos : Pos} (hg : Gl X x) (hm : X.mg x = some (.ref g)) (hk : PySem.W.keepIn X.K (.ref g) = true)
    (lk : X.K.lookup g = some ⟨oc, od, .func (PySem.W.fnOf x x pg bg sg dV kV doc pm an cdv ct), osl⟩) (hcg : PySem.W.codeIn X.K cdv x = true) (hb : L2.Binds X.K (PySem.W.fnOf x x pg bg sg dV kV doc pm an cdv ct) [a] []) (Sg : FnScope Ng [a] sg) (hNg : Ng[0]? = some a) (hva : Vis sg a)
    (hG : GivesTo X Ng x sg g cdv bg a (X.env.qual ++ "<lambda>") TT)
    (TB : TabB X.base X.mg c P) (hcode : X.env.code = .ref c) (hmT : (P, X.env.qual ++ "<lambda>") ∈ T) (hu : ∀ p ∈ T, p.1 = P → p.2 = X.env.qual ++ "<lambda>") (hr : Room (k + 2) X.A) (L : LamS X.env.scope scope) (hdef : defaultsOf params X.env = ([], []))
    (hbind : ∀ (q : Str) (cl : List (Str × Addr)) (pm cv ctv : Value), bindArgs (PySem.W.kla_fn "<lambda>" q params body scope cl pm cv ctv) ⟨[], []⟩ = pure [])
    (hbody : ∀ (A : Around) (outer : List Env) (s : Shared) (H : Hp) (E : XK) (f c' : Addr), Room k (A.deeper (lamEnv X scope s.heap.objs.size f c')) → PE (lamCx X A outer s H E scope f c') body (t E))
    (hdb : (x == ("__debug__" : Str)) = false) (hd : (a == ("__debug__" : Str)) = false) (hcd : (a == ("__classdict__" : Str)) = false) :
    PE X (.Call (.Name x p) [.Lambda params body scope lpos] [] pos) (tLamP T P TT t) := by
  refine ⟨fun pins s σ H Q I h => ?_⟩
  obtain ⟨hT, h⟩ := h
  refine wpAny_Call_Name_kw (ld_glob I hg hm ?_ hdb)
  refine PySem.W.callWith_K (h₀ := X.base) I.ok.mod.kin hk ?_ (by rfl) (by rfl)
  show wpAny _ _ (spliced ((false, eval (.Lambda params body scope lpos) X.env) :: backTo pos (starEach [] X.env))) _ _ s
  refine Calls.spliced_cons (lam_makeP I TB hcode hmT hu hT hdef (L.has I.ok) fun f c' pm' ctv H1 s' I1 eN T1 hf hfn hfr hco => ?_)
  refine Calls.spliced_nil ⟨I1.kIn, ?_⟩
  have rc : codeAny (model X.prog X.w) X.A (.call (.ref g) ⟨[.ref f], []⟩) (CR C8.CX0 X.stack X.prog X.w H1 s' Q C8.E0) s' := by
    refine run_ofS (N := Ng) (ps := [a]) (us := [.ref f]) (vs := [.ref f]) lk hcg Sg hr I1.env0 (hb s' [.ref f] I1.kIn rfl) (.cons rfl .nil) rfl fun hr' => ?_
    obtain ⟨t', ht', hq'⟩ := hG f c' s' H1 Q (fun E H' Q' => t E σ H' Q') (fun W pn xe E p1 p2 tk hW => pe_act (i := 0) I1 L hf hfn hfr (hbind _ _ _ _ _) tk hW hr' (fun A outer s H hr2 => hbody A outer s H E f c' hr2) hNg hva hd hcd) hco (h H1 eN T1)
    exact ⟨t', ht'.nox, hq'⟩
  refine wpAny_call (codeAny_mono rc fun r s2 hq => ?_)
  cases r with
  | error e => exact (show False from hq).elim
  | ok fl =>
    cases fl with
    | ret u => exact I1.after hq
    | next => exact False.elim hq
    | brk => exact False.elim hq
    | cont => exact False.elim hq
end
end LamP

set_option Elab.async false
set_option linter.all false
set_option maxRecDepth 100000
set_option maxHeartbeats 1000000
/-! The check: an own term is the program's term (positions aside). -/
namespace PL
open PySem PySem.Spec PyProof.Rows L2
variable [Tbl]
/-- names: the defs (number, how many parameters), the constants, the keyword calls (def, positional, names, order) -/
structure Ck where
  fns : List (Str × Nat × Nat)
  gls : List (Str × Nat)
  kws : List (Nat × Nat × List Str × List Nat)
  ims : List (Str × Im)
  perm : Bool
  xcs : List (Str × Nat)
  hrs : List (Str × Bool × List Nat × List (Nat × List Nat))
  lams : List Scope
def visB (sc : Scope) (x : Str) : Bool := match sc.names.lookup x with
  | some .local => true
  | some .cell => true
  | some .free => true
  | _ => false
def locB (sc : Scope) (x : Str) : Bool := match sc.names.lookup x with
  | some .local => true
  | some .cell => true
  | _ => false
def lclB (sc : Scope) (x : Str) : Bool := match sc.names.lookup x with
  | some .local => true
  | _ => false
def glB (sc : Scope) (x : Str) : Bool := match sc.names.lookup x with
  | some .globalImplicit => true
  | _ => false
def okN (x : Str) : Bool := !(x == ("__debug__" : Str)) && !(x == ("__classdict__" : Str)) && !(x == ("__name__" : Str))
def isStar : Expr → Bool
  | .Starred _ _ => true
  | _ => false
def isSet : Expr → Bool
  | .Set _ _ _ => true
  | _ => false
def isSl : Expr → Bool
  | .Slice _ _ _ _ => true
  | _ => false
/-- x(), which might be super() -/
def isCall : Expr → Bool
  | .Call (.Name _ _) [] [] _ => true
  | _ => false
def isLc : Expr → Bool
  | .ListComp _ _ _ _ => true
  | .SetComp _ _ _ _ => true
  | .DictComp _ _ _ _ _ => true
  | _ => false
def isSD : Expr → Bool
  | .SetComp _ _ _ _ => true
  | .DictComp _ _ _ _ _ => true
  | _ => false
def isTup : Expr → Bool
  | .Tuple _ _ _ => true
  | .List _ _ => true
  | _ => false
def blN : Bl → Str
  | .len => "len" | .sum => "sum" | .all => "all" | .any => "any" | .int => "int" | .abs => "abs" | .min2 => "min" | .max2 => "max"
  | .minL => "min" | .maxL => "max" | .divmod => "divmod" | .tuple => "tuple" | .list => "list" | .sorted => "sorted" | .str => "str"
def tyS : Ty → Str
  | .int => "int" | .str => "str" | .bool => "bool" | .list => "list" | .tuple => "tuple"
def blNames : List Str := ["len", "sum", "all", "any", "int", "abs", "min", "max", "divmod", "tuple", "list", "sorted", "isinstance", "str", "bool", "range", "enumerate", "zip"]
/-- the term can be read as a test -/
def canT : E → Bool
  | .ife _ _ _ => false
  | .thaw _ => false
  | .frz _ => false
  | _ => true
/-- the term makes a new list -/
def isFr : E → Bool
  | .list _ => true
  | .bin _ _ _ => true
  | .blt .list _ => true
  | .blt .sorted _ => true
  | .comp _ _ _ _ _ => true
  | .comp2 _ _ _ _ _ _ _ _ _ => true
  | .lsts _ => true
  | .rgv false _ _ => true
  | _ => false
def fnI (c : Ck) (x : Str) (k : Nat) : Bool := match c.fns.lookup x with
  | some p => decide (p.1 = k)
  | none => false
theorem fnI_of {c : Ck} {x : Str} {k : Nat} (h : fnI c x k = true) : ∃ np, c.fns.lookup x = some (k, np) := by
  unfold fnI at h
  split at h
  · rename_i p e
    have := of_decide_eq_true h
    exact ⟨p.2, by rw [e, ← this]⟩
  · cases h
/-- the block's scope, seen from around -/
def relS (s2 sc : Scope) : Scope := { s2 with names := s2.names.map fun (n, k) => if (k == NameKind.free && sc.kind == .function && sc.names.lookup n == some .cell) then (n, NameKind.cell) else (n, k) }
/-- a def's body in which lambdas stand -/
def lamB (c : Ck) (sc : Scope) : Bool := c.lams.any fun s => decide (s = sc)
/-- no parameters -/
def noPs (a : Arguments) : Bool := a.posonlyargs.isEmpty && a.args.isEmpty && a.vararg.isNone && a.kwonlyargs.isEmpty && a.kw_defaults.isEmpty && a.kwarg.isNone && a.defaults.isEmpty
def celB (sc : Scope) (x : Str) : Bool := match sc.names.lookup x with
  | some .cell => true
  | _ => false
section
variable (c : Ck) (N : List Str)
def ownN (own : List Nat) : List (Str × Nat) := own.map fun i => (N.getD i ⟨#[]⟩, i)
mutual
def kE : E → Scope → Expr → Bool
  | .non, sc, pe => (match pe with | .Constant .none _ _ => true | _ => false)
  | .bl b, sc, pe => (match pe with | .Constant (.bool v) _ _ => v == b | _ => false)
  | .int i, sc, pe => (match pe with | .Constant (.int j) _ _ => decide (i = j) | _ => false)
  | .str s, sc, pe => (match pe with | .Constant (.str x) _ _ => decide (x.cps.toList = s) | _ => false)
  | .var i, sc, pe => (match pe with | .Name x _ => decide (N[i]? = some x) && visB sc x && okN x | _ => false)
  | .glb k, sc, pe => (match pe with | .Name x _ => glB sc x && decide (c.gls.lookup x = some k) && okN x | _ => false)
  | .fnv k, sc, pe => (match pe with | .Name x _ => glB sc x && fnI c x k && okN x | _ => false)
  | .bin o a b, sc, pe => (match pe with | .BinOp pa op pb _ => decide (op = opOf o) && kE a sc pa && kE b sc pb | _ => false)
  | .neg a, sc, pe => (match pe with | .UnaryOp .USub pa _ => kE a sc pa | _ => false)
  | .not a, sc, pe => (match pe with | .UnaryOp .Not pa _ => canT a && kE a sc pa | _ => false)
  | .and a b, sc, pe => (match pe with
    | .BoolOp .And [pa, pb] _ => canT a && canT b && kE a sc pa && kE b sc pb
    | .BoolOp .And (pa :: pb :: pc :: r) p => canT a && canT b && kE a sc pa && kE b sc (.BoolOp .And (pb :: pc :: r) p)
    | _ => false)
  | .or a b, sc, pe => (match pe with
    | .BoolOp .Or [pa, pb] _ => canT a && canT b && kE a sc pa && kE b sc pb
    | .BoolOp .Or (pa :: pb :: pc :: r) p => canT a && canT b && kE a sc pa && kE b sc (.BoolOp .Or (pb :: pc :: r) p)
    | _ => false)
  | .cmp o a b, sc, pe => (match pe with | .Compare pa [op] [pb] _ => decide (op = cmOf o) && !isSet pb && kE a sc pa && kE b sc pb | _ => false)
  | .chn o p a b d, sc, pe => (match pe with | .Compare pa [op, oq] [pb, pc] _ => decide (op = cmOf o) && decide (oq = cmOf p) && !isSet pc && kE a sc pa && kE b sc pb && kE d sc pc | _ => false)
  | .ife d a b, sc, pe => (match pe with | .IfExp pc pa pb _ => canT d && kE d sc pc && kE a sc pa && kE b sc pb | _ => false)
  | .call f as, sc, pe => (match pe with | .Call (.Name x _) pes [] _ => glB sc x && okN x && decide (c.fns.lookup x = some (f, esLen as)) && kEs as sc pes | _ => false)
  | .callk f as ks pm, sc, pe => (match pe with
    | .Call (.Name x _) pes kws _ => glB sc x && okN x && fnI c x f && decide ((f, esLen as, kws.filterMap (·.arg), pm) ∈ c.kws) && kEs as sc pes && kKs ks sc kws
    | _ => false)
  | .callv i as, sc, pe => (match pe with | .Call (.Name x _) pes [] _ => decide (N[i]? = some x) && visB sc x && okN x && !pes.isEmpty && kEs as sc pes | _ => false)
  | .blt b as, sc, pe => (match pe with | .Call (.Name x _) pes [] _ => decide (x = blN b) && glB sc x && !pes.isEmpty && kEs as sc pes | _ => false)
  | .isi a t, sc, pe => (match pe with | .Call (.Name x _) [pa, .Name y _] [] _ => decide (x = "isinstance") && decide (y = tyS t) && glB sc x && glB sc y && !isStar pa && kE a sc pa | _ => false)
  | .mth m o as, sc, pe => (match pe with | .Call (.Attribute pa x apos) pes [] cpos => decide (x = mN m) && !isCall pa && (apos.endLine == cpos.line) && decide (pes.length < 20) && kE o sc pa && kEs as sc pes | _ => false)
  | .idx a b, sc, pe => (match pe with | .Subscript pa pb _ => !isSl pb && kE a sc pa && kE b sc pb | _ => false)
  | .slc a lo hi, sc, pe => (match pe with | .Subscript pa (.Slice plo phi none _) _ => kE a sc pa && kO lo sc plo && kO hi sc phi | _ => false)
  | .tup as, sc, pe => (match pe with | .Tuple pes _ _ => kEs as sc pes | _ => false)
  | .list as, sc, pe => (match pe with | .List pes _ => kEs as sc pes | _ => false)
  | .comp own elt tg it oc, sc, pe => (match pe with
    | .ListComp pelt [⟨ptg, pit, pifs, 0⟩] s2 _ => !lamB c (relS s2 sc) && blkC N sc s2 (ownN N own) && (tgv tg).all (fun i => own.contains i) && !isSet pit && kI it sc ptg pit && kG tg s2 (relS s2 sc) ptg && kC oc (relS s2 sc) pifs && kE elt (relS s2 sc) pelt
    | _ => false)
  | .comp2 own own1 elt tg it oc tg1 it1 oc1, sc, pe => (match pe with
    | .ListComp pelt [⟨ptg, pit, pifs, 0⟩, ⟨ptg1, pit1, pifs1, 0⟩] s2 _ => !lamB c (relS s2 sc) && blkC N sc s2 (ownN N own) && (tgv tg).all (fun i => own.contains i) && !isSet pit && kI it sc ptg pit && kG tg s2 (relS s2 sc) ptg && kC oc (relS s2 sc) pifs && kE elt (relS s2 sc) pelt && ((tgv tg1).all (fun i => own1.contains i) && own1.all (fun i => own.contains i) && !isSet pit1 && kI it1 (relS s2 sc) ptg1 pit1 && kG tg1 s2 (relS s2 sc) ptg1 && kC oc1 (relS s2 sc) pifs1)
    | _ => false)
  | .tups zs, sc, pe => (match pe with | .Tuple pes _ _ => kZs zs sc pes | _ => false)
  | .lsts zs, sc, pe => (match pe with | .List pes _ => kZs zs sc pes | _ => false)
  | .tidx as e, sc, pe => false
  | .hrd tp w ws e, sc, pe => (match pe with
    | .Call (.Name x _) [.Lambda params body scope _] [] _ => glB sc x && okN x && decide (c.hrs.lookup x = some (tp, w, ws)) && lamB c sc && LamX.lamSB sc scope && !lamB c scope && noPs params && kE e scope body
    | _ => false)
  | .imp f as, sc, pe => (match pe with | .Call (.Name x _) pes [] _ => decide (c.ims.lookup x = some f) && glB sc x && okN x && !pes.isEmpty && kEs as sc pes | _ => false)
  | .thaw a, sc, pe => isFr a && kE a sc pe
  | .frz a, sc, pe => kE a sc pe
  | .rgv tp lo b, sc, pe => (match pe with
    | .Call (.Name x _) [.Call (.Name y _) pes [] _] [] _ => decide (x = if tp then "tuple" else "list") && glB sc x && decide (y = "range") && glB sc y && (match pes with
      | [pb] => (match lo with | .none => true | .some _ => false) && !isStar pb && kE b sc pb
      | [pa, pb] => !isStar pa && !isStar pb && kO lo sc (some pa) && kE b sc pb
      | _ => false)
    | _ => false)
  | .fst es, sc, pe => (match pe with | .JoinedStr pes _ => !pes.isEmpty && kFs es sc pes | _ => false)
  | .rev a, sc, pe => (match pe with | .Subscript pa (.Slice none none (some (.UnaryOp .USub (.Constant (.int 1) _ _) _)) _) _ => kE a sc pa | _ => false)
def kFs : Es → Scope → List Expr → Bool
  | .nil, sc, pes => pes.isEmpty
  | .cons e es, sc, pes => (match pes with
    | .FormattedValue pe n none _ :: r => decide (n = -1) && kE e sc pe && kFs es sc r
    | pe :: r => (match e with | .str _ => true | _ => false) && kE e sc pe && kFs es sc r
    | [] => false)
def kEs : Es → Scope → List Expr → Bool
  | .nil, sc, pes => pes.isEmpty
  | .cons e es, sc, pes => (match pes with | pe :: r => !isStar pe && kE e sc pe && kEs es sc r | [] => false)
def kZs : Zs → Scope → List Expr → Bool
  | .nil, sc, pes => pes.isEmpty
  | .cons e zs, sc, pes => (match pes with | pe :: r => !isStar pe && kE e sc pe && kZs zs sc r | [] => false)
  | .star e zs, sc, pes => (match pes with | .Starred pe _ :: r => kE e sc pe && kZs zs sc r | _ => false)
def kKs : Es → Scope → List Keyword → Bool
  | .nil, sc, kws => kws.isEmpty
  | .cons e es, sc, kws => (match kws with | ⟨some _, pe, _⟩ :: r => kE e sc pe && kKs es sc r | _ => false)
def kO : Oe → Scope → Option Expr → Bool
  | .none, sc, pe => pe.isNone
  | .some e, sc, pe => (match pe with | some pa => kE e sc pa | none => false)
def kC : Oe → Scope → List Expr → Bool
  | .none, sc, pes => pes.isEmpty
  | .some e, sc, pes => (match pes with | [pa] => canT e && kE e sc pa | _ => false)
def kI : It → Scope → Expr → Expr → Bool
  | .val e, sc, ptg, pit => kE e sc pit
  | .rng1 a, sc, ptg, pit => (match pit with | .Call (.Name x _) [pa] [] _ => decide (x = "range") && glB sc x && !isStar pa && kE a sc pa | _ => false)
  | .rng2 a b, sc, ptg, pit => (match pit with | .Call (.Name x _) [pa, pb] [] _ => decide (x = "range") && glB sc x && !isStar pa && !isStar pb && kE a sc pa && kE b sc pb | _ => false)
  | .rng3 a b k, sc, ptg, pit => (match pit with | .Call (.Name x _) [pa, pb, .UnaryOp .USub (.Constant (.int 1) _ _) _] [] _ => decide (k = -1) && decide (x = "range") && glB sc x && !isStar pa && !isStar pb && kE a sc pa && kE b sc pb | _ => false)
  | .enum a, sc, ptg, pit => (match pit with | .Call (.Name x _) [pa] [] _ => (match ptg with | .Tuple _ _ _ => true | _ => false) && decide (x = "enumerate") && glB sc x && !isStar pa && kE a sc pa | _ => false)
  | .zip a b, sc, ptg, pit => (match pit with | .Call (.Name x _) [pa, pb] [] _ => (match ptg with | .Tuple _ _ _ => true | _ => false) && decide (x = "zip") && glB sc x && !isStar pa && !isStar pb && kE a sc pa && kE b sc pb | _ => false)
  | .perm a, sc, ptg, pit => (match pit with | .Call (.Name x _) [.Call (.Name y _) [pa] [] _] [] _ => c.perm && decide (x = "permutations") && glB sc x && decide (y = "range") && glB sc y && !isStar pa && kE a sc pa | _ => false)
def kG : Tg → Scope → Scope → Expr → Bool
  | .var i, fs, sc, pe => (match pe with | .Name x _ => decide (N[i]? = some x) && (lclB sc x || (celB sc x && celB fs x)) | _ => false)
  | .idx a b, fs, sc, pe => (match pe with | .Subscript pa pb _ => !isSl pb && kE a sc pa && kE b sc pb | _ => false)
  | .tup ts, fs, sc, pe => (match pe with | .Tuple pts _ _ => kGs ts fs sc pts | _ => false)
  | .tupS i j, fs, sc, pe => (match pe with | .Tuple [.Name x _, .Starred (.Name y _) _] _ _ => decide (N[i]? = some x) && decide (N[j]? = some y) && (lclB sc x || (celB sc x && celB fs x)) && (lclB sc y || (celB sc y && celB fs y)) | _ => false)
def kGs : Tgs → Scope → Scope → List Expr → Bool
  | .nil, fs, sc, pes => pes.isEmpty
  | .cons t ts, fs, sc, pes => (match pes with | pe :: r => !isStar pe && kG t fs sc pe && kGs ts fs sc r | [] => false)
end
/-- a target whose parts are not all names -/
def notNames (sc : Scope) (pt : Expr) : Bool := match pt with
  | .Tuple ts _ _ => ts.any fun t => match t with | .Name x _ => !lclB sc x | _ => true
  | .List ts _ => ts.any fun t => match t with | .Name x _ => !lclB sc x | _ => true
  | _ => false
/-- a comprehension stored at once under its name -/
def swB (sc : Scope) (pt pe : Expr) : Bool := match pt, pe with
  | .Name t p, .ListComp _ _ s2 p2 => lclB sc t && (p.line == p2.line) && !(s2.names.any fun y => y.1 == t && (y.2 == .local || y.2 == .cell))
  | _, _ => false
mutual
def kS : S → Scope → Stmt → Bool
  | .asg t e, sc, ps => (match ps with
    | .Assign [pt] pe _ => if swB sc pt pe then (match t with | .var i => true | _ => false) && (match e with | .comp _ _ _ _ _ => true | .thaw (.comp _ _ _ _ _) => true | .comp2 _ _ _ _ _ _ _ _ _ => true | .thaw (.comp2 _ _ _ _ _ _ _ _ _) => true | _ => false) && kG c N t sc sc pt && kE c N e sc pe
      else !isStar pt && !isSD pe && (!isTup pt || (match pe with | .Tuple vs _ _ => vs.all (foldedForSure 8) || notNames sc pt | _ => true)) && kG c N t sc sc pt && kE c N e sc pe
    | _ => false)
  | .par is es, sc, ps => (match ps with
    | .Assign [.Tuple [.Name x p1, .Name y p2] _ _] (.Tuple [pa, pb] _ _) _ => (match is with
      | [i, j] => decide (N[i]? = some x) && decide (N[j]? = some y) && decide (i ≠ j) && decide (x ≠ y) && lclB sc x && lclB sc y && (p1.line == p2.line) && !([pa, pb].all (foldedForSure 8)) && !([pa, pb].all (constantsAlone 8)) && kEs c N es sc [pa, pb]
      | _ => false)
    | .Assign [.Tuple [.Name x p1, .Name y p2, .Name z p3] _ _] (.Tuple [pa, pb, pc] _ _) _ => (match is with
      | [i, j, l] => decide (N[i]? = some x) && decide (N[j]? = some y) && decide (N[l]? = some z) && decide (i ≠ j) && decide (i ≠ l) && decide (j ≠ l) && decide (x ≠ y) && decide (x ≠ z) && decide (y ≠ z) && lclB sc x && lclB sc y && lclB sc z && (p1.line == p2.line) && (p1.line == p3.line) && !([pa, pb, pc].all (foldedForSure 8)) && !([pa, pb, pc].all (constantsAlone 8)) && kEs c N es sc [pa, pb, pc]
      | _ => false)
    | _ => false)
  | .ifs d a b, sc, ps => (match ps with | .If pd pa pb _ => canT d && kE c N d sc pd && kSs a sc pa && kSs b sc pb | _ => false)
  | .whl d b, sc, ps => (match ps with | .While pd pb [] _ => canT d && kE c N d sc pd && kSs b sc pb | _ => false)
  | .fr t it b, sc, ps => (match ps with | .For pt pit pb [] _ => !isSet pit && kI c N it sc pt pit && kG c N t sc sc pt && kSs b sc pb | _ => false)
  | .rai k e, sc, ps => (match ps with | .Raise (some (.Call (.Name x _) [pe] [] _)) none _ => decide (c.xcs.lookup x = some k) && glB sc x && okN x && !isStar pe && kE c N e sc pe | _ => false)
  | .ret e, sc, ps => (match ps with | .Return (some pe) _ => kE c N e sc pe | _ => false)
  | .retn, sc, ps => (match ps with | .Return none _ => true | _ => false)
  | .exp e, sc, ps => (match ps with | .Expr pe _ => !isLc pe && kE c N e sc pe | _ => false)
  | .pas, sc, ps => (match ps with | .Pass _ => true | _ => false)
  | .brk, sc, ps => (match ps with | .Break _ => true | _ => false)
  | .cnt, sc, ps => (match ps with | .Continue _ => true | _ => false)
  | .nev, sc, ps => true
def kSs : Ss → Scope → List Stmt → Bool
  | .nil, sc, ps => ps.isEmpty
  | .cons s ss, sc, ps => (match ps with | p :: r => kS s sc p && kSs ss sc r | [] => false)
end
end
end PL

set_option Elab.async false
set_option linter.all false
set_option maxRecDepth 100000
set_option maxHeartbeats 2000000
/-! What a def hears of a call that it is handed. -/
namespace PL
open PySem PySem.Spec PyProof.Rows L2 LamX LamP
variable [Tbl]
theorem two_size (u v : V) : [u, v].length ≤ sizeLine := by
  rw [sizeLine_eq]
  show 2 ≤ 16777216
  omega
/-- a new pair -/
def MkQ (tp : Bool) (vs : List V) (H : Hp) (Q : VK) : Prop := vs.length ≤ sizeLine ∧ ∀ p, H p = none → match tp with
  | true => ∀ o : PySem.Obj, o.dict = none → Q (.ref p) (upd H p (.frz o (.tup vs)))
  | false => Q (.ref p) (upd H p (.lst vs))
/-- what the def makes of the lambda's reading -/
def TTh (ca : Nat → Addr) (xn : Nat → Str) (tp : Bool) (w : List Nat) (ws : List (Nat × List Nat)) : (XK → Hp → VK → Prop) → Hp → VK → Prop := fun tl H Q =>
  tl (fun cls d H' => ∃ k z v dx, cls = .ref (ca k) ∧ d = some dx ∧ H' dx = some (.xd [(xn k, v)]) ∧ ws.lookup k = some z ∧ MkQ tp [.str ⟨z.toArray⟩, v] H' Q) H (fun v H' => MkQ tp [.str ⟨w.toArray⟩, v] H' Q)
/-- the def that hears: its text, its promise -/
def HrOk (K : PySem.W.Frag) (mg : Str → Option Value) (ca : Nat → Addr) (xn : Nat → Str) (x : Str) (tp : Bool) (w : List Nat) (ws : List (Nat × List Nat)) : Prop :=
  ∃ (g : Addr) (a : Str) (pg : Arguments) (bg : List Stmt) (sg : Scope) (dV kV doc pm cdv ct oc : Value) (an od : Option Addr) (osl : Array (Option Value)) (Ng : List Str),
    mg x = some (.ref g) ∧ PySem.W.keepIn K (.ref g) = true ∧ K.lookup g = some ⟨oc, od, .func (PySem.W.fnOf x x pg bg sg dV kV doc pm an cdv ct), osl⟩ ∧ PySem.W.codeIn K cdv x = true ∧ L2.Binds K (PySem.W.fnOf x x pg bg sg dV kV doc pm an cdv ct) [a] [] ∧
    FnScope Ng [a] sg ∧ Ng[0]? = some a ∧ Vis sg a ∧ okN a = true ∧ ∀ (X : Cx) (q : Str), X.K = K → X.mg = mg → GivesTo X Ng x sg g cdv bg a q (TTh ca xn tp w ws)
theorem nm_ok {x : Str} (h : okN x = true) : (x == ("__debug__" : Str)) = false ∧ (x == ("__classdict__" : Str)) = false := by
  simp only [okN, Bool.and_eq_true, Bool.not_eq_true', ] at h
  exact ⟨h.1.1, h.1.2⟩
section
variable {X : Cx} {q : Qm}
theorem w_hrd {tp : Bool} {w : List Nat} {ws : List (Nat × List Nat)} {e : E} {P : Addr} (hP : tbAt P) {σ H Q} (h : tW X.K q (.hrd tp w ws e) σ H Q) : tLamP Tbl.T P (TTh q.ca q.xn tp w ws) (fun E => tW X.K { q with XE := E } e) σ H Q := by
  obtain ⟨β, ρ, env, st, e1, S, h⟩ := h
  refine ⟨S.tabs, fun H1 x1 T1 => ?_⟩
  have a1 : Stp ρ st H ρ st H1 := ⟨⟨[], by simp⟩, Nat.le_refl _, fun a o e m => ⟨x1 a o e fun z => m (.inl (z ▸ hP)), m⟩, fun _ _ h => h⟩
  have S1 : RS X.K q.fa β ρ st H1 := ⟨S.nd, S.len, fun i o h => by
      obtain ⟨a, vs, e1, e2, e3⟩ := S.obj i o h
      exact ⟨a, vs, e1, x1 a _ e2 (fun z => S.notTbL e2 (z ▸ hP)), e3.mono a1.keep (fun _ _ h => h) (fun _ q => .inl q) (Nat.le_refl _)⟩, fun b hb => by
      obtain ⟨⟨vs, e2⟩, nb⟩ := S.busy b hb
      exact ⟨⟨vs, x1 b _ e2 (fun z => S.notTbL e2 (z ▸ hP))⟩, nb⟩, T1⟩
  have mk : ∀ {z : List Nat} {d : D} {st' : Sto} {H' : Hp} {ρ' : List Addr} {v : V}, Post X.K q.fa β ρ st H (pairD tp z d) st' Q → Stp ρ st H1 ρ' st' H' → RS X.K q.fa β ρ' st' H' → RD X.K q.fa H' (Mu ρ' st') β ρ' st'.length d v → MkQ tp [.str ⟨z.toArray⟩, v] H' Q := fun {z d st' H' ρ' v} g a2 S2 r => ⟨two_size _ _, fun p hp => by
    obtain ⟨f1, f2, f3⟩ := S2.fresh hp
    cases tp with
    | true =>
      intro o ho
      have L := S2.lay (o := .frz o (.tup [.str ⟨z.toArray⟩, v])) hp
      exact g (.ref p) _ ρ' (a1.trans (a2.trans L.2)) L.1 (.tupH ⟨o, upd_same, ho⟩ f3 f2 (.cons (.str z) (.cons (r.stp L.2) .nil)))
    | false =>
      have L := S2.lay (o := .lst [.str ⟨z.toArray⟩, v]) hp
      exact g (.ref p) _ ρ' (a1.trans (a2.trans L.2)) L.1 (.frz upd_same f3 f2 (.cons (.str z) (.cons (r.stp L.2) .nil)))⟩
  refine ⟨β, ρ, env, st, e1.stp a1, S1, ?_⟩
  simp only [ev] at h
  show RP (ev q.C q.G e env st) _ _
  cases hv : ev q.C q.G e env st with
  | bad =>
    rw [hv] at h
    exact h.elim
  | ok d s1 =>
    rw [hv] at h
    have h : Post X.K q.fa β ρ st H (pairD tp w d) s1 Q := h
    exact fun v H' ρ' a2 S2 r => mk h a2 S2 r
  | exn c d s1 =>
    rw [hv] at h
    cases hl : ws.lookup c with
    | none =>
      have h : RP (match ws.lookup c with | some z => R.ok (pairD tp z d) s1 | none => R.bad) _ _ := h
      rw [hl] at h
      exact h.elim
    | some z =>
      have h : RP (match ws.lookup c with | some z => R.ok (pairD tp z d) s1 | none => R.bad) _ _ := h
      rw [hl] at h
      have h : Post X.K q.fa β ρ st H (pairD tp z d) s1 Q := h
      exact fun v H' ρ' dx a2 S2 r hx => ⟨c, z, v, dx, rfl, rfl, hx, hl, mk h a2 S2 r⟩
/-- e.given, e.index -/
def tFld (C : Addr) (fl : Str) (a : Addr) (cls : Value) (d : Option Addr) (te : TE) : TE := fun σ H Q => te σ H fun x H1 => x = .ref a ∧ cls = .ref C ∧ ∃ (dd : Addr) (v : V), d = some dd ∧ H1 dd = some (.xd [(fl, v)]) ∧ Q v H1
theorem pe_fld {x fl : Str} {C a : Addr} {oe : PySem.Obj} {cls : Value} {d : Option Addr} {pn : List (Addr × PySem.Obj)} {e : Expr} {te : TE} {pos : Pos} (T : XcOk X.K X.mg x C fl) (hz : Zc cls d oe) (hf : ∃ vs, oe.data = .fields vs) (he : PE (X.suite a ((a, oe) :: pn)) e te)
    (hb : ∀ m, attributeBase e m X.env (eval e X.env) = eval e X.env) : PE (X.suite a ((a, oe) :: pn)) (.Attribute e fl pos) (tFld C fl a cls d te) := by
  obtain ⟨qn, fI, ⟨rfl, T⟩ | ⟨rfl, T⟩⟩ := T
  · exact pe_given T hz hf he (hb _)
  · exact pe_index T hz hf he (hb _)
/-- the clauses of the def that hears -/
inductive HdsH (mg : Str → Option Value) (K : PySem.W.Frag) (ca : Nat → Addr) (xn : Nat → Str) (sg : Scope) (en : Str) : List ExceptHandler → List (Nat × List Nat) → Prop
  | nil : HdsH mg K ca xn sg en [] []
  | cons {x : Str} {k j : Nat} {z : List Nat} {hds : List ExceptHandler} {ws : List (Nat × List Nat)} {np p1 p2 p3 p4 p5 pos' : Pos} (hg : sg.names.lookup x = some .globalImplicit) (hn : okN x = true) (hx : XcOk K mg x (ca k) (xn k))
      (hm : mg x = some (.ref (ca k))) (ht : PySem.W.exmOne K (.ref (ca k)) (.ref (ca k)) = some true) (hw : ∀ k' z', (k', z') ∈ ws → PySem.W.exmOne K (.ref (ca k')) (.ref (ca k)) = some false) (r : HdsH mg K ca xn sg en hds ws) :
      HdsH mg K ca xn sg en (.ExceptHandler (some (.Name x np)) (some en) [.Return (some (.List [.Constant (.str ⟨z.toArray⟩) j p1, .Attribute (.Name en p2) (xn k) p3] p4)) p5] pos' :: hds) ((k, z) :: ws)
/-- what a clause's suite makes -/
def tsH (ca : Nat → Addr) (xn : Nat → Str) (p : Nat × List Nat) : Addr → Value → Option Addr → TS := fun a cls d => tRet (tLst (tCons (tC (.str ⟨p.2.toArray⟩)) (tCons (tFld (ca p.1) (xn p.1) a cls d (tVar 1)) tNil)))
theorem lk_mem {k : Nat} {z : List Nat} : ∀ {ws : List (Nat × List Nat)}, ws.lookup k = some z → (k, z) ∈ ws
  | [], h => by cases h
  | (k0, z0) :: ws, h => by
    rw [List.lookup_cons] at h
    by_cases e : k = k0
    · subst e
      have e2 : (k == k) = true := by simp
      rw [e2] at h
      cases h
      exact List.mem_cons_self
    · have e2 : (k == k0) = false := by simpa using e
      rw [e2] at h
      exact List.mem_cons_of_mem _ (lk_mem h)
theorem many_ok {mg : Str → Option Value} {K : PySem.W.Frag} {ca : Nat → Addr} {xn : Nat → Str} {sg : Scope} {en : Str} {D : Ends} {k : Nat} {z : List Nat} {v : V} {dx : Addr} {σ : L2.St} {H : Hp} {hds : List ExceptHandler} {ws : List (Nat × List Nat)} (h : HdsH mg K ca xn sg en hds ws) (hl : ws.lookup k = some z)
    (hx : H dx = some (.xd [(xn k, v)])) (hq : ∀ p, H p = none → D.rt (.ref p) (upd H p (.lst [.str ⟨z.toArray⟩, v]))) :
    wManyAs K 2 1 (fun _ _ _ _ => False) D (ws.map fun p => (.ref (ca p.1), tsH ca xn p)) (.ref (ca k)) (some dx) σ H := by
  induction h with
  | nil => cases hl
  | @cons x k0 j z0 hds ws np p1 p2 p3 p4 p5 pos' hg hn hx0 hm ht hw r ih =>
    rw [List.lookup_cons] at hl
    by_cases e : k = k0
    · subst e
      have e2 : (k == k) = true := by simp
      rw [e2] at hl
      cases hl
      refine ⟨true, ht, fun _ hσ a ha => ?_, fun z => absurd z (fun z => Bool.noConfusion z)⟩
      refine ⟨.ref a, ?_, rfl, rfl, dx, v, rfl, hx, two_size _ _, fun p hp => hq p hp⟩
      rw [List.getElem?_set_self (by omega)]
    · have e2 : (k == k0) = false := by simpa using e
      rw [e2] at hl
      have g := hw k z (lk_mem hl)
      exact ⟨false, g, fun z => Bool.noConfusion z, fun _ => ih hl⟩
theorem hds_as {K : PySem.W.Frag} {mg : Str → Option Value} {ca : Nat → Addr} {xn : Nat → Str} {sg : Scope} {en : Str} {Y : Cx} (eK : Y.K = K) (em : Y.mg = mg) (es : Y.env.scope = sg) (hi : Y.N[1]? = some en) (hen : sg.names.lookup en = some .local) (hn : okN en = true) :
    ∀ {hs : List ExceptHandler} {ws : List (Nat × List Nat)}, HdsH mg K ca xn sg en hs ws → HdsAs Y en hs (ws.map fun p => (.ref (ca p.1), tsH ca xn p))
  | _, _, .nil => .nil
  | _, _, .cons hg hn0 hx0 hm ht hw r => by
    subst eK em es
    refine .cons ⟨hg, (nm_ok hn0).1, .inl hm⟩ (fun b oe cls d pn hz hf => ?_) (hds_as rfl rfl rfl hi hen hn r)
    exact pss_one (ps_ret (pe_lst (pa_cons pe_str (pa_cons (pe_fld hx0 hz hf (pe_var (i := 1) hi (.inl hen) (nm_ok hn).1 (nm_ok hn).2) fun _ => rfl) pa_nil))))
theorem heard_gives {K : PySem.W.Frag} {mg : Str → Option Value} {ca : Nat → Addr} {xn : Nat → Str} {x a en : Str} {w : List Nat} {ws : List (Nat × List Nat)} {sg : Scope} {g : Addr} {cdg : Value} {h0 : ExceptHandler} {hds : List ExceptHandler} {j : Nat} {p1 p2 p3 p4 p5 p6 : Pos} {q : Str} (eK : X.K = K) (em : X.mg = mg)
    (nd : [a, en].Nodup) (hen : sg.names.lookup en = some .local) (hn : okN en = true) (hh : HdsH mg K ca xn sg en (h0 :: hds) ws) :
    GivesTo X [a, en] x sg g cdg [.Try [.Return (some (.List [.Constant (.str ⟨w.toArray⟩) j p1, .Call (.Name a p2) [] [] p3] p4)) p5] (h0 :: hds) [] [] p6] a q (TTh ca xn false w ws) := by
  subst eK em
  intro f c' s H Q tl act hc h
  refine ⟨_, pss_one (ps_try_manyAs (X := (cxOf C8.CX0 X.prog X.w X.K X.mg X.base [a, en] x sg g cdg X.A X.stack s H C8.E0).nox) (n := en) (i := 1) (Wout := fun _ _ _ _ => False) (l := ws.map fun p => (.ref (ca p.1), tsH ca xn p))
      (tb := fun W => tRet (tLst (tCons (tC (.str ⟨w.toArray⟩)) (tCons (fun σ H Q => ∃ Ech : XK, (∀ cls d σ' H', Ech cls d H' → W cls d σ' H') ∧ σ[0]? = some (some (.ref f)) ∧ H c' = some (CodeO c' q) ∧ tl Ech H Q) tNil))))
      rfl rfl nd rfl hen LamX.takes0 (fun W pn xe tk _ => ?_) (hds_as rfl rfl rfl rfl hen hn hh)), ?_⟩
  · refine pss_one (ps_ret (pe_lst (pa_cons pe_str (pa_cons ?_ pa_nil))))
    refine ⟨fun pins s' σ H' D I h' => ?_⟩
    obtain ⟨Ech, hW, h1, h2, h3⟩ := h'
    exact (act W pn xe Ech p2 p3 tk hW).run pins s' σ H' D I ⟨h1, h2, h3⟩
  · exact ⟨fun cls d H' => ∃ k z v dx, cls = .ref (ca k) ∧ d = some dx ∧ H' dx = some (.xd [(xn k, v)]) ∧ ws.lookup k = some z ∧ MkQ false [.str ⟨z.toArray⟩, v] H' Q,
      fun cls d σ' H' ⟨k, z, v, dx, e1, e2, e3, e4, e5⟩ => by
        subst e1 e2
        exact many_ok hh e4 e3 e5.2, rfl, hc, h⟩
end
end PL

set_option Elab.async false
set_option linter.all false
set_option maxRecDepth 100000
set_option maxHeartbeats 2000000
/-! The check is sound. -/
namespace PL
open PySem PySem.Spec PyProof.Rows L2
variable [Tbl]
structure CxOk (c : Ck) (N : List Str) (k : Nat) (X : Cx) (q : Qm) : Prop where
  N : X.N = N
  nd : X.N.Nodup
  calm : X.calm = true
  units : X.A.units + 65 < cLine
  room : Room k X.A
  pas : PassesOwn (model X.prog X.w) X.A X.env X.xe
  cx : Passes (L2.CX X.prog X.w) X q.XE
  kind : X.env.scope.kind = .function
  fns : ∀ x f np, c.fns.lookup x = some (f, np) → X.mg x = some (.ref (q.fa f)) ∧ PySem.W.keepIn X.K (.ref (q.fa f)) = true ∧ (∀ ds st, RP (q.C f ds st) (fun _ _ => True) (fun _ _ _ => True) → ds.length = np) ∧
    ∃ fd ps, FnOk X.prog X.w X.K X.mg X.base (L2.CX X.prog X.w) k (q.fa f) fd ps (spC X.K q q.C f np) ∧ Binds X.K fd ps [] ∧ ∀ n ks pm, (f, n, ks, pm) ∈ c.kws → KBn X.K fd ps n ks (gK Value.none pm) (gK V.non pm)
  any : ∀ f ds st, RP (q.C f ds st) (fun _ _ => True) (fun _ _ _ => True) → ∃ x, c.fns.lookup x = some (f, ds.length)
  gls : ∀ x i, c.gls.lookup x = some i → ∃ u v, X.mg x = some u ∧ RelV v u ∧ ∀ H m β ρ n, RD X.K q.fa H m β ρ n (q.G i) v
  bln : ∀ x ∈ blNames, X.mg x = none
  tk : Takes X fun cls d _ H => q.XE cls d H
  xcs : ∀ x k, c.xcs.lookup x = some k → XcOk X.K X.mg x (q.ca k) (q.xn k)
  ims : ∀ x f, c.ims.lookup x = some f → X.mg x = some (imV f)
  prm : c.perm = true → X.mg "permutations" = some (.type "itertools.permutations")
  hrs : ∀ x tp w ws, c.hrs.lookup x = some (tp, w, ws) → HrOk X.K X.mg q.ca q.xn x tp w ws
  lam : lamB c X.env.scope = true → Room (k + 2) X.A ∧ ∃ (cc P : Addr), X.env.code = .ref cc ∧ LamX.TabB X.base X.mg cc P ∧ (P, X.env.qual ++ "<lambda>") ∈ Tbl.T ∧ ∀ p ∈ Tbl.T, p.1 = P → p.2 = X.env.qual ++ "<lambda>"
theorem cx_false {P : Program} {w : World} {l : List PySem.Env} {H : Hp} {s s' : Shared} {e : Value} (h : L2.CX P w l H s (fun _ _ _ => False) e s') : False := by
  obtain ⟨_, _, _, _, _, _, _, _, _, _, _, _, z⟩ := h
  exact z
section
variable {c : Ck} {N : List Str} {k : Nat} {X : Cx} {q : Qm}
theorem CxOk.blk (C : CxOk c N k X q) {s : Shared} {H : Hp} {scope : Scope} {C' : Addr} {cl : List (Str × Addr)} {fp : List Addr} (hk : scope.kind = .function) (hl : lamB c (relS scope X.env.scope) = false) : CxOk c N k (X.blk s H scope (compEnvC scope cl C' X.env) fp) (qF q) :=
  ⟨C.N, C.nd, C.calm, C.units, C.room, PassesOwn.never, fun _ _ _ _ _ _ _ h => cx_false h, hk, C.fns, C.any, C.gls, C.bln, LamX.takes0, C.xcs, C.ims, C.prm, C.hrs, fun z => absurd (hl.symm.trans z) Bool.false_ne_true⟩
/-- a lambda's body -/
theorem CxOk.lam2 (C : CxOk c N k X q) {A : Around} {outer : List PySem.Env} {s : Shared} {H : Hp} {E : XK} {scope : Scope} {f c' : Addr} (hr : Room k (A.deeper (LamX.lamEnv X scope s.heap.objs.size f c'))) (hk : scope.kind = .function) (hl : lamB c scope = false) :
    CxOk c N k (LamX.lamCx X A outer s H E scope f c') { q with XE := E } :=
  { N := C.N
    nd := C.nd
    calm := rfl
    units := by
      have := hr.un
      show (A.deeper _).units + 65 < cLine
      omega
    room := hr
    pas := passes_of rfl
    cx := passes_call (W := fun cls d _ H => E cls d H) (takes_of rfl rfl rfl rfl) fun _ _ _ _ z => z
    kind := hk
    fns := C.fns
    any := C.any
    gls := C.gls
    bln := C.bln
    tk := takes_of rfl rfl rfl rfl
    xcs := C.xcs
    ims := C.ims
    prm := C.prm
    hrs := C.hrs
    lam := fun z => absurd (hl.symm.trans z) Bool.false_ne_true }
theorem comp_scope {s2 : Scope} {env : PySem.Env} {cl : List (Str × Addr)} {C' : Addr} : (compEnvC s2 cl C' env).scope = relS s2 env.scope := rfl
structure SE (X : Cx) (q : Qm) (e : E) (pe : Expr) : Prop where
  v : PE X pe (tW X.K q e)
  t : canT e = true → PT X pe (tWT X.K q e)
  w : (∃ op l p, pe = .BoolOp op l p) → canT e = true → PW X pe (tWT X.K q e)
  f : isFr e = true → PE X pe (tNew X.K q (evF q.C q.G e))
theorem vis_of {sc : Scope} {x : Str} (h : visB sc x = true) : Vis sc x := by
  unfold visB at h
  split at h
  · exact .inl (by assumption)
  · exact .inr (.inl (by assumption))
  · exact .inr (.inr (by assumption))
  · cases h
theorem loc_of {sc : Scope} {x : Str} (h : locB sc x = true) : Loc sc x := by
  unfold locB at h
  split at h
  · exact .inl (by assumption)
  · exact .inr (by assumption)
  · cases h
theorem lcl_of {sc : Scope} {x : Str} (h : lclB sc x = true) : sc.names.lookup x = some .local := by
  unfold lclB at h
  split at h
  · assumption
  · cases h
theorem gl_of {x : Str} (h : glB X.env.scope x = true) : Gl X x := by
  unfold glB at h
  split at h
  · rename_i e
    exact e
  · cases h
theorem okN_of {x : Str} (h : okN x = true) : (x == ("__debug__" : Str)) = false ∧ (x == ("__classdict__" : Str)) = false ∧ x ≠ "__name__" := by
  simp only [okN, Bool.and_eq_true, Bool.not_eq_true', ] at h
  refine ⟨h.1.1, h.1.2, fun e => ?_⟩
  rw [e] at h
  exact absurd h.2 (by decide)
theorem star_cons {pe : Expr} {pes : List Expr} {env : PySem.Env} (h : isStar pe = false) : starEach (pe :: pes) env = (false, eval pe env) :: starEach pes env := by
  cases pe <;> first
    | rfl
    | cases h
theorem asg_cons {pe : Expr} {pes : List Expr} {env : PySem.Env} (h : isStar pe = false) : assignEach (pe :: pes) env = (false, PySem.assign pe env) :: assignEach pes env := by
  cases pe <;> first
    | rfl
    | cases h
theorem fold_of {pe : Expr} {env : PySem.Env} (h : isSet pe = false) : ∀ x, foldedSetIterable pe env x = pure x := by
  cases pe <;> first
    | (intro x; rfl)
    | cases h
theorem set_of {pe : Expr} (h : isSet pe = false) : ∀ es k p, pe ≠ .Set es k p := by
  intro es k p e
  subst e
  cases h
theorem plain_ix {pe : Expr} (h : isSl pe = false) : PlainIx pe := by
  intro o i
  cases pe <;> first
    | rfl
    | cases h
theorem attr_of {pa : Expr} {m : Str} {env : PySem.Env} {w : Sem Value} (h : isCall pa = false) : attributeBase pa m env w = w := by
  cases pa <;> first
    | rfl
    | skip
  rename_i f as ks p
  cases f <;> first
    | rfl
    | skip
  cases as with
  | cons a as => rfl
  | nil =>
    cases ks with
    | cons k ks => rfl
    | nil => cases h
theorem bl_mem (b : Bl) : blN b ∈ blNames := by cases b <;> decide
theorem bl_boot (b : Bl) : bootBuiltins (blN b) = some (blV b) := by cases b <;> kernel_rfl
theorem bl_ok (b : Bl) : okN (blN b) = true := by cases b <;> decide
theorem ty_mem (t : Ty) : tyS t ∈ blNames := by cases t <;> decide
theorem ty_boot (t : Ty) : bootBuiltins (tyS t) = some (.type (tyN t)) := by cases t <;> kernel_rfl
theorem ty_ok (t : Ty) : okN (tyS t) = true := by cases t <;> decide
theorem cps_of {x : Str} {s : List Nat} (h : x.cps.toList = s) : x = ⟨s.toArray⟩ := by
  subst h
  cases x
  simp
theorem SE.plain {e : E} {pe : Expr} (v : PE X pe (tW X.K q e)) (hp : ∀ whole, isTrue pe X.env whole = (do let v ← whole; standAt pe.pos; holding [v] (truthy v))) (hw : ∀ op l p, pe ≠ .BoolOp op l p) (f : isFr e = true → PE X pe (tNew X.K q (evF q.C q.G e))) : SE X q e pe :=
  ⟨v, fun _ => t_val v hp, fun ⟨op, l, p, z⟩ => absurd z (hw op l p), f⟩
theorem stars_none {env : PySem.Env} {pos : Pos} : ∀ {es : Es} {sc : Scope} {pes : List Expr}, kEs c N es sc pes = true → (backTo pos (starEach pes env)).any (·.1) = false ∧ (∀ x ∈ backTo pos (starEach pes env), x.1 = false)
  | .nil, sc, pes, h => by
    cases pes with
    | nil => exact ⟨rfl, fun x hx => nomatch hx⟩
    | cons p r => simp [kEs] at h
  | .cons e es, sc, pes, h => by
    cases pes with
    | nil => simp [kEs] at h
    | cons p r =>
      simp only [kEs, Bool.and_eq_true, Bool.not_eq_true'] at h
      obtain ⟨h1, h2⟩ := stars_none (env := env) (pos := pos) h.2
      rw [star_cons h.1.1]
      refine ⟨?_, fun x hx => ?_⟩
      · show (false || (backTo pos (starEach r env)).any (·.1)) = false
        rw [h1]
        rfl
      · rcases List.mem_cons.mp hx with e | e
        · rw [e]
        · exact h2 x e
theorem es_len : ∀ {es : Es} {sc : Scope} {pes : List Expr}, kEs c N es sc pes = true → pes.length = esLen es
  | .nil, sc, pes, h => by
    cases pes with
    | nil => rfl
    | cons p r => simp [kEs] at h
  | .cons e es, sc, pes, h => by
    cases pes with
    | nil => simp [kEs] at h
    | cons p r =>
      simp only [kEs, Bool.and_eq_true] at h
      show r.length + 1 = esLen es + 1
      rw [es_len h.2]
theorem kws_ok {env : PySem.Env} {pos : Pos} : ∀ {es : Es} {sc : Scope} {kws : List Keyword}, kKs c N es sc kws = true →
    (backToKw pos (keywordEach kws env)).all (·.1.isSome) = true ∧ (backToKw pos (keywordEach kws env)).filterMap (·.1) = kws.filterMap (·.arg) ∧ (backToKw pos (keywordEach kws env)).any (·.1.isNone) = false ∧ esLen es = (kws.filterMap (·.arg)).length
  | .nil, sc, kws, h => by
    cases kws with
    | nil => exact ⟨rfl, rfl, rfl, rfl⟩
    | cons p r => simp [kKs] at h
  | .cons e es, sc, kws, h => by
    cases kws with
    | nil => simp [kKs] at h
    | cons p r =>
      obtain ⟨nm, pe, p'⟩ := p
      cases nm with
      | none => simp [kKs] at h
      | some nm =>
        simp only [kKs, Bool.and_eq_true] at h
        obtain ⟨h1, h2, h3, h4⟩ := kws_ok (env := env) (pos := pos) h.2
        refine ⟨?_, ?_, ?_, ?_⟩
        · show (true && _) = true
          simpa [backToKw, keywordEach] using h1
        · show nm :: (backToKw pos (keywordEach r env)).filterMap (·.1) = nm :: r.filterMap (·.arg)
          rw [h2]
        · show (false || (backToKw pos (keywordEach r env)).any (·.1.isNone)) = false
          rw [h3]
          rfl
        · show esLen es + 1 = (r.filterMap (·.arg)).length + 1
          rw [h4]
theorem tgs_len {env : PySem.Env} : ∀ {ts : Tgs} {fs sc : Scope} {pts : List Expr}, kGs c N ts fs sc pts = true → (assignEach pts env).length = tgLen ts ∧ (assignEach pts env).findIdx? (·.1) = none
  | .nil, fs, sc, pts, h => by
    cases pts with
    | nil => exact ⟨rfl, rfl⟩
    | cons p r => simp [kGs] at h
  | .cons e es, fs, sc, pts, h => by
    cases pts with
    | nil => simp [kGs] at h
    | cons p r =>
      simp only [kGs, Bool.and_eq_true, Bool.not_eq_true'] at h
      obtain ⟨h1, h2⟩ := tgs_len (env := env) h.2
      rw [asg_cons h.1.1]
      refine ⟨congrArg (· + 1) h1, ?_⟩
      rw [List.findIdx?_cons]
      simp [h2]
end
end PL

set_option Elab.async false
set_option linter.all false
set_option maxRecDepth 100000
set_option maxHeartbeats 4000000
/-! The check is sound: by the term. -/
namespace PL
open PySem PySem.Spec PyProof.Rows L2
variable [Tbl]
section
variable {c : Ck} {N : List Str} {k : Nat}
theorem ownN_snd : ∀ own : List Nat, (ownN N own).map (·.2) = own
  | [] => rfl
  | i :: r => congrArg (i :: ·) (ownN_snd r)
theorem isTrue_bool {op : BoolOp} {l : List Expr} {p : Pos} {X : Cx} {t : TT} (h : PW X (.BoolOp op l p) t) : PT X (.BoolOp op l p) t := h.pt
theorem s_m1 {X : Cx} {q : Qm} {j : Nat} {p1 p2 : Pos} : PE X (.UnaryOp .USub (.Constant (.int 1) j p1) p2) (tW X.K q (.int (-1))) := (s_neg (a := .int 1) (s_int (j := j) (pos := p1)) (pos := p2)).w fun σ H Q ⟨β, ρ, env, st, e, S, h⟩ => ⟨β, ρ, env, st, e, S, by
  simp only [ev] at h ⊢
  exact h⟩
theorem sRg {X : Cx} {q : Qm} {tp : Bool} {lo : Oe} {b : E} {x : Str} {p1 p4 : Pos} {pr : List Expr} {p2 p3 : Pos} (C : CxOk c N k X q) (h1 : x = if tp = true then "tuple" else "list") (h2 : glB X.env.scope x = true) (R : PRg X (.Call (.Name "range" p2) pr [] p3) (tRgW X.K q lo b)) :
    SE X q (.rgv tp lo b) (.Call (.Name x p1) [.Call (.Name "range" p2) pr [] p3] [] p4) := by
  cases tp with
  | false =>
    have h1 : x = "list" := h1
    subst h1
    have P := s_lrg (p := p1) (pos := p4) C.calm (gl_of h2) (C.bln _ (by decide)) R rfl
    exact .plain P.1 (fun _ => rfl) (fun _ _ _ z => by cases z) fun _ => P.2
  | true =>
    have h1 : x = "tuple" := h1
    subst h1
    exact .plain (s_trg C.calm (gl_of h2) (C.bln _ (by decide)) R rfl) (fun _ => rfl) (fun _ _ _ z => by cases z) (fun z => by cases z)
theorem noPs_of {a : Arguments} (h : noPs a = true) : a = { posonlyargs := [], args := [], vararg := none, kwonlyargs := [], kw_defaults := [], kwarg := none, defaults := [] } := by
  obtain ⟨a1, a2, a3, a4, a5, a6, a7⟩ := a
  simp only [noPs, Bool.and_eq_true, List.isEmpty_iff, Option.isNone_iff_eq_none] at h
  obtain ⟨⟨⟨⟨⟨⟨h1, h2⟩, h3⟩, h4⟩, h5⟩, h6⟩, h7⟩ := h
  subst h1 h2 h3 h4 h5 h6 h7
  rfl
theorem bind_none {q : Str} {body : Expr} {scope : Scope} {cl : List (Str × Addr)} {pm cv ctv : Value} : bindArgs (PySem.W.kla_fn "<lambda>" q { posonlyargs := [], args := [], vararg := none, kwonlyargs := [], kw_defaults := [], kwarg := none, defaults := [] } body scope cl pm cv ctv) ⟨[], []⟩ = pure [] := by
  first
    | rfl
    | with_unfolding_all rfl
    | simp [bindArgs]
mutual
theorem sE : ∀ (e : E) {X : Cx} {q : Qm} {pe : Expr}, CxOk c N k X q → kE c N e X.env.scope pe = true → SE X q e pe
  | .non, X, q, pe, C, h => by
    simp only [kE] at h
    split at h
    · exact .plain s_non (fun _ => rfl) (fun _ _ _ z => by cases z) (fun z => by cases z)
    · cases h
  | .bl b, X, q, pe, C, h => by
    simp only [kE] at h
    split at h
    · rename_i v j p
      have e : v = b := by simpa using h
      subst e
      exact .plain s_bl (fun _ => rfl) (fun _ _ _ z => by cases z) (fun z => by cases z)
    · cases h
  | .int i, X, q, pe, C, h => by
    simp only [kE] at h
    split at h
    · rename_i v j p
      have e : i = v := by simpa using h
      subst e
      exact .plain s_int (fun _ => rfl) (fun _ _ _ z => by cases z) (fun z => by cases z)
    · cases h
  | .str s, X, q, pe, C, h => by
    simp only [kE] at h
    split at h
    · rename_i v j p
      exact .plain (s_str (cps_of (of_decide_eq_true h))) (fun _ => rfl) (fun _ _ _ z => by cases z) (fun z => by cases z)
    · cases h
  | .var i, X, q, pe, C, h => by
    simp only [kE] at h
    split at h
    · rename_i x p
      simp only [Bool.and_eq_true, decide_eq_true_eq] at h
      obtain ⟨⟨h1, h2⟩, h3⟩ := h
      exact .plain (s_var (by rw [C.N]; exact h1) (vis_of h2) (okN_of h3).1 (okN_of h3).2.1) (fun _ => rfl) (fun _ _ _ z => by cases z) (fun z => by cases z)
    · cases h
  | .glb i, X, q, pe, C, h => by
    simp only [kE] at h
    split at h
    · rename_i x p
      simp only [Bool.and_eq_true, decide_eq_true_eq] at h
      obtain ⟨⟨h1, h2⟩, h3⟩ := h
      obtain ⟨u, v, e1, e2, e3⟩ := C.gls x i h2
      exact .plain (s_glb (gl_of h1) e1 e2 (okN_of h3).1 e3) (fun _ => rfl) (fun _ _ _ z => by cases z) (fun z => by cases z)
    · cases h
  | .fnv i, X, q, pe, C, h => by
    simp only [kE] at h
    split at h
    · rename_i x p
      simp only [Bool.and_eq_true] at h
      obtain ⟨⟨h1, h2⟩, h3⟩ := h
      obtain ⟨np, e1⟩ := fnI_of h2
      exact .plain (s_fnv (gl_of h1) (C.fns x i np e1).1 (okN_of h3).1) (fun _ => rfl) (fun _ _ _ z => by cases z) (fun z => by cases z)
    · cases h
  | .bin o a b, X, q, pe, C, h => by
    simp only [kE] at h
    split at h
    · simp only [Bool.and_eq_true, decide_eq_true_eq] at h
      obtain ⟨⟨rfl, ha⟩, hb⟩ := h
      exact .plain (s_bin o (sE a C ha).v (sE b C hb).v) (fun _ => rfl) (fun _ _ _ z => by cases z) fun _ => f_bin o (sE a C ha).v (sE b C hb).v
    · cases h
  | .neg a, X, q, pe, C, h => by
    simp only [kE] at h
    split at h
    · exact .plain (s_neg (sE a C h).v) (fun _ => rfl) (fun _ _ _ z => by cases z) (fun z => by cases z)
    · cases h
  | .not a, X, q, pe, C, h => by
    simp only [kE] at h
    split at h
    · simp only [Bool.and_eq_true] at h
      have A := sE a C h.2
      rename_i pa pos
      have P := s_not (pos := pos) (A.t h.1) A.v
      exact ⟨P.1, fun _ => P.2, fun ⟨_, _, _, z⟩ => (by cases z), fun z => (by cases z)⟩
    · cases h
  | .and a b, X, q, pe, C, h => by
    simp only [kE] at h
    split at h
    · simp only [Bool.and_eq_true] at h
      obtain ⟨⟨⟨h1, h2⟩, h3⟩, h4⟩ := h
      have A := sE a C h3
      have B := sE b C h4
      rename_i pa pb pos
      have W := (pw_and (pos := pos) (A.t h1) (pw_and1 (B.t h2))).w fun σ H Q z => wt_and z
      exact ⟨(pe_and A.v (pe_one B.v)).w fun σ H Q z => w_and z, fun _ => W.pt, fun _ _ => W, fun z => by cases z⟩
    · simp only [Bool.and_eq_true] at h
      obtain ⟨⟨⟨h1, h2⟩, h3⟩, h4⟩ := h
      have A := sE a C h3
      have B := sE b C h4
      rename_i pa pb pc r pos
      have W := (pw_and (pos := pos) (A.t h1) (B.w ⟨_, _, _, rfl⟩ h2)).w fun σ H Q z => wt_and z
      exact ⟨(pe_and A.v B.v).w fun σ H Q z => w_and z, fun _ => W.pt, fun _ _ => W, fun z => by cases z⟩
    · cases h
  | .or a b, X, q, pe, C, h => by
    simp only [kE] at h
    split at h
    · simp only [Bool.and_eq_true] at h
      obtain ⟨⟨⟨h1, h2⟩, h3⟩, h4⟩ := h
      have A := sE a C h3
      have B := sE b C h4
      rename_i pa pb pos
      have W := (pw_or (pos := pos) (A.t h1) (pw_or1 (B.t h2))).w fun σ H Q z => wt_or z
      exact ⟨(pe_or A.v (pe_one B.v)).w fun σ H Q z => w_or z, fun _ => W.pt, fun _ _ => W, fun z => by cases z⟩
    · simp only [Bool.and_eq_true] at h
      obtain ⟨⟨⟨h1, h2⟩, h3⟩, h4⟩ := h
      have A := sE a C h3
      have B := sE b C h4
      rename_i pa pb pc r pos
      have W := (pw_or (pos := pos) (A.t h1) (B.w ⟨_, _, _, rfl⟩ h2)).w fun σ H Q z => wt_or z
      exact ⟨(pe_or A.v B.v).w fun σ H Q z => w_or z, fun _ => W.pt, fun _ _ => W, fun z => by cases z⟩
    · cases h
  | .cmp o a b, X, q, pe, C, h => by
    simp only [kE] at h
    split at h
    · simp only [Bool.and_eq_true, decide_eq_true_eq, Bool.not_eq_true'] at h
      obtain ⟨⟨⟨rfl, h2⟩, h3⟩, h4⟩ := h
      rename_i pa pb pos
      have P := s_cmp (pos := pos) o C.units (set_of h2) (sE a C h3).v (sE b C h4).v
      exact ⟨P.1, fun _ => P.2, fun ⟨_, _, _, z⟩ => (by cases z), fun z => (by cases z)⟩
    · cases h
  | .chn o p a b d, X, q, pe, C, h => by
    simp only [kE] at h
    split at h
    · simp only [Bool.and_eq_true, decide_eq_true_eq, Bool.not_eq_true'] at h
      obtain ⟨⟨⟨⟨⟨rfl, rfl⟩, h2⟩, h3⟩, h4⟩, h5⟩ := h
      rename_i pa pb pc pos
      have P := s_chn (pos := pos) o p C.units (set_of h2) (sE a C h3).v (sE b C h4).v (sE d C h5).v
      exact ⟨P.1, fun _ => P.2, fun ⟨_, _, _, z⟩ => (by cases z), fun z => (by cases z)⟩
    · cases h
  | .ife d a b, X, q, pe, C, h => by
    simp only [kE] at h
    split at h
    · simp only [Bool.and_eq_true] at h
      obtain ⟨⟨⟨h1, h2⟩, h3⟩, h4⟩ := h
      exact ⟨s_ife ((sE d C h2).t h1) (sE a C h3).v (sE b C h4).v, fun z => (by cases z), fun ⟨_, _, _, z⟩ => (by cases z), fun z => (by cases z)⟩
    · cases h
  | .call f as, X, q, pe, C, h => by
    simp only [kE] at h
    split at h
    · rename_i x p1 pes p2
      simp only [Bool.and_eq_true, decide_eq_true_eq] at h
      obtain ⟨⟨⟨h1, h2⟩, h3⟩, h4⟩ := h
      obtain ⟨e1, e2, e3, fd, ps, F, hb, _⟩ := C.fns x f _ h3
      refine .plain ?_ (fun _ => rfl) (fun _ _ _ z => by cases z) (fun z => by cases z)
      have A := sEs as C h4
      cases as with
      | nil =>
        cases pes with
        | nil => exact s_call0 e3 F C.room (gl_of h1) e1 e2 hb C.cx (okN_of h2).1
        | cons p r => simp [kEs] at h4
      | cons a as =>
        cases pes with
        | nil => simp [kEs] at h4
        | cons p r =>
          have h5 := h4
          simp only [kEs, Bool.and_eq_true, Bool.not_eq_true'] at h5
          exact s_call e3 F C.room (gl_of h1) e1 e2 hb C.cx (okN_of h2).1 A (star_cons h5.1.1) (stars_none h5.2).1
    · cases h
  | .callk f as ks pm, X, q, pe, C, h => by
    simp only [kE] at h
    split at h
    · rename_i x p1 pes kws p2
      simp only [Bool.and_eq_true, decide_eq_true_eq] at h
      obtain ⟨⟨⟨⟨⟨h1, h2⟩, h3⟩, h4⟩, h5⟩, h6⟩ := h
      obtain ⟨np, g1⟩ := fnI_of h3
      obtain ⟨e1, e2, e3, fd, ps, F, hb, hk⟩ := C.fns x f np g1
      have A := sEs as C h5
      have B := sKs ks C h6
      obtain ⟨k1, k2, k3, k4⟩ := kws_ok (env := X.env) (pos := p2) h6
      refine .plain (s_callk e3 F C.room (gl_of h1) e1 e2 (hk _ _ _ h4) C.cx (okN_of h2).1 k4 A B (fun pe r e => ?_) k1 k2 ?_ fun e => ?_) (fun _ => rfl) (fun _ _ _ z => by cases z) (fun z => by cases z)
      · subst e
        cases as with
        | nil => simp [kEs] at h5
        | cons a as =>
          simp only [kEs, Bool.and_eq_true, Bool.not_eq_true'] at h5
          exact star_cons h5.1.1
      · rw [(stars_none h5).1, k3]
        rfl
      · subst e
        cases as with
        | nil => rfl
        | cons a as => simp [kEs] at h5
    · cases h
  | .callv i as, X, q, pe, C, h => by
    simp only [kE] at h
    split at h
    · rename_i x p1 pes p2
      simp only [Bool.and_eq_true, decide_eq_true_eq] at h
      obtain ⟨⟨⟨⟨h1, h2⟩, h3⟩, h4⟩, h5⟩ := h
      have A := sEs as C h5
      refine .plain ?_ (fun _ => rfl) (fun _ _ _ z => by cases z) (fun z => by cases z)
      cases as with
      | nil =>
        cases pes with
        | nil => cases h4
        | cons p r => simp [kEs] at h5
      | cons a as =>
        cases pes with
        | nil => cases h4
        | cons p r =>
          simp only [kEs, Bool.and_eq_true, Bool.not_eq_true'] at h5
          refine s_callv (CX := L2.CX X.prog X.w) (k := k) (fun f ds st hr => ?_) C.room (by rw [C.N]; exact h1) (vis_of h2) C.cx (okN_of h3).1 (okN_of h3).2.1 A (star_cons h5.1.1) (stars_none h5.2).1
          obtain ⟨y, hy⟩ := C.any f ds st hr
          obtain ⟨e1, e2, e3, fd, ps, F, hb, _⟩ := C.fns y f _ hy
          exact ⟨fd, ps, F, e2, hb⟩
    · cases h
  | .blt b as, X, q, pe, C, h => by
    simp only [kE] at h
    split at h
    · rename_i x p1 pes p2
      simp only [Bool.and_eq_true, decide_eq_true_eq] at h
      obtain ⟨⟨⟨rfl, h2⟩, h3⟩, h4⟩ := h
      have A := sEs as C h4
      have hm := C.bln _ (bl_mem b)
      have ok := okN_of (bl_ok b)
      have hv := bl_boot b
      cases as with
      | nil =>
        cases pes with
        | nil => cases h3
        | cons p r => simp [kEs] at h4
      | cons a as =>
        cases pes with
        | nil => cases h3
        | cons p r =>
          simp only [kEs, Bool.and_eq_true, Bool.not_eq_true'] at h4
          have st := star_cons (pes := r) (env := X.env) h4.1.1
          have sn := (stars_none (env := X.env) (pos := p2) h4.2).1
          cases b <;> first
            | exact .plain (s_blB C.calm rfl (gl_of h2) hm hv ok.2.2 ok.1 A st sn) (fun _ => rfl) (fun _ _ _ z => by cases z) fun _ => f_blB C.calm rfl (gl_of h2) hm hv ok.2.2 ok.1 A st sn
            | exact .plain (s_blT C.calm rfl (gl_of h2) hm hv ok.2.2 ok.1 A st sn) (fun _ => rfl) (fun _ _ _ z => by cases z) fun _ => f_blT C.calm rfl (gl_of h2) hm hv ok.2.2 ok.1 A st sn
    · cases h
  | .isi a t, X, q, pe, C, h => by
    simp only [kE] at h
    split at h
    · rename_i x p1 pa y p2 p3
      simp only [Bool.and_eq_true, decide_eq_true_eq, Bool.not_eq_true'] at h
      obtain ⟨⟨⟨⟨⟨rfl, rfl⟩, h2⟩, h3⟩, h4⟩, h5⟩ := h
      have o1 := okN_of (x := "isinstance") (by decide)
      have o2 := okN_of (ty_ok t)
      exact .plain (s_isi (gl_of h2) (C.bln _ (by decide)) (by kernel_rfl) o1.2.2 o1.1 (gl_of h3) (C.bln _ (ty_mem t)) (ty_boot t) o2.2.2 o2.1 (sE a C h5).v (star_cons h4)) (fun _ => rfl) (fun _ _ _ z => by cases z) (fun z => by cases z)
    · cases h
  | .mth m o as, X, q, pe, C, h => by
    simp only [kE] at h
    split at h
    · rename_i pa x apos pes cpos
      simp only [Bool.and_eq_true, decide_eq_true_eq, Bool.not_eq_true'] at h
      obtain ⟨⟨⟨⟨⟨rfl, h2⟩, h3⟩, h4⟩, h5⟩, h6⟩ := h
      have O := sE o C h5
      have A := sEs as C h6
      refine .plain ?_ (fun _ => rfl) (fun _ _ _ z => by cases z) (fun z => by cases z)
      cases as with
      | nil =>
        cases pes with
        | nil => exact s_mth0 O.v (attr_of h2) h3
        | cons p r => simp [kEs] at h6
      | cons a as =>
        cases pes with
        | nil => simp [kEs] at h6
        | cons p r =>
          have h7 := h6
          simp only [kEs, Bool.and_eq_true, Bool.not_eq_true'] at h7
          refine s_mth O.v A (attr_of h2) ?_ h3 (star_cons h7.1.1) (stars_none h7.2).1
          have sn := (stars_none (env := X.env) (pos := cpos) h6).2
          simp only [Bool.and_eq_true, decide_eq_true_eq, List.all_eq_true]
          refine ⟨⟨fun x hx => by rw [sn x hx]; rfl, fun x hx => ?_⟩, ?_⟩
          · cases hx
          · simp
            simp at h4
            omega
    · cases h
  | .idx a b, X, q, pe, C, h => by
    simp only [kE] at h
    split at h
    · simp only [Bool.and_eq_true, Bool.not_eq_true'] at h
      obtain ⟨⟨h1, h2⟩, h3⟩ := h
      exact .plain (s_idx (sE a C h2).v (sE b C h3).v (plain_ix h1)) (fun _ => rfl) (fun _ _ _ z => by cases z) (fun z => by cases z)
    · cases h
  | .slc a lo hi, X, q, pe, C, h => by
    simp only [kE] at h
    split at h
    · simp only [Bool.and_eq_true] at h
      obtain ⟨⟨h1, h2⟩, h3⟩ := h
      exact .plain (s_slc (sE a C h1).v (sO lo C h2) (sO hi C h3)) (fun _ => rfl) (fun _ _ _ z => by cases z) (fun z => by cases z)
    · cases h
  | .tup as, X, q, pe, C, h => by
    simp only [kE] at h
    split at h
    · exact .plain (s_tup (sEs as C h)) (fun _ => rfl) (fun _ _ _ z => by cases z) (fun z => by cases z)
    · cases h
  | .list as, X, q, pe, C, h => by
    simp only [kE] at h
    split at h
    · exact .plain (s_list (sEs as C h)) (fun _ => rfl) (fun _ _ _ z => by cases z) fun _ => f_list (sEs as C h)
    · cases h
  | .comp own elt tg it oc, X, q, pe, C, h => by
    simp only [kE] at h
    split at h
    · rename_i pelt ptg pit pifs s2 pos
      simp only [Bool.and_eq_true, Bool.not_eq_true', List.all_eq_true] at h
      obtain ⟨⟨⟨⟨⟨⟨⟨h0, h1⟩, h2⟩, h3⟩, h4⟩, h5⟩, h6⟩, h7⟩ := h
      have bk := blkOk_by h1
      have L : LcOk X q (ownN N own) elt tg it oc pelt ptg pit pifs s2 := {
        calm := C.calm
        nd := C.nd
        it := sI it C h4
        blk := by rw [C.N]; exact bk
        tgt := fun s H C' cl fp => sG tg (C.blk bk.kind h0) (fun x hx => by
          show (s2.names.lookup x == some NameKind.cell) = true
          rw [hx]
          rfl) h5
        ifs := fun s H C' cl fp => sC oc (C.blk bk.kind h0) h6
        elt := fun s H C' cl fp => (sE elt (C.blk bk.kind h0) h7).v
        fold := fold_of h3
        own := fun i hi => by
          rw [ownN_snd]
          simpa using h2 i hi }
      have P := f_comp (s_comp L (pos := pos))
      rw [ownN_snd] at P
      exact .plain P.1 (fun _ => rfl) (fun _ _ _ z => by cases z) fun _ => P.2
    · cases h
  | .comp2 own own1 elt tg it oc tg1 it1 oc1, X, q, pe, C, h => by
    simp only [kE] at h
    split at h
    · rename_i pelt ptg pit pifs ptg1 pit1 pifs1 s2 pos
      simp only [Bool.and_eq_true, Bool.not_eq_true', List.all_eq_true] at h
      obtain ⟨⟨⟨⟨⟨⟨⟨⟨h0, h1⟩, h2⟩, h3⟩, h4⟩, h5⟩, h6⟩, h7⟩, ⟨⟨⟨⟨g1, g2⟩, g3⟩, g4⟩, g5⟩, g6⟩ := h
      have bk := blkOk_by h1
      have cl : ∀ x, s2.names.lookup x = some NameKind.cell → (s2.names.lookup x == some NameKind.cell) = true := fun x hx => by
        rw [hx]
        rfl
      have L : LcOk2 X q (ownN N own) own1 elt tg it oc tg1 it1 oc1 pelt ptg pit ptg1 pit1 pifs pifs1 s2 := {
        calm := C.calm
        nd := C.nd
        it := sI it C h4
        blk := by rw [C.N]; exact bk
        tgt := fun s H C' cl' fp => sG tg (C.blk bk.kind h0) cl h5
        ifs := fun s H C' cl' fp => sC oc (C.blk bk.kind h0) h6
        it1 := fun s H C' cl' fp => sI it1 (C.blk bk.kind h0) g4
        tgt1 := fun s H C' cl' fp => sG tg1 (C.blk bk.kind h0) cl g5
        ifs1 := fun s H C' cl' fp => sC oc1 (C.blk bk.kind h0) g6
        elt := fun s H C' cl' fp => (sE elt (C.blk bk.kind h0) h7).v
        fold := fold_of h3
        fold1 := fun env => fold_of g3
        own := fun i hi => by
          rw [ownN_snd]
          simpa using h2 i hi
        own1 := fun i hi => by simpa using g1 i hi
        sub := fun i hi => by
          rw [ownN_snd]
          simpa using g2 i hi }
      have P := f_comp2 (s_comp2 L (pos := pos))
      rw [ownN_snd] at P
      exact .plain P.1 (fun _ => rfl) (fun _ _ _ z => by cases z) fun _ => P.2
    · cases h
  | .tups zs, X, q, pe, C, h => by
    simp only [kE] at h
    split at h
    · exact .plain (s_tups (sZs zs C h)) (fun _ => rfl) (fun _ _ _ z => by cases z) (fun z => by cases z)
    · cases h
  | .lsts zs, X, q, pe, C, h => by
    simp only [kE] at h
    split at h
    · have F := f_lsts (pos := by assumption) (sZs zs C h)
      exact .plain (s_ofF lsts_F F) (fun _ => rfl) (fun _ _ _ z => by cases z) fun _ => F
    · cases h
  | .fst es, X, q, pe, C, h => by
    simp only [kE] at h
    split at h
    · rename_i pes p
      simp only [Bool.and_eq_true, Bool.not_eq_true'] at h
      exact .plain (s_fst (sFs es C h.2) (fun z => by rw [z] at h; cases h.1)) (fun _ => rfl) (fun _ _ _ z => by cases z) (fun z => by cases z)
    · cases h
  | .rev a, X, q, pe, C, h => by
    simp only [kE] at h
    split at h
    · exact .plain (s_rev (sE a C h).v) (fun _ => rfl) (fun _ _ _ z => by cases z) (fun z => by cases z)
    · cases h
  | .tidx as e, X, q, pe, C, h => by
    simp only [kE] at h
    cases h
  | .hrd tp w ws e, X, q, pe, C, h => by
    simp only [kE] at h
    split at h
    · rename_i x p1 params body scope lpos pos
      simp only [Bool.and_eq_true, decide_eq_true_eq, Bool.not_eq_true'] at h
      obtain ⟨⟨⟨⟨⟨⟨⟨h1, h2⟩, h3⟩, h4⟩, h5⟩, h6⟩, h7⟩, h8⟩ := h
      obtain ⟨g, a, pg, bg, sg, dV, kV, doc, pm, cdv, ct, oc, an, od, osl, Ng, g1, g2, g3, g4, g5, g6, g7, g8, g9, g10⟩ := C.hrs _ _ _ _ h3
      obtain ⟨r1, cc, P, r2, r3, r4, r5⟩ := C.lam h4
      have L := LamX.lamS_by h5
      have ps := noPs_of h7
      subst ps
      have A := LamP.pe_lamcallP (T := Tbl.T) (params := { posonlyargs := [], args := [], vararg := none, kwonlyargs := [], kw_defaults := [], kwarg := none, defaults := [] }) (t := fun E => tW X.K { q with XE := E } e) (lpos := lpos) (pos := pos) (p := p1) (gl_of h1) g1 g2 g3 g4 g5 g6 g7 g8 (g10 X _ rfl rfl) r3 r2 r4 r5 r1 L rfl (fun _ _ _ _ _ => bind_none)
        (fun A outer s H E f c' hr => (sE e (C.lam2 hr L.kind h6) h8).v) (okN_of h2).1 (okN_of g9).1 (okN_of g9).2.1
      exact .plain (A.w fun σ H Q z => w_hrd ⟨_, r4⟩ z) (fun _ => rfl) (fun _ _ _ z => by cases z) (fun z => by cases z)
    · cases h
  | .imp f as, X, q, pe, C, h => by
    simp only [kE] at h
    split at h
    · rename_i x p1 pes p2
      simp only [Bool.and_eq_true, decide_eq_true_eq] at h
      obtain ⟨⟨⟨⟨h1, h2⟩, h2'⟩, h3⟩, h4⟩ := h
      have A := sEs as C h4
      have ok := okN_of h2'
      cases as with
      | nil =>
        cases pes with
        | nil => cases h3
        | cons p r => simp [kEs] at h4
      | cons a as =>
        cases pes with
        | nil => cases h3
        | cons p r =>
          simp only [kEs, Bool.and_eq_true, Bool.not_eq_true'] at h4
          exact .plain (s_imp (gl_of h2) (C.ims _ _ h1) A ok.1 (star_cons h4.1.1) (stars_none h4.2).1) (fun _ => rfl) (fun _ _ _ z => by cases z) (fun z => by cases z)
    · cases h
  | .thaw a, X, q, pe, C, h => by
    simp only [kE, Bool.and_eq_true] at h
    exact ⟨s_thaw ((sE a C h.2).f h.1), fun z => (by cases z), fun _ z => (by cases z), fun z => by cases z⟩
  | .frz a, X, q, pe, C, h => by
    simp only [kE] at h
    exact ⟨s_frz (sE a C h).v, fun z => (by cases z), fun _ z => (by cases z), fun z => by cases z⟩
  | .rgv tp lo b, X, q, pe, C, h => by
    simp only [kE] at h
    split at h
    · rename_i x p1 y p2 pes p3 p4
      simp only [Bool.and_eq_true, decide_eq_true_eq] at h
      obtain ⟨⟨⟨⟨h1, h2⟩, rfl⟩, h4⟩, h5⟩ := h
      have R : PRg X (.Call (.Name "range" p2) pes [] p3) (tRgW X.K q lo b) := by
        split at h5
        · rename_i pb
          simp only [Bool.and_eq_true, Bool.not_eq_true'] at h5
          obtain ⟨⟨g1, g2⟩, g3⟩ := h5
          split at g1
          · exact r_one (gl_of h4) (C.bln _ (by decide)) (sE b C g3).v (star_cons g2)
          · cases g1
        · rename_i pa pb
          simp only [Bool.and_eq_true, Bool.not_eq_true'] at h5
          obtain ⟨⟨⟨g1, g2⟩, g3⟩, g4⟩ := h5
          obtain ⟨a, rfl, ha⟩ := sOe lo C g3
          refine r_two (gl_of h4) (C.bln _ (by decide)) ha (sE b C g4).v (star_cons g1) (star_cons g2) ?_
          rw [star_cons g2]
          rfl
        · cases h5
      exact sRg C h1 h2 R
    · cases h
theorem sOe : ∀ (o : Oe) {X : Cx} {q : Qm} {pa : Expr}, CxOk c N k X q → kO c N o X.env.scope (some pa) = true → ∃ a, o = .some a ∧ PE X pa (tW X.K q a)
  | .none, X, q, pa, C, h => by
    simp [kO] at h
  | .some e, X, q, pa, C, h => by
    simp only [kO] at h
    exact ⟨e, rfl, (sE e C h).v⟩
theorem sFs : ∀ (es : Es) {X : Cx} {q : Qm} {pes : List Expr}, CxOk c N k X q → kFs c N es X.env.scope pes = true → Pts X q es pes
  | .nil, X, q, pes, C, h => by
    cases pes with
    | nil => exact .nil
    | cons p r => simp [kFs] at h
  | .cons e es, X, q, pes, C, h => by
    simp only [kFs] at h
    split at h
    · simp only [Bool.and_eq_true, decide_eq_true_eq] at h
      obtain ⟨⟨rfl, h1⟩, h2⟩ := h
      exact .fv (sE e C h1).v (sFs es C h2)
    · simp only [Bool.and_eq_true] at h
      obtain ⟨⟨h0, h1⟩, h2⟩ := h
      split at h0
      · exact .lit (sE (.str _) C h1).v (sFs es C h2)
      · cases h0
    · cases h
theorem sEs : ∀ (es : Es) {X : Cx} {q : Qm} {pes : List Expr}, CxOk c N k X q → kEs c N es X.env.scope pes = true → PA X pes (tWs X.K q es)
  | .nil, X, q, pes, C, h => by
    cases pes with
    | nil => exact s_nil
    | cons p r => simp [kEs] at h
  | .cons e es, X, q, pes, C, h => by
    cases pes with
    | nil => simp [kEs] at h
    | cons p r =>
      simp only [kEs, Bool.and_eq_true, Bool.not_eq_true'] at h
      exact s_cons (sE e C h.1.2).v (sEs es C h.2) (star_cons h.1.1)
theorem sZs : ∀ (zs : Zs) {X : Cx} {q : Qm} {pes : List Expr}, CxOk c N k X q → kZs c N zs X.env.scope pes = true → PA X pes (tWz X.K q zs)
  | .nil, X, q, pes, C, h => by
    cases pes with
    | nil => exact zz_nil
    | cons p r => simp [kZs] at h
  | .cons e zs, X, q, pes, C, h => by
    cases pes with
    | nil => simp [kZs] at h
    | cons p r =>
      simp only [kZs, Bool.and_eq_true, Bool.not_eq_true'] at h
      exact zz_cons (sE e C h.1.2).v (sZs zs C h.2) (star_cons h.1.1)
  | .star e zs, X, q, pes, C, h => by
    simp only [kZs] at h
    split at h
    · simp only [Bool.and_eq_true] at h
      exact zz_star (sE e C h.1).v (sZs zs C h.2)
    · cases h
theorem sKs : ∀ (es : Es) {X : Cx} {q : Qm} {kws : List Keyword}, CxOk c N k X q → kKs c N es X.env.scope kws = true → PK X kws (tWs X.K q es)
  | .nil, X, q, kws, C, h => by
    cases kws with
    | nil => exact s_knil
    | cons p r => simp [kKs] at h
  | .cons e es, X, q, kws, C, h => by
    cases kws with
    | nil => simp [kKs] at h
    | cons p r =>
      obtain ⟨nm, pe, p'⟩ := p
      cases nm with
      | none => simp [kKs] at h
      | some nm =>
        simp only [kKs, Bool.and_eq_true] at h
        exact s_kcons (sE e C h.1).v (sKs es C h.2)
theorem sO : ∀ (o : Oe) {X : Cx} {q : Qm} {po : Option Expr}, CxOk c N k X q → kO c N o X.env.scope po = true → PO X po (tWo X.K q o)
  | .none, X, q, po, C, h => by
    cases po with
    | none => exact s_onone
    | some p => simp [kO] at h
  | .some e, X, q, po, C, h => by
    cases po with
    | none => simp [kO] at h
    | some p =>
      simp only [kO] at h
      exact s_osome (sE e C h).v
theorem sC : ∀ (o : Oe) {X : Cx} {q : Qm} {pes : List Expr}, CxOk c N k X q → kC c N o X.env.scope pes = true → PTs X pes (tWc X.K q o)
  | .none, X, q, pes, C, h => by
    cases pes with
    | nil =>
      refine ⟨fun pins s σ H Q I h => pts_nil.run pins s σ H Q I ?_⟩
      obtain ⟨β, ρ, env, st, e, S, h⟩ := h
      simp only [evc] at h
      exact PostB.here h S
    | cons p r => simp [kC] at h
  | .some e, X, q, pes, C, h => by
    simp only [kC] at h
    split at h
    · simp only [Bool.and_eq_true] at h
      have P := pts_one ((sE e C h.2).t h.1)
      refine ⟨fun pins s σ H Q I h => P.run pins s σ H Q I ?_⟩
      obtain ⟨β, ρ, env, st, e', S, h⟩ := h
      simp only [evc] at h
      exact ⟨β, ρ, env, st, e', S, h⟩
    · cases h
theorem sI : ∀ (it : It) {X : Cx} {q : Qm} {ptg pit : Expr}, CxOk c N k X q → kI c N it X.env.scope ptg pit = true → PI X ptg pit (tWi X.K q it)
  | .val e, X, q, ptg, pit, C, h => by
    simp only [kI] at h
    exact i_val (sE e C h).v
  | .rng1 a, X, q, ptg, pit, C, h => by
    simp only [kI] at h
    split at h
    · simp only [Bool.and_eq_true, decide_eq_true_eq, Bool.not_eq_true'] at h
      obtain ⟨⟨⟨rfl, h2⟩, h3⟩, h4⟩ := h
      exact i_rng1 (gl_of h2) (C.bln _ (by decide)) (s_cons (sE a C h4).v s_nil (star_cons h3)) (star_cons h3)
    · cases h
  | .rng2 a b, X, q, ptg, pit, C, h => by
    simp only [kI] at h
    split at h
    · simp only [Bool.and_eq_true, decide_eq_true_eq, Bool.not_eq_true'] at h
      obtain ⟨⟨⟨⟨⟨rfl, h2⟩, h3⟩, h4⟩, h5⟩, h6⟩ := h
      refine i_rng2 (gl_of h2) (C.bln _ (by decide)) (s_cons (sE a C h5).v (s_cons (sE b C h6).v s_nil (star_cons h4)) (star_cons h3)) ?_ (star_cons h4)
      rw [star_cons h3, star_cons h4]
      rfl
    · cases h
  | .rng3 a b k', X, q, ptg, pit, C, h => by
    simp only [kI] at h
    split at h
    · simp only [Bool.and_eq_true, decide_eq_true_eq, Bool.not_eq_true'] at h
      obtain ⟨⟨⟨⟨⟨⟨rfl, rfl⟩, h2⟩, h3⟩, h4⟩, h5⟩, h6⟩ := h
      refine i_rng3 (gl_of h2) (C.bln _ (by decide)) (s_cons (sE a C h5).v (s_cons (sE b C h6).v (s_cons s_m1 s_nil rfl) (star_cons h4)) (star_cons h3)) (star_cons h3) ?_
      rw [star_cons h4]
      rfl
    · cases h
  | .enum a, X, q, ptg, pit, C, h => by
    simp only [kI] at h
    split at h
    · simp only [Bool.and_eq_true, decide_eq_true_eq, Bool.not_eq_true'] at h
      obtain ⟨⟨⟨⟨h1, rfl⟩, h2⟩, h3⟩, h4⟩ := h
      split at h1
      · exact i_enum (gl_of h2) (C.bln _ (by decide)) (s_cons (sE a C h4).v s_nil (star_cons h3)) (star_cons h3)
      · cases h1
    · cases h
  | .zip a b, X, q, ptg, pit, C, h => by
    simp only [kI] at h
    split at h
    · simp only [Bool.and_eq_true, decide_eq_true_eq, Bool.not_eq_true'] at h
      obtain ⟨⟨⟨⟨⟨⟨h1, rfl⟩, h2⟩, h3⟩, h4⟩, h5⟩, h6⟩ := h
      split at h1
      · refine i_zip (gl_of h2) (C.bln _ (by decide)) (s_cons (sE a C h5).v (s_cons (sE b C h6).v s_nil (star_cons h4)) (star_cons h3)) (star_cons h3) ?_
        rw [star_cons h4]
        rfl
      · cases h1
    · cases h
  | .perm a, X, q, ptg, pit, C, h => by
    simp only [kI] at h
    split at h
    · simp only [Bool.and_eq_true, decide_eq_true_eq, Bool.not_eq_true'] at h
      obtain ⟨⟨⟨⟨⟨⟨h1, rfl⟩, h2⟩, rfl⟩, h3⟩, h4⟩, h5⟩ := h
      exact i_perm C.calm (gl_of h2) (C.prm h1) (by decide) (by decide) (gl_of h3) (C.bln _ (by decide)) (sE a C h5).v (star_cons h4)
    · cases h
theorem sG : ∀ (t : Tg) {X : Cx} {q : Qm} {fs : Scope} {pe : Expr}, CxOk c N k X q → (∀ x, fs.names.lookup x = some .cell → X.fn x = true) → kG c N t fs X.env.scope pe = true → PG X pe (tWg X.K q t)
  | .var i, X, q, fs, pe, C, hf, h => by
    simp only [kG] at h
    split at h
    · simp only [Bool.and_eq_true, decide_eq_true_eq, Bool.or_eq_true] at h
      obtain ⟨h1, h2⟩ := h
      rcases h2 with h2 | ⟨h2, h3⟩
      · exact g_var C.nd (by rw [C.N]; exact h1) (.inl (lcl_of h2)) (.inr (lcl_of h2))
      · refine g_var C.nd (by rw [C.N]; exact h1) (.inr ?_) (.inl (hf _ ?_))
        · unfold celB at h2
          split at h2
          · assumption
          · cases h2
        · unfold celB at h3
          split at h3
          · assumption
          · cases h3
    · cases h
  | .idx a b, X, q, fs, pe, C, hf, h => by
    simp only [kG] at h
    split at h
    · rename_i pa pb p
      simp only [Bool.and_eq_true, Bool.not_eq_true'] at h
      obtain ⟨⟨h1, h2⟩, h3⟩ := h
      refine g_idx (sE a C h2).v (sE b C h3).v ?_
      intro v
      cases pb <;> first
        | rfl
        | cases h1
    · cases h
  | .tup ts, X, q, fs, pe, C, hf, h => by
    simp only [kG] at h
    split at h
    · have L := tgs_len (env := X.env) h
      exact g_tup C.calm (sGs ts C hf h) L.1 L.2
    · cases h
  | .tupS i j, X, q, fs, pe, C, hf, h => by
    simp only [kG] at h
    split at h
    · simp only [Bool.and_eq_true, decide_eq_true_eq] at h
      obtain ⟨⟨⟨h1, h2⟩, h3⟩, h4⟩ := h
      have go : ∀ {x : Str}, (lclB X.env.scope x || (celB X.env.scope x && celB fs x)) = true → Loc X.env.scope x ∧ (X.fn x = true ∨ X.env.scope.names.lookup x = some .local) := fun {x} h => by
        rw [Bool.or_eq_true, Bool.and_eq_true] at h
        rcases h with h2 | ⟨h2, h3⟩
        · exact ⟨.inl (lcl_of h2), .inr (lcl_of h2)⟩
        · refine ⟨.inr ?_, .inl (hf _ ?_)⟩
          · unfold celB at h2
            split at h2
            · assumption
            · cases h2
          · unfold celB at h3
            split at h3
            · assumption
            · cases h3
      exact g_tupS C.calm C.nd (by rw [C.N]; exact h1) (by rw [C.N]; exact h2) (go h3) (go h4)
    · cases h
theorem sGs : ∀ (ts : Tgs) {X : Cx} {q : Qm} {fs : Scope} {pes : List Expr}, CxOk c N k X q → (∀ x, fs.names.lookup x = some .cell → X.fn x = true) → kGs c N ts fs X.env.scope pes = true → PGs X pes (tWgs X.K q ts)
  | .nil, X, q, fs, pes, C, hf, h => by
    cases pes with
    | nil => exact g_nil
    | cons p r => simp [kGs] at h
  | .cons t ts, X, q, fs, pes, C, hf, h => by
    cases pes with
    | nil => simp [kGs] at h
    | cons p r =>
      simp only [kGs, Bool.and_eq_true, Bool.not_eq_true'] at h
      refine g_cons (sG t C hf h.1.2) (sGs ts C hf h.2) ?_
      rw [asg_cons h.1.1]
      rfl
end
theorem sLc : ∀ (own : List Nat) (elt : E) (tg : Tg) (it : It) (oc : Oe) {X : Cx} {q : Qm} {pelt ptg pit : Expr} {pifs : List Expr} {s2 : Scope}, CxOk c N k X q →
    (!lamB c (relS s2 X.env.scope) && blkC N X.env.scope s2 (ownN N own) && (tgv tg).all (fun i => own.contains i) && !isSet pit && kI c N it X.env.scope ptg pit && kG c N tg s2 (relS s2 X.env.scope) ptg && kC c N oc (relS s2 X.env.scope) pifs && kE c N elt (relS s2 X.env.scope) pelt) = true → LcOk X q (ownN N own) elt tg it oc pelt ptg pit pifs s2
  | own, elt, tg, it, oc, X, q, pelt, ptg, pit, pifs, s2, C, h => by
    simp only [Bool.and_eq_true, Bool.not_eq_true', List.all_eq_true] at h
    obtain ⟨⟨⟨⟨⟨⟨⟨h0, h1⟩, h2⟩, h3⟩, h4⟩, h5⟩, h6⟩, h7⟩ := h
    have bk := blkOk_by h1
    exact {
      calm := C.calm
      nd := C.nd
      it := sI it C h4
      blk := by rw [C.N]; exact bk
      tgt := fun s H C' cl fp => sG tg (C.blk bk.kind h0) (fun x hx => by
        show (s2.names.lookup x == some NameKind.cell) = true
        rw [hx]
        rfl) h5
      ifs := fun s H C' cl fp => sC oc (C.blk bk.kind h0) h6
      elt := fun s H C' cl fp => (sE elt (C.blk bk.kind h0) h7).v
      fold := fold_of h3
      own := fun i hi => by
        rw [ownN_snd]
        simpa using h2 i hi }
theorem sLc2 (own own1 : List Nat) (elt : E) (tg : Tg) (it : It) (oc : Oe) (tg1 : Tg) (it1 : It) (oc1 : Oe) {X : Cx} {q : Qm} {pelt ptg pit ptg1 pit1 : Expr} {pifs pifs1 : List Expr} {s2 : Scope} (C : CxOk c N k X q)
    (h : (!lamB c (relS s2 X.env.scope) && blkC N X.env.scope s2 (ownN N own) && (tgv tg).all (fun i => own.contains i) && !isSet pit && kI c N it X.env.scope ptg pit && kG c N tg s2 (relS s2 X.env.scope) ptg && kC c N oc (relS s2 X.env.scope) pifs && kE c N elt (relS s2 X.env.scope) pelt && ((tgv tg1).all (fun i => own1.contains i) && own1.all (fun i => own.contains i) && !isSet pit1 && kI c N it1 (relS s2 X.env.scope) ptg1 pit1 && kG c N tg1 s2 (relS s2 X.env.scope) ptg1 && kC c N oc1 (relS s2 X.env.scope) pifs1)) = true) :
    LcOk2 X q (ownN N own) own1 elt tg it oc tg1 it1 oc1 pelt ptg pit ptg1 pit1 pifs pifs1 s2 := by
  simp only [Bool.and_eq_true, Bool.not_eq_true', List.all_eq_true] at h
  obtain ⟨⟨⟨⟨⟨⟨⟨⟨h0, h1⟩, h2⟩, h3⟩, h4⟩, h5⟩, h6⟩, h7⟩, ⟨⟨⟨⟨g1, g2⟩, g3⟩, g4⟩, g5⟩, g6⟩ := h
  have bk := blkOk_by h1
  have cl : ∀ x, s2.names.lookup x = some NameKind.cell → (s2.names.lookup x == some NameKind.cell) = true := fun x hx => by
    rw [hx]
    rfl
  exact {
    calm := C.calm
    nd := C.nd
    it := sI it C h4
    blk := by rw [C.N]; exact bk
    tgt := fun s H C' cl' fp => sG tg (C.blk bk.kind h0) cl h5
    ifs := fun s H C' cl' fp => sC oc (C.blk bk.kind h0) h6
    it1 := fun s H C' cl' fp => sI it1 (C.blk bk.kind h0) g4
    tgt1 := fun s H C' cl' fp => sG tg1 (C.blk bk.kind h0) cl g5
    ifs1 := fun s H C' cl' fp => sC oc1 (C.blk bk.kind h0) g6
    elt := fun s H C' cl' fp => (sE elt (C.blk bk.kind h0) h7).v
    fold := fold_of h3
    fold1 := fun env => fold_of g3
    own := fun i hi => by
      rw [ownN_snd]
      simpa using h2 i hi
    own1 := fun i hi => by simpa using g1 i hi
    sub := fun i hi => by
      rw [ownN_snd]
      simpa using g2 i hi }
end
end PL

set_option Elab.async false
set_option linter.all false
set_option maxRecDepth 100000
set_option maxHeartbeats 4000000
/-! The check is sound: statements. -/
namespace PL
open PySem PySem.Spec PyProof.Rows L2
variable [Tbl]
section
variable {c : Ck} {N : List Str} {k : Nat} {env : PySem.Env}
theorem blk_kind (h : env.scope.kind = .function) : env.blockKind = .function := by
  unfold PySem.Env.blockKind
  rw [h]
  rfl
theorem sw_drop {pe : Expr} {line : Nat} (h : isLc pe = false) : swapsWith pe none line env = pure false := by
  cases pe <;> first
    | rfl
    | cases h
theorem lcl_eq (x : Str) : (env.kindOf x == some NameKind.local) = lclB env.scope x := by
  unfold PySem.Env.kindOf lclB
  cases env.scope.names.lookup x with
  | none => rfl
  | some k => cases k <;> rfl
theorem sw_one {pt pe : Expr} {line : Nat} (hk : env.scope.kind = .function) (h : swB env.scope pt pe = false) (h2 : isSD pe = false) : swapsWithSole [pt] pe line env = pure false := by
  show swapsWith pe (some pt) line env = pure false
  cases pe <;> first
    | rfl
    | cases h2
    | skip
  rename_i elt gens s2 p2
  cases pt <;> first
    | rfl
    | skip
  rename_i t p
  show (pure (env.blockKind == .function && env.kindOf t == some .local && p.line == p2.line && !(s2.names.any fun (n, k) => n == t && (k == .local || k == .cell))) : Sem Bool) = pure false
  rw [blk_kind hk, lcl_eq]
  simp only [swB] at h
  have e : ((ScopeKind.function == ScopeKind.function) && lclB env.scope t && p.line == p2.line && !(s2.names.any fun (n, k) => n == t && (k == .local || k == .cell))) = false := by
    rw [show (ScopeKind.function == ScopeKind.function) = true from rfl, Bool.true_and]
    exact h
  rw [e]
theorem sw_lc {t : Str} {p p2 : Pos} {elt : Expr} {gens : List Comprehension} {s2 : Scope} {line : Nat} (hk : env.scope.kind = .function) (h : swB env.scope (.Name t p) (.ListComp elt gens s2 p2) = true) : swapsWith (.ListComp elt gens s2 p2) (some (.Name t p)) line env = pure true := by
  show (pure (env.blockKind == .function && env.kindOf t == some .local && p.line == p2.line && !(s2.names.any fun (n, k) => n == t && (k == .local || k == .cell))) : Sem Bool) = pure true
  rw [blk_kind hk, lcl_eq]
  simp only [swB] at h
  have e : ((ScopeKind.function == ScopeKind.function) && lclB env.scope t && p.line == p2.line && !(s2.names.any fun (n, k) => n == t && (k == .local || k == .cell))) = true := by
    rw [show (ScopeKind.function == ScopeKind.function) = true from rfl, Bool.true_and]
    exact h
  rw [e]
theorem st_none {pt pe : Expr} (h : isTup pt = false) : swappedStores [pt] pe env = pure none := by
  cases pt <;> first
    | rfl
    | cases h
theorem st_none2 {pt pe : Expr} (h : (match pe with | .Tuple vs _ _ => vs.all (foldedForSure 8) | _ => true) = true) : swappedStores [pt] pe env = pure none := by
  by_cases ht : isTup pt = true
  · have go : ∀ ts vs : List Expr, vs.all (foldedForSure 8) = true → (do
        if !(ts.length == 2 || ts.length == 3) || vs.length != ts.length || env.blockKind != .function then return none
        if vs.any fun | .Starred .. => true | _ => false then return none
        let line := (ts.head?.map (·.pos.line)).getD 0
        let names := ts.filterMap fun
          | .Name id pos => if env.kindOf id == some .local && pos.line == line then some id else none
          | _ => none
        if names.length != ts.length || names.eraseDups.length != names.length then return none
        if vs.all (foldedForSure 8) then return none
        if vs.all (constantsAlone 8) then unsupported "assign.tuple-of-constant-expressions:order-of-the-stores"
        return some names : Sem (Option (List Str))) = pure none := fun ts vs hv => by
      split
      · rfl
      · split
        · rfl
        · dsimp only
          split
          · rfl
          · first
              | rfl
              | (rw [if_pos hv]; rfl)
    cases pe <;> first
      | (cases pt <;> first
          | rfl
          | exact absurd ht Bool.false_ne_true)
      | skip
    rename_i vs k2 p2
    cases pt <;> first
      | exact absurd ht Bool.false_ne_true
      | exact go _ _ h
  · exact st_none (by simpa using ht)
theorem nn_len {ts : List Expr} {line : Nat} (h : (ts.any fun t => match t with | .Name x _ => !lclB env.scope x | _ => true) = true) : (ts.filterMap fun
          | .Name id pos => if env.kindOf id == some .local && pos.line == line then some id else none
          | _ => none).length ≠ ts.length := by
  have le : ∀ ts : List Expr, (ts.filterMap fun
          | .Name id pos => if env.kindOf id == some .local && pos.line == line then some id else none
          | _ => none).length ≤ ts.length := fun ts => List.length_filterMap_le _ _
  induction ts with
  | nil => cases h
  | cons t r ih =>
    rw [List.any_cons, Bool.or_eq_true] at h
    have l1 := le r
    rw [List.filterMap_cons]
    split
    · rw [List.length_cons]
      omega
    · rename_i b hb
      rcases h with h | h
      · cases t <;> first
          | (cases hb; done)
          | skip
        rename_i x p
        have h : (!lclB env.scope x) = true := h
        have hb : (if (env.kindOf x == some NameKind.local && p.line == line) = true then some x else none) = some b := hb
        rw [lcl_eq] at hb
        rw [Bool.not_eq_true'] at h
        rw [h] at hb
        cases hb
      · have := ih h
        rw [List.length_cons, List.length_cons]
        omega
theorem st_none3 {pt pe : Expr} (h : notNames env.scope pt = true) : swappedStores [pt] pe env = pure none := by
  have go : ∀ ts vs : List Expr, (ts.any fun t => match t with | .Name x _ => !lclB env.scope x | _ => true) = true → (do
        if !(ts.length == 2 || ts.length == 3) || vs.length != ts.length || env.blockKind != .function then return none
        if vs.any fun | .Starred .. => true | _ => false then return none
        let line := (ts.head?.map (·.pos.line)).getD 0
        let names := ts.filterMap fun
          | .Name id pos => if env.kindOf id == some .local && pos.line == line then some id else none
          | _ => none
        if names.length != ts.length || names.eraseDups.length != names.length then return none
        if vs.all (foldedForSure 8) then return none
        if vs.all (constantsAlone 8) then unsupported "assign.tuple-of-constant-expressions:order-of-the-stores"
        return some names : Sem (Option (List Str))) = pure none := fun ts vs hv => by
    split
    · rfl
    · split
      · rfl
      · dsimp only
        rw [if_pos (by
          rw [Bool.or_eq_true]
          exact .inl (bne_iff_ne.mpr (nn_len hv)))]
        try rfl
  cases pt <;> first
    | (cases h; done)
    | skip
  all_goals
    cases pe with
    | Tuple vs k2 p2 => exact go _ _ h
    | _ => rfl
theorem not_star {e : Expr} (he : isStar e = false) : (match e with | .Starred .. => true | _ => false) = false := by
  cases e <;> first
    | rfl
    | cases he
theorem star_no {e : Expr} (h : isStar e = false) (h2 : isStar e = true) : False := by
  rw [h] at h2
  cases h2
theorem beq_ne {x y : Str} (h : x ≠ y) : (x == y) = false := by
  cases e : x == y with
  | false => rfl
  | true => exact absurd (eq_of_beq e) h
theorem ed2 {x y : Str} (h : x ≠ y) : List.eraseDupsBy (fun a b => a == b) [x, y] = [x, y] := by
  unfold List.eraseDupsBy
  simp [List.eraseDupsBy.loop, beq_ne h, beq_ne (Ne.symm h)]
theorem ed3 {x y z : Str} (h : x ≠ y) (h2 : x ≠ z) (h3 : y ≠ z) : List.eraseDupsBy (fun a b => a == b) [x, y, z] = [x, y, z] := by
  unfold List.eraseDupsBy
  simp [List.eraseDupsBy.loop, beq_ne h, beq_ne (Ne.symm h), beq_ne h2, beq_ne (Ne.symm h2), beq_ne h3, beq_ne (Ne.symm h3)]
theorem st_two {x y : Str} {px py pt pt2 : Pos} {kt k2 : Nat} {pa pb : Expr} (hk : env.scope.kind = .function) (hx : env.scope.names.lookup x = some .local) (hy : env.scope.names.lookup y = some .local) (hxy : x ≠ y) (hl : (px.line == py.line) = true)
    (h1 : isStar pa = false) (h2 : isStar pb = false) (h3 : [pa, pb].all (foldedForSure 8) = false) (h4 : [pa, pb].all (constantsAlone 8) = false) : swappedStores [.Tuple [.Name x px, .Name y py] kt pt] (.Tuple [pa, pb] k2 pt2) env = pure (some [x, y]) := by
  have e1 : env.kindOf x = some .local := hx
  have e2 : env.kindOf y = some .local := hy
  have l : px.line = py.line := by simpa using hl
  unfold swappedStores
  simp only [blk_kind hk, List.length_cons, List.length_nil]
  simp [e1, e2, l, Expr.pos, h3, h4, List.eraseDups, ed2 hxy]
  intro z
  exfalso
  rcases z with z | z
  · exact star_no h1 (by cases pa <;> first | rfl | (exfalso; exact Bool.false_ne_true z))
  · exact star_no h2 (by cases pb <;> first | rfl | (exfalso; exact Bool.false_ne_true z))
theorem st_three {x y z : Str} {px py pz pt pt2 : Pos} {kt k2 : Nat} {pa pb pc : Expr} (hk : env.scope.kind = .function) (hx : env.scope.names.lookup x = some .local) (hy : env.scope.names.lookup y = some .local) (hz : env.scope.names.lookup z = some .local) (hxy : x ≠ y) (hxz : x ≠ z) (hyz : y ≠ z) (hl : (px.line == py.line) = true) (hl2 : (px.line == pz.line) = true)
    (h1 : isStar pa = false) (h2 : isStar pb = false) (h5 : isStar pc = false) (h3 : [pa, pb, pc].all (foldedForSure 8) = false) (h4 : [pa, pb, pc].all (constantsAlone 8) = false) : swappedStores [.Tuple [.Name x px, .Name y py, .Name z pz] kt pt] (.Tuple [pa, pb, pc] k2 pt2) env = pure (some [x, y, z]) := by
  have e1 : env.kindOf x = some .local := hx
  have e2 : env.kindOf y = some .local := hy
  have e3 : env.kindOf z = some .local := hz
  have l : py.line = px.line := by simpa using Eq.symm (of_decide_eq_true (by simpa using hl))
  have l2 : pz.line = px.line := by simpa using Eq.symm (of_decide_eq_true (by simpa using hl2))
  unfold swappedStores
  simp only [blk_kind hk, List.length_cons, List.length_nil]
  simp [e1, e2, e3, l, l2, Expr.pos, h3, h4, List.eraseDups, ed3 hxy hxz hyz]
  intro z
  exfalso
  rcases z with z | z | z
  · exact star_no h1 (by cases pa <;> first | rfl | (exfalso; exact Bool.false_ne_true z))
  · exact star_no h2 (by cases pb <;> first | rfl | (exfalso; exact Bool.false_ne_true z))
  · exact star_no h5 (by cases pc <;> first | rfl | (exfalso; exact Bool.false_ne_true z))
end
section
variable {c : Ck} {N : List Str} {k : Nat}
mutual
theorem sS : ∀ (s : S) {X : Cx} {q : Qm} {ps : Stmt}, CxOk c N k X q → (∀ x, X.env.scope.names.lookup x = some .cell → X.fn x = true) → kS c N s X.env.scope ps = true → PS X ps (tS X.K q s)
  | .asg t e, X, q, ps, C, hf, h => by
    simp only [kS] at h
    split at h
    · rename_i pt pe pos
      split at h
      · rename_i hsw
        simp only [Bool.and_eq_true] at h
        obtain ⟨⟨⟨h1, h2⟩, h3⟩, h4⟩ := h
        cases t with
        | idx _ _ => cases h1
        | tup _ => cases h1
        | tupS _ _ => cases h1
        | var i =>
          -- the target's name, the comprehension
          cases pt <;> first
            | (simp [swB] at hsw; done)
            | skip
          rename_i y py
          cases pe <;> first
            | (simp [swB] at hsw; done)
            | skip
          rename_i elt gens s2 p2
          have hl := hsw
          simp only [swB, Bool.and_eq_true] at hl
          simp only [kG, Bool.and_eq_true, decide_eq_true_eq] at h3
          have hy : X.N[i]? = some y := by rw [C.N]; exact h3.1
          have hyl := lcl_of hl.1.1
          split at h2
          · rename_i own elt' tg it oc
            simp only [kE] at h4
            split at h4
            · rename_i pelt ptg pit pifs s2' pos' heq
              injection heq with g1 g2 g3 g4
              subst g1 g2 g3 g4
              have P := z_asgLc (q := q) false (sLc own elt' tg it oc C h4) hy hyl (sw_lc C.kind hsw) (pos := pos) (py := py)
              rw [ownN_snd] at P
              exact P
            · cases h4
          · rename_i own elt' tg it oc
            simp only [kE, Bool.and_eq_true] at h4
            obtain ⟨_, h4⟩ := h4
            split at h4
            · rename_i pelt ptg pit pifs s2' pos' heq
              injection heq with g1 g2 g3 g4
              subst g1 g2 g3 g4
              have P := z_asgLc (q := q) true (sLc own elt' tg it oc C h4) hy hyl (sw_lc C.kind hsw) (pos := pos) (py := py)
              rw [ownN_snd] at P
              exact P
            · cases h4
          · rename_i own own1 elt' tg it oc tg1 it1 oc1
            simp only [kE] at h4
            split at h4
            · rename_i pelt ptg pit pifs ptg1 pit1 pifs1 s2' pos' heq
              injection heq with g1 g2 g3 g4
              subst g1 g2 g3 g4
              have P := z_asgLc2 (q := q) false (sLc2 own own1 elt' tg it oc tg1 it1 oc1 C h4) hy hyl (sw_lc C.kind hsw) (pos := pos) (py := py)
              rw [ownN_snd] at P
              exact P
            · cases h4
          · rename_i own own1 elt' tg it oc tg1 it1 oc1
            simp only [kE, Bool.and_eq_true] at h4
            obtain ⟨_, h4⟩ := h4
            split at h4
            · rename_i pelt ptg pit pifs ptg1 pit1 pifs1 s2' pos' heq
              injection heq with g1 g2 g3 g4
              subst g1 g2 g3 g4
              have P := z_asgLc2 (q := q) true (sLc2 own own1 elt' tg it oc tg1 it1 oc1 C (by simpa only [Bool.and_eq_true] using h4)) hy hyl (sw_lc C.kind hsw) (pos := pos) (py := py)
              rw [ownN_snd] at P
              exact P
            · cases h4
          · cases h2
      · rename_i hsw
        simp only [Bool.and_eq_true, Bool.not_eq_true', Bool.or_eq_true] at h
        obtain ⟨⟨⟨⟨h1, h2⟩, h3⟩, h4⟩, h5⟩ := h
        refine z_asg (sE e C h5).v (sG t C hf h4) (sw_one C.kind (by simpa using hsw) h2) ?_ ?_
        · rcases h3 with h3 | h3
          · exact st_none h3
          · split at h3
            · rename_i vs k2 p2
              rcases (Bool.or_eq_true _ _).mp h3 with h3 | h3
              · exact st_none2 h3
              · exact st_none3 h3
            · rename_i hh
              refine st_none2 ?_
              split
              · rename_i vs k2 p2
                exact absurd rfl (hh vs k2 p2)
              · rfl
        · rw [asg_cons h1]
          rfl
    · cases h
  | .par is es, X, q, ps, C, hf, h => by
    simp only [kS] at h
    split at h
    · rename_i x p1 y p2 kt pt pa pb k2 pt2 pos
      split at h
      · rename_i i j
        simp only [Bool.and_eq_true, decide_eq_true_eq, Bool.not_eq_true'] at h
        obtain ⟨⟨⟨⟨⟨⟨⟨⟨⟨h1, h2⟩, h3⟩, h4⟩, h5⟩, h6⟩, h7⟩, h8⟩, h9⟩, h10⟩ := h
        have A := sEs es C h10
        have st : isStar pa = false ∧ isStar pb = false := by
          cases es with
          | nil => simp [kEs] at h10
          | cons e es =>
            cases es with
            | nil => simp [kEs] at h10
            | cons e2 es =>
              simp only [kEs, Bool.and_eq_true, Bool.not_eq_true'] at h10
              exact ⟨h10.1.1, h10.2.1.1⟩
        exact z_par2 C.calm C.nd (by rw [C.N]; exact h1) (by rw [C.N]; exact h2) h3 (lcl_of h5) (lcl_of h6) A (st_two C.kind (lcl_of h5) (lcl_of h6) h4 h7 st.1 st.2 h8 h9) rfl
      · cases h
    · rename_i x p1 y p2 z p3 kt pt pa pb pc k2 pt2 pos
      split at h
      · rename_i i j l
        simp only [Bool.and_eq_true, decide_eq_true_eq, Bool.not_eq_true'] at h
        obtain ⟨⟨⟨⟨⟨⟨⟨⟨⟨⟨⟨⟨⟨⟨⟨⟨h1, h2⟩, h3⟩, h4⟩, h5⟩, h6⟩, h7⟩, h8⟩, h9⟩, h10⟩, h11⟩, h12⟩, h13⟩, h14⟩, h15⟩, h16⟩, h17⟩ := h
        have A := sEs es C h17
        have st : isStar pa = false ∧ isStar pb = false ∧ isStar pc = false := by
          cases es with
          | nil => simp [kEs] at h17
          | cons e es =>
            cases es with
            | nil => simp [kEs] at h17
            | cons e2 es =>
              cases es with
              | nil => simp [kEs] at h17
              | cons e3 es =>
                simp only [kEs, Bool.and_eq_true, Bool.not_eq_true'] at h17
                exact ⟨h17.1.1, h17.2.1.1, h17.2.2.1.1⟩
        exact z_par3 C.calm C.nd (by rw [C.N]; exact h1) (by rw [C.N]; exact h2) (by rw [C.N]; exact h3) h4 h5 h6 (lcl_of h10) (lcl_of h11) (lcl_of h12) A (st_three C.kind (lcl_of h10) (lcl_of h11) (lcl_of h12) h7 h8 h9 h13 h14 st.1 st.2.1 st.2.2 h15 h16) rfl
      · cases h
    · cases h
  | .ifs d a b, X, q, ps, C, hf, h => by
    simp only [kS] at h
    split at h
    · simp only [Bool.and_eq_true] at h
      obtain ⟨⟨⟨h1, h2⟩, h3⟩, h4⟩ := h
      exact z_if ((sE d C h2).t h1) (sSs a C hf h3) (sSs b C hf h4)
    · cases h
  | .whl d b, X, q, ps, C, hf, h => by
    simp only [kS] at h
    split at h
    · simp only [Bool.and_eq_true] at h
      obtain ⟨⟨h1, h2⟩, h3⟩ := h
      exact z_while C.pas ((sE d C h2).t h1) (sSs b C hf h3)
    · cases h
  | .fr t it b, X, q, ps, C, hf, h => by
    simp only [kS] at h
    split at h
    · simp only [Bool.and_eq_true, Bool.not_eq_true'] at h
      obtain ⟨⟨⟨h1, h2⟩, h3⟩, h4⟩ := h
      exact z_for C.pas C.calm (sI it C h2) (sG t C hf h3) (sSs b C hf h4) (fold_of h1)
    · cases h
  | .rai k' e, X, q, ps, C, hf, h => by
    simp only [kS] at h
    split at h
    · simp only [Bool.and_eq_true, decide_eq_true_eq, Bool.not_eq_true'] at h
      obtain ⟨⟨⟨⟨h1, h2⟩, h3⟩, h4⟩, h5⟩ := h
      exact z_rai C.calm (C.xcs _ _ h1) C.room C.tk (sE e C h5).v (gl_of h2) (okN_of h3).1 (star_cons h4)
    · cases h
  | .ret e, X, q, ps, C, hf, h => by
    simp only [kS] at h
    split at h
    · exact z_ret (sE e C h).v
    · cases h
  | .retn, X, q, ps, C, hf, h => by
    simp only [kS] at h
    split at h
    · exact z_retn
    · cases h
  | .exp e, X, q, ps, C, hf, h => by
    simp only [kS] at h
    split at h
    · simp only [Bool.and_eq_true, Bool.not_eq_true'] at h
      exact z_exp (sE e C h.2).v (sw_drop h.1)
    · cases h
  | .pas, X, q, ps, C, hf, h => by
    simp only [kS] at h
    split at h
    · exact z_pas
    · cases h
  | .brk, X, q, ps, C, hf, h => by
    simp only [kS] at h
    split at h
    · exact z_brk
    · cases h
  | .cnt, X, q, ps, C, hf, h => by
    simp only [kS] at h
    split at h
    · exact z_cnt
    · cases h
  | .nev, X, q, ps, C, hf, h => z_nev
theorem sSs : ∀ (ss : Ss) {X : Cx} {q : Qm} {pss : List Stmt}, CxOk c N k X q → (∀ x, X.env.scope.names.lookup x = some .cell → X.fn x = true) → kSs c N ss X.env.scope pss = true → PSs X pss (tSs X.K q ss)
  | .nil, X, q, pss, C, hf, h => by
    cases pss with
    | nil => exact z_nil
    | cons p r => simp [kSs] at h
  | .cons s ss, X, q, pss, C, hf, h => by
    cases pss with
    | nil => simp [kSs] at h
    | cons p r =>
      simp only [kSs, Bool.and_eq_true] at h
      exact z_cons (sS s C hf h.1) (sSs ss C hf h.2)
end
end
end PL

set_option Elab.async false
set_option linter.all false
set_option maxRecDepth 100000
set_option maxHeartbeats 4000000
/-! Every def of the table does what the interpreter says. -/
namespace PL
open PySem PySem.Spec PyProof.Rows L2
variable [Tbl]
section
variable {K : PySem.W.Frag} {fa : Nat → Addr} {H H' : Hp} {m m' : Addr → Prop} {β ρ ρ' : List Addr} {n : Nat}
mutual
theorem RD.shrink (hρ : ∀ i, i < n → ∀ a, ρ'[i]? = some a → ρ[i]? = some a) (hm : ∀ a, m' a → m a) : ∀ {d : D} {v : V}, RD K fa H m β ρ' n d v → RD K fa H m' β ρ n d v
  | _, _, .non => .non
  | _, _, .bl b => .bl b
  | _, _, .int i => .int i
  | _, _, .str s => .str s
  | _, _, .tupH h1 h2 h3 h4 => .tupH h1 (fun z => h2 (hm _ z)) h3 (RDs.shrink hρ hm h4)
  | _, _, .tupK h1 h4 => .tupK h1 (RDs.shrink hρ hm h4)
  | _, _, .frz h1 h2 h3 h4 => .frz h1 (fun z => h2 (hm _ z)) h3 (RDs.shrink hρ hm h4)
  | _, _, .scrH h1 h2 h3 h4 => .scrH h1 (fun z => h2 (hm _ z)) h3 (RDs.shrink hρ hm h4)
  | _, _, .scrK h1 h4 => .scrK h1 (RDs.shrink hρ hm h4)
  | _, _, .lst h1 h2 => .lst h1 (hρ _ h1 _ h2)
  | _, _, .fn k => .fn k
theorem RDs.shrink (hρ : ∀ i, i < n → ∀ a, ρ'[i]? = some a → ρ[i]? = some a) (hm : ∀ a, m' a → m a) : ∀ {ds : List D} {vs : List V}, RDs K fa H m β ρ' n ds vs → RDs K fa H m' β ρ n ds vs
  | _, _, .nil => .nil
  | _, _, .cons h t => .cons (RD.shrink hρ hm h) (RDs.shrink hρ hm t)
end
end
/-- what a call leaves: the callee's lists forgotten -/
theorem back_ok {K : PySem.W.Frag} {fa : Nat → Addr} {H : Hp} {β ρ : List Addr} {st st' : Sto} {d : D} {Q : VK} {Xx : Nat → D → Sto → Prop} (S : RS K fa β ρ st H) (h : RP (back st.length d st') (fun d st' => Post K fa β ρ st H d st' Q) Xx) :
    Post K fa β ρ st H d st' Q := by
  unfold back at h
  split at h
  · exact h
  · split at h
    · rename_i hr
      intro v H' ρ' a S' r
      obtain ⟨t, rfl⟩ := a.pre
      have hl : ρ.length = st.length := S.len
      have le := a.le
      have at' : ∀ i, i < st.length → ∀ p, (ρ ++ t)[i]? = some p → ρ[i]? = some p := fun i hi p e => by
        rw [List.getElem?_append_left (by omega)] at e
        exact e
      have tk : ∀ i, i < st.length → (st'.take st.length)[i]? = st'[i]? := fun i hi => List.getElem?_take_of_lt hi
      have tl : (st'.take st.length).length = st.length := by rw [List.length_take]; omega
      have mu : ∀ p, Mu ρ (st'.take st.length) p → Mu (ρ ++ t) st' p := fun p z => z.elim .inl fun ⟨i, o, h1, h2, h3⟩ => by
        have hi : i < st.length := by
          have := (List.getElem?_eq_some_iff.mp h2).1
          omega
        exact .inr ⟨i, o, by rw [List.getElem?_append_left (by omega)]; exact h1, by rw [← tk i hi]; exact h2, h3⟩
      refine h v H' ρ ⟨⟨[], by simp⟩, by rw [tl]; exact Nat.le_refl _, fun p o e nm => ?_, fun i ds e => ?_⟩ ⟨S.nd, by rw [tl]; exact hl, fun i o e => ?_, fun b hb => ?_, S'.tabs⟩ ?_
      · obtain ⟨k1, k2⟩ := a.keep p o e nm
        exact ⟨k1, fun z => k2 (mu p z)⟩
      · rw [tk i (its_get e)]
        exact a.lck i ds e
      · have hi : i < st.length := by
          have := (List.getElem?_eq_some_iff.mp e).1
          omega
        rw [tk i hi] at e
        obtain ⟨p, vs, e1, e2, e3⟩ := S'.obj i o e
        exact ⟨p, vs, at' i hi p e1, e2, e3.shrink (fun j hj q hq => at' j (by omega) q hq) mu⟩
      · obtain ⟨x1, x2⟩ := S'.busy b hb
        exact ⟨x1, fun z => x2 (List.mem_append_left _ z)⟩
      · rw [tl]
        exact (r.older hr).shrink at' mu
    · exact h
/-- a def of the program against its own term -/
def DefOk (c : Ck) (K : PySem.W.Frag) (mg : Str → Option Value) (base : Heap) (fa : Nat → Addr) (f : Nat) (F : Fd) : Prop := ∃ (x qual : Str) (params : Arguments) (body : List Stmt) (scope : Scope) (fd : FuncData) (N ps : List Str),
  FunD K x qual params body scope [] [] (fa f) fd ∧ FnScope N ps scope ∧ ps.length = F.ps ∧ N.length = F.nl ∧ kSs c N F.body scope body = true ∧ Binds K fd ps [] ∧ (∀ n ks pm, (f, n, ks, pm) ∈ c.kws → KBn K fd ps n ks (gK Value.none pm) (gK V.non pm)) ∧
  (lamB c scope = true → ∃ (cc P : Addr), fd.code = .ref cc ∧ LamX.TabB base mg cc P ∧ (P, (envOfC qual scope 0 0 Value.none).qual ++ "<lambda>") ∈ Tbl.T ∧ ∀ p ∈ Tbl.T, p.1 = P → p.2 = (envOfC qual scope 0 0 Value.none).qual ++ "<lambda>")
structure TabOk (c : Ck) (K : PySem.W.Frag) (mg : Str → Option Value) (base : Heap) (fa : Nat → Addr) (T : Nat → Option Fd) (G : Nat → D) (ca : Nat → Addr) (xn : Nat → Str) : Prop where
  defs : ∀ f F, T f = some F → DefOk c K mg base fa f F
  fns : ∀ x f np, c.fns.lookup x = some (f, np) → mg x = some (.ref (fa f)) ∧ ∃ F, T f = some F ∧ F.ps = np
  nam : ∀ f F, T f = some F → ∃ x, c.fns.lookup x = some (f, F.ps)
  gls : ∀ x i, c.gls.lookup x = some i → ∃ u v, mg x = some u ∧ RelV v u ∧ ∀ H m β ρ n, RD K fa H m β ρ n (G i) v
  bln : ∀ x ∈ blNames, mg x = none
  xcs : ∀ x k, c.xcs.lookup x = some k → XcOk K mg x (ca k) (xn k)
  ims : ∀ x f, c.ims.lookup x = some f → mg x = some (imV f)
  prm : c.perm = true → mg "permutations" = some (.type "itertools.permutations")
  hrs : ∀ x tp w ws, c.hrs.lookup x = some (tp, w, ws) → HrOk K mg ca xn x tp w ws
section
variable {P : Program} {w : World} {K : PySem.W.Frag} {mg : Str → Option Value} {base : Heap} {c : Ck} {fa : Nat → Addr} {T : Nat → Option Fd} {G : Nat → D} {W : Nat} {ca : Nat → Addr} {xn : Nat → Str}
theorem call_some {n f : Nat} {ds : List D} {st : Sto} {A : D → Sto → Prop} {B : Nat → D → Sto → Prop} (h : RP (PL.call T G W n f ds st) A B) : ∃ F, T f = some F ∧ ds.length = F.ps := by
  cases n with
  | zero => exact h.elim
  | succ n =>
    unfold PL.call at h
    cases hT : T f with
    | none => rw [hT] at h; exact h.elim
    | some F =>
      rw [hT] at h
      by_cases hl : ds.length = F.ps
      · exact ⟨F, rfl, hl⟩
      · have h : RP (if ds.length = F.ps then fin st.length (exs (PL.call T G W n) G W F.body (ds.map some ++ List.replicate (F.nl - F.ps) none) st) else .bad) A B := h
        rw [if_neg hl] at h
        exact h.elim
theorem start_re {N : List Str} {vs : List V} {ds : List D} {H : Hp} {β ρ : List Addr} {st : Sto} {F : Fd} (r : RDs K fa H (Mu ρ st) β ρ st.length ds vs) (hl : ds.length = F.ps) (hn : N.length = F.nl) (hle : F.ps ≤ F.nl) :
    RE K fa β ρ (ds.map some ++ List.replicate (F.nl - F.ps) none) st (L2.start N vs) H := by
  have e := r.length
  refine ⟨?_, fun i d h => ?_⟩
  · unfold L2.start
    simp only [List.length_append, List.length_map, List.length_replicate]
    omega
  · have hi : i < ds.length := by
      by_cases hi : i < ds.length
      · exact hi
      · rw [List.getElem?_append_right (by simpa using hi), List.getElem?_replicate] at h
        split at h <;> cases h
    rw [List.getElem?_append_left (by simpa using hi), List.getElem?_map] at h
    cases hd : ds[i]? with
    | none => rw [hd] at h; cases h
    | some d' =>
      rw [hd] at h
      cases h
      obtain ⟨v, hv, rv⟩ := r.get hd
      refine ⟨v, ?_, rv⟩
      unfold L2.start
      rw [List.getElem?_append_left (by rw [List.length_map, ← e]; exact hi), List.getElem?_map, hv]
      rfl
/-- what a def of the table promises, so many calls deep -/
def Keeps (P : Program) (w : World) (K : PySem.W.Frag) (mg : Str → Option Value) (base : Heap) (c : Ck) (fa : Nat → Addr) (T : Nat → Option Fd) (G : Nat → D) (W : Nat) (ca : Nat → Addr) (xn : Nat → Str) (n f np : Nat) (fd : FuncData) (ps : List Str) : Prop :=
  FnOk P w K mg base (L2.CX P w) (3 * n) (fa f) fd ps (spC K ⟨fa, ca, xn, PL.call T G W n, G, W, fun _ _ _ => False⟩ (PL.call T G W n) f np)
theorem fn_one (hT : TabOk c K mg base fa T G ca xn) {n f : Nat} {F : Fd} (hF : T f = some F)
    (ih : ∀ (f : Nat) (F : Fd), T f = some F → ∃ fd ps, Keeps P w K mg base c fa T G W ca xn n f F.ps fd ps ∧ PySem.W.keepIn K (.ref (fa f)) = true ∧ Binds K fd ps [] ∧ ∀ n ks pm, (f, n, ks, pm) ∈ c.kws → KBn K fd ps n ks (gK Value.none pm) (gK V.non pm))
    {x qual : Str} {params : Arguments} {body : List Stmt} {scope : Scope} {fd : FuncData} {N ps : List Str} (FD : FunD K x qual params body scope [] [] (fa f) fd) (S : FnScope N ps scope) (hp : ps.length = F.ps) (hn : N.length = F.nl) (hk : kSs c N F.body scope body = true)
    (hlam : lamB c scope = true → ∃ (cc P : Addr), fd.code = .ref cc ∧ LamX.TabB base mg cc P ∧ (P, (envOfC qual scope 0 0 Value.none).qual ++ "<lambda>") ∈ Tbl.T ∧ ∀ p ∈ Tbl.T, p.1 = P → p.2 = (envOfC qual scope 0 0 Value.none).qual ++ "<lambda>") :
    Keeps P w K mg base c fa T G W ca xn (n + 1) f F.ps fd ps := by
  have hle : F.ps ≤ F.nl := by
    rw [← hp, ← hn]
    have := congrArg List.length S.pre
    rw [List.length_take] at this
    omega
  obtain ⟨oc, od, dV, kV, doc, pm, an, cdv, ct, osl, rfl, lk, hcd, _, _⟩ := FD.ex
  have g3 : 3 * (n + 1) = 3 * n + 2 + 1 := by omega
  show FnOk P w K mg base (L2.CX P w) (3 * (n + 1)) (fa f) _ ps (spC K ⟨fa, ca, xn, PL.call T G W (n + 1), G, W, fun _ _ _ => False⟩ (PL.call T G W (n + 1)) f F.ps)
  rw [g3]
  refine fn_of lk hcd S (fun vs H Q E h => ?_) fun A outer s H vs Q E hr h => ?_
  · obtain ⟨β, ρ, st, ds, _, r, hl, _⟩ := h
    rw [← r.length, hl, hp]
  · obtain ⟨β, ρ, st, ds, Sr, r, hl, g⟩ := h
    let X := cxOf (L2.CX P w) P w K mg base N qual scope (fa f) cdv A outer s H E
    have C : CxOk c N (3 * n) X ⟨fa, ca, xn, PL.call T G W n, G, W, E⟩ := by
      exact {
        N := rfl
        nd := S.nd
        calm := rfl
        units := by
          have := hr.un
          show (A.deeper _).units + 65 < cLine
          omega
        room := hr.mono (by omega)
        pas := passes_of rfl
        cx := passes_call (W := fun cls d _ H => E cls d H) (takes_of rfl rfl rfl rfl) fun _ _ _ _ z => z
        kind := S.kind
        fns := fun x f np hx => by
          obtain ⟨hm, F', hF', rfl⟩ := hT.fns x f np hx
          obtain ⟨fd', ps', h1, h2, h3, h4⟩ := ih f F' hF'
          refine ⟨hm, h2, fun ds st hc => ?_, fd', ps', h1, h3, h4⟩
          obtain ⟨F2, e2, e3⟩ := call_some hc
          rw [hF'] at e2
          cases e2
          exact e3
        any := fun f ds st hc => by
          obtain ⟨F2, e2, e3⟩ := call_some hc
          obtain ⟨x, hx⟩ := hT.nam f F2 e2
          exact ⟨x, by rw [e3]; exact hx⟩
        gls := hT.gls
        bln := hT.bln
        tk := takes_of rfl rfl rfl rfl
        xcs := hT.xcs
        ims := hT.ims
        prm := hT.prm
        hrs := hT.hrs
        lam := fun z => ⟨hr, hlam z⟩ }
    refine ⟨tSs K ⟨fa, ca, xn, PL.call T G W n, G, W, E⟩ F.body, sSs F.body C (fun x hx => rfl) hk, β, ρ, _, st, start_re r hl hn hle, Sr, ?_⟩
    unfold PL.call at g
    rw [hF] at g
    have g : RP (if ds.length = F.ps then fin st.length (exs (PL.call T G W n) G W F.body (ds.map some ++ List.replicate (F.nl - F.ps) none) st) else .bad) _ _ := g
    rw [if_pos hl] at g
    unfold fin at g
    refine g.bind.imp (fun fl st' g2 => ?_) fun c d st' g2 => g2
    cases fl with
    | rt d => exact back_ok Sr g2
    | nx env' =>
      have g3 := back_ok Sr g2
      exact fun σ' H' ρ' a S' e' => g3 .non H' ρ' a S' .non
    | bk env' => exact g2.elim
    | ct env' => exact g2.elim
theorem fn_ok (hT : TabOk c K mg base fa T G ca xn) : ∀ (n f : Nat) (F : Fd), T f = some F → ∃ fd ps, Keeps P w K mg base c fa T G W ca xn n f F.ps fd ps ∧ PySem.W.keepIn K (.ref (fa f)) = true ∧ Binds K fd ps [] ∧
    ∀ n ks pm, (f, n, ks, pm) ∈ c.kws → KBn K fd ps n ks (gK Value.none pm) (gK V.non pm)
  | 0, f, F, hF => by
    obtain ⟨x, qual, params, body, scope, fd, N, ps, FD, S, hp, hn, hk, hb, hkw, hlam⟩ := hT.defs f F hF
    refine ⟨fd, ps, ⟨fun vs H Q E h => ?_, fun A outer s H args us vs Q E hr e0 hb r h => ?_⟩, FD.kp, hb, hkw⟩
    · obtain ⟨_, _, _, _, _, _, _, z⟩ := h
      exact z.elim
    · obtain ⟨_, _, _, _, _, _, _, z⟩ := h
      exact z.elim
  | n + 1, f, F, hF => by
    obtain ⟨x, qual, params, body, scope, fd, N, ps, FD, S, hp, hn, hk, hb, hkw, hlam⟩ := hT.defs f F hF
    exact ⟨fd, ps, fn_one hT hF (fn_ok hT n) FD S hp hn hk hlam, FD.kp, hb, hkw⟩
theorem keeps_cx {CX CX' : CXT} {k : Nat} {f : Addr} {fd : FuncData} {ps : List Str} {sp : Sp} (F : FnOk P w K mg base CX k f fd ps sp) (h : ∀ o H s E e s', CX o H s E e s' → CX' o H s E e s') : FnOk P w K mg base CX' k f fd ps sp :=
  ⟨F.len, fun A outer s H args us vs Q E a b d e g => codeAny_mono (F.run A outer s H args us vs Q E a b d e g) fun r s' q => by
    cases r with
    | error e => exact h _ _ _ _ _ _ q
    | ok fl => cases fl <;> exact q⟩
end
end PL

set_option Elab.async false
set_option linter.all false
set_option maxRecDepth 100000
/-! What is looked at when the module's head has run: the defs, the names, more. -/
namespace PL
open PySem PySem.Spec PyProof.Rows L2
def obsE (fa : List He.Fa) (fn : List He.DefD) (ex : List (PySem.W.Frag → Bool)) (K : PySem.W.Frag) : He.AlD × Bool := (He.obsD fa fn K, ex.all fun e => e K)
def SaysE (fa : List He.Fa) (fn : List He.DefD) (ex : List (PySem.W.Frag → Bool)) (K : PySem.W.Frag) : Prop := obsE fa fn ex K = (He.valD fn, true)
/-- the tables of the defs in which lambdas stand: empty, known to their code objects, not in K -/
structure SaysTb (tf : List He.Defn) (h : Heap) (K : PySem.W.Frag) : Prop where
  hd : ∀ p ∈ tf, PySem.W.codeHdIn K (He.cT K p).1 (He.cT K p).2 = true
  out : ∀ p ∈ tf, K.lookup (He.cT K p).2 = none
  empty : ∀ p ∈ tf, h.get? (He.cT K p).2 = some { cls := .none, data := .fields #[] }
def obsEG (n : Nat) (fa : List He.Fa) (fn : List He.DefD) (ex : List (PySem.W.Frag → Bool)) (tf : List He.Defn) (g : Addr → Option PySem.Obj) : (He.AlD × Bool) × Bool := (obsE fa fn ex (He.frT g (He.asD g n)), He.tabsB g tf (He.frT g (He.asD g n)))
theorem saysTb_of {n : Nat} {tf : List He.Defn} {h : Heap} (e : He.tabsB h.get? tf (He.frT h.get? (He.asD h.get? n)) = true) : SaysTb tf h (He.frT h.get? (He.asD h.get? n)) := by
  have key : ∀ p ∈ tf, PySem.W.codeHdIn (He.frT h.get? (He.asD h.get? n)) (He.cT (He.frT h.get? (He.asD h.get? n)) p).1 (He.cT (He.frT h.get? (He.asD h.get? n)) p).2 = true ∧ ∃ o, h.get? (He.cT (He.frT h.get? (He.asD h.get? n)) p).2 = some o ∧ He.emptyTab o = true := fun p hp => by
    have z := List.all_eq_true.mp e p hp
    rw [Bool.and_eq_true] at z
    obtain ⟨h3, h4⟩ := z
    refine ⟨h3, ?_⟩
    cases q : h.get? (He.cT (He.frT h.get? (He.asD h.get? n)) p).2 with
    | none =>
      rw [q] at h4
      cases h4
    | some o =>
      rw [q] at h4
      exact ⟨o, rfl, h4⟩
  exact ⟨fun p hp => (key p hp).1, fun p hp => by
    obtain ⟨_, o, q, z⟩ := key p hp
    exact He.frT_none q z, fun p hp => by
    obtain ⟨_, o, q, z⟩ := key p hp
    rw [q, He.emptyTab_eq z]⟩
def hookE (n : Nat) (fa : List He.Fa) (fn : List He.DefD) (ex : List (PySem.W.Frag → Bool)) (tf : List He.Defn) : PySem.W.Hook where
  α := (He.AlD × Bool) × Bool
  obs := fun s => obsEG n fa fn ex tf s.heap.get?
  val := fun _ => ((He.valD fn, true), true)
  says := fun _ h => ∃ K : PySem.W.Frag, K.In h ∧ SaysE fa fn ex K ∧ SaysTb tf h K
  of := fun _ _ e => ⟨_, He.frT_in, congrArg (fun z : (He.AlD × Bool) × Bool => z.1) e, saysTb_of (congrArg (fun z : (He.AlD × Bool) × Bool => z.2) e)⟩
  keeps := fun _ _ _ ⟨K, hK, c, t⟩ k => ⟨K, PySem.W.Frag.In.keeps hK k, c, ⟨t.hd, t.out, fun p hp => k _ _ (t.empty p hp)⟩⟩
theorem obsEG_eq {n : Nat} {fa : List He.Fa} {fn : List He.DefD} {ex : List (PySem.W.Frag → Bool)} {tf : List He.Defn} {g : Addr → Option PySem.Obj} {s : Shared} (h : ∀ a, g a = s.heap.get? a) : obsEG n fa fn ex tf g = (hookE n fa fn ex tf).obs s := by
  have e : g = s.heap.get? := funext h
  rw [e]
  rfl
section
variable {fa : List He.Fa} {fn : List He.DefD} {ex : List (PySem.W.Frag → Bool)} {K : PySem.W.Frag}
theorem SaysE.d (c : SaysE fa fn ex K) : He.SaysD fa fn K := congrArg (fun z : He.AlD × Bool => z.1) c
theorem SaysE.more (c : SaysE fa fn ex K) (i : Nat) {e : PySem.W.Frag → Bool} (h : ex[i]? = some e := by rfl) : e K = true := by
  have c1 : (ex.all fun e => e K) = true := congrArg (fun z : He.AlD × Bool => z.2) c
  exact List.all_eq_true.mp c1 e (List.mem_of_getElem? h)
end
/-- a name of the module stands for a value -/
def nameB (x : Str) (v : Value) (K : PySem.W.Frag) : Bool := He.eqO (PySem.W.nsIn K mainGlobals x) (some (some v))
theorem nameB_ok {K : PySem.W.Frag} {h : Heap} {mg : Str → Option Value} (X : K.In h) (G : h.Ns mainGlobals mg) {x : Str} {v : Value} (c : nameB x v K = true) : mg x = some v := PySem.W.mg_of X G (He.eqO_ok c)
end PL
namespace PL
open PySem PySem.Spec PyProof.Rows L2
/-- a module's object has no dict of its own -/
def noD (x : Str) (K : PySem.W.Frag) : Bool := match K.lookup (He.ga K x) with
  | some o => o.dict.isNone
  | none => false
theorem stT_of {K : PySem.W.Frag} {x : Str} {vs : List V} (h : SqT K (fun _ => none) (He.ga K x) vs) (d : noD x K = true) : StT K (He.ga K x) vs := by
  rcases h with (h | ⟨o, h⟩) | h
  · cases h
  · cases h
  · obtain ⟨o, its, n, h1, h2, h3, h4, h5⟩ := h
    refine ⟨o, its, n, ⟨h1, ?_⟩, h2, h3, h4, h5⟩
    unfold noD at d
    rw [h1] at d
    exact Option.isNone_iff_eq_none.mp d
end PL

set_option Elab.async false
set_option linter.all false
set_option maxRecDepth 100000
set_option maxHeartbeats 1000000
/-! Own errors, defs that hear: from what the head's end tells. -/
namespace PL
open PySem PySem.Spec PyProof.Rows L2
/-- an exception's class of the module's own: its object -/
def clsB (K : PySem.W.Frag) (C : Addr) : Bool := match K.lookup C with
  | some ⟨.type "type", _, .cls cd, sl⟩ => (match cd.mro, sl.toList with
    | .ref C' :: bm, [_, _, _, _, some (.builtin n), _] => C' == C && n == "ValueError.__new__" && !cd.hasDel && cd.hasDict && PySem.HandSPX.refsVE bm
    | _, _ => false)
  | _ => false
theorem clsB_ok {K : PySem.W.Frag} {C : Addr} (q : clsB K C = true) : ∃ nm q N bs bm sn sub ab col dd k0 k1 k2 k3 k5, K.lookup C = some (excClassObj nm q C N bs bm true sn sub ab col dd k0 k1 k2 k3 k5 "ValueError.__new__") ∧ PySem.HandSPX.refsVE bm = true := by
  unfold clsB at q
  split at q
  · rename_i dd cd sl ho
    split at q
    · rename_i C' bm k0 k1 k2 k3 n k5 hm hs
      simp only [Bool.and_eq_true, beq_iff_eq, Bool.not_eq_true'] at q
      obtain ⟨⟨⟨⟨rfl, rfl⟩, hdel⟩, hdct⟩, ht⟩ := q
      obtain ⟨nm, bs, mro, ns, qn, hd, sn, sub, ab, col, del⟩ := cd
      dsimp only at hm hdel hdct
      subst hm hdel hdct
      have hsl : sl = #[k0, k1, k2, k3, some (.builtin "ValueError.__new__"), k5] := by
        obtain ⟨l⟩ := sl
        simp only at hs
        rw [hs]
      subst hsl
      exact ⟨nm, qn, ns, bs, bm, sn, sub, ab, col, dd, k0, k1, k2, k3, k5, ho, ht⟩
    · cases q
  · cases q
def xcB (x fl : Str) (K : PySem.W.Frag) : Bool := clsB K (He.ga K x) && He.eqO (PySem.W.findIn K (.ref (He.ga K x)) "__setattr__") (some (some (.builtin "object.__setattr__"))) && He.eqO (PySem.W.findIn K (.ref (He.ga K x)) "__getattribute__") (some (some (.builtin "BaseException.__getattribute__")))
  && He.eqO (PySem.W.findIn K (.ref (He.ga K x)) "__getattr__") (some none) && He.eqO (PySem.W.findIn K (.ref (He.ga K x)) fl) (some none) && He.eqO (PySem.W.findIn K (.ref (He.ga K x)) "__init__") (some (some (.ref (He.ma K (He.ga K x) "__init__"))))
  && decide (PySem.W.typeIn K (.ref (He.ma K (He.ga K x) "__init__")) = some (.type "function")) && PySem.W.keepIn K (.ref (He.ga K x)) && decide (PySem.W.subIn K (.ref (He.ga K x)) (.type "BaseException") = some true)
  && decide (PySem.W.typeIn K (.ref (He.ga K x)) = some (.type "type")) && PySem.W.hasDictIn K (He.ga K x) && decide (PySem.W.exmOne K (.ref (He.ga K x)) (.ref (He.ga K x)) = some true)
section
variable [Tbl]
variable {K : PySem.W.Frag} {mg : Str → Option Value} {x : Str} {fd : FuncData} {qn : Str}
theorem xc_given {p1 p2 q1 q2 q3 q4 : Pos} (hm : mg x = some (.ref (He.ga K x))) (h : xcB x "given" K = true) (F : FunD K "__init__" qn (PySem.XgX.iA p1 p2) (PySem.XgX.iB q1 q2 q3 q4) PySem.XgX.iS [] [] (He.ma K (He.ga K x) "__init__") fd) : XcOk K mg x (He.ga K x) "given" := by
  unfold xcB at h
  simp only [Bool.and_eq_true, decide_eq_true_eq] at h
  obtain ⟨⟨⟨⟨⟨⟨⟨⟨⟨⟨⟨h1, h2⟩, h3⟩, h4⟩, h5⟩, h6⟩, h7⟩, h8⟩, h9⟩, h10⟩, h11⟩, h12⟩ := h
  obtain ⟨oc, od, dV, kV, doc, pm, an, cdv, ct, osl, rfl, lk, hcd, hD, hK⟩ := F.ex
  refine ⟨qn, He.ma K (He.ga K x) "__init__", .inl ⟨rfl, ⟨hm, clsB_ok h1, He.eqO_ok h2, He.eqO_ok h3, He.eqO_ok h4, He.eqO_ok h5, He.eqO_ok h6, h7, h8, h9, h10, h11, h12, ?_⟩⟩⟩
  rcases hD with ⟨_, rfl⟩ | ⟨e, _⟩
  · exact ⟨oc, od, kV, doc, pm, an, cdv, ct, osl, p1, p2, q1, q2, q3, q4, lk, hcd⟩
  · exact absurd rfl e
theorem xc_index {p1 p2 q1 q2 q3 q4 : Pos} (hm : mg x = some (.ref (He.ga K x))) (h : xcB x "index" K = true) (F : FunD K "__init__" qn (PySem.XiX.iA p1 p2) (PySem.XiX.iB q1 q2 q3 q4) PySem.XiX.iS [] [] (He.ma K (He.ga K x) "__init__") fd) : XcOk K mg x (He.ga K x) "index" := by
  unfold xcB at h
  simp only [Bool.and_eq_true, decide_eq_true_eq] at h
  obtain ⟨⟨⟨⟨⟨⟨⟨⟨⟨⟨⟨h1, h2⟩, h3⟩, h4⟩, h5⟩, h6⟩, h7⟩, h8⟩, h9⟩, h10⟩, h11⟩, h12⟩ := h
  obtain ⟨oc, od, dV, kV, doc, pm, an, cdv, ct, osl, rfl, lk, hcd, hD, hK⟩ := F.ex
  refine ⟨qn, He.ma K (He.ga K x) "__init__", .inr ⟨rfl, ⟨hm, clsB_ok h1, He.eqO_ok h2, He.eqO_ok h3, He.eqO_ok h4, He.eqO_ok h5, He.eqO_ok h6, h7, h8, h9, h10, h11, h12, ?_⟩⟩⟩
  rcases hD with ⟨_, rfl⟩ | ⟨e, _⟩
  · exact ⟨oc, od, kV, doc, pm, an, cdv, ct, osl, p1, p2, q1, q2, q3, q4, lk, hcd⟩
  · exact absurd rfl e
end
end PL
namespace PL
open PySem PySem.Spec PyProof.Rows L2
/-- the clauses of a def that hears -/
def hdB (xcs : List (Str × Nat)) (xn : Nat → Str) (sg : Scope) (en : Str) : List (Nat × List Nat) → List ExceptHandler → Bool
  | [], hs => hs.isEmpty
  | (k, z) :: ws, hs => match hs with
    | .ExceptHandler (some (.Name x _)) (some en') [.Return (some (.List [.Constant (.str s) _ _, .Attribute (.Name en2 _) fl _] _)) _] _ :: r =>
      decide (en' = en) && decide (en2 = en) && decide (fl = xn k) && decide (s.cps.toList = z) && glB sg x && okN x && decide (xcs.lookup x = some k) && hdB xcs xn sg en ws r
    | _ => false
/-- the body -/
def hrB (xcs : List (Str × Nat)) (xn : Nat → Str) (sg : Scope) (a en : Str) (w : List Nat) (ws : List (Nat × List Nat)) : List Stmt → Bool
  | [.Try [.Return (some (.List [.Constant (.str s) _ _, .Call (.Name a' _) [] [] _] _)) _] (h0 :: hds) [] [] _] => decide (a' = a) && decide (s.cps.toList = w) && lclB sg en && okN a && okN en && decide (a ≠ en) && hdB xcs xn sg en ws (h0 :: hds)
  | _ => false
/-- an exception of one class is none of another -/
def exB (K : PySem.W.Frag) (ca : Nat → Addr) : List (Nat × List Nat) → Bool
  | [] => true
  | p :: r => decide (PySem.W.exmOne K (.ref (ca p.1)) (.ref (ca p.1)) = some true) && r.all (fun o => decide (PySem.W.exmOne K (.ref (ca o.1)) (.ref (ca p.1)) = some false)) && exB K ca r
section
variable [Tbl]
variable {K : PySem.W.Frag} {mg : Str → Option Value} {ca : Nat → Addr} {xn : Nat → Str} {xcs : List (Str × Nat)} {sg : Scope} {a en x : Str} {w : List Nat} {ws : List (Nat × List Nat)}
theorem gl_sg {sg : Scope} {x : Str} (h : glB sg x = true) : sg.names.lookup x = some .globalImplicit := by
  unfold glB at h
  split at h
  · assumption
  · cases h
theorem hd_by (hX : ∀ x k, xcs.lookup x = some k → XcOk K mg x (ca k) (xn k) ∧ mg x = some (.ref (ca k))) : ∀ {ws : List (Nat × List Nat)} {hs : List ExceptHandler}, exB K ca ws = true → hdB xcs xn sg en ws hs = true → HdsH mg K ca xn sg en hs ws
  | [], hs, _, h => by
    unfold hdB at h
    rw [List.isEmpty_iff.mp h]
    exact .nil
  | (k, z) :: ws, hs, he, h => by
    unfold hdB at h
    split at h
    · rename_i x np en' s j p1 en2 p2 fl p3 p4 p5 pos' r
      simp only [Bool.and_eq_true, decide_eq_true_eq] at h
      obtain ⟨⟨⟨⟨⟨⟨⟨h1, h2⟩, h3⟩, h4⟩, h5⟩, h6⟩, h7⟩, h8⟩ := h
      unfold exB at he
      simp only [Bool.and_eq_true, decide_eq_true_eq, List.all_eq_true] at he
      obtain ⟨⟨e1, e2⟩, e3⟩ := he
      rw [h1, h2, h3, cps_of h4]
      exact .cons (gl_sg h5) h6 (hX x k h7).1 (hX x k h7).2 e1 (fun k' z' hm => e2 _ hm) (hd_by hX e3 h8)
    · cases h
theorem hr_by {params : Arguments} {body : List Stmt} {fd : FuncData} {g : Addr} (F : FunD K x x params body sg [] [] g fd) (hm : mg x = some (.ref g)) (S : FnScope [a, en] [a] sg) (hb : L2.Binds K fd [a] []) (hX : ∀ x k, xcs.lookup x = some k → XcOk K mg x (ca k) (xn k) ∧ mg x = some (.ref (ca k)))
    (hv : visB sg a = true) (he : exB K ca ws = true) (h : hrB xcs xn sg a en w ws body = true) : HrOk K mg ca xn x false w ws := by
  have kp := F.kp
  obtain ⟨oc, od, dV, kV, doc, pm, an, cdv, ct, osl, rfl, lk, hcd, hD, hK⟩ := F.ex
  unfold hrB at h
  split at h
  · rename_i s j p1 a' p2 p3 p4 p5 h0 hds p6
    simp only [Bool.and_eq_true, decide_eq_true_eq] at h
    obtain ⟨⟨⟨⟨⟨⟨h1, h2⟩, h3⟩, h4⟩, h5⟩, h6⟩, h7⟩ := h
    subst h1
    have e2 := cps_of h2
    subst e2
    refine ⟨g, a', params, _, sg, dV, kV, doc, pm, cdv, ct, oc, an, od, osl, [a', en], hm, kp, lk, hcd, hb, S, rfl, vis_of hv, h4, fun X q eK em => ?_⟩
    exact heard_gives eK em (by simpa using h6) (lcl_of h3) h5 (hd_by hX he h7)
  · cases h
end
end PL
namespace PL
open PySem PySem.Spec PyProof.Rows L2
/-- a method of a class of the module's -/
def mth (s : Stmt) (j : Nat) : Stmt := match s with
  | .ClassDef _ _ _ b _ _ _ _ _ _ _ => b.getD j (.Pass ⟨0, 0, 0, 0⟩)
  | s => s
/-- the text of an own error's __init__ -/
def inB (fl : Str) (a : Arguments) (b : List Stmt) (s : Scope) : Bool := a.posonlyargs.isEmpty && a.vararg.isNone && a.kwonlyargs.isEmpty && a.kw_defaults.isEmpty && a.kwarg.isNone && a.defaults.isEmpty && (match a.args with
  | [⟨n1, none, _⟩, ⟨n2, none, _⟩] => decide (n1 = "self") && decide (n2 = fl)
  | _ => false) && (match b with
  | [.Assign [.Attribute (.Name x _) f _] (.Name y _) _] => decide (x = "self") && decide (f = fl) && decide (y = fl)
  | _ => false) && decide (s = { kind := .function, names := [(PySem.Str.ofString "self", .local), (fl, .local)], isGenerator := false, isCoroutine := false, more := [] })
theorem in_given {a : Arguments} {b : List Stmt} {s : Scope} (h : inB "given" a b s = true) : ∃ p1 p2 q1 q2 q3 q4, a = PySem.XgX.iA p1 p2 ∧ b = PySem.XgX.iB q1 q2 q3 q4 ∧ s = PySem.XgX.iS := by
  obtain ⟨a1, a2, a3, a4, a5, a6, a7⟩ := a
  simp only [inB, Bool.and_eq_true, List.isEmpty_iff, Option.isNone_iff_eq_none, decide_eq_true_eq] at h
  obtain ⟨⟨⟨⟨⟨⟨⟨⟨h1, h2⟩, h3⟩, h4⟩, h5⟩, h6⟩, h7⟩, h8⟩, h9⟩ := h
  subst h1 h2 h3 h4 h5 h6 h9
  split at h7
  · rename_i n1 p1 n2 p2
    simp only [Bool.and_eq_true, decide_eq_true_eq] at h7
    obtain ⟨rfl, rfl⟩ := h7
    split at h8
    · rename_i x q1 f q2 y q3 q4
      simp only [Bool.and_eq_true, decide_eq_true_eq] at h8
      obtain ⟨⟨rfl, rfl⟩, rfl⟩ := h8
      exact ⟨p1, p2, _, _, _, _, rfl, rfl, rfl⟩
    · cases h8
  · cases h7
theorem in_index {a : Arguments} {b : List Stmt} {s : Scope} (h : inB "index" a b s = true) : ∃ p1 p2 q1 q2 q3 q4, a = PySem.XiX.iA p1 p2 ∧ b = PySem.XiX.iB q1 q2 q3 q4 ∧ s = PySem.XiX.iS := by
  obtain ⟨a1, a2, a3, a4, a5, a6, a7⟩ := a
  simp only [inB, Bool.and_eq_true, List.isEmpty_iff, Option.isNone_iff_eq_none, decide_eq_true_eq] at h
  obtain ⟨⟨⟨⟨⟨⟨⟨⟨h1, h2⟩, h3⟩, h4⟩, h5⟩, h6⟩, h7⟩, h8⟩, h9⟩ := h
  subst h1 h2 h3 h4 h5 h6 h9
  split at h7
  · rename_i n1 p1 n2 p2
    simp only [Bool.and_eq_true, decide_eq_true_eq] at h7
    obtain ⟨rfl, rfl⟩ := h7
    split at h8
    · rename_i x q1 f q2 y q3 q4
      simp only [Bool.and_eq_true, decide_eq_true_eq] at h8
      obtain ⟨⟨rfl, rfl⟩, rfl⟩ := h8
      exact ⟨p1, p2, _, _, _, _, rfl, rfl, rfl⟩
    · cases h8
  · cases h7
section
variable [Tbl]
variable {K : PySem.W.Frag} {mg : Str → Option Value} {base : Heap} {x qn : Str} {a : Arguments} {b : List Stmt} {s : Scope} {fd : FuncData}
theorem xcOk_given (hm : mg x = some (.ref (He.ga K x))) (h : xcB x "given" K = true) (hi : inB "given" a b s = true) (F : FunD K "__init__" qn a b s [] [] (He.fAd K (x, some "__init__")) fd) : XcOk K mg x (He.ga K x) "given" := by
  obtain ⟨p1, p2, q1, q2, q3, q4, rfl, rfl, rfl⟩ := in_given hi
  exact xc_given hm h F
theorem xcOk_index (hm : mg x = some (.ref (He.ga K x))) (h : xcB x "index" K = true) (hi : inB "index" a b s = true) (F : FunD K "__init__" qn a b s [] [] (He.fAd K (x, some "__init__")) fd) : XcOk K mg x (He.ga K x) "index" := by
  obtain ⟨p1, p2, q1, q2, q3, q4, rfl, rfl, rfl⟩ := in_index hi
  exact xc_index hm h F
/-- the tables differ where the defs do -/
def tbU (tf : List He.Defn) (K : PySem.W.Frag) : Bool := tf.all fun p => tf.all fun r => !decide ((He.cT K r).2 = (He.cT K p).2) || decide (r.1 = p.1)
def tbT (tf : List He.Defn) (K : PySem.W.Frag) : List (Addr × Str) := tf.map fun p => ((He.cT K p).2, p.1 ++ ".<locals>." ++ "<lambda>")
theorem lam_ok {tf : List He.Defn} (hT : Tbl.T = tbT tf K) (tb : ∀ p ∈ tf, LamX.TabB base mg (He.cT K p).1 (He.cT K p).2) (u : tbU tf K = true) (F : FunD K x x a b s [] [] (He.fAd K (x, none)) fd) (hm : (x, none) ∈ tf) :
    ∃ (cc P : Addr), fd.code = .ref cc ∧ LamX.TabB base mg cc P ∧ (P, (envOfC x s 0 0 Value.none).qual ++ "<lambda>") ∈ Tbl.T ∧ ∀ p ∈ Tbl.T, p.1 = P → p.2 = (envOfC x s 0 0 Value.none).qual ++ "<lambda>" := by
  obtain ⟨oc, od, dV, kV, doc, pm, an, cdv, ct, osl, rfl, lk, hcd, hD, hK⟩ := F.ex
  obtain ⟨cc, e⟩ := He.codeIn_ref hcd
  subst e
  have h1 : (He.cT K (x, none)).1 = cc := He.codeOf_eq lk rfl
  have t1 := tb _ hm
  rw [h1] at t1
  refine ⟨cc, (He.cT K (x, none)).2, rfl, t1, ?_, fun p hp e => ?_⟩
  · rw [hT]
    exact List.mem_map.mpr ⟨_, hm, rfl⟩
  · rw [hT] at hp
    obtain ⟨r, hr, rfl⟩ := List.mem_map.mp hp
    have z := List.all_eq_true.mp (List.all_eq_true.mp u _ hm) r hr
    rw [Bool.or_eq_true, Bool.not_eq_true', decide_eq_false_iff_not, decide_eq_true_eq] at z
    rcases z with z | z
    · exact absurd e z
    · show r.1 ++ ".<locals>." ++ "<lambda>" = _
      rw [z]
      rfl
end
end PL

set_option Elab.async false
set_option linter.all false
set_option maxRecDepth 100000
set_option maxHeartbeats 1000000
/-! How the interpreter is reasoned about. -/
namespace PL
theorem back_self (d : D) (st : Sto) : back st.length d st = .ok d st := if_pos rfl
theorem back_len {d : D} {st st' : Sto} (h : st'.length = st.length) : back st.length d st' = .ok d st' := if_pos h
section
variable {T : Nat → Option Fd} {G : Nat → D} {W : Nat} {C : Nat → List D → Sto → R D}
/-- a call that leaves the store as it is -/
def Cl (T : Nat → Option Fd) (G : Nat → D) (W k f : Nat) (as : List D) (d : D) : Prop := ∀ n, k ≤ n → ∀ st, call T G W n f as st = .ok d st
theorem call_eq {n f : Nat} {as : List D} {st : Sto} {F : Fd} (hT : T f = some F) (hl : as.length = F.ps) : call T G W (n + 1) f as st = fin st.length (exs (call T G W n) G W F.body (as.map some ++ List.replicate (F.nl - F.ps) none) st) := by
  show (match T f with
    | none => R.bad
    | some F => if as.length = F.ps then fin st.length (exs (call T G W n) G W F.body (as.map some ++ List.replicate (F.nl - F.ps) none) st) else .bad) = _
  rw [hT]
  exact if_pos hl
theorem call_rt {n f : Nat} {as : List D} {st st' : Sto} {F : Fd} {d : D} (hT : T f = some F) (hl : as.length = F.ps) (hs : st'.length = st.length) (h : exs (call T G W n) G W F.body (as.map some ++ List.replicate (F.nl - F.ps) none) st = .ok (.rt d) st') : call T G W (n + 1) f as st = .ok d st' := by
  rw [call_eq hT hl, h]
  exact back_len hs
theorem call_nx {n f : Nat} {as : List D} {st st' : Sto} {F : Fd} {e : Env} (hT : T f = some F) (hl : as.length = F.ps) (hs : st'.length = st.length) (h : exs (call T G W n) G W F.body (as.map some ++ List.replicate (F.nl - F.ps) none) st = .ok (.nx e) st') : call T G W (n + 1) f as st = .ok .non st' := by
  rw [call_eq hT hl, h]
  exact back_len hs
theorem Cl.rt {k f : Nat} {as : List D} {F : Fd} {d : D} (hT : T f = some F) (hl : as.length = F.ps) (h : ∀ n, k ≤ n → ∀ st, exs (call T G W n) G W F.body (as.map some ++ List.replicate (F.nl - F.ps) none) st = .ok (.rt d) st) : Cl T G W (k + 1) f as d := fun n hn st => by
  obtain ⟨m, rfl⟩ : ∃ m, n = m + 1 := ⟨n - 1, by omega⟩
  exact call_rt hT hl rfl (h m (by omega) st)
theorem Cl.nx {k f : Nat} {as : List D} {F : Fd} (hT : T f = some F) (hl : as.length = F.ps) (h : ∀ n, k ≤ n → ∀ st, ∃ e, exs (call T G W n) G W F.body (as.map some ++ List.replicate (F.nl - F.ps) none) st = .ok (.nx e) st) : Cl T G W (k + 1) f as .non := fun n hn st => by
  obtain ⟨m, rfl⟩ : ∃ m, n = m + 1 := ⟨n - 1, by omega⟩
  obtain ⟨e, h⟩ := h m (by omega) st
  exact call_nx hT hl rfl h
theorem Cl.le {j k f : Nat} {as : List D} {d : D} (h : Cl T G W j f as d) (l : j ≤ k) : Cl T G W k f as d := fun n hn => h n (Nat.le_trans l hn)
/-! ### loops -/
theorem compL_eq {f : D → Sto → R (Option D)} {st : Sto} (g : D → Option D) : ∀ {ds : List D}, (∀ d ∈ ds, f d st = .ok (g d) st) → compL f ds st = .ok (ds.filterMap g) st
  | [], _ => rfl
  | d :: ds, h => by
    have e := compL_eq g (ds := ds) fun x hx => h x (List.mem_cons_of_mem _ hx)
    simp only [compL, h d (List.mem_cons_self ..), R.bind]
    cases hg : g d with
    | none => simp only [e, List.filterMap_cons, hg]
    | some y => simp only [e, List.filterMap_cons, hg]
def compB (C : Nat → List D → Sto → R D) (G : Nat → D) (own : List Nat) (elt : E) (tg : Tg) (c : Oe) (env : Env) (x : D) (s2 : Sto) : R (Option D) := (evt C G tg x (wipe env own) s2).bind fun env2 s3 => (evc C G c env2 s3).bind fun b s4 => if b then (ev C G elt env2 s4).bind fun y s5 => .ok (some y) s5 else .ok none s4
theorem ev_lc {own : List Nat} {elt : E} {tg : Tg} {it : It} {c : Oe} {env : Env} {st : Sto} {ds : List D} (g : D → Option D) (hit : evi C G it env st = .ok (ds, []) st) (hz : szOk ds.length = true) (h : ∀ d ∈ ds, compB C G own elt tg c env d st = .ok (g d) st) :
    ev C G (.comp own elt tg it c) env st = .ok (.frz (ds.filterMap g)) st := by
  simp only [ev, hit, R.bind]
  rw [if_pos hz]
  have e := compL_eq g h
  show (((compL (compB C G own elt tg c env) ds st).noX.unl []).bind fun ds s6 => R.ok (D.frz ds) s6) = _
  rw [e]
  rfl
theorem forL_nx {f : D → Env → Sto → R Fl} (P : Nat → Env → Sto → Prop) : ∀ {ds : List D} {k : Nat} {env : Env} {st : Sto}, P k env st → (∀ i d, ds[i]? = some d → ∀ env st, P (k + i) env st → ∃ env' st', (f d env st = .ok (.nx env') st' ∨ f d env st = .ok (.ct env') st') ∧ P (k + i + 1) env' st') →
    ∃ env' st', forL f ds env st = .ok (.nx env') st' ∧ P (k + ds.length) env' st'
  | [], k, env, st, h0, _ => ⟨env, st, rfl, h0⟩
  | d :: ds, k, env, st, h0, hs => by
    obtain ⟨e1, s1, h1, p1⟩ := hs 0 d rfl env st h0
    obtain ⟨e2, s2, h2, p2⟩ := forL_nx P (k := k + 1) (ds := ds) p1 (fun i x hx env st p => by
      have q := hs (i + 1) x (by simpa using hx) env st (by rw [show k + (i + 1) = k + 1 + i by omega]; exact p)
      rw [show k + (i + 1) + 1 = k + 1 + i + 1 by omega] at q
      exact q)
    refine ⟨e2, s2, ?_, by rw [show k + (d :: ds).length = k + 1 + ds.length by simp; omega]; exact p2⟩
    rcases h1 with h1 | h1 <;> simp only [forL, h1, R.bind, h2]
/-- a for over what needs no lock -/
theorem ex_for {t : Tg} {it : It} {b : Ss} {env : Env} {st : Sto} {ds : List D} (P : Nat → Env → Sto → Prop) (hit : evi C G it env st = .ok (ds, []) st) (h0 : P 0 env st)
    (hs : ∀ i d, ds[i]? = some d → ∀ env st, P i env st → ∃ env' st', (((evt C G t d env st).bind fun env2 s3 => exs C G W b env2 s3) = .ok (.nx env') st' ∨ ((evt C G t d env st).bind fun env2 s3 => exs C G W b env2 s3) = .ok (.ct env') st') ∧ P (i + 1) env' st') :
    ∃ env' st', ex C G W (.fr t it b) env st = .ok (.nx env') st' ∧ P ds.length env' st' := by
  obtain ⟨e, s, h, p⟩ := forL_nx (f := fun x env s2 => (evt C G t x env s2).bind fun env2 s3 => exs C G W b env2 s3) P (k := 0) (ds := ds) h0 (fun i d hd env st p => by
    simp only [Nat.zero_add] at p ⊢
    exact hs i d hd env st p)
  refine ⟨e, s, ?_, by simpa using p⟩
  simp only [ex, hit, R.bind]
  show ((forL (fun x env s2 => (evt C G t x env s2).bind fun env2 s3 => exs C G W b env2 s3) ds env st).unl []) = _
  rw [h]
  rfl
theorem exs_cons {s : S} {ss : Ss} {env env' : Env} {st st' : Sto} (h : ex C G W s env st = .ok (.nx env') st') : exs C G W (.cons s ss) env st = exs C G W ss env' st' := by
  simp only [exs, h, R.bind]
theorem exs_rt {s : S} {ss : Ss} {env : Env} {st st' : Sto} {d : D} (h : ex C G W s env st = .ok (.rt d) st') : exs C G W (.cons s ss) env st = .ok (.rt d) st' := by
  simp only [exs, h, R.bind]
end
/-! ### the steps, for simp -/
section
variable {C : Nat → List D → Sto → R D} {G : Nat → D} {W : Nat} {env : Env} {st : Sto}
@[simp] theorem bind_ok {α β : Type} {a : α} {s : Sto} {f : α → Sto → R β} : (R.ok a s).bind f = f a s := Eq.trans rfl rfl
@[simp] theorem bind_exn {α β : Type} {c : Nat} {d : D} {s : Sto} {f : α → Sto → R β} : (R.exn c d s : R α).bind f = .exn c d s := Eq.trans rfl rfl
@[simp] theorem bind_bad {α β : Type} {f : α → Sto → R β} : (R.bad : R α).bind f = .bad := Eq.trans rfl rfl
@[simp] theorem tru_bl {b : Bool} : tru (.bl b) st = .ok b st := Eq.trans rfl rfl
@[simp] theorem toI_int {i : Int} : toI (.int i) st = .ok i st := Eq.trans rfl rfl
@[simp] theorem oD_some {α : Type} {a : α} : oD (some a) st = .ok a st := Eq.trans rfl rfl
@[simp] theorem x_non : ev C G .non env st = .ok .non st := by simp only [ev]
@[simp] theorem x_bl {b : Bool} : ev C G (.bl b) env st = .ok (.bl b) st := by simp only [ev]
@[simp] theorem x_int {i : Int} : ev C G (.int i) env st = .ok (.int i) st := by simp only [ev]
@[simp] theorem x_str {z : List Nat} : ev C G (.str z) env st = .ok (.str z) st := by simp only [ev]
@[simp] theorem x_var {i : Nat} : ev C G (.var i) env st = (match env[i]? with | some (some d) => .ok d st | _ => .bad) := by
  simp only [ev]
  try rfl
@[simp] theorem x_glb {k : Nat} : ev C G (.glb k) env st = .ok (G k) st := by simp only [ev]
@[simp] theorem x_fnv {k : Nat} : ev C G (.fnv k) env st = .ok (.fn k) st := by simp only [ev]
@[simp] theorem x_bin {o : Op} {a b : E} : ev C G (.bin o a b) env st = (ev C G a env st).bind fun x s1 => (ev C G b env s1).bind fun y s2 => oD (bop s2 o x y) s2 := by simp only [ev]
@[simp] theorem x_neg {a : E} : ev C G (.neg a) env st = (ev C G a env st).bind fun x s1 => (toI x s1).bind fun i s2 => .ok (.int (-i)) s2 := by simp only [ev]
@[simp] theorem x_not {a : E} : ev C G (.not a) env st = (ev C G a env st).bind fun x s1 => (tru x s1).bind fun b s2 => .ok (.bl (!b)) s2 := by simp only [ev]
@[simp] theorem x_and {a b : E} : ev C G (.and a b) env st = (ev C G a env st).bind fun x s1 => (tru x s1).bind fun c s2 => if c then ev C G b env s2 else .ok (.bl false) s2 := by simp only [ev]
@[simp] theorem x_or {a b : E} : ev C G (.or a b) env st = (ev C G a env st).bind fun x s1 => (tru x s1).bind fun c s2 => if c then .ok (.bl true) s2 else ev C G b env s2 := by simp only [ev]
@[simp] theorem x_cmp {o : Cm} {a b : E} : ev C G (.cmp o a b) env st = (ev C G a env st).bind fun x s1 => (ev C G b env s1).bind fun y s2 => (oD (cop s2 o x y) s2).bind fun c s3 => .ok (.bl c) s3 := by simp only [ev]
@[simp] theorem x_chn {o p : Cm} {a b c : E} : ev C G (.chn o p a b c) env st = (ev C G a env st).bind fun x s1 => (ev C G b env s1).bind fun y s2 => (oD (cop s2 o x y) s2).bind fun q s3 => if q then (ev C G c env s3).bind fun z s4 => (oD (cop s4 p y z) s4).bind fun r s5 => .ok (.bl r) s5 else .ok (.bl false) s3 := by simp only [ev]
@[simp] theorem x_ife {c a b : E} : ev C G (.ife c a b) env st = (ev C G c env st).bind fun x s1 => (tru x s1).bind fun q s2 => if q then ev C G a env s2 else ev C G b env s2 := by simp only [ev]
@[simp] theorem x_call {f : Nat} {as : Es} : ev C G (.call f as) env st = (evs C G as env st).bind fun ds s1 => C f ds s1 := by simp only [ev]
@[simp] theorem x_callk {f : Nat} {as ks : Es} {pm : List Nat} : ev C G (.callk f as ks pm) env st = (evs C G as env st).bind fun ds s1 => (evs C G ks env s1).bind fun es s2 => C f (pm.map fun j => (ds ++ es).getD j .non) s2 := by simp only [ev]
@[simp] theorem x_callv {i : Nat} {as : Es} : ev C G (.callv i as) env st = (match env[i]? with | some (some (.fn f)) => (evs C G as env st).noX.bind fun ds s1 => C f ds s1 | _ => .bad) := by
  simp only [ev]
  try rfl
@[simp] theorem noX_okk {α : Type} {a : α} : (R.ok a st).noX = .ok a st := Eq.trans rfl rfl
@[simp] theorem x_blt {b : Bl} {as : Es} : ev C G (.blt b as) env st = (evs C G as env st).bind fun ds s1 => oD (bcall s1 b ds) s1 := by simp only [ev]
@[simp] theorem x_isi {a : E} {t : Ty} : ev C G (.isi a t) env st = (ev C G a env st).bind fun x s1 => oD ((isInst t x).map .bl) s1 := by simp only [ev]
@[simp] theorem x_mth {m : Mt} {o : E} {as : Es} : ev C G (.mth m o as) env st = (ev C G o env st).bind fun x s1 => if mOk m x then (evs C G as env s1).bind fun ds s2 => mcall s2 m x ds else .bad := by simp only [ev]
@[simp] theorem x_idx {a b : E} : ev C G (.idx a b) env st = (ev C G a env st).bind fun x s1 => (ev C G b env s1).bind fun y s2 => (toI y s2).bind fun i s3 => oD (ixD s3 x i) s3 := by simp only [ev]
@[simp] theorem x_slc {a : E} {lo hi : Oe} : ev C G (.slc a lo hi) env st = (ev C G a env st).bind fun x s1 => (evo C G lo env s1).bind fun l s2 => (evo C G hi env s2).bind fun h s3 => oD (slD s3 x l h) s3 := by simp only [ev]
@[simp] theorem x_tup {as : Es} : ev C G (.tup as) env st = (evs C G as env st).bind fun ds s1 => if szOk ds.length then .ok (.tup ds) s1 else .bad := by simp only [ev]
@[simp] theorem x_list {as : Es} : ev C G (.list as) env st = (evs C G as env st).bind fun ds s1 => if szOk ds.length then .ok (.frz ds) s1 else .bad := by simp only [ev]
@[simp] theorem x_thaw {a : E} : ev C G (.thaw a) env st = (ev C G a env st).bind fun x s1 => thawD x s1 := by simp only [ev]
@[simp] theorem x_frz {a : E} : ev C G (.frz a) env st = (ev C G a env st).bind fun x s1 => frzD x s1 := by simp only [ev]
@[simp] theorem thaw_frz {ds : List D} : thawD (.frz ds) st = .ok (.lst st.length) (st ++ [.lst ds]) := Eq.trans rfl rfl
@[simp] theorem x_rgv {tp : Bool} {lo : Oe} {b : E} : ev C G (.rgv tp lo b) env st = (evo C G lo env st).bind fun l s1 => (ev C G b env s1).bind fun y s2 => (toI y s2).bind fun j s3 => if rngOk (l.getD 0) && (rngOk j && szOk (j - l.getD 0).toNat) then .ok (if tp then .tup (rngD (l.getD 0) (j - l.getD 0).toNat) else .frz (rngD (l.getD 0) (j - l.getD 0).toNat)) s3 else .bad := by simp only [ev]
@[simp] theorem xs_nil : evs C G .nil env st = .ok [] st := by simp only [evs]
@[simp] theorem xs_cons {e : E} {es : Es} : evs C G (.cons e es) env st = (ev C G e env st).bind fun x s1 => (evs C G es env s1).bind fun xs s2 => .ok (x :: xs) s2 := by simp only [evs]
@[simp] theorem xo_none : evo C G .none env st = .ok none st := by simp only [evo]
@[simp] theorem xo_some {e : E} : evo C G (.some e) env st = (ev C G e env st).bind fun x s1 => (toI x s1).bind fun i s2 => .ok (some i) s2 := by simp only [evo]
@[simp] theorem xc_none : evc C G .none env st = .ok true st := by simp only [evc]
@[simp] theorem xc_some {e : E} : evc C G (.some e) env st = (ev C G e env st).bind fun x s1 => tru x s1 := by simp only [evc]
@[simp] theorem xi_val {e : E} : evi C G (.val e) env st = (ev C G e env st).bind fun x s1 => oD (walk s1 x) s1 := by simp only [evi]
@[simp] theorem xi_rng1 {a : E} : evi C G (.rng1 a) env st = (ev C G a env st).bind fun x s1 => (toI x s1).bind fun i s2 => if rngOk i then .ok (rngD 0 i.toNat, []) s2 else .bad := by simp only [evi]
@[simp] theorem xi_rng2 {a b : E} : evi C G (.rng2 a b) env st = (ev C G a env st).bind fun x s1 => (ev C G b env s1).bind fun y s2 => (toI x s2).bind fun i s3 => (toI y s3).bind fun j s4 => if rngOk i && rngOk j then .ok (rngD i (j - i).toNat, []) s4 else .bad := by simp only [evi]
@[simp] theorem xi_enum {e : E} : evi C G (.enum e) env st = (ev C G e env st).bind fun x s1 => (oD (walk s1 x) s1).bind fun p s2 => .ok (enumD p.1, p.2) s2 := by simp only [evi]
@[simp] theorem xi_zip {a b : E} : evi C G (.zip a b) env st = (ev C G a env st).bind fun x s1 => (ev C G b env s1).bind fun y s2 => (oD (walk s2 x) s2).bind fun p s3 => (oD (walk (lock s3 p.2) y) s3).bind fun q s4 => .ok (zipD p.1 q.1, p.2 ++ q.2) s4 := by simp only [evi]
@[simp] theorem lock_nil : lock st [] = st := Eq.trans rfl rfl
@[simp] theorem xt_var {i : Nat} {d : D} : evt C G (.var i) d env st = if i < env.length then .ok (env.set i (some d)) st else .bad := by simp only [evt]
@[simp] theorem xt_idx {a b : E} {d : D} : evt C G (.idx a b) d env st = (ev C G a env st).bind fun x s1 => (ev C G b env s1).bind fun y s2 => (toI y s2).bind fun k s3 => (match x with
      | .lst i => (match s3[i]? with
        | some (.lst ds) => if refsLt i d then (match ixN ds.length k with | some j => .ok env (s3.set i (.lst (ds.set j d))) | none => .bad) else .bad
        | _ => .bad)
      | _ => .bad) := by
  simp only [evt]
  try rfl
@[simp] theorem xt_tup {ts : Tgs} {ds : List D} : evt C G (.tup ts) (.tup ds) env st = if ds.length = tgLen ts then evts C G ts ds env st else .bad := by simp only [evt]
@[simp] theorem xts_nil : evts C G .nil [] env st = .ok env st := by simp only [evts]
@[simp] theorem xts_cons {t : Tg} {ts : Tgs} {d : D} {r : List D} : evts C G (.cons t ts) (d :: r) env st = (evt C G t d env st).bind fun env1 s1 => evts C G ts r env1 s1 := by simp only [evts]
@[simp] theorem tg_nil : tgLen .nil = 0 := Eq.trans rfl rfl
@[simp] theorem tg_cons {t : Tg} {ts : Tgs} : tgLen (.cons t ts) = tgLen ts + 1 := Eq.trans rfl rfl
@[simp] theorem e_asg {t : Tg} {e : E} : ex C G W (.asg t e) env st = (ev C G e env st).bind fun x s1 => (evt C G t x env s1).bind fun env1 s2 => .ok (.nx env1) s2 := by simp only [ex]
@[simp] theorem e_par {is : List Nat} {es : Es} : ex C G W (.par is es) env st = (evs C G es env st).bind fun ds s1 => if ds.length = is.length then .ok (.nx (asgs is ds env)) s1 else .bad := by simp only [ex]
@[simp] theorem e_ifs {c : E} {a b : Ss} : ex C G W (.ifs c a b) env st = (ev C G c env st).bind fun x s1 => (tru x s1).bind fun q s2 => if q then exs C G W a env s2 else exs C G W b env s2 := by simp only [ex]
@[simp] theorem e_ret {e : E} : ex C G W (.ret e) env st = (ev C G e env st).bind fun x s1 => .ok (.rt x) s1 := by simp only [ex]
@[simp] theorem e_retn : ex C G W .retn env st = .ok (.rt .non) st := by simp only [ex]
@[simp] theorem e_exp {e : E} : ex C G W (.exp e) env st = (ev C G e env st).bind fun _ s1 => .ok (.nx env) s1 := by simp only [ex]
@[simp] theorem e_pas : ex C G W .pas env st = .ok (.nx env) st := by simp only [ex]
@[simp] theorem es_nil : exs C G W .nil env st = .ok (.nx env) st := by simp only [exs]
@[simp] theorem es_cons {s : S} {ss : Ss} : exs C G W (.cons s ss) env st = (ex C G W s env st).bind fun fl s1 => match fl with
    | .nx env1 => exs C G W ss env1 s1
    | fl => .ok fl s1 := by
  simp only [exs]
  try rfl
@[simp] theorem asgs_nil {ds : List D} : asgs [] ds env = env := Eq.trans rfl rfl
@[simp] theorem asgs_cons {i : Nat} {is : List Nat} {d : D} {ds : List D} : asgs (i :: is) (d :: ds) env = asgs is ds (env.set i (some d)) := Eq.trans rfl rfl
@[simp] theorem o_int {o : Op} {i j : Int} : bop st o (.int i) (.int j) = (iop o i j).map .int := Eq.trans rfl rfl
@[simp] theorem i_add {i j : Int} : iop .add i j = some (i + j) := Eq.trans rfl rfl
@[simp] theorem i_sub {i j : Int} : iop .sub i j = some (i - j) := Eq.trans rfl rfl
@[simp] theorem i_mul {i j : Int} : iop .mul i j = if small i || small j then some (i * j) else none := Eq.trans rfl rfl
@[simp] theorem i_fdiv {i j : Int} : iop .fdiv i j = if decide (0 < j) && decide (j < 1073741824) then some (i / j) else none := Eq.trans rfl rfl
@[simp] theorem i_mod {i j : Int} : iop .mod i j = if 0 < j then some (i % j) else none := Eq.trans rfl rfl
@[simp] theorem o_str {a b : List Nat} : bop st .add (.str a) (.str b) = if szOk (a.length + b.length) then some (.str (a ++ b)) else none := Eq.trans rfl rfl
@[simp] theorem o_tup {a b : List D} : bop st .add (.tup a) (.tup b) = if szOk (a.length + b.length) then some (.tup (a ++ b)) else none := Eq.trans rfl rfl
@[simp] theorem o_frz {a b : List D} : bop st .add (.frz a) (.frz b) = if szOk (a.length + b.length) then some (.frz (a ++ b)) else none := Eq.trans rfl rfl
@[simp] theorem o_rep {a : List D} {k : Int} : bop st .mul (.frz a) (.int k) = rep a k := Eq.trans rfl rfl
@[simp] theorem c_lt {i j : Int} : cop st .lt (.int i) (.int j) = some (decide (i < j)) := Eq.trans rfl rfl
@[simp] theorem c_gt {i j : Int} : cop st .gt (.int i) (.int j) = some (decide (j < i)) := Eq.trans rfl rfl
@[simp] theorem c_le {i j : Int} : cop st .le (.int i) (.int j) = some (decide (i ≤ j)) := Eq.trans rfl rfl
@[simp] theorem c_ge {i j : Int} : cop st .ge (.int i) (.int j) = some (decide (j ≤ i)) := Eq.trans rfl rfl
@[simp] theorem c_eqI {i j : Int} : cop st .eq (.int i) (.int j) = some (i == j) := Eq.trans rfl rfl
@[simp] theorem c_neI {i j : Int} : cop st .ne (.int i) (.int j) = some (!(i == j)) := Eq.trans rfl rfl
@[simp] theorem c_eqB {i j : Bool} : cop st .eq (.bl i) (.bl j) = some (i == j) := Eq.trans rfl rfl
@[simp] theorem c_neB {i j : Bool} : cop st .ne (.bl i) (.bl j) = some (!(i == j)) := Eq.trans rfl rfl
@[simp] theorem c_isN {x : D} : cop st .is x .non = some (isNon x) := Eq.trans rfl rfl
@[simp] theorem c_isnN {x : D} : cop st .isn x .non = some (!(isNon x)) := Eq.trans rfl rfl
@[simp] theorem c_isB {a b : Bool} : cop st .is (.bl a) (.bl b) = some (a == b) := Eq.trans rfl rfl
@[simp] theorem c_isnB {a b : Bool} : cop st .isn (.bl a) (.bl b) = some (!(a == b)) := Eq.trans rfl rfl
@[simp] theorem isNon_int {i : Int} : isNon (.int i) = false := Eq.trans rfl rfl
@[simp] theorem isNon_non : isNon .non = true := Eq.trans rfl rfl
@[simp] theorem lv_frz {ds : List D} : lv st (.frz ds) = some ds := Eq.trans rfl rfl
@[simp] theorem lv_scr {ds : List D} : lv st (.scr ds) = some ds := Eq.trans rfl rfl
@[simp] theorem sv_frz {ds : List D} : sv st (.frz ds) = some ds := Eq.trans rfl rfl
@[simp] theorem sv_scr {ds : List D} : sv st (.scr ds) = some ds := Eq.trans rfl rfl
@[simp] theorem sv_tup {ds : List D} : sv st (.tup ds) = some ds := Eq.trans rfl rfl
@[simp] theorem sv_lst {i : Nat} : sv st (.lst i) = lv st (.lst i) := Eq.trans rfl rfl
theorem lv_lst {i : Nat} {ds : List D} (h : st[i]? = some (.lst ds)) : lv st (.lst i) = some ds := by
  show (match st[i]? with | some o => some o.its | none => none) = _
  rw [h]
  rfl
@[simp] theorem walk_tup {ds : List D} : walk st (.tup ds) = some (ds, []) := Eq.trans rfl rfl
@[simp] theorem walk_frz {ds : List D} : walk st (.frz ds) = some (ds, []) := Eq.trans rfl rfl
@[simp] theorem walk_scr {ds : List D} : walk st (.scr ds) = some (ds, []) := Eq.trans rfl rfl
@[simp] theorem walk_str {z : List Nat} : walk st (.str z) = some (z.map fun c => .str [c], []) := Eq.trans rfl rfl
@[simp] theorem ix_tup {ds : List D} {i : Int} : ixD st (.tup ds) i = atI ds i := Eq.trans rfl rfl
@[simp] theorem ix_frz {ds : List D} {i : Int} : ixD st (.frz ds) i = atI ds i := Eq.trans rfl rfl
@[simp] theorem ix_scr {ds : List D} {i : Int} : ixD st (.scr ds) i = atI ds i := Eq.trans rfl rfl
@[simp] theorem ix_str {z : List Nat} {i : Int} : ixD st (.str z) i = if szOk z.length then (atI z i).map fun c => .str [c] else none := Eq.trans rfl rfl
theorem ix_lst {i : Nat} {ds : List D} {k : Int} (h : st[i]? = some (.lst ds)) : ixD st (.lst i) k = atI ds k := by
  show (lv st (.lst i)).bind (fun ds => atI ds k) = _
  rw [lv_lst h]
  rfl
theorem at_nat {α : Type} {xs : List α} {k : Nat} (h : k < xs.length) : atI xs (k : Nat) = xs[k]? := by
  unfold atI ixN
  rw [if_pos (by omega), if_pos (by omega)]
  rfl
@[simp] theorem b_len {d : D} : bcall st .len [d] = (lenD st d).map .int := Eq.trans rfl rfl
@[simp] theorem len_tup {ds : List D} : lenD st (.tup ds) = some (ds.length : Int) := Eq.trans rfl rfl
@[simp] theorem len_frz {ds : List D} : lenD st (.frz ds) = some (ds.length : Int) := Eq.trans rfl rfl
@[simp] theorem len_scr {ds : List D} : lenD st (.scr ds) = some (ds.length : Int) := Eq.trans rfl rfl
@[simp] theorem len_str {z : List Nat} : lenD st (.str z) = if szOk z.length then some (z.length : Int) else none := Eq.trans rfl rfl
theorem len_lst {i : Nat} {ds : List D} (h : st[i]? = some (.lst ds)) : lenD st (.lst i) = some (ds.length : Int) := by
  show (lv st (.lst i)).map _ = _
  rw [lv_lst h]
  rfl
@[simp] theorem b_sum {d : D} : bcall st .sum [d] = ((sv st d).bind intsOf).map fun ns => .int ns.sum := Eq.trans rfl rfl
@[simp] theorem b_all {d : D} : bcall st .all [d] = ((lv st d).bind blsOf).map fun bs => .bl (bs.all id) := Eq.trans rfl rfl
@[simp] theorem b_any {d : D} : bcall st .any [d] = ((lv st d).bind blsOf).map fun bs => .bl (bs.any id) := Eq.trans rfl rfl
@[simp] theorem b_intI {i : Int} : bcall st .int [.int i] = some (.int i) := Eq.trans rfl rfl
@[simp] theorem b_abs {i : Int} : bcall st .abs [.int i] = some (.int (if i < 0 then -i else i)) := Eq.trans rfl rfl
@[simp] theorem b_min {i j : Int} : bcall st .min2 [.int i, .int j] = some (.int (if j < i then j else i)) := Eq.trans rfl rfl
@[simp] theorem b_max {i j : Int} : bcall st .max2 [.int i, .int j] = some (.int (if j > i then j else i)) := Eq.trans rfl rfl
@[simp] theorem b_divmod {i j : Int} : bcall st .divmod [.int i, .int j] = if decide (0 < j) && decide (j < 1073741824) then some (.tup [.int (i / j), .int (i % j)]) else none := Eq.trans rfl rfl
@[simp] theorem b_tuple {d : D} : bcall st .tuple [d] = (sv st d).map .tup := Eq.trans rfl rfl
@[simp] theorem b_list {d : D} : bcall st .list [d] = (sv st d).map .frz := Eq.trans rfl rfl
@[simp] theorem refs_int {i : Nat} {j : Int} : refsLt i (.int j) = true := Eq.trans rfl rfl
theorem ints_map (ns : List Int) : intsOf (ns.map .int) = some ns := by
  induction ns with
  | nil => rfl
  | cons a r ih => simp [intsOf, ih]
theorem bls_map (ns : List Bool) : blsOf (ns.map .bl) = some ns := by
  induction ns with
  | nil => rfl
  | cons a r ih => simp [blsOf, ih]
end
@[simp] theorem szOk_iff {n : Nat} : (szOk n = true) = (n ≤ 16777216) := propext ⟨fun h => Nat.le_of_ble_eq_true h, fun h => Nat.ble_eq_true_of_le h⟩
theorem szOk_of {n : Nat} (h : n ≤ 16777216) : szOk n = true := Nat.ble_eq_true_of_le h
theorem szLt_of {n : Nat} (h : n < 16777216) : szLt n = true := by simpa [szLt] using h
theorem cut_map {α β : Type} (f : α → β) (xs : List α) (lo hi : Option Int) : cut (xs.map f) lo hi = (cut xs lo hi).map f := by
  unfold cut
  simp [List.map_take, List.map_drop]
theorem cut_le {α : Type} (xs : List α) (lo hi : Option Int) : (cut xs lo hi).length ≤ xs.length := by
  unfold cut
  rw [List.length_take, List.length_drop]
  omega
section
variable {C : Nat → List D → Sto → R D} {G : Nat → D} {W : Nat} {env : Env} {st : Sto}
@[simp] theorem sl_scr {ds : List D} {lo hi : Option Int} : slD st (.scr ds) lo hi = some (.frz (cut ds lo hi)) := Eq.trans rfl rfl
@[simp] theorem sl_frz {ds : List D} {lo hi : Option Int} : slD st (.frz ds) lo hi = some (.frz (cut ds lo hi)) := Eq.trans rfl rfl
@[simp] theorem sl_tup {ds : List D} {lo hi : Option Int} : slD st (.tup ds) lo hi = some (.tup (cut ds lo hi)) := Eq.trans rfl rfl
@[simp] theorem sl_str {z : List Nat} {lo hi : Option Int} : slD st (.str z) lo hi = if szOk z.length then some (.str (cut z lo hi)) else none := Eq.trans rfl rfl
@[simp] theorem is_int {t : Ty} {i : Int} : isInst t (.int i) = some (match t with | .int => true | _ => false) := Eq.trans rfl rfl
@[simp] theorem is_bl {t : Ty} {i : Bool} : isInst t (.bl i) = some (match t with | .int => true | .bool => true | _ => false) := Eq.trans rfl rfl
@[simp] theorem is_str {t : Ty} {i : List Nat} : isInst t (.str i) = some (match t with | .str => true | _ => false) := Eq.trans rfl rfl
@[simp] theorem is_tup {t : Ty} {i : List D} : isInst t (.tup i) = some (match t with | .tuple => true | _ => false) := Eq.trans rfl rfl
@[simp] theorem is_frz {t : Ty} {i : List D} : isInst t (.frz i) = some (match t with | .list => true | _ => false) := Eq.trans rfl rfl
@[simp] theorem is_non {t : Ty} : isInst t .non = some false := Eq.trans rfl rfl
/-- a for whose names stay -/
theorem rng_len (lo : Int) (n : Nat) : (rngD lo n).length = n := by simp [rngD]
theorem rng_get {lo : Int} {n i : Nat} {d : D} (h : (rngD lo n)[i]? = some d) : i < n ∧ d = .int (lo + (i : Nat)) := by
  have hi : i < n := by
    have := (List.getElem?_eq_some_iff.mp h).1
    simpa [rngD] using this
  refine ⟨hi, ?_⟩
  unfold rngD at h
  rw [List.getElem?_map, List.getElem?_range hi] at h
  exact (Option.some.inj h).symm
theorem mem_rng {lo : Int} {n : Nat} {d : D} (h : d ∈ rngD lo n) : ∃ i, i < n ∧ d = .int (lo + (i : Nat)) := by
  obtain ⟨i, hi⟩ := List.mem_iff_getElem?.mp h
  exact ⟨i, rng_get hi⟩
end
section
variable {C : Nat → List D → Sto → R D} {G : Nat → D} {W : Nat} {env : Env} {st : Sto}
theorem fm_map {α β γ : Type} (φ : α → β) (h : β → Option γ) : ∀ xs : List α, (xs.map φ).filterMap h = xs.filterMap fun a => h (φ a)
  | [] => rfl
  | x :: xs => by simp [List.filterMap_cons, fm_map φ h xs]
theorem ev_lcm {α : Type} (φ : α → D) (xs : List α) (g : α → Option D) {own : List Nat} {elt : E} {tg : Tg} {it : It} {c : Oe} (hit : evi C G it env st = .ok (xs.map φ, []) st) (hz : xs.length ≤ 16777216) (h : ∀ a ∈ xs, compB C G own elt tg c env (φ a) st = .ok (g a) st) :
    ev C G (.comp own elt tg it c) env st = .ok (.frz (xs.filterMap g)) st := by
  simp only [ev, hit, bind_ok]
  rw [if_pos (show szOk (xs.map φ).length = true from szOk_of (by simpa using hz))]
  have e : ∀ ys : List α, (∀ a ∈ ys, compB C G own elt tg c env (φ a) st = .ok (g a) st) → compL (compB C G own elt tg c env) (ys.map φ) st = .ok (ys.filterMap g) st := by
    intro ys
    induction ys with
    | nil => intro _; rfl
    | cons y ys ih =>
      intro hy
      have e2 := ih fun a ha => hy a (List.mem_cons_of_mem _ ha)
      simp only [List.map_cons, compL, hy y (List.mem_cons_self ..), bind_ok]
      cases hg : g y with
      | none => simp only [e2, List.filterMap_cons, hg]
      | some z => simp only [e2, List.filterMap_cons, hg, bind_ok]
  show (((compL (compB C G own elt tg c env) (xs.map φ) st).noX.unl []).bind fun ds s6 => R.ok (D.frz ds) s6) = _
  rw [e xs h]
  rfl
theorem rng_map (lo : Int) (n : Nat) : rngD lo n = (List.range n).map fun k => .int (lo + (k : Nat)) := rfl
theorem enum_map {α : Type} (φ : α → D) (xs : List α) : enumD (xs.map φ) = xs.zipIdx.map fun p => .tup [.int (p.2 : Nat), φ p.1] := by
  unfold enumD
  rw [List.zipIdx_map, List.map_map]
  rfl
@[simp] theorem bls_m {α : Type} (p : α → Bool) (xs : List α) : blsOf (xs.map fun a => .bl (p a)) = some (xs.map p) := by
  induction xs with
  | nil => rfl
  | cons x xs ih => simp [blsOf, ih]
@[simp] theorem ints_m {α : Type} (p : α → Int) (xs : List α) : intsOf (xs.map fun a => .int (p a)) = some (xs.map p) := by
  induction xs with
  | nil => rfl
  | cons x xs ih => simp [intsOf, ih]
@[simp] theorem strs_m {α : Type} (p : α → List Nat) (xs : List α) : strsOf (xs.map fun a => .str (p a)) = some (xs.map p) := by
  induction xs with
  | nil => rfl
  | cons x xs ih => simp [strsOf, ih]
theorem fm_if {α β : Type} (q : α → Bool) (p : α → β) : ∀ xs : List α, (xs.filterMap fun a => if q a then some (p a) else none) = (xs.filter q).map p
  | [] => rfl
  | x :: xs => by
    by_cases h : q x = true
    · simp [fm_if q p xs, h, List.filterMap_cons]
    · simp [fm_if q p xs, h, List.filterMap_cons]
@[simp] theorem isNon_bl {b : Bool} : isNon (.bl b) = false := Eq.trans rfl rfl
@[simp] theorem isNon_str {b : List Nat} : isNon (.str b) = false := Eq.trans rfl rfl
theorem fm_some {α β : Type} (p : α → β) (xs : List α) : (xs.filterMap fun a => some (p a)) = xs.map p := by
  induction xs with
  | nil => rfl
  | cons x xs ih => simp [ih]
/-- a test that holds or not -/
theorem compB_t {own : List Nat} {elt : E} {tg : Tg} {x : D} {env2 : Env} {y : D} (h1 : evt C G tg x (wipe env own) st = .ok env2 st) (h2 : ev C G elt env2 st = .ok y st) : compB C G own elt tg .none env x st = .ok (some y) st := by
  simp [compB, h1, h2]
end
/-- the callee's own lists go -/
theorem call_tk {T : Nat → Option Fd} {G : Nat → D} {W : Nat} {n f : Nat} {as : List D} {st ext : Sto} {F : Fd} {d : D} (hT : T f = some F) (hl : as.length = F.ps) (hr : refsLt st.length d = true) (h : exs (call T G W n) G W F.body (as.map some ++ List.replicate (F.nl - F.ps) none) st = .ok (.rt d) (st ++ ext)) : call T G W (n + 1) f as st = .ok d st := by
  rw [call_eq hT hl, h]
  show back st.length d (st ++ ext) = _
  unfold back
  split
  · rename_i e
    have : ext = [] := by
      rw [List.length_append] at e
      exact List.eq_nil_of_length_eq_zero (by omega)
    rw [this, List.append_nil]
  · rw [List.take_left]
theorem Cl.tk {T : Nat → Option Fd} {G : Nat → D} {W k f : Nat} {as : List D} {F : Fd} {d : D} (hT : T f = some F) (hl : as.length = F.ps) (hr : ∀ n, refsLt n d = true) (h : ∀ n, k ≤ n → ∀ st, ∃ ext, exs (call T G W n) G W F.body (as.map some ++ List.replicate (F.nl - F.ps) none) st = .ok (.rt d) (st ++ ext)) : Cl T G W (k + 1) f as d := fun n hn st => by
  obtain ⟨m, rfl⟩ : ∃ m, n = m + 1 := ⟨n - 1, by omega⟩
  obtain ⟨ext, h⟩ := h m (by omega) st
  exact call_tk hT hl (hr _) h
theorem refs_ints (n : Nat) (ns : List Int) : refsLts n (ns.map .int) = true := by
  induction ns with
  | nil => rfl
  | cons a r ih => simp [refsLts, refsLt, ih]
theorem last_at {st : Sto} {o : Obj} : (st ++ [o])[st.length]? = some o := by simp
theorem last_set {st : Sto} {o o' : Obj} : (st ++ [o]).set st.length o' = st ++ [o'] := by simp
theorem rep_one {d : D} {k : Nat} (h : k ≤ 1000) : rep [d] (k : Nat) = some (.frz (List.replicate k d)) := by
  unfold rep
  have e : (List.replicate k [d]).flatten = List.replicate k d := by
    clear h
    induction k with
    | zero => rfl
    | succ k ih => rw [List.replicate_succ, List.flatten_cons, ih, List.replicate_succ]; rfl
  rw [if_pos]
  · rw [Int.toNat_natCast, e]
  · simp only [Bool.and_eq_true, decide_eq_true_eq, Int.toNat_natCast, szOk_iff, List.length_cons, List.length_nil]
    omega
/-! ### a bag of numbers to draw from -/
def pot3 (a b c : Int) : Obj := .lst [.int a, .int b, .int c]
end PL

set_option Elab.async false
set_option linter.all false
set_option maxRecDepth 100000
namespace Lw
open PL
/-- is_whole -/
def b0 : Ss := (.cons (.ret (.and (.isi (.var 0) .int) (.not (.isi (.var 0) .bool)))) .nil)
/-- is_between -/
def b1 : Ss := (.cons (.ret (.and (.call 0 (.cons (.var 0) .nil)) (.chn .le .le (.var 1) (.var 0) (.var 2)))) .nil)
/-- is_tuple_of -/
def b92 : Ss := (.cons (.ret (.and (.isi (.var 0) .tuple) (.cmp .eq (.blt .len (.cons (.var 0) .nil)) (.var 1)))) .nil)
/-- are_wholes -/
def b93 : Ss := (.cons (.ret (.and (.call 92 (.cons (.var 0) (.cons (.var 1) .nil))) (.blt .all (.cons (.comp [2] (.call 0 (.cons (.var 2) .nil)) (.var 2) (.val (.var 0)) .none) .nil)))) .nil)
/-- is_text_of -/
def b2 : Ss := (.cons (.ret (.and (.isi (.var 0) .str) (.blt .all (.cons (.comp [2] (.cmp .mem (.var 2) (.var 1)) (.var 2) (.val (.var 0)) .none) .nil)))) .nil)
/-- place_count -/
def b5 : Ss := (.cons (.ret (.bin .shl (.int 1) (.var 0))) .nil)
/-- is_picture_of -/
def b6 : Ss := (.cons (.ifs (.or (.not (.isi (.var 1) .tuple)) (.cmp .ne (.blt .len (.cons (.var 1) .nil)) (.call 5 (.cons (.var 0) .nil)))) (.cons (.ret (.bl false)) .nil) .nil) (.cons (.ret (.blt .all (.cons (.comp [2] (.call 1 (.cons (.var 2) (.cons (.int 0) (.cons (.glb 2) .nil)))) (.var 2) (.val (.var 1)) .none) .nil))) .nil))
/-- is_pictured -/
def b7 : Ss := (.cons (.ret (.blt .any (.cons (.comp [1] (.call 6 (.cons (.var 1) (.cons (.var 0) .nil))) (.var 1) (.rng2 (.int 1) (.bin .add (.glb 1) (.int 1))) .none) .nil))) .nil)
/-- is_letter_of -/
def b69 : Ss := (.cons (.ret (.and (.call 2 (.cons (.var 1) (.cons (.slc (.glb 0) .none (.some (.var 0))) .nil))) (.cmp .eq (.blt .len (.cons (.var 1) .nil)) (.int 1)))) .nil)
/-- is_choice_of -/
def b8 : Ss := (.cons (.ret (.and (.call 2 (.cons (.var 1) (.cons (.slc (.glb 0) .none (.some (.var 0))) .nil))) (.blt .all (.cons (.comp [2, 3] (.cmp .lt (.var 2) (.var 3)) (.tup (.cons (.var 2) (.cons (.var 3) .nil))) (.zip (.var 1) (.slc (.var 1) (.some (.int 1)) .none)) .none) .nil)))) .nil)
/-- lot_count_of -/
def b9 : Ss := (.cons (.ret (.bin .sub (.mth .bitlen (.blt .len (.cons (.var 0) .nil)) .nil) (.int 1))) .nil)
/-- lot_of -/
def b10 : Ss := (.cons (.ret (.mth .index (.glb 0) (.cons (.var 0) .nil))) .nil)
/-- index_of -/
def b11 : Ss := (.cons (.ret (.blt .sum (.cons (.comp [1] (.bin .shl (.int 1) (.call 10 (.cons (.var 1) .nil))) (.var 1) (.val (.var 0)) .none) .nil))) .nil)
/-- old_places -/
def b70 : Ss := (.cons (.ret (.blt .sum (.cons (.comp [2, 3] (.bin .shl (.int 1) (.var 3)) (.tup (.cons (.var 2) (.cons (.var 3) .nil))) (.enum (.var 0)) (.some (.cmp .eq (.bin .band (.bin .shr (.var 1) (.var 2)) (.int 1)) (.int 1)))) .nil))) .nil)
/-- is_order_of -/
def b105 : Ss := (.cons (.ret (.and (.call 93 (.cons (.var 1) (.cons (.var 0) .nil))) (.cmp .eq (.blt .sorted (.cons (.var 1) .nil)) (.rgv false .none (.var 0))))) .nil)
/-- named_anew_by -/
def b77 : Ss := (.cons (.ret (.blt .tuple (.cons (.comp [2] (.idx (.var 0) (.call 70 (.cons (.var 1) (.cons (.var 2) .nil)))) (.var 2) (.rng1 (.blt .len (.cons (.var 0) .nil))) .none) .nil))) .nil)
/-- inside_out_by -/
def b106 : Ss := (.cons (.ret (.blt .tuple (.cons (.comp [2] (.idx (.var 0) (.bin .bxor (.var 2) (.var 1))) (.var 2) (.rng1 (.blt .len (.cons (.var 0) .nil))) .none) .nil))) .nil)
/-- are_unlike_lots -/
def b107 : Ss := (.cons (.ifs (.or (.not (.isi (.var 0) .tuple)) (.not (.blt .all (.cons (.comp [1] (.call 1 (.cons (.var 1) (.cons (.int 0) (.cons (.bin .sub (.glb 1) (.int 1)) .nil)))) (.var 1) (.val (.var 0)) .none) .nil)))) (.cons (.ret (.bl false)) .nil) .nil) (.cons (.ret (.blt .all (.cons (.comp [2, 1] (.cmp .nmem (.var 1) (.slc (.var 0) .none (.some (.var 2)))) (.tup (.cons (.var 2) (.cons (.var 1) .nil))) (.enum (.var 0)) .none) .nil))) .nil))
/-- is_deed -/
def b149 : Ss := (.cons (.ifs (.or (.not (.isi (.var 0) .tuple)) (.or (.cmp .eq (.var 0) (.tup .nil)) (.not (.isi (.idx (.var 0) (.int 0)) .str)))) (.cons (.ret (.bl false)) .nil) .nil) (.cons (.ifs (.cmp .eq (.idx (.var 0) (.int 0)) (.glb 23)) (.cons (.ret (.and (.call 92 (.cons (.var 0) (.cons (.int 3) .nil))) (.blt .all (.cons (.comp [1] (.call 8 (.cons (.glb 1) (.cons (.var 1) .nil))) (.var 1) (.val (.slc (.var 0) (.some (.int 1)) .none)) .none) .nil)))) .nil) .nil) (.cons (.ifs (.not (.call 92 (.cons (.var 0) (.cons (.int 2) .nil)))) (.cons (.ret (.bl false)) .nil) .nil) (.cons (.ifs (.cmp .mem (.idx (.var 0) (.int 0)) (.glb 24)) (.cons (.ret (.call 8 (.cons (.glb 1) (.cons (.idx (.var 0) (.int 1)) .nil)))) .nil) .nil) (.cons (.ifs (.cmp .eq (.idx (.var 0) (.int 0)) (.glb 12)) (.cons (.ret (.call 69 (.cons (.glb 1) (.cons (.idx (.var 0) (.int 1)) .nil)))) .nil) .nil) (.cons (.ret (.and (.cmp .eq (.idx (.var 0) (.int 0)) (.glb 13)) (.call 107 (.cons (.idx (.var 0) (.int 1)) .nil)))) .nil))))))
/-- with_step -/
def b109 : Ss := (.cons (.asg (.var 3) (.call 11 (.cons (.var 1) .nil))) (.cons (.ifs (.or (.cmp .ge (.var 3) (.blt .len (.cons (.var 0) .nil))) (.not (.call 1 (.cons (.bin .add (.idx (.var 0) (.var 3)) (.var 2)) (.cons (.int 0) (.cons (.glb 2) .nil)))))) (.cons (.ret .non) .nil) .nil) (.cons (.ret (.tups (.star (.slc (.var 0) .none (.some (.var 3))) (.cons (.bin .add (.idx (.var 0) (.var 3)) (.var 2)) (.star (.slc (.var 0) (.some (.bin .add (.var 3) (.int 1))) .none) .nil))))) .nil)))
/-- moved -/
def b110 : Ss := (.cons (.asg (.var 3) (.call 109 (.cons (.var 0) (.cons (.var 1) (.cons (.neg (.int 1)) .nil))))) (.cons (.ret (.ife (.cmp .isn (.var 3) .non) (.call 109 (.cons (.var 3) (.cons (.var 2) (.cons (.int 1) .nil)))) .non)) .nil))
/-- behind_deed -/
def b167 : Ss := (.cons (.ifs (.cmp .eq (.idx (.var 1) (.int 0)) (.glb 23)) (.cons (.ret (.call 110 (.cons (.var 0) (.cons (.idx (.var 1) (.int 1)) (.cons (.idx (.var 1) (.int 2)) .nil))))) .nil) .nil) (.cons (.ifs (.cmp .mem (.idx (.var 1) (.int 0)) (.glb 24)) (.cons (.ret (.call 109 (.cons (.var 0) (.cons (.idx (.var 1) (.int 1)) (.cons (.ife (.cmp .eq (.idx (.var 1) (.int 0)) (.glb 21)) (.int 1) (.neg (.int 1))) .nil))))) .nil) .nil) (.cons (.asg (.var 2) (.call 9 (.cons (.var 0) .nil))) (.cons (.ifs (.cmp .eq (.idx (.var 1) (.int 0)) (.glb 12)) (.cons (.ret (.ife (.cmp .mem (.idx (.var 1) (.int 1)) (.slc (.glb 0) .none (.some (.var 2)))) (.call 106 (.cons (.var 0) (.cons (.call 11 (.cons (.idx (.var 1) (.int 1)) .nil)) .nil))) .non)) .nil) .nil) (.cons (.ret (.ife (.call 105 (.cons (.var 2) (.cons (.idx (.var 1) (.int 1)) .nil))) (.call 77 (.cons (.var 0) (.cons (.idx (.var 1) (.int 1)) .nil))) .non)) .nil)))))
/-- check_picture -/
def b35 : Ss := (.cons (.ifs (.not (.call 7 (.cons (.var 0) .nil))) (.cons (.rai 0 (.var 0)) .nil) .nil) .nil)
/-- check_choice -/
def b39 : Ss := (.cons (.ifs (.not (.call 8 (.cons (.var 0) (.cons (.var 1) .nil)))) (.cons (.rai 1 (.var 1)) .nil) .nil) .nil)
/-- check_picture_choice -/
def b40 : Ss := (.cons (.exp (.call 35 (.cons (.var 0) .nil))) (.cons (.exp (.call 39 (.cons (.call 9 (.cons (.var 0) .nil)) (.cons (.var 1) .nil)))) .nil))
/-- check_order -/
def b75 : Ss := (.cons (.ifs (.not (.isi (.var 1) .tuple)) (.cons (.rai 2 .non) .nil) .nil) (.cons (.fr (.tup (.cons (.var 2) (.cons (.var 3) .nil))) (.enum (.var 1)) (.cons (.ifs (.or (.not (.call 1 (.cons (.var 3) (.cons (.int 0) (.cons (.bin .sub (.var 0) (.int 1)) .nil))))) (.cmp .mem (.var 3) (.slc (.var 1) .none (.some (.var 2))))) (.cons (.rai 2 (.var 2)) .nil) .nil) .nil)) (.cons (.ifs (.cmp .lt (.blt .len (.cons (.var 1) .nil)) (.var 0)) (.cons (.rai 2 (.blt .len (.cons (.var 1) .nil))) .nil) .nil) .nil)))
/-- count_told -/
def b124 : Ss := (.cons (.ifs (.or (.cmp .eq (.var 0) (.str [])) (.not (.call 2 (.cons (.var 0) (.cons (.glb 20) .nil))))) (.cons (.ret .non) .nil) .nil) (.cons (.ret (.ife (.and (.cmp .eq (.idx (.var 0) (.int 0)) (.str [48])) (.cmp .gt (.blt .len (.cons (.var 0) .nil)) (.int 1))) .non (.blt .int (.cons (.var 0) .nil)))) .nil))
/-- choice_told -/
def b126 : Ss := (.cons (.ifs (.cmp .eq (.var 0) (.str [])) (.cons (.ret .non) .nil) .nil) (.cons (.ret (.ife (.cmp .eq (.var 0) (.glb 18)) (.str []) (.var 0))) .nil))
/-- part_told -/
def b152 : Ss := (.cons (.ifs (.cmp .eq (.var 0) (.glb 13)) (.cons (.ret (.blt .tuple (.cons (.comp [2] (.call 124 (.cons (.var 2) .nil)) (.var 2) (.val (.var 1)) .none) .nil))) .nil) .nil) (.cons (.ret (.ife (.cmp .mem (.var 0) (.glb 25)) (.call 126 (.cons (.var 1) .nil)) (.var 1))) .nil))
/-- deed_of_text -/
def b153 : Ss := (.cons (.ifs (.not (.isi (.var 0) .str)) (.cons (.ret .non) .nil) .nil) (.cons (.asg (.tupS 1 2) (.mth .split (.var 0) (.cons (.glb 17) .nil))) (.cons (.asg (.var 3) (.tups (.cons (.var 1) (.star (.comp [4] (.call 152 (.cons (.var 1) (.cons (.var 4) .nil))) (.var 4) (.val (.var 2)) .none) .nil)))) (.cons (.ret (.ife (.call 149 (.cons (.var 3) .nil)) (.var 3) .non)) .nil))))
/-- check_told -/
def b132 : Ss := (.cons (.ifs (.cmp .is (.var 0) .non) (.cons (.rai 3 (.var 1)) .nil) .nil) .nil)
/-- read_deed -/
def b155 : Ss := (.cons (.asg (.var 1) (.call 153 (.cons (.var 0) .nil))) (.cons (.exp (.call 132 (.cons (.var 1) (.cons (.var 0) .nil)))) (.cons (.ret (.var 1)) .nil)))
/-- replayed -/
def b168 : Ss := (.cons (.exp (.call 35 (.cons (.var 0) .nil))) (.cons (.ifs (.not (.isi (.var 1) .tuple)) (.cons (.rai 4 .non) .nil) .nil) (.cons (.asg (.var 2) (.var 0)) (.cons (.fr (.tup (.cons (.var 3) (.cons (.var 4) .nil))) (.enum (.var 1)) (.cons (.asg (.var 5) (.ife (.cmp .lt (.var 3) (.glb 26)) (.call 153 (.cons (.var 4) .nil)) .non)) (.cons (.asg (.var 6) (.ife (.cmp .isn (.var 5) .non) (.call 167 (.cons (.var 2) (.cons (.var 5) .nil))) .non)) (.cons (.ifs (.cmp .is (.var 6) .non) (.cons (.rai 4 (.var 3)) .nil) .nil) (.cons (.asg (.var 2) (.var 6)) .nil))))) (.cons (.ret (.var 2)) .nil)))))
/-- done -/
def b112 : Ss := (.cons (.exp (.call 35 (.cons (.var 0) .nil))) (.cons (.ifs (.not (.isi (.var 1) .tuple)) (.cons (.rai 4 .non) .nil) .nil) (.cons (.asg (.var 2) (.var 0)) (.cons (.fr (.tup (.cons (.var 3) (.cons (.var 4) .nil))) (.enum (.var 1)) (.cons (.asg (.var 5) (.ife (.and (.cmp .lt (.var 3) (.glb 15)) (.call 149 (.cons (.var 4) .nil))) (.call 167 (.cons (.var 2) (.cons (.var 4) .nil))) .non)) (.cons (.ifs (.cmp .is (.var 5) .non) (.cons (.rai 4 (.var 3)) .nil) .nil) (.cons (.asg (.var 2) (.var 5)) .nil)))) (.cons (.ret (.var 2)) .nil)))))
/-- named_anew -/
def b78 : Ss := (.cons (.exp (.call 35 (.cons (.var 0) .nil))) (.cons (.exp (.call 75 (.cons (.call 9 (.cons (.var 0) .nil)) (.cons (.var 1) .nil)))) (.cons (.ret (.call 77 (.cons (.var 0) (.cons (.var 1) .nil)))) .nil)))
/-- inside_out -/
def b169 : Ss := (.cons (.exp (.call 40 (.cons (.var 0) (.cons (.var 1) .nil)))) (.cons (.ret (.call 106 (.cons (.var 0) (.cons (.call 11 (.cons (.var 1) .nil)) .nil)))) .nil))
/-- _law_pot -/
def b170 : Ss := (.cons (.asg (.var 2) (.ife (.cmp .lt (.var 1) (.blt .len (.cons (.var 0) .nil))) (.blt .int (.cons (.idx (.var 0) (.var 1)) .nil)) (.bin .add (.bin .add (.bin .mul (.int 7907) (.var 1)) (.int 37)) (.bin .mod (.blt .int (.cons (.blt .sum (.cons (.slc (.var 0) .none (.some (.int 3))) .nil)) .nil)) (.int 1000033))))) (.cons (.asg (.var 3) (.bin .add (.int 1002637) (.bin .mul (.int 10069) (.var 1)))) (.cons (.fr (.var 4) (.val (.bin .add (.slc (.var 0) .none (.some (.int 7))) (.list (.cons (.var 2) .nil)))) (.cons (.asg (.var 3) (.bin .mod (.blt .int (.cons (.bin .add (.bin .add (.bin .mul (.var 3) (.int 69621)) (.bin .mod (.blt .int (.cons (.var 4) .nil)) (.int 2147483563))) (.int 23)) .nil)) (.int 2147483563))) .nil)) (.cons (.ret (.thaw (.list (.cons (.ife (.or (.cmp .lt (.var 2) (.int 0)) (.cmp .ge (.var 2) (.bin .pow (.int 10) (.int 18)))) (.bin .mod (.blt .int (.cons (.blt .abs (.cons (.var 2) .nil)) .nil)) (.bin .pow (.int 10) (.int 64))) (.int 0)) (.cons (.var 3) (.cons (.int 0) .nil)))))) .nil))))
/-- _law_draw -/
def b50 : Ss := (.cons (.ifs (.cmp .gt (.idx (.var 0) (.int 0)) (.int 0)) (.cons (.asg (.tup (.cons (.idx (.var 0) (.int 0)) (.cons (.var 2) .nil))) (.blt .divmod (.cons (.idx (.var 0) (.int 0)) (.cons (.var 1) .nil)))) (.cons (.ret (.var 2)) .nil)) .nil) (.cons (.asg (.idx (.var 0) (.int 2)) (.bin .add (.idx (.var 0) (.int 2)) (.int 1))) (.cons (.asg (.idx (.var 0) (.int 1)) (.bin .mod (.blt .int (.cons (.bin .add (.bin .add (.bin .mul (.idx (.var 0) (.int 1)) (.bin .add (.bin .mod (.blt .int (.cons (.idx (.var 0) (.int 1)) .nil)) (.int 10007)) (.int 20011))) (.bin .mul (.int 60013) (.idx (.var 0) (.int 2)))) (.int 61)) .nil)) (.int 2147483563))) (.cons (.ret (.bin .mod (.blt .int (.cons (.bin .fdiv (.idx (.var 0) (.int 1)) (.int 97)) .nil)) (.var 1))) .nil))))
/-- _law_pick -/
def b51 : Ss := (.cons (.ret (.idx (.var 1) (.call 50 (.cons (.var 0) (.cons (.blt .len (.cons (.var 1) .nil)) .nil))))) .nil)
/-- _law_same -/
def b52 : Ss := (.cons (.ifs (.or (.and (.isi (.var 1) .tuple) (.isi (.var 0) .tuple)) (.and (.isi (.var 1) .list) (.isi (.var 0) .list))) (.cons (.ret (.and (.cmp .eq (.blt .len (.cons (.var 0) .nil)) (.blt .len (.cons (.var 1) .nil))) (.blt .all (.cons (.comp [2] (.call 52 (.cons (.idx (.var 0) (.var 2)) (.cons (.idx (.var 1) (.var 2)) .nil))) (.var 2) (.rng1 (.blt .len (.cons (.var 1) .nil))) .none) .nil)))) .nil) .nil) (.cons (.ifs (.or (.isi (.var 1) .tuple) (.or (.isi (.var 1) .list) (.cmp .ne (.isi (.var 1) .bool) (.isi (.var 0) .bool)))) (.cons (.ret (.bl false)) .nil) .nil) (.cons (.ifs (.or (.cmp .ne (.isi (.var 1) .int) (.isi (.var 0) .int)) (.cmp .ne (.isi (.var 1) .str) (.isi (.var 0) .str))) (.cons (.ret (.bl false)) .nil) .nil) (.cons (.ret (.ife (.cmp .is (.var 1) .non) (.cmp .is (.var 0) .non) (.cmp .eq (.var 0) (.var 1)))) .nil))))
/-- _law_picture -/
def b53 : Ss := (.cons (.par [2, 3] (.cons (.call 50 (.cons (.var 0) (.cons (.int 5) .nil))) (.cons (.tup .nil) .nil))) (.cons (.fr (.var 4) (.rng1 (.bin .shl (.int 1) (.var 1))) (.cons (.asg (.var 5) (.call 50 (.cons (.var 0) (.cons (.idx (.tup (.cons (.int 3) (.cons (.int 5) (.cons (.int 2) (.cons (.int 100) (.cons (.int 12) .nil)))))) (.var 2)) .nil)))) (.cons (.asg (.var 3) (.bin .add (.var 3) (.tup (.cons (.ife (.or (.cmp .ne (.var 2) (.int 2)) (.cmp .gt (.call 50 (.cons (.var 0) (.cons (.int 3) .nil))) (.int 0))) (.var 5) (.int 0)) .nil)))) .nil))) (.cons (.ret (.var 3)) .nil)))
/-- _law_many -/
def b54 : Ss := (.cons (.ret (.bin .add (.mth .tindex (.tup (.cons (.int 2) (.cons (.int 4) (.cons (.int 8) (.cons (.int 16) .nil))))) (.cons (.blt .len (.cons (.var 0) .nil)) .nil)) (.int 1))) .nil)
/-- _law_choice -/
def b55 : Ss := (.cons (.ret (.mth .join (.str []) (.cons (.comp [1, 2] (.var 2) (.tup (.cons (.var 1) (.cons (.var 2) .nil))) (.enum (.str [65, 66, 67, 68])) (.some (.cmp .eq (.bin .mod (.blt .int (.cons (.bin .fdiv (.var 0) (.bin .shl (.int 1) (.var 1))) .nil)) (.int 2)) (.int 1)))) .nil))) .nil)
/-- _law_index -/
def b56 : Ss := (.cons (.ret (.blt .sum (.cons (.comp [1] (.bin .shl (.int 1) (.mth .index (.str [65, 66, 67, 68]) (.cons (.var 1) .nil))) (.var 1) (.val (.var 0)) .none) .nil))) .nil)
/-- _law_order -/
def b57 : Ss := (.cons (.par [2, 3] (.cons (.thaw (.rgv false .none (.var 1))) (.cons (.tup .nil) .nil))) (.cons (.fr (.var 4) (.rng1 (.var 1)) (.cons (.asg (.var 3) (.bin .add (.var 3) (.tup (.cons (.mth .popAt (.var 2) (.cons (.call 50 (.cons (.var 0) (.cons (.blt .len (.cons (.var 2) .nil)) .nil))) .nil)) .nil)))) .nil)) (.cons (.ret (.var 3)) .nil)))
/-- _law_anew -/
def b58 : Ss := (.cons (.asg (.var 2) (.thaw (.list .nil))) (.cons (.fr (.var 3) (.rng1 (.blt .len (.cons (.var 0) .nil))) (.cons (.asg (.var 4) (.int 0)) (.cons (.fr (.tup (.cons (.var 5) (.cons (.var 6) .nil))) (.enum (.var 1)) (.cons (.asg (.var 4) (.bin .add (.var 4) (.bin .mul (.bin .shl (.int 1) (.var 6)) (.bin .mod (.blt .int (.cons (.bin .fdiv (.var 3) (.bin .shl (.int 1) (.var 5))) .nil)) (.int 2))))) .nil)) (.cons (.exp (.mth .append (.var 2) (.cons (.idx (.var 0) (.var 4)) .nil))) .nil)))) (.cons (.ret (.blt .tuple (.cons (.var 2) .nil))) .nil)))
/-- _law_inside -/
def b59 : Ss := (.cons (.ret (.blt .tuple (.cons (.comp [2] (.idx (.var 0) (.bin .bxor (.var 2) (.var 1))) (.var 2) (.rng1 (.blt .len (.cons (.var 0) .nil))) .none) .nil))) .nil)
/-- _law_deed -/
def b157 : Ss := (.cons (.par [1, 2] (.cons (.call 55 (.cons (.call 50 (.cons (.var 0) (.cons (.int 16) .nil))) .nil)) (.cons (.call 55 (.cons (.call 50 (.cons (.var 0) (.cons (.int 16) .nil))) .nil)) .nil))) (.cons (.asg (.var 3) (.list (.cons (.tup (.cons (.str [112, 117, 116]) (.cons (.var 1) .nil))) (.cons (.tup (.cons (.str [116, 97, 107, 101]) (.cons (.var 1) .nil))) (.cons (.tup (.cons (.str [109, 111, 118, 101]) (.cons (.var 1) (.cons (.var 2) .nil)))) (.cons (.tup (.cons (.str [109, 111, 118, 101]) (.cons (.var 1) (.cons (.var 2) .nil)))) (.cons (.tup (.cons (.str [116, 117, 114, 110]) (.cons (.call 51 (.cons (.var 0) (.cons (.str [65, 66, 67, 68]) .nil))) .nil))) .nil))))))) (.cons (.ret (.call 51 (.cons (.var 0) (.cons (.bin .add (.var 3) (.list (.cons (.tup (.cons (.str [114, 101, 110, 97, 109, 101]) (.cons (.call 57 (.cons (.var 0) (.cons (.call 50 (.cons (.var 0) (.cons (.int 5) .nil))) .nil))) .nil))) .nil))) .nil)))) .nil)))
/-- _law_word -/
def b158 : Ss := (.cons (.ret (.ife (.isi (.var 0) .tuple) (.mth .join (.str []) (.cons (.comp [1] (.blt .str (.cons (.var 1) .nil)) (.var 1) (.val (.var 0)) .none) .nil)) (.ife (.cmp .ne (.var 0) (.str [])) (.var 0) (.str [45])))) .nil)
/-- _law_text -/
def b159 : Ss := (.cons (.ret (.mth .join (.str [32]) (.cons (.bin .add (.list (.cons (.idx (.var 0) (.int 0)) .nil)) (.comp [1] (.call 158 (.cons (.var 1) .nil)) (.var 1) (.val (.slc (.var 0) (.some (.int 1)) .none)) .none)) .nil))) .nil)
/-- _law_done -/
def b172 : Ss := (.cons (.asg (.tup (.cons (.var 2) (.cons (.var 3) .nil))) (.tup (.cons (.call 54 (.cons (.var 0) .nil)) (.cons (.thaw (.blt .list (.cons (.var 0) .nil))) .nil)))) (.cons (.ifs (.cmp .eq (.idx (.var 1) (.int 0)) (.str [114, 101, 110, 97, 109, 101])) (.cons (.ret (.ife (.cmp .eq (.blt .sorted (.cons (.idx (.var 1) (.int 1)) .nil)) (.rgv false .none (.var 2))) (.call 58 (.cons (.var 0) (.cons (.idx (.var 1) (.int 1)) .nil))) (.tup .nil))) .nil) .nil) (.cons (.ifs (.not (.blt .all (.cons (.comp [4] (.cmp .mem (.var 4) (.slc (.str [65, 66, 67, 68]) .none (.some (.var 2)))) (.var 4) (.val (.mth .join (.str []) (.cons (.slc (.var 1) (.some (.int 1)) .none) .nil))) .none) .nil))) (.cons (.ret (.tup .nil)) .nil) .nil) (.cons (.ifs (.cmp .eq (.idx (.var 1) (.int 0)) (.str [116, 117, 114, 110])) (.cons (.ret (.call 59 (.cons (.var 0) (.cons (.call 56 (.cons (.idx (.var 1) (.int 1)) .nil)) .nil)))) .nil) .nil) (.cons (.ifs (.cmp .ne (.idx (.var 1) (.int 0)) (.str [112, 117, 116])) (.cons (.asg (.idx (.var 3) (.call 56 (.cons (.idx (.var 1) (.int 1)) .nil))) (.bin .sub (.idx (.var 3) (.call 56 (.cons (.idx (.var 1) (.int 1)) .nil))) (.int 1))) .nil) .nil) (.cons (.ifs (.and (.cmp .ge (.blt .minL (.cons (.var 3) .nil)) (.int 0)) (.cmp .ne (.idx (.var 1) (.int 0)) (.str [116, 97, 107, 101]))) (.cons (.asg (.idx (.var 3) (.call 56 (.cons (.idx (.var 1) (.neg (.int 1))) .nil))) (.bin .add (.idx (.var 3) (.call 56 (.cons (.idx (.var 1) (.neg (.int 1))) .nil))) (.int 1))) .nil) .nil) (.cons (.ret (.ife (.and (.cmp .ge (.blt .minL (.cons (.var 3) .nil)) (.int 0)) (.cmp .lt (.blt .maxL (.cons (.var 3) .nil)) (.int 100))) (.blt .tuple (.cons (.var 3) .nil)) (.tup .nil))) .nil)))))))
/-- _law_fitting -/
def b173 : Ss := (.cons (.asg (.var 2) (.call 54 (.cons (.var 1) .nil))) (.cons (.par [3, 4] (.cons (.call 55 (.cons (.call 50 (.cons (.var 0) (.cons (.blt .len (.cons (.var 1) .nil)) .nil))) .nil)) (.cons (.call 55 (.cons (.call 50 (.cons (.var 0) (.cons (.blt .len (.cons (.var 1) .nil)) .nil))) .nil)) .nil))) (.cons (.asg (.var 5) (.list (.cons (.tup (.cons (.str [112, 117, 116]) (.cons (.var 3) .nil))) (.cons (.tup (.cons (.str [116, 97, 107, 101]) (.cons (.var 3) .nil))) (.cons (.tup (.cons (.str [109, 111, 118, 101]) (.cons (.var 3) (.cons (.var 4) .nil)))) (.cons (.tup (.cons (.str [116, 117, 114, 110]) (.cons (.idx (.str [65, 66, 67, 68]) (.call 50 (.cons (.var 0) (.cons (.var 2) .nil)))) .nil))) (.cons (.tup (.cons (.str [114, 101, 110, 97, 109, 101]) (.cons (.call 57 (.cons (.var 0) (.cons (.var 2) .nil))) .nil))) .nil))))))) (.cons (.ret (.ife (.cmp .gt (.call 50 (.cons (.var 0) (.cons (.int 16) .nil))) (.int 0)) (.call 51 (.cons (.var 0) (.cons (.var 5) .nil))) (.call 157 (.cons (.var 0) .nil)))) .nil))))
/-- _law_is_right -/
def b174 : Ss := (.cons (.asg (.tup (.cons (.var 3) (.cons (.var 4) (.cons (.var 5) .nil)))) (.tup (.cons (.var 1) (.cons (.thaw (.list .nil)) (.cons (.neg (.int 1)) .nil))))) (.cons (.fr (.var 6) (.rng1 (.var 2)) (.cons (.asg (.var 7) (.call 173 (.cons (.var 0) (.cons (.var 1) .nil)))) (.cons (.asg (.var 8) (.ife (.cmp .gt (.call 50 (.cons (.var 0) (.cons (.int 24) .nil))) (.int 0)) (.call 159 (.cons (.var 7) .nil)) (.call 51 (.cons (.var 0) (.cons (.tup (.cons (.str []) (.cons (.str [112, 117, 116]) (.cons .non (.cons (.int 5) (.cons (.str [116, 117, 114, 110, 32, 45]) (.cons (.str [109, 111, 118, 101, 32, 65]) (.cons (.str [80, 117, 116, 32, 65]) .nil)))))))) .nil))))) (.cons (.exp (.mth .append (.var 4) (.cons (.var 8) .nil))) (.cons (.asg (.var 9) (.ife (.cmp .eq (.var 8) (.call 159 (.cons (.var 7) .nil))) (.call 172 (.cons (.var 1) (.cons (.var 7) .nil))) (.tup .nil))) (.cons (.ifs (.cmp .eq (.var 9) (.tup .nil)) (.cons (.asg (.var 5) (.var 6)) (.cons .brk .nil)) .nil) (.cons (.asg (.var 1) (.var 9)) .nil))))))) (.cons (.asg (.var 10) (.ife (.cmp .ge (.var 5) (.int 0)) (.list (.cons (.str [100, 101, 101, 100, 115]) (.cons (.var 5) .nil))) (.list (.cons (.str [116, 111, 108, 100]) (.cons (.var 1) .nil))))) (.cons (.asg (.var 11) (.thaw (.list (.cons (.hrd false [116, 111, 108, 100] [(4, [100, 101, 101, 100, 115])] (.call 168 (.cons (.var 3) (.cons (.blt .tuple (.cons (.var 4) .nil)) .nil)))) .nil)))) (.cons (.exp (.mth .append (.var 11) (.cons (.hrd false [116, 111, 108, 100] [(4, [100, 101, 101, 100, 115])] (.callk 168 .nil (.cons (.blt .tuple (.cons (.var 4) .nil)) (.cons (.var 3) .nil)) [1, 0])) .nil))) (.cons (.ifs (.not (.call 52 (.cons (.var 11) (.cons (.list (.cons (.var 10) (.cons (.var 10) .nil))) .nil)))) (.cons (.ret (.bl false)) .nil) .nil) (.cons (.asg (.var 12) (.ife (.cmp .ge (.var 5) (.int 0)) (.slc (.var 4) .none (.some (.var 5))) (.var 4))) (.cons (.ret (.call 52 (.cons (.call 112 (.cons (.var 3) (.cons (.blt .tuple (.cons (.comp [8] (.call 155 (.cons (.var 8) .nil)) (.var 8) (.val (.var 12)) .none) .nil)) .nil))) (.cons (.var 1) .nil)))) .nil))))))))
/-- _law_single_right -/
def b175 : Ss := (.cons (.asg (.var 3) (.call 172 (.cons (.var 1) (.cons (.var 2) .nil)))) (.cons (.ifs (.not (.call 52 (.cons (.hrd false [116, 111, 108, 100] [(4, [100, 101, 101, 100, 115])] (.call 168 (.cons (.var 1) (.cons (.tup (.cons (.call 159 (.cons (.var 2) .nil)) .nil)) .nil)))) (.cons (.ife (.cmp .ne (.var 3) (.tup .nil)) (.list (.cons (.str [116, 111, 108, 100]) (.cons (.var 3) .nil))) (.list (.cons (.str [100, 101, 101, 100, 115]) (.cons (.int 0) .nil)))) .nil)))) (.cons (.ret (.bl false)) .nil) .nil) (.cons (.ifs (.or (.cmp .eq (.var 3) (.tup .nil)) (.cmp .mem (.idx (.var 2) (.int 0)) (.tup (.cons (.str [112, 117, 116]) (.cons (.str [116, 97, 107, 101]) .nil))))) (.cons (.asg (.var 4) (.bin .add (.tup (.cons (.ife (.cmp .eq (.idx (.var 2) (.int 0)) (.str [112, 117, 116])) (.str [116, 97, 107, 101]) (.str [112, 117, 116])) .nil)) (.slc (.var 2) (.some (.int 1)) .none))) (.cons (.ret (.or (.cmp .eq (.var 3) (.tup .nil)) (.call 52 (.cons (.call 112 (.cons (.var 1) (.cons (.tup (.cons (.var 2) (.cons (.var 4) .nil))) .nil))) (.cons (.var 1) .nil))))) .nil)) .nil) (.cons (.ifs (.cmp .eq (.idx (.var 2) (.int 0)) (.str [109, 111, 118, 101])) (.cons (.ret (.call 52 (.cons (.call 112 (.cons (.var 1) (.cons (.tup (.cons (.var 2) (.cons (.tup (.cons (.str [109, 111, 118, 101]) (.cons (.idx (.var 2) (.int 2)) (.cons (.idx (.var 2) (.int 1)) .nil)))) .nil))) .nil))) (.cons (.var 1) .nil)))) .nil) .nil) (.cons (.ifs (.cmp .eq (.idx (.var 2) (.int 0)) (.str [116, 117, 114, 110])) (.cons (.ret (.call 52 (.cons (.list (.cons (.call 169 (.cons (.var 1) (.cons (.idx (.var 2) (.int 1)) .nil))) (.cons (.call 112 (.cons (.var 1) (.cons (.tup (.cons (.var 2) (.cons (.var 2) .nil))) .nil))) .nil))) (.cons (.list (.cons (.var 3) (.cons (.var 1) .nil))) .nil)))) .nil) .nil) (.cons (.asg (.var 4) (.blt .tuple (.cons (.comp [5] (.mth .tindex (.idx (.var 2) (.int 1)) (.cons (.var 5) .nil)) (.var 5) (.rng1 (.blt .len (.cons (.idx (.var 2) (.int 1)) .nil))) .none) .nil))) (.cons (.ret (.call 52 (.cons (.list (.cons (.call 78 (.cons (.var 1) (.cons (.idx (.var 2) (.int 1)) .nil))) (.cons (.call 112 (.cons (.var 1) (.cons (.tup (.cons (.var 2) (.cons (.tup (.cons (.str [114, 101, 110, 97, 109, 101]) (.cons (.var 4) .nil))) .nil))) .nil))) .nil))) (.cons (.list (.cons (.var 3) (.cons (.var 1) .nil))) .nil)))) .nil)))))))
/-- _law_right -/
def b176 : Ss := (.cons (.fr (.var 1) (.rng1 (.int 16)) (.cons (.asg (.var 2) (.call 53 (.cons (.var 0) (.cons (.bin .add (.int 1) (.call 50 (.cons (.var 0) (.cons (.int 4) .nil)))) .nil)))) (.cons (.asg (.var 3) (.blt .tuple (.cons (.comp [4] (.ife (.cmp .eq (.call 50 (.cons (.var 0) (.cons (.int 2) .nil))) (.int 0)) (.int 99) (.var 4)) (.var 4) (.val (.var 2)) .none) .nil))) (.cons (.ifs (.or (.not (.call 174 (.cons (.var 0) (.cons (.var 2) (.cons (.call 50 (.cons (.var 0) (.cons (.int 21) .nil))) .nil))))) (.not (.call 174 (.cons (.var 0) (.cons (.var 3) (.cons (.call 50 (.cons (.var 0) (.cons (.int 6) .nil))) .nil)))))) (.cons (.ret (.bl false)) .nil) .nil) (.cons (.ifs (.or (.not (.call 175 (.cons (.var 0) (.cons (.var 2) (.cons (.call 173 (.cons (.var 0) (.cons (.var 2) .nil))) .nil))))) (.not (.call 175 (.cons (.var 0) (.cons (.var 3) (.cons (.call 157 (.cons (.var 0) .nil)) .nil)))))) (.cons (.ret (.bl false)) .nil) .nil) .nil))))) (.cons (.asg (.var 5) (.thaw (.list (.cons (.hrd false [116, 111, 108, 100] [(4, [100, 101, 101, 100, 115])] (.call 168 (.cons (.var 2) (.cons (.bin .mul (.tup (.cons (.str [116, 117, 114, 110, 32, 65]) .nil)) (.int 40)) .nil)))) .nil)))) (.cons (.exp (.mth .append (.var 5) (.cons (.hrd false [116, 111, 108, 100] [(4, [100, 101, 101, 100, 115])] (.call 168 (.cons (.var 2) (.cons (.bin .mul (.tup (.cons (.str [116, 117, 114, 110, 32, 65]) .nil)) (.int 41)) .nil)))) .nil))) (.cons (.exp (.mth .append (.var 5) (.cons (.hrd false [116, 111, 108, 100] [(4, [100, 101, 101, 100, 115])] (.call 168 (.cons (.var 2) (.cons (.list (.cons (.str [116, 117, 114, 110, 32, 65]) .nil)) .nil)))) .nil))) (.cons (.ret (.call 52 (.cons (.var 5) (.cons (.list (.cons (.list (.cons (.str [116, 111, 108, 100]) (.cons (.var 2) .nil))) (.cons (.list (.cons (.str [100, 101, 101, 100, 115]) (.cons (.int 40) .nil))) (.cons (.list (.cons (.str [100, 101, 101, 100, 115]) (.cons .non .nil))) .nil)))) .nil)))) .nil)))))
/-- law -/
def b177 : Ss := (.cons (.asg (.var 1) (.call 170 (.cons (.var 0) (.cons (.int 5) .nil)))) (.cons (.asg (.var 2) (.list (.cons (.tup (.cons (.str [116, 117, 114, 110]) (.cons (.str [65]) .nil))) (.cons (.tup (.cons (.str [116, 117, 114, 110]) (.cons (.str [66]) .nil))) (.cons (.tup (.cons (.str [114, 101, 110, 97, 109, 101]) (.cons (.tup (.cons (.int 0) .nil)) .nil))) (.cons (.tup (.cons (.str [114, 101, 110, 97, 109, 101]) (.cons (.tup (.cons (.int 0) (.cons (.int 1) .nil))) .nil))) .nil)))))) (.cons (.fr (.var 3) (.val (.tup (.cons (.str []) (.cons (.str [65]) (.cons (.str [66]) .nil))))) (.cons (.asg (.var 2) (.bin .add (.bin .add (.var 2) (.list (.cons (.tup (.cons (.str [112, 117, 116]) (.cons (.var 3) .nil))) (.cons (.tup (.cons (.str [116, 97, 107, 101]) (.cons (.var 3) .nil))) .nil)))) (.comp [4] (.tup (.cons (.str [109, 111, 118, 101]) (.cons (.var 3) (.cons (.var 4) .nil)))) (.var 4) (.val (.tup (.cons (.str []) (.cons (.str [65]) (.cons (.str [66]) .nil))))) .none))) .nil)) (.cons (.fr (.var 5) (.val (.tup (.cons (.int 0) (.cons (.int 1) (.cons (.int 2) (.cons (.int 99) .nil)))))) (.cons (.fr (.var 6) (.val (.tup (.cons (.int 0) (.cons (.int 1) (.cons (.int 99) .nil))))) (.cons (.ifs (.not (.blt .all (.cons (.comp [7] (.call 175 (.cons (.var 1) (.cons (.tup (.cons (.var 5) (.cons (.var 6) .nil))) (.cons (.var 7) .nil)))) (.var 7) (.val (.var 2)) .none) .nil))) (.cons (.ret (.bl false)) .nil) .nil) .nil)) .nil)) (.cons (.ret (.blt .all (.cons (.comp [8] (.call 176 (.cons (.call 170 (.cons (.var 0) (.cons (.var 8) .nil))) .nil)) (.var 8) (.rng1 (.blt .max2 (.cons (.int 2) (.cons (.blt .min2 (.cons (.blt .len (.cons (.var 0) .nil)) (.cons (.int 4) .nil))) .nil)))) .none) .nil))) .nil)))))
def T : Nat → Option Fd
  | 0 => some ⟨1, 1, b0⟩
  | 1 => some ⟨3, 3, b1⟩
  | 92 => some ⟨2, 2, b92⟩
  | 93 => some ⟨2, 3, b93⟩
  | 2 => some ⟨2, 3, b2⟩
  | 5 => some ⟨1, 1, b5⟩
  | 6 => some ⟨2, 3, b6⟩
  | 7 => some ⟨1, 2, b7⟩
  | 69 => some ⟨2, 2, b69⟩
  | 8 => some ⟨2, 4, b8⟩
  | 9 => some ⟨1, 1, b9⟩
  | 10 => some ⟨1, 1, b10⟩
  | 11 => some ⟨1, 2, b11⟩
  | 70 => some ⟨2, 4, b70⟩
  | 105 => some ⟨2, 2, b105⟩
  | 77 => some ⟨2, 3, b77⟩
  | 106 => some ⟨2, 3, b106⟩
  | 107 => some ⟨1, 3, b107⟩
  | 149 => some ⟨1, 2, b149⟩
  | 109 => some ⟨3, 4, b109⟩
  | 110 => some ⟨3, 4, b110⟩
  | 167 => some ⟨2, 3, b167⟩
  | 35 => some ⟨1, 1, b35⟩
  | 39 => some ⟨2, 2, b39⟩
  | 40 => some ⟨2, 2, b40⟩
  | 75 => some ⟨2, 4, b75⟩
  | 124 => some ⟨1, 1, b124⟩
  | 126 => some ⟨1, 1, b126⟩
  | 152 => some ⟨2, 3, b152⟩
  | 153 => some ⟨1, 5, b153⟩
  | 132 => some ⟨2, 2, b132⟩
  | 155 => some ⟨1, 2, b155⟩
  | 168 => some ⟨2, 7, b168⟩
  | 112 => some ⟨2, 6, b112⟩
  | 78 => some ⟨2, 2, b78⟩
  | 169 => some ⟨2, 2, b169⟩
  | 170 => some ⟨2, 5, b170⟩
  | 50 => some ⟨2, 3, b50⟩
  | 51 => some ⟨2, 2, b51⟩
  | 52 => some ⟨2, 3, b52⟩
  | 53 => some ⟨2, 6, b53⟩
  | 54 => some ⟨1, 1, b54⟩
  | 55 => some ⟨1, 3, b55⟩
  | 56 => some ⟨1, 2, b56⟩
  | 57 => some ⟨2, 5, b57⟩
  | 58 => some ⟨2, 7, b58⟩
  | 59 => some ⟨2, 3, b59⟩
  | 157 => some ⟨1, 4, b157⟩
  | 158 => some ⟨1, 2, b158⟩
  | 159 => some ⟨1, 2, b159⟩
  | 172 => some ⟨2, 5, b172⟩
  | 173 => some ⟨2, 6, b173⟩
  | 174 => some ⟨3, 13, b174⟩
  | 175 => some ⟨3, 6, b175⟩
  | 176 => some ⟨1, 6, b176⟩
  | 177 => some ⟨1, 9, b177⟩
  | _ => none
def Gc : Nat → D
  | 2 => .int 99
  | 1 => .int 4
  | 0 => .str [65, 66, 67, 68]
  | 23 => .str [109, 111, 118, 101]
  | 24 => .tup [.str [112, 117, 116], .str [116, 97, 107, 101]]
  | 12 => .str [116, 117, 114, 110]
  | 13 => .str [114, 101, 110, 97, 109, 101]
  | 21 => .str [112, 117, 116]
  | 20 => .str [48, 49, 50, 51, 52, 53, 54, 55, 56, 57]
  | 18 => .str [45]
  | 25 => .tup [.str [112, 117, 116], .str [116, 97, 107, 101], .str [109, 111, 118, 101]]
  | 17 => .str [32]
  | 26 => .int 40
  | 15 => .int 40
  | _ => .non
end Lw

set_option Elab.async false
set_option linter.all false
set_option maxRecDepth 100000
set_option maxHeartbeats 0
namespace Lw
open PL PySem PySem.Spec PyProof.Rows L2
def n0 : List Str := ["value"]
def p0 : List Str := ["value"]
def n1 : List Str := ["value", "low", "high"]
def p1 : List Str := ["value", "low", "high"]
def n92 : List Str := ["value", "many"]
def p92 : List Str := ["value", "many"]
def n93 : List Str := ["value", "many", "each"]
def p93 : List Str := ["value", "many"]
def n2 : List Str := ["value", "signs", "sign"]
def p2 : List Str := ["value", "signs"]
def n5 : List Str := ["number"]
def p5 : List Str := ["number"]
def n6 : List Str := ["number", "value", "here"]
def p6 : List Str := ["number", "value"]
def n7 : List Str := ["value", "number"]
def p7 : List Str := ["value"]
def n69 : List Str := ["number", "value"]
def p69 : List Str := ["number", "value"]
def n8 : List Str := ["number", "value", "one", "two"]
def p8 : List Str := ["number", "value"]
def n9 : List Str := ["picture"]
def p9 : List Str := ["picture"]
def n10 : List Str := ["letter"]
def p10 : List Str := ["letter"]
def n11 : List Str := ["choice", "letter"]
def p11 : List Str := ["choice"]
def n70 : List Str := ["lots", "place", "turn", "lot"]
def p70 : List Str := ["lots", "place"]
def n105 : List Str := ["number", "value"]
def p105 : List Str := ["number", "value"]
def n77 : List Str := ["picture", "order", "place"]
def p77 : List Str := ["picture", "order"]
def n106 : List Str := ["picture", "index", "place"]
def p106 : List Str := ["picture", "index"]
def n107 : List Str := ["value", "lot", "index"]
def p107 : List Str := ["value"]
def n149 : List Str := ["value", "choice"]
def p149 : List Str := ["value"]
def n109 : List Str := ["picture", "choice", "step", "place"]
def p109 : List Str := ["picture", "choice", "step"]
def n110 : List Str := ["picture", "choice", "other_choice", "found"]
def p110 : List Str := ["picture", "choice", "other_choice"]
def n167 : List Str := ["picture", "deed", "number"]
def p167 : List Str := ["picture", "deed"]
def n35 : List Str := ["picture"]
def p35 : List Str := ["picture"]
def n39 : List Str := ["number", "choice"]
def p39 : List Str := ["number", "choice"]
def n40 : List Str := ["picture", "choice"]
def p40 : List Str := ["picture", "choice"]
def n75 : List Str := ["number", "order", "index", "lot"]
def p75 : List Str := ["number", "order"]
def n124 : List Str := ["word"]
def p124 : List Str := ["word"]
def n126 : List Str := ["word"]
def p126 : List Str := ["word"]
def n152 : List Str := ["word", "text", "figure"]
def p152 : List Str := ["word", "text"]
def n153 : List Str := ["text", "word", "others", "found", "other"]
def p153 : List Str := ["text"]
def n132 : List Str := ["found", "text"]
def p132 : List Str := ["found", "text"]
def n155 : List Str := ["text", "found"]
def p155 : List Str := ["text"]
def n168 : List Str := ["picture", "lines", "here", "index", "line", "deed", "found"]
def p168 : List Str := ["picture", "lines"]
def n112 : List Str := ["picture", "deeds", "here", "index", "deed", "found"]
def p112 : List Str := ["picture", "deeds"]
def n78 : List Str := ["picture", "order"]
def p78 : List Str := ["picture", "order"]
def n169 : List Str := ["picture", "choice"]
def p169 : List Str := ["picture", "choice"]
def n170 : List Str := ["script", "turn", "cell", "stirred", "each"]
def p170 : List Str := ["script", "turn"]
def n50 : List Str := ["pot", "many", "digit"]
def p50 : List Str := ["pot", "many"]
def n51 : List Str := ["pot", "some"]
def p51 : List Str := ["pot", "some"]
def n52 : List Str := ["told", "due", "at"]
def p52 : List Str := ["told", "due"]
def n53 : List Str := ["pot", "many", "way", "found", "place", "number"]
def p53 : List Str := ["pot", "many"]
def n54 : List Str := ["picture"]
def p54 : List Str := ["picture"]
def n55 : List Str := ["index", "at", "letter"]
def p55 : List Str := ["index"]
def n56 : List Str := ["choice", "letter"]
def p56 : List Str := ["choice"]
def n57 : List Str := ["pot", "many", "left", "found", "turn"]
def p57 : List Str := ["pot", "many"]
def n58 : List Str := ["picture", "order", "found", "place", "old", "at", "number"]
def p58 : List Str := ["picture", "order"]
def n59 : List Str := ["picture", "index", "place"]
def p59 : List Str := ["picture", "index"]
def n157 : List Str := ["pot", "one", "other", "some"]
def p157 : List Str := ["pot"]
def n158 : List Str := ["part", "number"]
def p158 : List Str := ["part"]
def n159 : List Str := ["deed", "part"]
def p159 : List Str := ["deed"]
def n172 : List Str := ["picture", "deed", "many", "now", "letter"]
def p172 : List Str := ["picture", "deed"]
def n173 : List Str := ["pot", "picture", "many", "one", "other", "some"]
def p173 : List Str := ["pot", "picture"]
def n174 : List Str := ["pot", "picture", "most", "start", "lines", "bad", "lap", "deed", "line", "later", "due", "told", "fit"]
def p174 : List Str := ["pot", "picture", "most"]
def n175 : List Str := ["pot", "picture", "deed", "due", "back", "at"]
def p175 : List Str := ["pot", "picture", "deed"]
def n176 : List Str := ["pot", "lap", "picture", "full", "number", "told"]
def p176 : List Str := ["pot"]
def n177 : List Str := ["script", "pot", "deeds", "one", "other", "low", "high", "deed", "turn"]
def p177 : List Str := ["script"]
def ck : Ck := ⟨[(("is_whole" : Str), 0, 1), (("is_between" : Str), 1, 3), (("is_tuple_of" : Str), 92, 2), (("are_wholes" : Str), 93, 2), (("is_text_of" : Str), 2, 2), (("place_count" : Str), 5, 1), (("is_picture_of" : Str), 6, 2), (("is_pictured" : Str), 7, 1), (("is_letter_of" : Str), 69, 2), (("is_choice_of" : Str), 8, 2), (("lot_count_of" : Str), 9, 1), (("lot_of" : Str), 10, 1), (("index_of" : Str), 11, 1), (("old_places" : Str), 70, 2), (("is_order_of" : Str), 105, 2), (("named_anew_by" : Str), 77, 2), (("inside_out_by" : Str), 106, 2), (("are_unlike_lots" : Str), 107, 1), (("is_deed" : Str), 149, 1), (("with_step" : Str), 109, 3), (("moved" : Str), 110, 3), (("behind_deed" : Str), 167, 2), (("check_picture" : Str), 35, 1), (("check_choice" : Str), 39, 2), (("check_picture_choice" : Str), 40, 2), (("check_order" : Str), 75, 2), (("count_told" : Str), 124, 1), (("choice_told" : Str), 126, 1), (("part_told" : Str), 152, 2), (("deed_of_text" : Str), 153, 1), (("check_told" : Str), 132, 2), (("read_deed" : Str), 155, 1), (("replayed" : Str), 168, 2), (("done" : Str), 112, 2), (("named_anew" : Str), 78, 2), (("inside_out" : Str), 169, 2), (("_law_pot" : Str), 170, 2), (("_law_draw" : Str), 50, 2), (("_law_pick" : Str), 51, 2), (("_law_same" : Str), 52, 2), (("_law_picture" : Str), 53, 2), (("_law_many" : Str), 54, 1), (("_law_choice" : Str), 55, 1), (("_law_index" : Str), 56, 1), (("_law_order" : Str), 57, 2), (("_law_anew" : Str), 58, 2), (("_law_inside" : Str), 59, 2), (("_law_deed" : Str), 157, 1), (("_law_word" : Str), 158, 1), (("_law_text" : Str), 159, 1), (("_law_done" : Str), 172, 2), (("_law_fitting" : Str), 173, 2), (("_law_is_right" : Str), 174, 3), (("_law_single_right" : Str), 175, 3), (("_law_right" : Str), 176, 1), (("law" : Str), 177, 1)], [(("MOST_HERE" : Str), 2), (("MOST_LOTS" : Str), 1), (("LETTERS" : Str), 0), (("MOVE" : Str), 23), (("OF_ONE_PLACE" : Str), 24), (("TURN" : Str), 12), (("RENAME" : Str), 13), (("PUT" : Str), 21), (("DIGITS" : Str), 20), (("EMPTY" : Str), 18), (("WITH_CHOICES" : Str), 25), (("BLANK" : Str), 17), (("MOST_LINES" : Str), 26), (("MOST_DEEDS" : Str), 15)], [(168, 0, ["lines", "picture"], [1, 0])], [], false, [(("InvalidPicture" : Str), 0), (("InvalidChoice" : Str), 1), (("InvalidOrder" : Str), 2), (("InvalidText" : Str), 3), (("InvalidDeeds" : Str), 4)], [(("_law_heard" : Str), false, [116, 111, 108, 100], [(4, [100, 101, 101, 100, 115])])], [defScope (PySem.Challenge.pw_lotoverlaps_k80_whole_deeds_replayed.main.body.getD 89 (.Pass ⟨0, 0, 0, 0⟩)), defScope (PySem.Challenge.pw_lotoverlaps_k80_whole_deeds_replayed.main.body.getD 90 (.Pass ⟨0, 0, 0, 0⟩)), defScope (PySem.Challenge.pw_lotoverlaps_k80_whole_deeds_replayed.main.body.getD 91 (.Pass ⟨0, 0, 0, 0⟩))]⟩
def tpS (i : Nat) : Stmt := PySem.Challenge.pw_lotoverlaps_k80_whole_deeds_replayed.main.body.getD i (.Pass ⟨0, 0, 0, 0⟩)
theorem c0 : kSs ck n0 b0 (defScope (tpS 1)) (defBody (tpS 1)) = true := by kernel_rfl
theorem s0 : C8.scC n0 p0 (defScope (tpS 1)) = true := by kernel_rfl
theorem c1 : kSs ck n1 b1 (defScope (tpS 2)) (defBody (tpS 2)) = true := by kernel_rfl
theorem s1 : C8.scC n1 p1 (defScope (tpS 2)) = true := by kernel_rfl
theorem c92 : kSs ck n92 b92 (defScope (tpS 3)) (defBody (tpS 3)) = true := by kernel_rfl
theorem s92 : C8.scC n92 p92 (defScope (tpS 3)) = true := by kernel_rfl
theorem c93 : kSs ck n93 b93 (defScope (tpS 4)) (defBody (tpS 4)) = true := by kernel_rfl
theorem s93 : C8.scC n93 p93 (defScope (tpS 4)) = true := by kernel_rfl
theorem c2 : kSs ck n2 b2 (defScope (tpS 5)) (defBody (tpS 5)) = true := by kernel_rfl
theorem s2 : C8.scC n2 p2 (defScope (tpS 5)) = true := by kernel_rfl
theorem c5 : kSs ck n5 b5 (defScope (tpS 10)) (defBody (tpS 10)) = true := by kernel_rfl
theorem s5 : C8.scC n5 p5 (defScope (tpS 10)) = true := by kernel_rfl
theorem c6 : kSs ck n6 b6 (defScope (tpS 11)) (defBody (tpS 11)) = true := by kernel_rfl
theorem s6 : C8.scC n6 p6 (defScope (tpS 11)) = true := by kernel_rfl
theorem c7 : kSs ck n7 b7 (defScope (tpS 12)) (defBody (tpS 12)) = true := by kernel_rfl
theorem s7 : C8.scC n7 p7 (defScope (tpS 12)) = true := by kernel_rfl
theorem c69 : kSs ck n69 b69 (defScope (tpS 13)) (defBody (tpS 13)) = true := by kernel_rfl
theorem s69 : C8.scC n69 p69 (defScope (tpS 13)) = true := by kernel_rfl
theorem c8 : kSs ck n8 b8 (defScope (tpS 14)) (defBody (tpS 14)) = true := by kernel_rfl
theorem s8 : C8.scC n8 p8 (defScope (tpS 14)) = true := by kernel_rfl
theorem c9 : kSs ck n9 b9 (defScope (tpS 15)) (defBody (tpS 15)) = true := by kernel_rfl
theorem s9 : C8.scC n9 p9 (defScope (tpS 15)) = true := by kernel_rfl
theorem c10 : kSs ck n10 b10 (defScope (tpS 16)) (defBody (tpS 16)) = true := by kernel_rfl
theorem s10 : C8.scC n10 p10 (defScope (tpS 16)) = true := by kernel_rfl
theorem c11 : kSs ck n11 b11 (defScope (tpS 17)) (defBody (tpS 17)) = true := by kernel_rfl
theorem s11 : C8.scC n11 p11 (defScope (tpS 17)) = true := by kernel_rfl
theorem c70 : kSs ck n70 b70 (defScope (tpS 19)) (defBody (tpS 19)) = true := by kernel_rfl
theorem s70 : C8.scC n70 p70 (defScope (tpS 19)) = true := by kernel_rfl
theorem c105 : kSs ck n105 b105 (defScope (tpS 21)) (defBody (tpS 21)) = true := by kernel_rfl
theorem s105 : C8.scC n105 p105 (defScope (tpS 21)) = true := by kernel_rfl
theorem c77 : kSs ck n77 b77 (defScope (tpS 22)) (defBody (tpS 22)) = true := by kernel_rfl
theorem s77 : C8.scC n77 p77 (defScope (tpS 22)) = true := by kernel_rfl
theorem c106 : kSs ck n106 b106 (defScope (tpS 23)) (defBody (tpS 23)) = true := by kernel_rfl
theorem s106 : C8.scC n106 p106 (defScope (tpS 23)) = true := by kernel_rfl
theorem c107 : kSs ck n107 b107 (defScope (tpS 31)) (defBody (tpS 31)) = true := by kernel_rfl
theorem s107 : C8.scC n107 p107 (defScope (tpS 31)) = true := by kernel_rfl
theorem c149 : kSs ck n149 b149 (defScope (tpS 32)) (defBody (tpS 32)) = true := by kernel_rfl
theorem s149 : C8.scC n149 p149 (defScope (tpS 32)) = true := by kernel_rfl
theorem c109 : kSs ck n109 b109 (defScope (tpS 33)) (defBody (tpS 33)) = true := by kernel_rfl
theorem s109 : C8.scC n109 p109 (defScope (tpS 33)) = true := by kernel_rfl
theorem c110 : kSs ck n110 b110 (defScope (tpS 34)) (defBody (tpS 34)) = true := by kernel_rfl
theorem s110 : C8.scC n110 p110 (defScope (tpS 34)) = true := by kernel_rfl
theorem c167 : kSs ck n167 b167 (defScope (tpS 35)) (defBody (tpS 35)) = true := by kernel_rfl
theorem s167 : C8.scC n167 p167 (defScope (tpS 35)) = true := by kernel_rfl
theorem c35 : kSs ck n35 b35 (defScope (tpS 44)) (defBody (tpS 44)) = true := by kernel_rfl
theorem s35 : C8.scC n35 p35 (defScope (tpS 44)) = true := by kernel_rfl
theorem c39 : kSs ck n39 b39 (defScope (tpS 45)) (defBody (tpS 45)) = true := by kernel_rfl
theorem s39 : C8.scC n39 p39 (defScope (tpS 45)) = true := by kernel_rfl
theorem c40 : kSs ck n40 b40 (defScope (tpS 46)) (defBody (tpS 46)) = true := by kernel_rfl
theorem s40 : C8.scC n40 p40 (defScope (tpS 46)) = true := by kernel_rfl
theorem c75 : kSs ck n75 b75 (defScope (tpS 47)) (defBody (tpS 47)) = true := by kernel_rfl
theorem s75 : C8.scC n75 p75 (defScope (tpS 47)) = true := by kernel_rfl
theorem c124 : kSs ck n124 b124 (defScope (tpS 53)) (defBody (tpS 53)) = true := by kernel_rfl
theorem s124 : C8.scC n124 p124 (defScope (tpS 53)) = true := by kernel_rfl
theorem c126 : kSs ck n126 b126 (defScope (tpS 54)) (defBody (tpS 54)) = true := by kernel_rfl
theorem s126 : C8.scC n126 p126 (defScope (tpS 54)) = true := by kernel_rfl
theorem c152 : kSs ck n152 b152 (defScope (tpS 55)) (defBody (tpS 55)) = true := by kernel_rfl
theorem s152 : C8.scC n152 p152 (defScope (tpS 55)) = true := by kernel_rfl
theorem c153 : kSs ck n153 b153 (defScope (tpS 56)) (defBody (tpS 56)) = true := by kernel_rfl
theorem s153 : C8.scC n153 p153 (defScope (tpS 56)) = true := by kernel_rfl
theorem c132 : kSs ck n132 b132 (defScope (tpS 59)) (defBody (tpS 59)) = true := by kernel_rfl
theorem s132 : C8.scC n132 p132 (defScope (tpS 59)) = true := by kernel_rfl
theorem c155 : kSs ck n155 b155 (defScope (tpS 60)) (defBody (tpS 60)) = true := by kernel_rfl
theorem s155 : C8.scC n155 p155 (defScope (tpS 60)) = true := by kernel_rfl
theorem c168 : kSs ck n168 b168 (defScope (tpS 61)) (defBody (tpS 61)) = true := by kernel_rfl
theorem s168 : C8.scC n168 p168 (defScope (tpS 61)) = true := by kernel_rfl
theorem c112 : kSs ck n112 b112 (defScope (tpS 64)) (defBody (tpS 64)) = true := by kernel_rfl
theorem s112 : C8.scC n112 p112 (defScope (tpS 64)) = true := by kernel_rfl
theorem c78 : kSs ck n78 b78 (defScope (tpS 66)) (defBody (tpS 66)) = true := by kernel_rfl
theorem s78 : C8.scC n78 p78 (defScope (tpS 66)) = true := by kernel_rfl
theorem c169 : kSs ck n169 b169 (defScope (tpS 67)) (defBody (tpS 67)) = true := by kernel_rfl
theorem s169 : C8.scC n169 p169 (defScope (tpS 67)) = true := by kernel_rfl
theorem c170 : kSs ck n170 b170 (defScope (tpS 69)) (defBody (tpS 69)) = true := by kernel_rfl
theorem s170 : C8.scC n170 p170 (defScope (tpS 69)) = true := by kernel_rfl
theorem c50 : kSs ck n50 b50 (defScope (tpS 70)) (defBody (tpS 70)) = true := by kernel_rfl
theorem s50 : C8.scC n50 p50 (defScope (tpS 70)) = true := by kernel_rfl
theorem c51 : kSs ck n51 b51 (defScope (tpS 71)) (defBody (tpS 71)) = true := by kernel_rfl
theorem s51 : C8.scC n51 p51 (defScope (tpS 71)) = true := by kernel_rfl
theorem c52 : kSs ck n52 b52 (defScope (tpS 72)) (defBody (tpS 72)) = true := by kernel_rfl
theorem s52 : C8.scC n52 p52 (defScope (tpS 72)) = true := by kernel_rfl
theorem c53 : kSs ck n53 b53 (defScope (tpS 73)) (defBody (tpS 73)) = true := by kernel_rfl
theorem s53 : C8.scC n53 p53 (defScope (tpS 73)) = true := by kernel_rfl
theorem c54 : kSs ck n54 b54 (defScope (tpS 74)) (defBody (tpS 74)) = true := by kernel_rfl
theorem s54 : C8.scC n54 p54 (defScope (tpS 74)) = true := by kernel_rfl
theorem c55 : kSs ck n55 b55 (defScope (tpS 75)) (defBody (tpS 75)) = true := by kernel_rfl
theorem s55 : C8.scC n55 p55 (defScope (tpS 75)) = true := by kernel_rfl
theorem c56 : kSs ck n56 b56 (defScope (tpS 76)) (defBody (tpS 76)) = true := by kernel_rfl
theorem s56 : C8.scC n56 p56 (defScope (tpS 76)) = true := by kernel_rfl
theorem c57 : kSs ck n57 b57 (defScope (tpS 77)) (defBody (tpS 77)) = true := by kernel_rfl
theorem s57 : C8.scC n57 p57 (defScope (tpS 77)) = true := by kernel_rfl
theorem c58 : kSs ck n58 b58 (defScope (tpS 78)) (defBody (tpS 78)) = true := by kernel_rfl
theorem s58 : C8.scC n58 p58 (defScope (tpS 78)) = true := by kernel_rfl
theorem c59 : kSs ck n59 b59 (defScope (tpS 79)) (defBody (tpS 79)) = true := by kernel_rfl
theorem s59 : C8.scC n59 p59 (defScope (tpS 79)) = true := by kernel_rfl
theorem c157 : kSs ck n157 b157 (defScope (tpS 81)) (defBody (tpS 81)) = true := by kernel_rfl
theorem s157 : C8.scC n157 p157 (defScope (tpS 81)) = true := by kernel_rfl
theorem c158 : kSs ck n158 b158 (defScope (tpS 82)) (defBody (tpS 82)) = true := by kernel_rfl
theorem s158 : C8.scC n158 p158 (defScope (tpS 82)) = true := by kernel_rfl
theorem c159 : kSs ck n159 b159 (defScope (tpS 83)) (defBody (tpS 83)) = true := by kernel_rfl
theorem s159 : C8.scC n159 p159 (defScope (tpS 83)) = true := by kernel_rfl
theorem c172 : kSs ck n172 b172 (defScope (tpS 87)) (defBody (tpS 87)) = true := by kernel_rfl
theorem s172 : C8.scC n172 p172 (defScope (tpS 87)) = true := by kernel_rfl
theorem c173 : kSs ck n173 b173 (defScope (tpS 88)) (defBody (tpS 88)) = true := by kernel_rfl
theorem s173 : C8.scC n173 p173 (defScope (tpS 88)) = true := by kernel_rfl
theorem c174 : kSs ck n174 b174 (defScope (tpS 89)) (defBody (tpS 89)) = true := by kernel_rfl
theorem s174 : C8.scC n174 p174 (defScope (tpS 89)) = true := by kernel_rfl
theorem c175 : kSs ck n175 b175 (defScope (tpS 90)) (defBody (tpS 90)) = true := by kernel_rfl
theorem s175 : C8.scC n175 p175 (defScope (tpS 90)) = true := by kernel_rfl
theorem c176 : kSs ck n176 b176 (defScope (tpS 91)) (defBody (tpS 91)) = true := by kernel_rfl
theorem s176 : C8.scC n176 p176 (defScope (tpS 91)) = true := by kernel_rfl
theorem c177 : kSs ck n177 b177 (defScope (tpS 92)) (defBody (tpS 92)) = true := by kernel_rfl
theorem s177 : C8.scC n177 p177 (defScope (tpS 92)) = true := by kernel_rfl
end Lw

set_option Elab.async false
set_option linter.all false
set_option maxRecDepth 100000
/-! Texts parted by a sign. -/
namespace PL
theorem splitC_ne (c : Nat) : ∀ s : List Nat, splitC c s ≠ []
  | [] => by simp [splitC]
  | y :: r => by
    unfold splitC
    split
    · simp
    · split <;> simp
theorem splitC_none {c : Nat} : ∀ {s : List Nat}, c ∉ s → splitC c s = [s]
  | [], _ => rfl
  | y :: r, h => by
    have h1 : y ≠ c := fun e => h (e ▸ List.mem_cons_self)
    have h2 : c ∉ r := fun z => h (List.mem_cons_of_mem _ z)
    rw [splitC, if_neg h1, splitC_none h2]
theorem splitC_app {c : Nat} {t : List Nat} : ∀ {s : List Nat}, c ∉ s → splitC c (s ++ c :: t) = s :: splitC c t
  | [], _ => by
    show splitC c (c :: t) = _
    rw [splitC]
    exact if_pos rfl
  | y :: r, h => by
    have h1 : y ≠ c := fun e => h (e ▸ List.mem_cons_self)
    have h2 : c ∉ r := fun z => h (List.mem_cons_of_mem _ z)
    show splitC c (y :: (r ++ c :: t)) = _
    rw [splitC, if_neg h1, splitC_app h2]
/-- words joined by a sign that none of them has, cut there -/
theorem splitC_join {c : Nat} : ∀ {ws : List (List Nat)}, ws ≠ [] → (∀ w ∈ ws, c ∉ w) → splitC c (joinL [c] ws) = ws
  | [], h, _ => absurd rfl h
  | [w], _, h => splitC_none (h w (by simp))
  | w :: v :: r, _, h => by
    show splitC c (w ++ ([c] ++ joinL [c] (v :: r))) = _
    rw [show w ++ ([c] ++ joinL [c] (v :: r)) = w ++ c :: joinL [c] (v :: r) from by simp, splitC_app (h w (by simp)), splitC_join (by simp) fun x hx => h x (List.mem_cons_of_mem _ hx)]
end PL

set_option Elab.async false
set_option linter.all false
set_option maxRecDepth 100000
set_option maxHeartbeats 1000000
namespace Lw
open PL
/-! ### drawing -/
theorem sp_draw {n : Nat} (hn : 1 ≤ n) {st : Sto} {i : Nat} {a b c m : Int} (hi : st[i]? = some (pot3 a b c)) (h0 : 0 < m) (h1 : m < 1073741824) :
    ∃ a' b' c' r, 0 ≤ r ∧ r < m ∧ PL.call T Gc 100000 n 50 [.lst i, .int m] st = .ok (.int r) (st.set i (pot3 a' b' c')) := by
  obtain ⟨k, rfl⟩ : ∃ k, n = k + 1 := ⟨n - 1, by omega⟩
  have hl : i < st.length := (List.getElem?_eq_some_iff.mp hi).1
  have hs : ∀ o : Obj, (st.set i o)[i]? = some o := fun o => List.getElem?_set_self hl
  have ix : ∀ k : Int, ixD st (.lst i) k = atI [.int a, .int b, .int c] k := fun k => ix_lst hi
  have ixs : ∀ (ds : List D) (k : Int), ixD (st.set i (.lst ds)) (.lst i) k = atI ds k := fun ds k => ix_lst (hs _)
  by_cases ha : 0 < a
  · refine ⟨a / m, b, c, a % m, Int.emod_nonneg _ (by omega), Int.emod_lt_of_pos _ h0, call_rt (F := ⟨2, 3, b50⟩) rfl rfl (by simp) ?_⟩
    simp [b50, hi, pot3, ix, atI, ixN, ha, h0, h1]
  · have sm : small (b % 10007 + 20011) = true := by
      have := Int.emod_nonneg b (b := 10007) (by decide)
      have := Int.emod_lt_of_pos b (b := 10007) (by decide)
      simp [small]
      omega
    have s6 : small 60013 = true := rfl
    refine ⟨a, (b * (b % 10007 + 20011) + 60013 * (c + 1) + 61) % 2147483563, c + 1, _, Int.emod_nonneg ((b * (b % 10007 + 20011) + 60013 * (c + 1) + 61) % 2147483563 / 97) (by omega), Int.emod_lt_of_pos _ h0, call_rt (F := ⟨2, 3, b50⟩) rfl rfl (by simp) ?_⟩
    simp [b50, hi, hs, pot3, ix, ixs, atI, ixN, ha, h0, sm, s6]
/-! ### the bag -/
theorem sp_pot {n : Nat} (hn : 1 ≤ n) {st : Sto} {ns : List Int} {t : Nat} (hl : ns.length ≤ 63) (ht : t ≤ 100) :
    ∃ a b c, PL.call T Gc 100000 n 170 [.scr (ns.map D.int), .int t] st = .ok (.lst st.length) (st ++ [pot3 a b c]) := by
  obtain ⟨k, rfl⟩ : ∃ k, n = k + 1 := ⟨n - 1, by omega⟩
  have s1 : small 7907 = true := rfl
  have s2 : small 10069 = true := rfl
  have s3 : small 69621 = true := rfl
  have cell : ∃ c : Int, ex (PL.call T Gc 100000 k) Gc 100000 (.asg (.var 2) (.ife (.cmp .lt (.var 1) (.blt .len (.cons (.var 0) .nil))) (.blt .int (.cons (.idx (.var 0) (.var 1)) .nil)) (.bin .add (.bin .add (.bin .mul (.int 7907) (.var 1)) (.int 37)) (.bin .mod (.blt .int (.cons (.blt .sum (.cons (.slc (.var 0) .none (.some (.int 3))) .nil)) .nil)) (.int 1000033)))))
      [some (.scr (ns.map D.int)), some (.int t), none, none, none] st = .ok (.nx [some (.scr (ns.map D.int)), some (.int t), some (.int c), none, none]) st := by
    by_cases h : t < ns.length
    · refine ⟨ns[t], ?_⟩
      simp [h, at_nat]
    · simp [h, s1, cut_map, ints_map]
  obtain ⟨c, hc⟩ := cell
  have hlen : (cut ns none (some 7)).length ≤ 63 := Nat.le_trans (cut_le _ _ _) hl
  obtain ⟨e, s, he, ⟨q, x, hq⟩, hs⟩ := ex_for (C := PL.call T Gc 100000 k) (G := Gc) (W := 100000) (t := .var 4) (it := .val (.bin .add (.slc (.var 0) .none (.some (.int 7))) (.list (.cons (.var 2) .nil))))
    (b := .cons (.asg (.var 3) (.bin .mod (.blt .int (.cons (.bin .add (.bin .add (.bin .mul (.var 3) (.int 69621)) (.bin .mod (.blt .int (.cons (.var 4) .nil)) (.int 2147483563))) (.int 23)) .nil)) (.int 2147483563))) .nil)
    (env := [some (.scr (ns.map D.int)), some (.int t), some (.int c), some (.int (1002637 + 10069 * t)), none]) (st := st) (ds := (cut ns none (some 7) ++ [c]).map D.int)
    (fun _ e s => (∃ (q : Int) (x : Option D), e = [some (.scr (ns.map D.int)), some (.int t), some (.int c), some (.int q), x]) ∧ s = st)
    (by
      have h1 : (cut ns none (some 7)).length + 1 ≤ 16777216 := by omega
      simp [cut_map, h1]) ⟨⟨_, _, rfl⟩, rfl⟩ (fun i d hd e s ⟨⟨q, x, he⟩, hs⟩ => by
      subst he hs
      rw [List.getElem?_map] at hd
      obtain ⟨z, _, rfl⟩ := Option.map_eq_some_iff.mp hd
      exact ⟨_, _, .inl (by simp [s3]; exact ⟨rfl, rfl⟩), ⟨_, _, rfl⟩, rfl⟩)
  subst hq hs
  have s4 : small 10069 = true := rfl
  refine ⟨if decide (c < 0) || decide (1000000000000000000 ≤ c) then (if c < 0 then -c else c) % 10 ^ 64 else 0, q, 0, ?_⟩
  rw [call_eq (F := ⟨2, 5, b170⟩) rfl rfl]
  show fin _ (exs _ _ _ (.cons _ (.cons _ (.cons _ _))) [some (.scr (ns.map D.int)), some (.int t), none, none, none] _) = _
  rw [exs_cons hc, exs_cons (env' := [some (.scr (ns.map D.int)), some (.int t), some (.int c), some (.int (1002637 + 10069 * t)), none]) (st' := s) (by simp [s2]), exs_cons he]
  have p1 : iop .pow 10 18 = some 1000000000000000000 := rfl
  have p2 : iop .pow 10 64 = some (10 ^ 64) := rfl
  by_cases h1 : c < 0
  · simp [p1, p2, h1, fin, back, refsLt, pot3]
  · by_cases h2 : 1000000000000000000 ≤ c
    · simp [p1, p2, h1, h2, fin, back, refsLt, pot3]
    · simp [p1, p2, h1, h2, fin, back, refsLt, pot3]
/-- data, so many levels deep at most -/
def Plain : Nat → D → Prop
  | 0, d => (match d with | .int _ => True | .bl _ => True | .non => True | _ => False)
  | k + 1, d => (match d with | .int _ => True | .bl _ => True | .non => True | .tup ds => ds.length < 1000 ∧ ∀ d ∈ ds, Plain k d | .frz ds => ds.length < 1000 ∧ ∀ d ∈ ds, Plain k d | _ => False)
theorem sp_pick {n : Nat} (hn : 2 ≤ n) {st : Sto} {i : Nat} {a b c : Int} {ds : List D} (hi : st[i]? = some (pot3 a b c)) (h0 : 0 < ds.length) (h1 : ds.length < 1000000) :
    ∃ a' b' c' d, d ∈ ds ∧ PL.call T Gc 100000 n 51 [.lst i, .tup ds] st = .ok d (st.set i (pot3 a' b' c')) := by
  obtain ⟨k, rfl⟩ : ∃ k, n = k + 1 := ⟨n - 1, by omega⟩
  obtain ⟨a', b', c', r, r0, r1, e⟩ := sp_draw (n := k) (by omega) hi (m := (ds.length : Nat)) (by omega) (by omega)
  obtain ⟨j, rfl⟩ : ∃ j : Nat, r = j := ⟨r.toNat, by omega⟩
  have hj : j < ds.length := by omega
  refine ⟨a', b', c', ds[j], List.getElem_mem _, call_rt (F := ⟨2, 2, b51⟩) rfl rfl (by simp) ?_⟩
  simp [b51, e, at_nat hj, hj]
/-! ### the same -/
def eSame : E := .comp [2] (.call 52 (.cons (.idx (.var 0) (.var 2)) (.cons (.idx (.var 1) (.var 2)) .nil))) (.var 2) (.rng1 (.blt .len (.cons (.var 1) .nil))) .none
theorem rng_nat {n : Nat} (h : n < 1000000) : rngOk (n : Int) = true := by
  simp only [rngOk, Bool.and_eq_true, decide_eq_true_eq]
  omega
theorem same_leaf (k : Nat) (d : D) (h : (match d with | .int _ => True | .bl _ => True | .non => True | _ => False)) : Cl T Gc 100000 (k + 1) 52 [d, d] (.bl true) := by
  refine Cl.rt (F := ⟨2, 3, b52⟩) rfl rfl fun n hn st => ?_
  show exs _ _ _ b52 [some d, some d, none] st = _
  cases d with
  | int i => simp [b52]
  | bl i => simp [b52]
  | non => simp [b52]
  | _ => exact h.elim
theorem same_ev {C : Nat → List D → Sto → R D} {d : D} {ds : List D} {st : Sto} (hd : d = .tup ds ∨ d = .frz ds) (hl : ds.length < 1000) (ih : ∀ d ∈ ds, ∀ st, C 52 [d, d] st = .ok (.bl true) st) : exs C Gc 100000 b52 [some d, some d, none] st = .ok (.rt (.bl true)) st := by
  have hr := rng_nat (n := ds.length) (by omega)
  have hc : ev C Gc eSame [some d, some d, none] st = .ok (.frz ((List.range ds.length).filterMap fun _ => some (.bl true))) st := by
    refine ev_lcm (fun k => .int (k : Nat)) _ _ (by rcases hd with rfl | rfl <;> simp [hr, rng_map]) (by simp; omega) fun a ha => ?_
    have ha : a < ds.length := by simpa using ha
    rcases hd with rfl | rfl <;> simp [compB, wipe, at_nat ha, ha, ih]
  unfold eSame at hc
  rcases hd with rfl | rfl <;> simp [b52, hc]
theorem same_seq {k : Nat} {d : D} {ds : List D} (ih : ∀ d, Plain k d → Cl T Gc 100000 (k + 1) 52 [d, d] (.bl true)) (hd : d = .tup ds ∨ d = .frz ds) (hl : ds.length < 1000) (h : ∀ d ∈ ds, Plain k d) : Cl T Gc 100000 (k + 1 + 1) 52 [d, d] (.bl true) :=
  Cl.rt (F := ⟨2, 3, b52⟩) rfl rfl fun n hn st => same_ev hd hl fun d hd st => ih d (h d hd) n hn st
theorem sp_same (k : Nat) : ∀ d : D, Plain k d → Cl T Gc 100000 (k + 1) 52 [d, d] (.bl true) := by
  induction k with
  | zero => exact fun d h => same_leaf 0 d h
  | succ k ih =>
    intro d h
    cases d with
    | int i => exact same_leaf _ _ trivial
    | bl i => exact same_leaf _ _ trivial
    | non => exact same_leaf _ _ trivial
    | tup ds => exact same_seq ih (.inl rfl) h.1 h.2
    | frz ds => exact same_seq ih (.inr rfl) h.1 h.2
    | _ => exact h.elim
/-! ### forms -/
abbrev pic (p : List Int) : D := .tup (p.map D.int)
theorem sp_whole (i : Int) : Cl T Gc 100000 1 0 [.int i] (.bl true) := Cl.rt (F := ⟨1, 1, b0⟩) rfl rfl fun n hn st => by
  show exs _ _ _ b0 [some (.int i)] st = _
  simp [b0]
theorem sp_between (v lo hi : Int) : Cl T Gc 100000 2 1 [.int v, .int lo, .int hi] (.bl (decide (lo ≤ v) && decide (v ≤ hi))) := Cl.rt (k := 1) (F := ⟨3, 3, b1⟩) rfl rfl fun n hn st => by
  show exs _ _ _ b1 [some (.int v), some (.int lo), some (.int hi)] st = _
  have h := sp_whole v n hn
  by_cases h1 : lo ≤ v <;> simp [b1, h, h1]
theorem shl_one {m : Nat} (h : m ≤ 100) : iop .shl 1 (m : Int) = some (2 ^ m) := by
  show (if decide (0 ≤ (m : Int)) && (decide ((m : Int) ≤ 1000000) && decide ((1 : Int).natAbs < 2 ^ 64)) then some ((1 : Int) * 2 ^ ((m : Int).toNat)) else none) = _
  rw [if_pos]
  · simp
  · simp
    omega
theorem sp_places {m : Nat} (h : m ≤ 100) : Cl T Gc 100000 1 5 [.int (m : Nat)] (.int (2 ^ m)) := Cl.rt (F := ⟨1, 1, b5⟩) rfl rfl fun n hn st => by
  show exs _ _ _ b5 [some (.int (m : Nat))] st = _
  simp [b5, shl_one h]
def Pic (m : Nat) (p : List Int) : Prop := 1 ≤ m ∧ m ≤ 4 ∧ p.length = 2 ^ m ∧ ∀ x ∈ p, 0 ≤ x ∧ x ≤ 99
theorem Pic.len {m : Nat} {p : List Int} (h : Pic m p) : p.length ≤ 16 := by
  obtain ⟨h1, h2, h3, _⟩ := h
  rw [h3]
  exact Nat.le_trans (Nat.pow_le_pow_right (n := 2) (by decide) h2) (by decide)
theorem two_inj {a b : Nat} (h : (2 : Int) ^ a = 2 ^ b) : a = b := by
  have h2 : (2 : Nat) ^ a = 2 ^ b := by exact_mod_cast h
  exact (Nat.pow_right_inj (by decide)).mp h2
theorem sp_picof {m k : Nat} {p : List Int} (h : Pic m p) (hk : k ≤ 4) : Cl T Gc 100000 3 6 [.int (k : Nat), pic p] (.bl (decide (k = m))) := Cl.rt (k := 2) (F := ⟨2, 3, b6⟩) rfl rfl fun n hn st => by
  show exs _ _ _ b6 [some (.int (k : Nat)), some (pic p), none] st = _
  have g : Gc 2 = .int 99 := rfl
  have hp := sp_places (m := k) (by omega) n (by omega)
  have hl := h.len
  have hb : ∀ (v : Int) st, PL.call T Gc 100000 n 1 [.int v, .int 0, .int 99] st = .ok (.bl (decide (0 ≤ v) && decide (v ≤ 99))) st := fun v => sp_between v 0 99 n hn
  have hc : ev (PL.call T Gc 100000 n) Gc (.comp [2] (.call 1 (.cons (.var 2) (.cons (.int 0) (.cons (.glb 2) .nil)))) (.var 2) (.val (.var 1)) .none) [some (.int (k : Nat)), some (pic p), none] st = .ok (.frz (p.filterMap fun x => some (.bl (decide (0 ≤ x) && decide (x ≤ 99))))) st := by
    refine ev_lcm D.int _ _ (by simp [pic]) (by omega) fun a ha => ?_
    simp [compB, wipe, g, hb]
  by_cases hm : k = m
  · subst hm
    have e : ((p.length : Int) == 2 ^ k) = true := by
      rw [h.2.2.1]
      simp
    have all : (p.map fun x => decide (0 ≤ x) && decide (x ≤ 99)).all id = true := by
      rw [List.all_eq_true]
      intro b hb
      obtain ⟨x, hx, rfl⟩ := List.mem_map.mp hb
      have := h.2.2.2 x hx
      simp [this.1, this.2]
    simp [b6, pic, hp, e, hc, all]
  · have e : ((p.length : Int) == 2 ^ k) = false := by
      rw [h.2.2.1]
      apply beq_false_of_ne
      intro z
      exact hm (two_inj (by exact_mod_cast z.symm))
    simp [b6, pic, hp, e, hm]
theorem sp_pictured {m : Nat} {p : List Int} (h : Pic m p) : Cl T Gc 100000 4 7 [pic p] (.bl true) := Cl.rt (k := 3) (F := ⟨1, 2, b7⟩) rfl rfl fun n hn st => by
  show exs _ _ _ b7 [some (pic p), none] st = _
  have g : Gc 1 = .int 4 := rfl
  have hb : ∀ k, k < 4 → ∀ st, PL.call T Gc 100000 n 6 [.int (1 + (k : Nat)), pic p] st = .ok (.bl (decide (k + 1 = m))) st := fun k hk st => by
    have := sp_picof h (k := k + 1) (by omega) n hn st
    rw [show (1 + (k : Nat) : Int) = ((k + 1 : Nat) : Int) by omega]
    exact this
  have r : rngOk 1 = true := rfl
  have r5 : rngOk 5 = true := rfl
  have hc : ev (PL.call T Gc 100000 n) Gc (.comp [1] (.call 6 (.cons (.var 1) (.cons (.var 0) .nil))) (.var 1) (.rng2 (.int 1) (.bin .add (.glb 1) (.int 1))) .none) [some (pic p), none] st = .ok (.frz ((List.range 4).filterMap fun k => some (.bl (decide (k + 1 = m))))) st := by
    refine ev_lcm (fun k => .int (1 + (k : Nat))) _ _ (by simp [g, r, r5, rng_map]) (by simp) fun a ha => ?_
    simp [compB, wipe, hb a (by simpa using ha)]
  have any : ((List.range 4).map fun k => decide (k + 1 = m)).any id = true := by
    rw [List.any_eq_true]
    exact ⟨true, List.mem_map.mpr ⟨m - 1, by have := h.1; have := h.2.1; simp; omega, by have := h.1; simp; omega⟩, rfl⟩
  simp only [b7, es_cons, e_ret, x_blt, xs_cons, xs_nil, hc, bind_ok, b_any, lv_frz, Option.bind_some, fm_some, bls_m, Option.map_some, any, oD_some]
theorem sp_ckpic {m : Nat} {p : List Int} (h : Pic m p) : Cl T Gc 100000 5 35 [pic p] .non := Cl.nx (k := 4) (F := ⟨1, 1, b35⟩) rfl rfl fun n hn st => by
  refine ⟨[some (pic p)], ?_⟩
  show exs _ _ _ b35 [some (pic p)] st = _
  simp [b35, sp_pictured h n hn]
theorem sp_lots {m : Nat} {p : List Int} (h : Pic m p) : Cl T Gc 100000 1 9 [pic p] (.int m) := Cl.rt (F := ⟨1, 1, b9⟩) rfl rfl fun n hn st => by
  show exs _ _ _ b9 [some (pic p)] st = _
  have e : bitLen (p.length : Int) - 1 = m := by
    obtain ⟨h1, h2, h3, _⟩ := h
    rw [h3]
    have : m = 1 ∨ m = 2 ∨ m = 3 ∨ m = 4 := by omega
    rcases this with rfl | rfl | rfl | rfl <;> decide +kernel
  have hm : ∀ st, mcall st .bitlen (.int (p.length : Int)) [] = .ok (.int (bitLen (p.length : Int))) st := fun st => rfl
  have ho : mOk .bitlen (.int (p.length : Int)) = true := rfl
  simp [b9, pic, hm, ho, e]
/-! letters and choices -/
def zc (q : Nat) : List Nat := ((List.range 4).filter fun k => q / 2 ^ k % 2 = 1).map (65 + ·)
theorem sp_lotof {k : Nat} (h : k < 4) : Cl T Gc 100000 1 10 [.str [65 + k]] (.int (k : Nat)) := Cl.rt (F := ⟨1, 1, b10⟩) rfl rfl fun n hn st => by
  show exs _ _ _ b10 [some (.str [65 + k])] st = _
  have g : Gc 0 = .str [65, 66, 67, 68] := rfl
  have hm : mcall st .index (.str [65, 66, 67, 68]) [.str [65 + k]] = .ok (.int (k : Nat)) st := by
    have : k = 0 ∨ k = 1 ∨ k = 2 ∨ k = 3 := by omega
    rcases this with rfl | rfl | rfl | rfl <;> rfl
  have ho : mOk .index (.str [65, 66, 67, 68]) = true := rfl
  simp [b10, g, hm, ho]
theorem zc_sum : ∀ q < 16, (((List.range 4).filter fun k => q / 2 ^ k % 2 = 1).map fun k => ((2 : Int) ^ k)).sum = (q : Nat) := by decide +kernel
theorem sp_index {q : Nat} (h : q < 16) : Cl T Gc 100000 2 11 [.str (zc q)] (.int (q : Nat)) := Cl.rt (k := 1) (F := ⟨1, 2, b11⟩) rfl rfl fun n hn st => by
  show exs _ _ _ b11 [some (.str (zc q)), none] st = _
  have hc : ev (PL.call T Gc 100000 n) Gc (.comp [1] (.bin .shl (.int 1) (.call 10 (.cons (.var 1) .nil))) (.var 1) (.val (.var 0)) .none) [some (.str (zc q)), none] st = .ok (.frz (((List.range 4).filter fun k => q / 2 ^ k % 2 = 1).filterMap fun k => some (.int (2 ^ k)))) st := by
    refine ev_lcm (fun k => .str [65 + k]) _ _ (by simp [zc, Function.comp_def]) (Nat.le_trans (List.length_filter_le _ _) (by simp)) fun a ha => ?_
    have ha : a < 4 := by
      have := (List.mem_filter.mp ha).1
      simpa using this
    simp [compB, wipe, sp_lotof ha n hn, shl_one (show a ≤ 100 by omega)]
  have e := zc_sum q h
  simp only [b11, es_cons, e_ret, x_blt, xs_cons, xs_nil, hc, bind_ok, b_sum, sv_frz, Option.bind_some, fm_some, ints_m, Option.map_some, oD_some, e]
theorem and_small : ∀ a < 16, ∀ b < 16, PySem.Builtin.bitAnd ((a : Nat) : Int) ((b : Nat) : Int) = ((a &&& b : Nat) : Int) := by decide +kernel
theorem or_small : ∀ a < 16, ∀ b < 16, PySem.Builtin.bitOr ((a : Nat) : Int) ((b : Nat) : Int) = ((a ||| b : Nat) : Int) := by decide +kernel
/-- the entries whose place passes a test -/
def msum (t : Nat → Bool) (p : List Int) : Int := ((p.zipIdx.filter fun q => t q.2).map (·.1)).sum
def size (k : Nat) : Nat := (zc k).length
def bsStep (F : List Int) (q : Int × Nat) : List Int := F.set (size q.2) (F.getD (size q.2) 0 + q.1)
def bs (m : Nat) (r : List Int) : List Int := r.zipIdx.foldl bsStep (List.replicate (m + 1) 0)
/-- the sieve -/
def sieveF (m : Nat) (p : List Int) : Int :=
  (((bs m ((List.range p.length).map fun ix => msum (fun a => (a &&& ix) == ix) p)).zipIdx.filter fun q => decide (1 ≤ (q.2 : Int)) && decide ((q.2 : Int) ≤ m)).map fun q => 0 - (if q.2 % 2 = 0 then 1 else -1) * q.1).sum
theorem sp_textof (z s : List Nat) (hz : z.length ≤ 16) : Cl T Gc 100000 1 2 [.str z, .str s] (.bl (z.all fun c => decide (c ∈ s))) := Cl.rt (F := ⟨2, 3, b2⟩) rfl rfl fun n hn st => by
  show exs _ _ _ b2 [some (.str z), some (.str s), none] st = _
  have hc : ev (PL.call T Gc 100000 n) Gc (.comp [2] (.cmp .mem (.var 2) (.var 1)) (.var 2) (.val (.var 0)) .none) [some (.str z), some (.str s), none] st = .ok (.frz (z.filterMap fun c => some (.bl (decide (c ∈ s))))) st := by
    refine ev_lcm (fun c => .str [c]) _ _ (by simp) (by omega) fun a ha => ?_
    have : ∀ st, cop st .mem (.str [a]) (.str s) = some (decide (a ∈ s)) := fun _ => rfl
    simp [compB, wipe, this]
  rw [fm_some] at hc
  have e : (z.map fun c => decide (c ∈ s)).all id = z.all fun c => decide (c ∈ s) := by
    rw [List.all_map]
    rfl
  simp only [b2, es_cons, e_ret, x_and, x_isi, x_var, List.getElem?_cons_zero, bind_ok, is_str, Option.map_some, oD_some, tru_bl, if_true, x_blt, xs_cons, xs_nil, hc, b_all, lv_frz, Option.bind_some, bls_m, e]
theorem zc_len (q : Nat) : (zc q).length ≤ 4 := by
  unfold zc
  rw [List.length_map]
  exact Nat.le_trans (List.length_filter_le _ _) (by simp)
def lt1 (p : Nat × Nat) : Bool := decide (([p.1] : List Nat) < [p.2])
theorem zc_ok : ∀ m ≤ 4, ∀ q < 2 ^ m, ((zc q).all fun c => decide (c ∈ cut [65, 66, 67, 68] none (some (m : Nat)))) = true ∧ (((zc q).zip (cut (zc q) (some 1) none)).map lt1).all id = true := by decide +kernel
theorem sp_ischoice {m q : Nat} (hm : m ≤ 4) (hq : q < 2 ^ m) : Cl T Gc 100000 2 8 [.int (m : Nat), .str (zc q)] (.bl true) := Cl.rt (k := 1) (F := ⟨2, 4, b8⟩) rfl rfl fun n hn st => by
  show exs _ _ _ b8 [some (.int (m : Nat)), some (.str (zc q)), none, none] st = _
  have g : Gc 0 = .str [65, 66, 67, 68] := rfl
  obtain ⟨z1, z2⟩ := zc_ok m hm q hq
  have hl := zc_len q
  have t1 := sp_textof (zc q) (cut [65, 66, 67, 68] none (some (m : Nat))) (by omega) n hn
  rw [z1] at t1
  have hcl : (cut (zc q) (some 1) none).length ≤ 4 := Nat.le_trans (cut_le _ _ _) hl
  have hc : ev (PL.call T Gc 100000 n) Gc (.comp [2, 3] (.cmp .lt (.var 2) (.var 3)) (.tup (.cons (.var 2) (.cons (.var 3) .nil))) (.zip (.var 1) (.slc (.var 1) (.some (.int 1)) .none)) .none) [some (.int (m : Nat)), some (.str (zc q)), none, none] st =
      .ok (.frz (((zc q).zip (cut (zc q) (some 1) none)).filterMap fun p => some (.bl (lt1 p)))) st := by
    refine ev_lcm (fun p : Nat × Nat => .tup [.str [p.1], .str [p.2]]) _ _ ?_ (by simp; omega) fun a ha => ?_
    · have e : zipD ((zc q).map fun c => D.str [c]) ((cut (zc q) (some 1) none).map fun c => D.str [c]) = ((zc q).zip (cut (zc q) (some 1) none)).map fun p => .tup [.str [p.1], .str [p.2]] := by
        unfold zipD
        rw [List.zip_map, List.map_map]
        rfl
      have h1 : (zc q).length ≤ 16777216 := by omega
      simp [h1, e]
    · have : ∀ st, cop st .lt (.str [a.1]) (.str [a.2]) = some (lt1 a) := fun _ => rfl
      simp [compB, wipe, this]
  rw [fm_some] at hc
  have h4 : ([65, 66, 67, 68] : List Nat).length ≤ 16777216 := by decide
  simp only [b8, es_cons, e_ret, x_and, x_call, xs_cons, xs_nil, x_slc, x_glb, g, xo_none, xo_some, x_var, toI_int, List.getElem?_cons_zero, List.getElem?_cons_succ, bind_ok, sl_str, szOk_iff, h4, if_true, oD_some, t1, tru_bl, x_blt, hc, b_all, lv_frz, Option.bind_some, bls_m, Option.map_some, z2]
theorem let_ok : ∀ m ≤ 4, ∀ k < m, (([65 + k] : List Nat).all fun c => decide (c ∈ cut [65, 66, 67, 68] none (some (m : Nat)))) = true := by decide +kernel
theorem sp_isletter {m k : Nat} (hm : m ≤ 4) (hk : k < m) : Cl T Gc 100000 2 69 [.int (m : Nat), .str [65 + k]] (.bl true) := Cl.rt (k := 1) (F := ⟨2, 2, b69⟩) rfl rfl fun n hn st => by
  show exs _ _ _ b69 [some (.int (m : Nat)), some (.str [65 + k])] st = _
  have g : Gc 0 = .str [65, 66, 67, 68] := rfl
  have t1 := sp_textof [65 + k] (cut [65, 66, 67, 68] none (some (m : Nat))) (by simp) n hn
  rw [let_ok m hm k hk] at t1
  have h4 : ([65, 66, 67, 68] : List Nat).length ≤ 16777216 := by decide
  have h5 : ([65 + k] : List Nat).length ≤ 16777216 := by simp
  have h6 : ((([65 + k] : List Nat).length : Int) == 1) = true := rfl
  simp only [b69, es_cons, e_ret, x_and, x_call, xs_cons, xs_nil, x_slc, x_glb, g, xo_none, xo_some, x_var, x_int, toI_int, List.getElem?_cons_zero, List.getElem?_cons_succ, bind_ok, sl_str, szOk_iff, h4, h5, if_true, oD_some, t1, tru_bl, x_cmp, x_blt, b_len, len_str, Option.map_some, c_eqI, h6]
theorem sp_ckchoice {m q : Nat} (hm : m ≤ 4) (hq : q < 2 ^ m) : Cl T Gc 100000 3 39 [.int (m : Nat), .str (zc q)] .non := Cl.nx (k := 2) (F := ⟨2, 2, b39⟩) rfl rfl fun n hn st => by
  refine ⟨[some (.int (m : Nat)), some (.str (zc q))], ?_⟩
  show exs _ _ _ b39 [some (.int (m : Nat)), some (.str (zc q))] st = _
  simp [b39, sp_ischoice hm hq n hn]
theorem sp_ckpc {m q : Nat} {p : List Int} (h : Pic m p) (hq : q < 2 ^ m) : Cl T Gc 100000 6 40 [pic p, .str (zc q)] .non := Cl.nx (k := 5) (F := ⟨2, 2, b40⟩) rfl rfl fun n hn st => by
  refine ⟨[some (pic p), some (.str (zc q))], ?_⟩
  show exs _ _ _ b40 [some (pic p), some (.str (zc q))] st = _
  simp only [b40, es_cons, e_exp, x_call, xs_cons, xs_nil, x_var, List.getElem?_cons_zero, List.getElem?_cons_succ, bind_ok, sp_ckpic h n hn, sp_lots h n (by omega), sp_ckchoice h.2.1 hq n (by omega), es_nil]
theorem pow16 {m q : Nat} (hm : m ≤ 4) (hq : q < 2 ^ m) : q < 16 := Nat.lt_of_lt_of_le hq (Nat.le_trans (Nat.pow_le_pow_right (n := 2) (by decide) hm) (by decide))
theorem zc_one : ∀ k < 4, ([65 + k] : List Nat) = zc (2 ^ k) ∧ 2 ^ k < 16 := by decide +kernel
def nI (o : List Nat) : List Int := o.map fun k : Nat => (k : Int)
theorem nI_len (o : List Nat) : (nI o).length = o.length := by simp [nI]
theorem nI_D (o : List Nat) : (nI o).map D.int = o.map fun k => D.int (k : Nat) := by
  unfold nI
  rw [List.map_map]
  rfl
/-- the place that an order's place stood for -/
def oldP (o : List Nat) (q : Nat) : Nat := ((o.zipIdx.filter fun p => q / 2 ^ p.2 % 2 = 1).map fun p => 2 ^ p.1).sum
theorem bit_test : ∀ q < 16, ∀ k < 4, (PySem.Builtin.bitAnd (((q : Nat) : Int) / 2 ^ k) 1 == 1) = decide (q / 2 ^ k % 2 = 1) := by decide +kernel
theorem sum_cast (l : List Nat) : ((l.map fun k => ((2 : Int) ^ k)).sum) = ((l.map fun k => 2 ^ k).sum : Nat) := by
  induction l with
  | nil => rfl
  | cons a r ih => simp [ih]
theorem sp_old {o : List Nat} {q : Nat} (ho : o.length ≤ 4) (hk : ∀ k ∈ o, k < 4) (hq : q < 16) : Cl T Gc 100000 1 70 [pic (nI o), .int (q : Nat)] (.int (oldP o q : Nat)) := Cl.rt (F := ⟨2, 4, b70⟩) rfl rfl fun n hn st => by
  show exs _ _ _ b70 [some (pic (nI o)), some (.int (q : Nat)), none, none] st = _
  have sh : ∀ k : Nat, iop .shr (q : Int) (k : Int) = some ((q : Int) / 2 ^ k) := fun k => by
    show (if 0 ≤ (k : Int) then some ((q : Int) / 2 ^ ((k : Int).toNat)) else none) = _
    rw [if_pos (by omega)]
    simp
  have ba : ∀ i j : Int, iop .band i j = some (PySem.Builtin.bitAnd i j) := fun _ _ => rfl
  have hc : ev (PL.call T Gc 100000 n) Gc (.comp [2, 3] (.bin .shl (.int 1) (.var 3)) (.tup (.cons (.var 2) (.cons (.var 3) .nil))) (.enum (.var 0)) (.some (.cmp .eq (.bin .band (.bin .shr (.var 1) (.var 2)) (.int 1)) (.int 1)))) [some (pic (nI o)), some (.int (q : Nat)), none, none] st =
      .ok (.frz (o.zipIdx.filterMap fun p => if decide (q / 2 ^ p.2 % 2 = 1) then some (.int (2 ^ p.1)) else none)) st := by
    refine ev_lcm (fun p : Nat × Nat => .tup [.int (p.2 : Nat), .int (p.1 : Nat)]) _ _ ?_ (by simp; omega) fun a ha => ?_
    · simp only [xi_enum, x_var, List.getElem?_cons_zero, pic, bind_ok, walk_tup, oD_some, nI_D, enum_map]
    · have h2 : a.2 < 4 := by
        have := List.snd_lt_of_mem_zipIdx ha
        omega
      have h1 : a.1 < 4 := hk a.1 (List.fst_mem_of_mem_zipIdx ha)
      have bt := bit_test q hq a.2 h2
      by_cases hb : q / 2 ^ a.2 % 2 = 1
      · rw [decide_eq_true hb] at bt
        simp [compB, wipe, sh, ba, bt, hb, shl_one (show a.1 ≤ 100 by omega)]
      · rw [decide_eq_false hb] at bt
        simp [compB, wipe, sh, ba, bt, hb]
  rw [fm_if] at hc
  have e : ((o.zipIdx.filter fun p => decide (q / 2 ^ p.2 % 2 = 1)).map fun p => ((2 : Int) ^ p.1)).sum = (oldP o q : Nat) := by
    have := sum_cast ((o.zipIdx.filter fun p => decide (q / 2 ^ p.2 % 2 = 1)).map (·.1))
    rw [List.map_map, List.map_map] at this
    exact this
  simp only [b70, es_cons, e_ret, x_blt, xs_cons, xs_nil, hc, bind_ok, b_sum, sv_frz, Option.bind_some, ints_m, Option.map_some, oD_some, e]
/-- the picture under an order -/
def anew (o : List Nat) (p : List Int) : List Int := (List.range p.length).map fun q => p.getD (oldP o q) 0
theorem sp_anewby {m : Nat} {o : List Nat} {p : List Int} (h : Pic m p) (ho : o.length ≤ 4) (hk : ∀ k ∈ o, k < 4) (hold : ∀ q < 2 ^ m, oldP o q < 2 ^ m) : Cl T Gc 100000 2 77 [pic p, pic (nI o)] (pic (anew o p)) := Cl.rt (k := 1) (F := ⟨2, 3, b77⟩) rfl rfl fun n hn st => by
  show exs _ _ _ b77 [some (pic p), some (pic (nI o)), none] st = _
  have hlen := h.len
  have hr := rng_nat (n := p.length) (by omega)
  have hc : ev (PL.call T Gc 100000 n) Gc (.comp [2] (.idx (.var 0) (.call 70 (.cons (.var 1) (.cons (.var 2) .nil)))) (.var 2) (.rng1 (.blt .len (.cons (.var 0) .nil))) .none) [some (pic p), some (pic (nI o)), none] st =
      .ok (.frz ((List.range p.length).filterMap fun q => some (.int (p.getD (oldP o q) 0)))) st := by
    refine ev_lcm (fun k => .int (k : Nat)) _ _ (by simp [pic, hr, rng_map]) (by simp; omega) fun a ha => ?_
    have ha : a < p.length := by simpa using ha
    have h70 := sp_old (q := a) ho hk (by omega) n hn
    have hlt : oldP o a < p.length := by rw [h.2.2.1]; exact hold a (by rw [← h.2.2.1]; exact ha)
    have hat : atI (p.map D.int) ((oldP o a : Nat) : Int) = some (.int (p.getD (oldP o a) 0)) := by
      rw [at_nat (by rw [List.length_map]; exact hlt), List.getElem?_map, List.getD_eq_getElem?_getD, List.getElem?_eq_getElem hlt]
      rfl
    simp [compB, wipe, h70, hat]
  rw [fm_some] at hc
  have e : pic (anew o p) = .tup ((List.range p.length).map fun q => D.int (p.getD (oldP o q) 0)) := by
    unfold anew
    show D.tup _ = _
    rw [List.map_map]
    rfl
  rw [e]
  simp only [b77, es_cons, e_ret, x_blt, xs_cons, xs_nil, hc, bind_ok, b_tuple, sv_frz, Option.map_some, oD_some]
theorem dOk_int (k : Nat) (i : Int) : dOk k (.int i) = true := by cases k <;> rfl
theorem mem_ints (x : Int) (l : List Int) (st : Sto) : cop st .mem (.int x) (.tup (l.map D.int)) = some (decide (x ∈ l)) := by
  show (match sv st (.tup (l.map D.int)) with | some ds => if dOk 40 (top st (.int x)) && ds.all (dOk 40) then some (ds.any fun e => dEq e (top st (.int x))) else none | none => none) = _
  have h1 : (l.map D.int).all (dOk 40) = true := by
    rw [List.all_eq_true]
    intro d hd
    obtain ⟨i, _, rfl⟩ := List.mem_map.mp hd
    exact dOk_int 40 i
  have h2 : ((l.map D.int).any fun e => dEq e (.int x)) = decide (x ∈ l) := by
    induction l with
    | nil => rfl
    | cons a r ih =>
      have := ih (by
        rw [List.all_eq_true] at h1 ⊢
        exact fun d hd => h1 d (List.mem_cons_of_mem _ hd))
      simp only [List.map_cons, List.any_cons, this]
      show ((a == x) || decide (x ∈ r)) = decide (x ∈ a :: r)
      by_cases h : a = x
      · simp [h]
      · have h' : ¬ x = a := fun e => h e.symm
        simp [h, h', beq_false_of_ne h]
  show (if dOk 40 (.int x) && (l.map D.int).all (dOk 40) then some ((l.map D.int).any fun e => dEq e (.int x)) else none) = _
  rw [h1, dOk_int, h2]
  rfl
theorem sp_ckorder {m : Nat} {o : List Nat} (hm : m ≤ 4) (hl : o.length = m) (hk : ∀ k ∈ o, k < m) (nd : o.Nodup) : Cl T Gc 100000 3 75 [.int (m : Nat), pic (nI o)] .non := Cl.nx (k := 2) (F := ⟨2, 4, b75⟩) rfl rfl fun n hn st => by
  show ∃ e, exs _ _ _ (.cons _ (.cons _ (.cons _ .nil))) [some (.int (m : Nat)), some (pic (nI o)), none, none] st = _
  have s1 : ex (PL.call T Gc 100000 n) Gc 100000 (.ifs (.not (.isi (.var 1) .tuple)) (.cons (.rai 2 .non) .nil) .nil) [some (.int (m : Nat)), some (pic (nI o)), none, none] st = .ok (.nx [some (.int (m : Nat)), some (pic (nI o)), none, none]) st := by simp [pic]
  have e0 := nI_D o
  obtain ⟨e, s, he, ⟨x, y, hq⟩, hs⟩ := ex_for (C := PL.call T Gc 100000 n) (G := Gc) (W := 100000) (t := .tup (.cons (.var 2) (.cons (.var 3) .nil))) (it := .enum (.var 1))
    (b := .cons (.ifs (.or (.not (.call 1 (.cons (.var 3) (.cons (.int 0) (.cons (.bin .sub (.var 0) (.int 1)) .nil))))) (.cmp .mem (.var 3) (.slc (.var 1) .none (.some (.var 2))))) (.cons (.rai 2 (.var 2)) .nil) .nil) .nil)
    (env := [some (.int (m : Nat)), some (pic (nI o)), none, none]) (st := st) (ds := o.zipIdx.map fun q => .tup [.int (q.2 : Nat), .int (q.1 : Nat)])
    (fun i e s => (∃ x y, e = [some (.int (m : Nat)), some (pic (nI o)), x, y]) ∧ s = st)
    (by simp only [xi_enum, x_var, List.getElem?_cons_zero, List.getElem?_cons_succ, pic, bind_ok, walk_tup, oD_some, e0, enum_map]) ⟨⟨_, _, rfl⟩, rfl⟩ (fun i d hd e s ⟨⟨x, y, he⟩, hs⟩ => by
      subst he hs
      rw [List.getElem?_map] at hd
      obtain ⟨q, hq, rfl⟩ := Option.map_eq_some_iff.mp hd
      rw [List.getElem?_zipIdx] at hq
      obtain ⟨k, hk1, rfl⟩ := Option.map_eq_some_iff.mp hq
      have hkm := hk k (List.mem_of_getElem? hk1)
      have b1 := sp_between (k : Int) 0 ((m : Int) - 1) n hn
      have b2 : (decide (0 ≤ (k : Int)) && decide ((k : Int) ≤ (m : Int) - 1)) = true := by
        simp
        omega
      rw [b2] at b1
      have hi : i < o.length := (List.getElem?_eq_some_iff.mp hk1).1
      have cm : cut (nI o) none (some (i : Int)) = nI (o.take i) := by
        have e1 : sIx (nI o).length 0 none = 0 := rfl
        have e2 : sIx (nI o).length (nI o).length (some (i : Int)) = i := by
          show (if (i : Int) < 0 then ((i : Int) + (((nI o).length : Nat) : Int)).toNat else min (i : Int).toNat (nI o).length) = i
          rw [if_neg (by omega), nI_len]
          omega
        unfold cut
        rw [e1, e2, List.drop_zero, Nat.sub_zero]
        unfold nI
        rw [List.map_take]
      have nm : decide ((k : Int) ∈ nI (o.take i)) = false := by
        rw [decide_eq_false_iff_not]
        intro z
        obtain ⟨k', hk', e'⟩ := List.mem_map.mp z
        have : k' = k := by exact_mod_cast e'
        subst this
        have dj := (List.nodup_append.mp (show (o.take i ++ o.drop i).Nodup by rw [List.take_append_drop]; exact nd)).2.2
        refine dj k' hk' k' (List.mem_iff_getElem?.mpr ⟨0, ?_⟩) rfl
        rw [List.getElem?_drop]
        exact hk1
      refine ⟨[some (.int (m : Nat)), some (pic (nI o)), some (.int (i : Nat)), some (.int (k : Nat))], _, .inl ?_, ⟨_, _, rfl⟩, rfl⟩
      have mm := fun st => mem_ints (k : Int) (nI (o.take i)) st
      rw [nm] at mm
      simp only [Nat.zero_add]
      simp [pic, b1, cut_map, cm, mm])
  subst hq hs
  refine ⟨[some (.int (m : Nat)), some (pic (nI o)), x, y], ?_⟩
  rw [exs_cons s1, exs_cons he]
  have c : decide (((o.length : Nat) : Int) < (m : Int)) = false := by
    rw [hl]
    simp
  simp [pic, nI_len, hl]
theorem sp_anew {m : Nat} {o : List Nat} {p : List Int} (h : Pic m p) (hl : o.length = m) (hk : ∀ k ∈ o, k < m) (nd : o.Nodup) (hold : ∀ q < 2 ^ m, oldP o q < 2 ^ m) : Cl T Gc 100000 6 78 [pic p, pic (nI o)] (pic (anew o p)) := Cl.rt (k := 5) (F := ⟨2, 2, b78⟩) rfl rfl fun n hn st => by
  show exs _ _ _ b78 [some (pic p), some (pic (nI o))] st = _
  have m4 := h.2.1
  simp only [b78, es_cons, e_exp, e_ret, x_call, xs_cons, xs_nil, x_var, List.getElem?_cons_zero, List.getElem?_cons_succ, bind_ok, sp_ckpic h n hn, sp_lots h n (by omega), sp_ckorder m4 hl hk nd n (by omega), sp_anewby h (by omega) (fun k hk' => by have := hk k hk'; omega) hold n (by omega)]
/-! the picture of multiples -/
def plN (ns : List Nat) (t : Nat) : Nat := ((ns.zipIdx.filter fun p => t % p.1 = 0).map fun p => 2 ^ p.2).sum
def hist (m : Nat) (L : List Nat) : List Int := (List.range (2 ^ m)).map fun k => ((L.count k : Nat) : Int)
theorem count_cast (L : List Nat) (k : Nat) : (nI L).count (k : Int) = L.count k := by
  induction L with
  | nil => rfl
  | cons a r ih =>
    unfold nI at ih ⊢
    rw [List.map_cons, List.count_cons, List.count_cons, ih]
    congr 1
    by_cases h : a = k
    · simp [h]
    · have : ¬ ((a : Int) = (k : Int)) := fun e => h (by exact_mod_cast e)
      simp [h, this]
def Nums (ns : List Nat) : Prop := 1 ≤ ns.length ∧ ns.length ≤ 4 ∧ ∀ x ∈ ns, 1 ≤ x ∧ x ≤ 60
theorem sp_pl {C : Nat → List D → Sto → R D} {ns : List Nat} {t : Nat} {st : Sto} {e1 e2 e3 : Option D} (h : Nums ns) : ev C Gc (.blt .sum (.cons (.comp [3, 4] (.bin .shl (.int 1) (.var 3)) (.tup (.cons (.var 3) (.cons (.var 4) .nil))) (.enum (.var 0)) (.some (.cmp .eq (.bin .mod (.var 2) (.var 4)) (.int 0)))) .nil)) [some (pic (nI ns)), e1, some (.int (t : Nat)), e2, e3] st =
    .ok (.int (plN ns t : Nat)) st := by
  have hc : ev C Gc (.comp [3, 4] (.bin .shl (.int 1) (.var 3)) (.tup (.cons (.var 3) (.cons (.var 4) .nil))) (.enum (.var 0)) (.some (.cmp .eq (.bin .mod (.var 2) (.var 4)) (.int 0)))) [some (pic (nI ns)), e1, some (.int (t : Nat)), e2, e3] st =
      .ok (.frz (ns.zipIdx.filterMap fun p => if decide (t % p.1 = 0) then some (.int (2 ^ p.2)) else none)) st := by
    refine ev_lcm (fun p : Nat × Nat => .tup [.int (p.2 : Nat), .int (p.1 : Nat)]) _ _ ?_ (by have := h.2.1; simp; omega) fun a ha => ?_
    · simp only [xi_enum, x_var, List.getElem?_cons_zero, pic, bind_ok, walk_tup, oD_some, nI_D, enum_map]
    · have hx := h.2.2 a.1 (List.fst_mem_of_mem_zipIdx ha)
      have h2 : a.2 ≤ 100 := by
        have := List.snd_lt_of_mem_zipIdx ha
        have := h.2.1
        omega
      have hpos : (0 : Int) < (a.1 : Int) := by omega
      have hpn : 0 < a.1 := by omega
      by_cases hb : t % a.1 = 0
      · have hb' : ((t : Int) % (a.1 : Int) == 0) = true := by
          have : (t : Int) % (a.1 : Int) = 0 := by exact_mod_cast hb
          rw [this]; rfl
        simp [compB, wipe, hpos, hpn, hb, hb', shl_one h2]
      · have hb' : ((t : Int) % (a.1 : Int) == 0) = false := beq_false_of_ne fun e => hb (by exact_mod_cast e)
        simp [compB, wipe, hpos, hpn, hb, hb']
  rw [fm_if] at hc
  have e : ((ns.zipIdx.filter fun p => decide (t % p.1 = 0)).map fun p => ((2 : Int) ^ p.2)).sum = (plN ns t : Nat) := by
    have := sum_cast ((ns.zipIdx.filter fun p => decide (t % p.1 = 0)).map (·.2))
    rw [List.map_map, List.map_map] at this
    exact this
  simp only [x_blt, xs_cons, xs_nil, hc, bind_ok, b_sum, sv_frz, Option.bind_some, ints_m, Option.map_some, oD_some, e]
/-- the places of the things 1 .. 60 -/
def plL (ns : List Nat) : List Nat := (List.range 60).map fun i => plN ns (i + 1)
theorem lawchoice : ∀ q < 16, joinL [] ((([65, 66, 67, 68] : List Nat).zipIdx.filter fun p => decide (((q : Nat) : Int) / 2 ^ p.2 % 2 = 1)).map fun p => [p.1]) = zc q := by decide +kernel
theorem join_nil (l : List (List Nat)) (st : Sto) (hl : (l.map List.length).sum ≤ 16777216) : mcall st .join (.str []) [.frz (l.map .str)] = .ok (.str (joinL [] l)) st := by
  show (match (some (l.map D.str)).bind strsOf with | some ps => if szOk ((ps.map List.length).sum + ps.length * 0) then R.ok (D.str (joinL [] ps)) st else .bad | none => .bad) = _
  have := strs_m (fun z : List Nat => z) l
  simp only [List.map_id'] at this
  rw [Option.bind_some, this]
  show (if szOk _ = true then _ else _) = _
  rw [if_pos (szOk_of (by omega))]
theorem ones (l : List (Nat × Nat)) : ((l.map fun p => [p.1]).map List.length).sum = l.length := by
  induction l with
  | nil => rfl
  | cons a r ih => simp at ih ⊢; omega
theorem sp_lawchoice {q : Nat} (h : q < 16) : Cl T Gc 100000 1 55 [.int (q : Nat)] (.str (zc q)) := Cl.rt (F := ⟨1, 3, b55⟩) rfl rfl fun n hn st => by
  show exs _ _ _ b55 [some (.int (q : Nat)), none, none] st = _
  have hc : ev (PL.call T Gc 100000 n) Gc (.comp [1, 2] (.var 2) (.tup (.cons (.var 1) (.cons (.var 2) .nil))) (.enum (.str [65, 66, 67, 68])) (.some (.cmp .eq (.bin .mod (.blt .int (.cons (.bin .fdiv (.var 0) (.bin .shl (.int 1) (.var 1))) .nil)) (.int 2)) (.int 1)))) [some (.int (q : Nat)), none, none] st =
      .ok (.frz ((([65, 66, 67, 68] : List Nat).zipIdx).filterMap fun p => if decide (((q : Nat) : Int) / 2 ^ p.2 % 2 = 1) then some (.str [p.1]) else none)) st := by
    refine ev_lcm (fun p : Nat × Nat => .tup [.int (p.2 : Nat), .str [p.1]]) _ _ ?_ (by simp) fun a ha => ?_
    · simp only [xi_enum, x_str, bind_ok, walk_str, oD_some, enum_map]
    · have h2 : a.2 < 4 := by
        have := List.snd_lt_of_mem_zipIdx ha
        simpa using this
      have p1 : (0 : Int) < 2 ^ a.2 := Int.pow_pos (by decide)
      have p2 : (2 : Int) ^ a.2 < 1073741824 := by
        have : a.2 = 0 ∨ a.2 = 1 ∨ a.2 = 2 ∨ a.2 = 3 := by omega
        rcases this with e | e | e | e <;> rw [e] <;> decide
      by_cases hb : ((q : Nat) : Int) / 2 ^ a.2 % 2 = 1
      · simp [compB, wipe, shl_one (show a.2 ≤ 100 by omega), p1, p2, hb]
      · simp [compB, wipe, shl_one (show a.2 ≤ 100 by omega), p1, p2, hb]
  have e := lawchoice q h
  rw [fm_if] at hc
  have ho : mOk .join (.str []) = true := rfl
  have hl := join_nil ((([65, 66, 67, 68] : List Nat).zipIdx.filter fun p => decide (((q : Nat) : Int) / 2 ^ p.2 % 2 = 1)).map fun p => [p.1]) st (by
    rw [ones]
    exact Nat.le_trans (List.length_filter_le _ _) (by simp))
  rw [e, List.map_map] at hl
  simp only [b55, es_cons, e_ret, x_mth, x_str, bind_ok, ho, if_true, xs_cons, xs_nil, hc]
  rw [show (fun p : Nat × Nat => D.str [p.1]) = (D.str ∘ fun p => [p.1]) from rfl, hl]
  simp
theorem set_left {st ext : Sto} {i : Nat} {o o' : Obj} (h : i < st.length) : (st.set i o ++ ext).set i o' = st.set i o' ++ ext := by
  rw [List.set_append_left _ _ (by simpa using h), List.set_set]
theorem get_left {st ext : Sto} {i : Nat} {o : Obj} (h : i < st.length) : (st.set i o ++ ext)[i]? = some o := by
  rw [List.getElem?_append_left (by simpa using h), List.getElem?_set_self h]
theorem last_at' {st : Sto} {i : Nat} {o o' : Obj} : (st.set i o ++ [o'])[st.length]? = some o' := by
  rw [List.getElem?_append_right (by simp)]
  simp
theorem last_set' {st : Sto} {i : Nat} {o o' o2 : Obj} : (st.set i o ++ [o']).set st.length o2 = st.set i o ++ [o2] := by
  rw [List.set_append_right _ _ (by simp)]
  simp
theorem erase_map {α β : Type} (f : α → β) : ∀ (xs : List α) (k : Nat), (xs.eraseIdx k).map f = (xs.map f).eraseIdx k
  | [], _ => rfl
  | _ :: _, 0 => rfl
  | x :: xs, k + 1 => congrArg (f x :: ·) (erase_map f xs k)
theorem erase_perm {α : Type} : ∀ {xs : List α} {k : Nat} (h : k < xs.length), List.Perm ([xs[k]] ++ xs.eraseIdx k) xs
  | _ :: _, 0, _ => .refl _
  | x :: xs, k + 1, h => by
    have := erase_perm (xs := xs) (k := k) (by simpa using h)
    exact (List.Perm.swap x _ _).trans (List.Perm.cons x this)
theorem sp_order {n : Nat} (hn : 3 ≤ n) {st : Sto} {i m : Nat} {a b c : Int} (hi : st[i]? = some (pot3 a b c)) (hm : m ≤ 4) :
    ∃ a' b' c' o, List.Perm o (List.range m) ∧ PL.call T Gc 100000 n 57 [.lst i, .int (m : Nat)] st = .ok (pic (nI o)) (st.set i (pot3 a' b' c')) := by
  obtain ⟨k, rfl⟩ : ∃ k, n = k + 1 := ⟨n - 1, by omega⟩
  have hl : i < st.length := (List.getElem?_eq_some_iff.mp hi).1
  have st0 : st.set i (pot3 a b c) = st := by
    obtain ⟨h, e⟩ := List.getElem?_eq_some_iff.mp hi
    rw [← e]
    exact List.set_getElem_self h
  have hr := rng_nat (n := m) (by omega)
  have e0 : (rngD 0 m) = (nI (List.range m)).map D.int := by
    rw [rng_map, nI_D]
    simp
  have s1 : ex (PL.call T Gc 100000 k) Gc 100000 (.par [2, 3] (.cons (.thaw (.rgv false .none (.var 1))) (.cons (.tup .nil) .nil))) [some (.lst i), some (.int (m : Nat)), none, none, none] st =
      .ok (.nx [some (.lst i), some (.int (m : Nat)), some (.lst st.length), some (.tup []), none]) (st ++ [.lst ((nI (List.range m)).map D.int)]) := by
    have r0 : rngOk 0 = true := rfl
    have hz : m ≤ 16777216 := by omega
    have hz' : (m : Int) ≤ 16777216 := by omega
    simp [r0, hr, hz, hz', e0]
  obtain ⟨e, s, he, a', b', c', fo, lf, x, hq, hs, hp, hfl⟩ := ex_for (C := PL.call T Gc 100000 k) (G := Gc) (W := 100000) (t := .var 4) (it := .rng1 (.var 1))
    (b := .cons (.asg (.var 3) (.bin .add (.var 3) (.tup (.cons (.mth .popAt (.var 2) (.cons (.call 50 (.cons (.var 0) (.cons (.blt .len (.cons (.var 2) .nil)) .nil))) .nil)) .nil)))) .nil)
    (env := [some (.lst i), some (.int (m : Nat)), some (.lst st.length), some (.tup []), none]) (st := st ++ [.lst ((nI (List.range m)).map D.int)]) (ds := rngD 0 m)
    (fun j e s => ∃ (a' b' c' : Int) (fo lf : List Nat) (x : Option D), e = [some (.lst i), some (.int (m : Nat)), some (.lst st.length), some (pic (nI fo)), x] ∧ s = st.set i (pot3 a' b' c') ++ [.lst ((nI lf).map D.int)] ∧ (fo ++ lf).Perm (List.range m) ∧ fo.length = j)
    (by simp [hr]) ⟨a, b, c, [], List.range m, none, rfl, by rw [st0], by simp, rfl⟩ (fun j d hd e s ⟨a', b', c', fo, lf, x, he, hs, hp, hfl⟩ => by
      subst he hs
      obtain ⟨hj, rfl⟩ := rng_get hd
      have hlen : fo.length + lf.length = m := by
        have := hp.length_eq
        simpa using this
      obtain ⟨a2, b2, c2, r, r0, r1, hdr⟩ := sp_draw (n := k) (by omega) (st := st.set i (pot3 a' b' c') ++ [.lst ((nI lf).map D.int)]) (i := i) (get_left hl) (m := (lf.length : Nat)) (by omega) (by omega)
      rw [set_left hl] at hdr
      obtain ⟨q, rfl⟩ : ∃ q : Nat, r = q := ⟨r.toNat, by omega⟩
      have hql : q < lf.length := by omega
      have hlenv : ∀ a b c : Int, lenD (st.set i (pot3 a b c) ++ [.lst ((nI lf).map D.int)]) (.lst st.length) = some (lf.length : Int) := fun a b c => by
        rw [len_lst last_at', List.length_map, nI_len]
      have hpop : mcall (st.set i (pot3 a2 b2 c2) ++ [.lst ((nI lf).map D.int)]) .popAt (.lst st.length) [.int (q : Nat)] = .ok (.int ((lf[q] : Nat) : Int)) (st.set i (pot3 a2 b2 c2) ++ [.lst ((nI (lf.eraseIdx q)).map D.int)]) := by
        show (match (st.set i (pot3 a2 b2 c2) ++ [Obj.lst ((nI lf).map D.int)])[st.length]? with
          | some (.lst ds) => if decide (-(2 ^ 63) ≤ ((q : Nat) : Int)) && decide (((q : Nat) : Int) < 2 ^ 63) then (match ixN ds.length ((q : Nat) : Int) with
            | some j => (match ds[j]? with | some d => R.ok d ((st.set i (pot3 a2 b2 c2) ++ [Obj.lst ((nI lf).map D.int)]).set st.length (.lst (ds.eraseIdx j))) | none => .bad)
            | none => .bad) else .bad
          | _ => .bad) = _
        rw [last_at']
        have h1 : (decide (-(2 ^ 63) ≤ ((q : Nat) : Int)) && decide (((q : Nat) : Int) < 2 ^ 63)) = true := by
          simp only [Bool.and_eq_true, decide_eq_true_eq]
          omega
        have h2 : ixN ((nI lf).map D.int).length ((q : Nat) : Int) = some q := by
          unfold ixN
          rw [if_pos (by omega), if_pos (by rw [List.length_map, nI_len]; omega)]
          rfl
        have h3 : ((nI lf).map D.int)[q]? = some (.int ((lf[q] : Nat) : Int)) := by
          rw [nI_D, List.getElem?_map, List.getElem?_eq_getElem hql]
          rfl
        show (if _ = true then _ else _) = _
        rw [if_pos h1]
        show (match ixN ((nI lf).map D.int).length ((q : Nat) : Int) with | some j => _ | none => _) = _
        rw [h2]
        show (match ((nI lf).map D.int)[q]? with | some d => _ | none => _) = _
        rw [h3]
        show R.ok _ _ = _
        rw [last_set', nI_D, nI_D, erase_map]
      have ho : mOk .popAt (.lst st.length) = true := rfl
      have hz : (nI fo).length + 1 ≤ 16777216 := by rw [nI_len]; omega
      refine ⟨[some (.lst i), some (.int (m : Nat)), some (.lst st.length), some (pic (nI (fo ++ [lf[q]]))), some (.int (0 + (j : Nat)))], _, .inl ?_, a2, b2, c2, fo ++ [lf[q]], lf.eraseIdx q, _, rfl, rfl, ?_, by simp [hfl]⟩
      · have e1 : (nI (fo ++ [lf[q]])).map D.int = (nI fo).map D.int ++ [.int ((lf[q] : Nat) : Int)] := by
          unfold nI
          simp
        have hz' : fo.length + 1 ≤ 16777216 := by omega
        simp [ho, hlenv, hdr, hpop, pic, e1, nI_len, hz']
      · refine List.Perm.trans ?_ hp
        rw [List.append_assoc]
        refine List.Perm.append_left _ ?_
        exact erase_perm hql)
  rw [rng_len] at hfl
  have hle : lf = [] := by
    have := hp.length_eq
    simp at this
    exact List.eq_nil_of_length_eq_zero (by omega)
  subst hq hs hle
  rw [List.append_nil] at hp
  refine ⟨a', b', c', fo, hp, ?_⟩
  have h2 : exs (PL.call T Gc 100000 k) Gc 100000 b57 [some (.lst i), some (.int (m : Nat)), none, none, none] st = .ok (.rt (pic (nI fo))) (st.set i (pot3 a' b' c') ++ [.lst ((nI []).map D.int)]) := by
    show exs _ _ _ (.cons _ (.cons _ (.cons _ .nil))) _ _ = _
    rw [exs_cons s1, exs_cons he]
    simp
  rw [call_eq (F := ⟨2, 5, b57⟩) rfl rfl]
  show fin _ (exs _ _ _ b57 [some (.lst i), some (.int (m : Nat)), none, none, none] st) = _
  rw [h2]
  show back st.length (pic (nI fo)) _ = _
  unfold back
  rw [if_neg (by simp), if_pos (show refsLt st.length (pic (nI fo)) = true from refs_ints _ _), List.take_left' (by simp)]
end Lw

set_option Elab.async false
set_option linter.all false
set_option maxRecDepth 100000
set_option maxHeartbeats 1000000
namespace Lw
open PL
/-! ### deeds -/
inductive Dd where
  | put (q : Nat) | take (q : Nat) | move (q r : Nat) | turn (k : Nat) | ren (o : List Nat)
def wPut : List Nat := [112, 117, 116]
def wTake : List Nat := [116, 97, 107, 101]
def wMove : List Nat := [109, 111, 118, 101]
def wTurn : List Nat := [116, 117, 114, 110]
def wRen : List Nat := [114, 101, 110, 97, 109, 101]
def dD : Dd → D
  | .put q => .tup [.str wPut, .str (zc q)]
  | .take q => .tup [.str wTake, .str (zc q)]
  | .move q r => .tup [.str wMove, .str (zc q), .str (zc r)]
  | .turn k => .tup [.str wTurn, .str [65 + k]]
  | .ren o => .tup [.str wRen, pic (nI o)]
/-- a choice's word -/
def wC (z : List Nat) : List Nat := if z = [] then [45] else z
def dW : Dd → List (List Nat)
  | .put q => [wPut, wC (zc q)]
  | .take q => [wTake, wC (zc q)]
  | .move q r => [wMove, wC (zc q), wC (zc r)]
  | .turn k => [wTurn, [65 + k]]
  | .ren o => [wRen, o.map fun k => 48 + k]
def dT (d : Dd) : List Nat := joinL [32] (dW d)
theorem sp_word (z : List Nat) (h : z.all (· < 0x110000) = true) : Cl T Gc 100000 1 158 [.str z] (.str (wC z)) := Cl.rt (F := ⟨1, 2, b158⟩) rfl rfl fun n hn st => by
  show exs _ _ _ b158 [some (.str z), none] st = _
  cases z with
  | nil => rfl
  | cons a r =>
    have h1 : cop st .ne (.str (a :: r)) (.str []) = some true := by
      have h2 : dOk 40 (top st (.str (a :: r))) = true := h
      have h3 : dOk 40 (top st (.str [])) = true := rfl
      show (if (dOk 40 (top st (.str (a :: r))) && dOk 40 (top st (.str []))) = true then some (!dEq (top st (.str (a :: r))) (top st (.str []))) else none) = _
      rw [h2, h3]
      rfl
    simp [b158, h1, wC, fin, back]
end Lw

set_option Elab.async false
set_option linter.all false
set_option maxRecDepth 100000
set_option maxHeartbeats 1000000
namespace Lw
open PL
theorem str_fig : ∀ k < 4, strI ((k : Nat) : Int) = [48 + k] ∧ Nat.blt ((k : Nat) : Int).natAbs.log2 1920 = true := by decide +kernel
theorem str_figS {k : Nat} (h : k < 4) (st : Sto) : bcall st .str [.int (k : Nat)] = some (.str [48 + k]) := by
  show (if Nat.blt ((k : Nat) : Int).natAbs.log2 1920 = true then some (D.str (strI ((k : Nat) : Int))) else none) = _
  rw [if_pos (str_fig k h).2, (str_fig k h).1]
theorem one_sum : ∀ o : List Nat, ((o.map fun k => [48 + k]).map List.length).sum = o.length
  | [] => rfl
  | k :: r => by
    rw [List.map_cons, List.map_cons, List.sum_cons, one_sum r]
    simp
    omega
theorem sp_wordO {o : List Nat} (hl : o.length ≤ 4) (ho : ∀ k ∈ o, k < 4) : Cl T Gc 100000 1 158 [pic (nI o)] (.str (o.map fun k => 48 + k)) := Cl.rt (F := ⟨1, 2, b158⟩) rfl rfl fun n hn st => by
  show exs _ _ _ b158 [some (pic (nI o)), none] st = _
  have hc : ev (PL.call T Gc 100000 n) Gc (.comp [1] (.blt .str (.cons (.var 1) .nil)) (.var 1) (.val (.var 0)) .none) [some (pic (nI o)), none] st = .ok (.frz (o.filterMap fun k => some (.str [48 + k]))) st := by
    refine ev_lcm (fun k : Nat => .int (k : Nat)) _ _ ?_ (by omega) fun a ha => ?_
    · simp [pic, nI]
    · simp [compB, wipe, str_figS (ho a ha)]
  rw [fm_some] at hc
  have hj := join_nil (o.map fun k => [48 + k]) st (by rw [one_sum]; omega)
  have e : joinL [] (o.map fun k => [48 + k]) = o.map fun k => 48 + k := by
    clear hc hj hl ho
    induction o with
    | nil => rfl
    | cons a r ih =>
      cases r with
      | nil => rfl
      | cons b r => simp only [List.map_cons, joinL, List.nil_append] at ih ⊢; rw [ih]; rfl
  rw [e, List.map_map] at hj
  have hj2 : mcall st .join (.str []) [.frz (o.map fun k => .str [48 + k])] = .ok (.str (o.map fun k => 48 + k)) st := hj
  have hi : isInst .tuple (pic (nI o)) = some true := rfl
  have hm : mOk .join (.str []) = true := rfl
  simp [b158, hi, hc, hj2, hm, fin, back]
end Lw

set_option Elab.async false
set_option linter.all false
set_option maxRecDepth 100000
set_option maxHeartbeats 1000000
namespace Lw
open PL
theorem join_sep (c : Nat) (l : List (List Nat)) (st : Sto) (hl : (l.map List.length).sum + l.length ≤ 16777216) : mcall st .join (.str [c]) [.frz (l.map .str)] = .ok (.str (joinL [c] l)) st := by
  show (match (some (l.map D.str)).bind strsOf with | some ps => if szOk ((ps.map List.length).sum + ps.length * 1) then R.ok (D.str (joinL [c] ps)) st else .bad | none => .bad) = _
  have := strs_m (fun z : List Nat => z) l
  simp only [List.map_id'] at this
  rw [Option.bind_some, this]
  show (if szOk _ = true then _ else _) = _
  rw [if_pos (szOk_of (by omega))]
theorem sp_textp (w : List Nat) (ps : List (D × List Nat)) (hp : ∀ p ∈ ps, Cl T Gc 100000 1 158 [p.1] (.str p.2)) (hz : w.length + (ps.map fun p => p.2.length).sum + ps.length < 1000) :
    Cl T Gc 100000 2 159 [.tup (.str w :: ps.map (·.1))] (.str (joinL [32] (w :: ps.map (·.2)))) := Cl.rt (k := 1) (F := ⟨1, 2, b159⟩) rfl rfl fun n hn st => by
  show exs _ _ _ b159 [some (.tup (.str w :: ps.map (·.1))), none] st = _
  have hc : ev (PL.call T Gc 100000 n) Gc (.comp [1] (.call 158 (.cons (.var 1) .nil)) (.var 1) (.val (.slc (.var 0) (.some (.int 1)) .none)) .none) [some (.tup (.str w :: ps.map (·.1))), none] st = .ok (.frz (ps.filterMap fun p => some (.str p.2))) st := by
    refine ev_lcm (fun p : D × List Nat => p.1) _ _ ?_ (by omega) fun a ha => ?_
    · have : slD st (.tup (.str w :: ps.map (·.1))) (some 1) none = some (.tup (ps.map (·.1))) := by
        show some (D.tup (cut _ _ _)) = _
        simp [cut, sIx]
        exact List.take_of_length_le (by simp)
      simp [this]
    · simp [compB, wipe, hp a ha n hn]
  rw [fm_some] at hc
  have hj := join_sep 32 (w :: ps.map (·.2)) st (by
    simp only [List.map_cons, List.sum_cons, List.map_map, List.length_cons, List.length_map]
    have : (List.map (List.length ∘ fun x : D × List Nat => x.2) ps).sum = (ps.map fun p => p.2.length).sum := rfl
    omega)
  have hj2 : mcall st .join (.str [32]) [.frz (.str w :: ps.map fun p => .str p.2)] = .ok (.str (joinL [32] (w :: ps.map (·.2)))) st := by
    rw [List.map_cons, List.map_map] at hj
    exact hj
  have hm : mOk .join (.str [32]) = true := rfl
  have hb : bop st .add (.frz [.str w]) (.frz (ps.map fun p => .str p.2)) = some (.frz (.str w :: ps.map fun p => .str p.2)) := by
    show (if szOk _ = true then some (D.frz _) else none) = _
    rw [if_pos (szOk_of (by simp; omega))]
    rfl
  have hat : ∀ l : List D, atI (.str w :: l) 0 = some (.str w) := fun l => by
    have e : ixN (D.str w :: l).length 0 = some 0 := by
      unfold ixN
      rw [if_pos (by omega), if_pos (by rw [List.length_cons]; omega)]
      rfl
    show (ixN (D.str w :: l).length 0).bind _ = _
    rw [e]
    rfl
  simp [b159, hat, hc, hb, hj2, hm, fin, back]
end Lw

set_option Elab.async false
set_option linter.all false
set_option maxRecDepth 100000
set_option maxHeartbeats 1000000
namespace Lw
open PL
/-- a deed of the form -/
def DOk : Dd → Prop
  | .put q => q < 16
  | .take q => q < 16
  | .move q r => q < 16 ∧ r < 16
  | .turn k => k < 4
  | .ren o => o.length ≤ 4 ∧ (∀ k ∈ o, k < 4) ∧ o.Nodup
theorem zc_cp : ∀ q < 16, (zc q).all (· < 0x110000) = true := by decide +kernel
theorem wc_len (q : Nat) : (wC (zc q)).length ≤ 4 := by
  unfold wC
  split
  · simp
  · exact zc_len q
theorem wc_let : ∀ k < 4, wC [65 + k] = [65 + k] := by decide +kernel
theorem let_cp : ∀ k < 4, ([65 + k] : List Nat).all (· < 0x110000) = true := by decide +kernel
theorem sp_text {d : Dd} (h : DOk d) : Cl T Gc 100000 2 159 [dD d] (.str (dT d)) := by
  cases d with
  | put q => exact sp_textp wPut [(.str (zc q), wC (zc q))] (fun p hp => by rw [List.mem_singleton.mp hp]; exact sp_word _ (zc_cp q h)) (by have := wc_len q; simp [wPut]; omega)
  | take q => exact sp_textp wTake [(.str (zc q), wC (zc q))] (fun p hp => by rw [List.mem_singleton.mp hp]; exact sp_word _ (zc_cp q h)) (by have := wc_len q; simp [wTake]; omega)
  | move q r =>
    refine sp_textp wMove [(.str (zc q), wC (zc q)), (.str (zc r), wC (zc r))] (fun p hp => ?_) (by have := wc_len q; have := wc_len r; simp [wMove]; omega)
    rcases List.mem_cons.mp hp with e | hp
    · rw [e]; exact sp_word _ (zc_cp q h.1)
    · rw [List.mem_singleton.mp hp]; exact sp_word _ (zc_cp r h.2)
  | turn k =>
    refine sp_textp wTurn [(.str [65 + k], [65 + k])] (fun p hp => ?_) (by simp [wTurn])
    rw [List.mem_singleton.mp hp]
    have := sp_word [65 + k] (let_cp k h)
    rw [wc_let k h] at this
    exact this
  | ren o =>
    refine sp_textp wRen [(pic (nI o), o.map fun k => 48 + k)] (fun p hp => ?_) (by have := h.1; simp [wRen]; omega)
    rw [List.mem_singleton.mp hp]
    exact sp_wordO h.1 h.2.1
/-- no word has a blank -/
theorem zc_bl : ∀ q < 16, 32 ∉ wC (zc q) := by decide +kernel
theorem fig_bl {o : List Nat} : 32 ∉ o.map fun k => 48 + k := fun z => by
  obtain ⟨k, _, e⟩ := List.mem_map.mp z
  omega
theorem words_bl {d : Dd} (h : DOk d) : ∀ w ∈ dW d, 32 ∉ w := by
  cases d with
  | put q => intro w hw; simp only [dW, List.mem_cons, List.not_mem_nil, or_false] at hw; rcases hw with rfl | rfl; exact (by decide); exact zc_bl q h
  | take q => intro w hw; simp only [dW, List.mem_cons, List.not_mem_nil, or_false] at hw; rcases hw with rfl | rfl; exact (by decide); exact zc_bl q h
  | move q r => intro w hw; simp only [dW, List.mem_cons, List.not_mem_nil, or_false] at hw; rcases hw with rfl | rfl | rfl; exact (by decide); exact zc_bl q h.1; exact zc_bl r h.2
  | turn k => intro w hw; simp only [dW, List.mem_cons, List.not_mem_nil, or_false] at hw; rcases hw with rfl | rfl; exact (by decide); simp; omega
  | ren o => intro w hw; simp only [dW, List.mem_cons, List.not_mem_nil, or_false] at hw; rcases hw with rfl | rfl; exact (by decide); exact fig_bl
theorem split_text {d : Dd} (h : DOk d) : splitC 32 (dT d) = dW d := splitC_join (by cases d <;> simp [dW]) (words_bl h)
end Lw

set_option Elab.async false
set_option linter.all false
set_option maxRecDepth 100000
set_option maxHeartbeats 1000000
namespace Lw
open PL
def digs : List Nat := [48, 49, 50, 51, 52, 53, 54, 55, 56, 57]
theorem dig_all : ∀ k < 4, (([48 + k] : List Nat).all fun c => decide (c ∈ digs)) = true := by decide +kernel
theorem dig_int : ∀ k < 4, PySem.intText? ⟨([48 + k] : List Nat).toArray⟩ = some ((k : Nat) : Int) := by decide +kernel
theorem sp_fig {k : Nat} (h : k < 4) : Cl T Gc 100000 2 124 [.str [48 + k]] (.int (k : Nat)) := Cl.rt (k := 1) (F := ⟨1, 1, b124⟩) rfl rfl fun n hn st => by
  show exs _ _ _ b124 [some (.str [48 + k])] st = _
  have hg : Gc 20 = .str digs := rfl
  have h2 := sp_textof [48 + k] digs (by simp) n hn st
  rw [dig_all k h] at h2
  have ok : ∀ z : List Nat, z.all (· < 0x110000) = true → ∀ y : List Nat, y.all (· < 0x110000) = true → cop st .eq (.str z) (.str y) = some (z == y) := fun z hz y hy => by
    show (if (dOk 40 (top st (.str z)) && dOk 40 (top st (.str y))) = true then some (dEq (top st (.str z)) (top st (.str y))) else none) = _
    rw [show dOk 40 (top st (.str z)) = true from hz, show dOk 40 (top st (.str y)) = true from hy]
    rfl
  have hz : ([48 + k] : List Nat).all (· < 0x110000) = true := by simp; omega
  have e1 := ok [48 + k] hz [] rfl
  have e2 := ok [48 + k] hz [48] rfl
  have hi : ixD st (.str [48 + k]) 0 = some (.str [48 + k]) := rfl
  have hl : bcall st .len [.str [48 + k]] = some (.int 1) := rfl
  have hint : bcall st .int [.str [48 + k]] = some (.int (k : Nat)) := by
    show (PySem.intText? ⟨([48 + k] : List Nat).toArray⟩).map D.int = _
    rw [dig_int k h]
    rfl
  have e3 : cop st .gt (.int 1) (.int 1) = some false := rfl
  by_cases h0 : k = 0
  · subst h0
    simp [b124, hg, h2, e1, e2, hi, hl, hint, e3, fin, back]
  · simp [b124, hg, h2, e1, e2, hi, hl, hint, e3, h0, fin, back]
end Lw

set_option Elab.async false
set_option linter.all false
set_option maxRecDepth 100000
set_option maxHeartbeats 1000000
namespace Lw
open PL
theorem eq_str {st : Sto} {z y : List Nat} (hz : z.all (· < 0x110000) = true) (hy : y.all (· < 0x110000) = true) : cop st .eq (.str z) (.str y) = some (z == y) := by
  show (if (dOk 40 (top st (.str z)) && dOk 40 (top st (.str y))) = true then some (dEq (top st (.str z)) (top st (.str y))) else none) = _
  rw [show dOk 40 (top st (.str z)) = true from hz, show dOk 40 (top st (.str y)) = true from hy]
  rfl
theorem wc_facts : ∀ q < 16, (wC (zc q)).all (· < 0x110000) = true ∧ (wC (zc q) == []) = false ∧ (if (wC (zc q) == [45]) = true then [] else wC (zc q)) = zc q := by decide +kernel
theorem sp_ctold {q : Nat} (h : q < 16) : Cl T Gc 100000 1 126 [.str (wC (zc q))] (.str (zc q)) := Cl.rt (F := ⟨1, 1, b126⟩) rfl rfl fun n hn st => by
  show exs _ _ _ b126 [some (.str (wC (zc q)))] st = _
  obtain ⟨f1, f2, f3⟩ := wc_facts q h
  have hg : Gc 18 = .str [45] := rfl
  have e1 := eq_str (st := st) f1 (y := []) rfl
  have e2 := eq_str (st := st) f1 (y := [45]) rfl
  rw [f2] at e1
  by_cases c : (wC (zc q) == [45]) = true
  · rw [c] at e2
    rw [if_pos c] at f3
    rw [← f3] at e1 e2 ⊢
    simp [b126, hg, e1, e2, fin, back]
  · rw [Bool.not_eq_true] at c
    rw [c] at e2
    rw [if_neg (by rw [c]; exact Bool.false_ne_true)] at f3
    rw [f3] at e1 e2 ⊢
    simp [b126, hg, e1, e2, fin, back]
end Lw

set_option Elab.async false
set_option linter.all false
set_option maxRecDepth 100000
set_option maxHeartbeats 1000000
namespace Lw
open PL
theorem w_eq {st : Sto} : cop st .eq (.str wRen) (.str wRen) = some true ∧ cop st .eq (.str wPut) (.str wRen) = some false ∧ cop st .eq (.str wTake) (.str wRen) = some false ∧ cop st .eq (.str wMove) (.str wRen) = some false ∧ cop st .eq (.str wTurn) (.str wRen) = some false := ⟨rfl, rfl, rfl, rfl, rfl⟩
theorem w_in {st : Sto} : cop st .mem (.str wPut) (.tup [.str wPut, .str wTake, .str wMove]) = some true ∧ cop st .mem (.str wTake) (.tup [.str wPut, .str wTake, .str wMove]) = some true ∧ cop st .mem (.str wMove) (.tup [.str wPut, .str wTake, .str wMove]) = some true ∧ cop st .mem (.str wTurn) (.tup [.str wPut, .str wTake, .str wMove]) = some false := ⟨rfl, rfl, rfl, rfl⟩
theorem g13 : Gc 13 = .str wRen := rfl
theorem g25 : Gc 25 = .tup [.str wPut, .str wTake, .str wMove] := rfl
theorem sp_ptC {w : List Nat} {q : Nat} (h : q < 16) (hw : w = wPut ∨ w = wTake ∨ w = wMove) : Cl T Gc 100000 2 152 [.str w, .str (wC (zc q))] (.str (zc q)) := Cl.rt (k := 1) (F := ⟨2, 3, b152⟩) rfl rfl fun n hn st => by
  show exs _ _ _ b152 [some (.str w), some (.str (wC (zc q))), none] st = _
  have hc := sp_ctold h n hn st
  have a := w_eq (st := st)
  have b := w_in (st := st)
  rcases hw with rfl | rfl | rfl
  · simp [b152, g13, g25, a.2.1, b.1, hc, fin, back]
  · simp [b152, g13, g25, a.2.2.1, b.2.1, hc, fin, back]
  · simp [b152, g13, g25, a.2.2.2.1, b.2.2.1, hc, fin, back]
theorem sp_ptT {z : List Nat} : Cl T Gc 100000 2 152 [.str wTurn, .str z] (.str z) := Cl.rt (k := 1) (F := ⟨2, 3, b152⟩) rfl rfl fun n hn st => by
  show exs _ _ _ b152 [some (.str wTurn), some (.str z), none] st = _
  simp [b152, g13, g25, (w_eq (st := st)).2.2.2.2, (w_in (st := st)).2.2.2, fin, back]
theorem sp_ptR {o : List Nat} (hl : o.length ≤ 4) (ho : ∀ k ∈ o, k < 4) : Cl T Gc 100000 3 152 [.str wRen, .str (o.map fun k => 48 + k)] (pic (nI o)) := Cl.rt (k := 2) (F := ⟨2, 3, b152⟩) rfl rfl fun n hn st => by
  show exs _ _ _ b152 [some (.str wRen), some (.str (o.map fun k => 48 + k)), none] st = _
  have hc : ev (PL.call T Gc 100000 n) Gc (.comp [2] (.call 124 (.cons (.var 2) .nil)) (.var 2) (.val (.var 1)) .none) [some (.str wRen), some (.str (o.map fun k => 48 + k)), none] st = .ok (.frz (o.filterMap fun k => some (.int (k : Nat)))) st := by
    refine ev_lcm (fun k : Nat => .str [48 + k]) _ _ ?_ (by omega) fun a ha => ?_
    · simp
    · simp [compB, wipe, sp_fig (ho a ha) n hn]
  rw [fm_some] at hc
  have e : pic (nI o) = .tup (o.map fun k => .int (k : Nat)) := by simp [pic, nI]
  rw [e]
  simp [b152, g13, (w_eq (st := st)).1, hc, fin, back]
end Lw

set_option Elab.async false
set_option linter.all false
set_option maxRecDepth 100000
set_option maxHeartbeats 1000000
namespace Lw
open PL
theorem sp_tupof (ds : List D) (m : Nat) : Cl T Gc 100000 1 92 [.tup ds, .int (m : Nat)] (.bl (decide (ds.length = m))) := Cl.rt (F := ⟨2, 2, b92⟩) rfl rfl fun n hn st => by
  show exs _ _ _ b92 [some (.tup ds), some (.int (m : Nat))] st = _
  have hl : bcall st .len [.tup ds] = some (.int (ds.length : Nat)) := rfl
  have e : (((ds.length : Nat) : Int) == ((m : Nat) : Int)) = decide (ds.length = m) := by
    by_cases h : ds.length = m
    · simp [h]
    · have : ¬ (((ds.length : Nat) : Int) = ((m : Nat) : Int)) := fun e => h (by exact_mod_cast e)
      simp [h, this]
  have hi : isInst .tuple (.tup ds) = some true := rfl
  simp [b92, hl, hi, fin, back]
  exact e
theorem dD_ok {d : Dd} (h : DOk d) : dOk 40 (dD d) = true := by
  cases d with
  | put q => show (List.all [D.str wPut, .str (zc q)] (dOk 39)) = true; simp only [List.all_cons, List.all_nil, Bool.and_true, Bool.and_eq_true]; exact ⟨rfl, zc_cp q h⟩
  | take q => show (List.all [D.str wTake, .str (zc q)] (dOk 39)) = true; simp only [List.all_cons, List.all_nil, Bool.and_true, Bool.and_eq_true]; exact ⟨rfl, zc_cp q h⟩
  | move q r => show (List.all [D.str wMove, .str (zc q), .str (zc r)] (dOk 39)) = true; simp only [List.all_cons, List.all_nil, Bool.and_true, Bool.and_eq_true]; exact ⟨rfl, zc_cp q h.1, zc_cp r h.2⟩
  | turn k => show (List.all [D.str wTurn, .str [65 + k]] (dOk 39)) = true; simp only [List.all_cons, List.all_nil, Bool.and_true, Bool.and_eq_true]; exact ⟨rfl, let_cp k h⟩
  | ren o =>
    show (List.all [D.str wRen, pic (nI o)] (dOk 39)) = true
    simp only [List.all_cons, List.all_nil, Bool.and_true, Bool.and_eq_true]
    refine ⟨rfl, ?_⟩
    show (List.all ((nI o).map D.int) (dOk 38)) = true
    rw [List.all_eq_true]
    intro x hx
    obtain ⟨i, _, rfl⟩ := List.mem_map.mp hx
    rfl
theorem ne_nil {st : Sto} {d : Dd} (h : DOk d) : cop st .eq (dD d) (.tup []) = some false := by
  have e : top st (dD d) = dD d := by cases d <;> rfl
  show (if (dOk 40 (top st (dD d)) && dOk 40 (top st (.tup []))) = true then some (dEq (top st (dD d)) (top st (.tup []))) else none) = _
  rw [e, dD_ok h]
  show some (dEq (dD d) (.tup [])) = _
  cases d <;> rfl
end Lw

set_option Elab.async false
set_option linter.all false
set_option maxRecDepth 100000
set_option maxHeartbeats 1000000
namespace Lw
open PL
theorem g23 : Gc 23 = .str wMove := rfl
theorem g24 : Gc 24 = .tup [.str wPut, .str wTake] := rfl
theorem g12 : Gc 12 = .str wTurn := rfl
theorem g1' : Gc 1 = .int 4 := rfl
theorem unlike_core {o : List Nat} (nd : o.Nodup) (st : Sto) : ∀ i k, o[i]? = some k → cop st .nmem (.int (k : Nat)) (.tup ((nI (o.take i)).map D.int)) = some true := fun i k hk => by
  have nm : decide ((k : Int) ∈ nI (o.take i)) = false := by
    rw [decide_eq_false_iff_not]
    intro z
    obtain ⟨k', hk', e'⟩ := List.mem_map.mp z
    have : k' = k := by exact_mod_cast e'
    subst this
    have dj := (List.nodup_append.mp (show (o.take i ++ o.drop i).Nodup by rw [List.take_append_drop]; exact nd)).2.2
    refine dj k' hk' k' (List.mem_iff_getElem?.mpr ⟨0, ?_⟩) rfl
    rw [List.getElem?_drop]
    exact hk
  have mm := mem_ints (k : Int) (nI (o.take i)) st
  rw [nm] at mm
  have mm2 : cin st (.int (k : Nat)) (.tup ((nI (o.take i)).map D.int)) = some false := mm
  have e : cop st .nmem (.int (k : Nat)) (.tup ((nI (o.take i)).map D.int)) = (cin st (.int (k : Nat)) (.tup ((nI (o.take i)).map D.int))).map (!·) := by simp [cop]
  rw [e, mm2]
  rfl
end Lw

set_option Elab.async false
set_option linter.all false
set_option maxRecDepth 100000
set_option maxHeartbeats 1000000
namespace Lw
open PL
theorem all_rep {α : Type} (l : List α) (st : Sto) : bcall st .all [.frz (l.map fun _ => .bl true)] = some (.bl true) := by
  have h : blsOf (l.map fun _ => D.bl true) = some (l.map fun _ => true) := by
    induction l with
    | nil => rfl
    | cons a r ih => simp [blsOf, ih]
  show ((some (l.map fun _ => D.bl true)).bind blsOf).map (fun bs => D.bl (bs.all id)) = _
  rw [Option.bind_some, h]
  simp
theorem sp_unlike {o : List Nat} (hl : o.length ≤ 4) (ho : ∀ k ∈ o, k < 4) (nd : o.Nodup) : Cl T Gc 100000 3 107 [pic (nI o)] (.bl true) := Cl.rt (k := 2) (F := ⟨1, 3, b107⟩) rfl rfl fun n hn st => by
  show exs _ _ _ b107 [some (pic (nI o)), none, none] st = _
  have hp : pic (nI o) = .tup (o.map fun k => .int (k : Nat)) := by simp [pic, nI]
  have h1 : ev (PL.call T Gc 100000 n) Gc (.comp [1] (.call 1 (.cons (.var 1) (.cons (.int 0) (.cons (.bin .sub (.glb 1) (.int 1)) .nil)))) (.var 1) (.val (.var 0)) .none) [some (pic (nI o)), none, none] st = .ok (.frz (o.filterMap fun _ => some (.bl true))) st := by
    refine ev_lcm (fun k : Nat => .int (k : Nat)) _ _ ?_ (by omega) fun a ha => ?_
    · simp [hp]
    · have hb := sp_between ((a : Nat) : Int) 0 3 n hn st
      have e : (decide ((0 : Int) ≤ (a : Nat)) && decide (((a : Nat) : Int) ≤ 3)) = true := by
        have := ho a ha
        simp
        omega
      rw [e] at hb
      simp [compB, wipe, g1', hb]
  rw [fm_some] at h1
  have h2 : ev (PL.call T Gc 100000 n) Gc (.comp [2, 1] (.cmp .nmem (.var 1) (.slc (.var 0) .none (.some (.var 2)))) (.tup (.cons (.var 2) (.cons (.var 1) .nil))) (.enum (.var 0)) .none) [some (pic (nI o)), none, none] st = .ok (.frz (o.zipIdx.filterMap fun _ => some (.bl true))) st := by
    refine ev_lcm (fun p : Nat × Nat => .tup [.int (p.2 : Nat), .int (p.1 : Nat)]) _ _ ?_ (by simp; omega) fun a ha => ?_
    · simp only [xi_enum, x_var, List.getElem?_cons_zero, pic, bind_ok, walk_tup, oD_some, nI_D, enum_map]
    · have hk : o[a.2]? = some a.1 := List.mem_zipIdx_iff_getElem?.mp ha
      have hlt : a.2 < o.length := (List.getElem?_eq_some_iff.mp hk).1
      have u := unlike_core nd st a.2 a.1 hk
      have c : cut ((nI o).map D.int) none (some ((a.2 : Nat) : Int)) = (nI (o.take a.2)).map D.int := by
        have e1 : sIx ((nI o).map D.int).length ((nI o).map D.int).length (some ((a.2 : Nat) : Int)) = a.2 := by
          unfold sIx
          rw [List.length_map, nI_len]
          show (if ((a.2 : Nat) : Int) < 0 then _ else min ((a.2 : Nat) : Int).toNat o.length) = _
          rw [if_neg (by omega), Int.toNat_natCast]
          omega
        show ((((nI o).map D.int).drop 0).take (sIx _ _ _ - 0)) = _
        rw [e1, List.drop_zero, Nat.sub_zero]
        simp [nI, List.map_take]
      simp [compB, wipe, c, u]
  rw [fm_some] at h2
  have hi : isInst .tuple (pic (nI o)) = some true := rfl
  simp [b107, hi, h1, h2, all_rep, fin, back]
end Lw

set_option Elab.async false
set_option linter.all false
set_option maxRecDepth 100000
set_option maxHeartbeats 2000000
namespace Lw
open PL
theorem m_eq {st : Sto} : cop st .eq (.str wPut) (.str wMove) = some false ∧ cop st .eq (.str wTake) (.str wMove) = some false ∧ cop st .eq (.str wMove) (.str wMove) = some true ∧ cop st .eq (.str wTurn) (.str wMove) = some false ∧ cop st .eq (.str wRen) (.str wMove) = some false := ⟨rfl, rfl, rfl, rfl, rfl⟩
theorem t_eq {st : Sto} : cop st .eq (.str wTurn) (.str wTurn) = some true ∧ cop st .eq (.str wRen) (.str wTurn) = some false := ⟨rfl, rfl⟩
theorem p_in {st : Sto} : cop st .mem (.str wPut) (.tup [.str wPut, .str wTake]) = some true ∧ cop st .mem (.str wTake) (.tup [.str wPut, .str wTake]) = some true ∧ cop st .mem (.str wTurn) (.tup [.str wPut, .str wTake]) = some false ∧ cop st .mem (.str wRen) (.tup [.str wPut, .str wTake]) = some false := ⟨rfl, rfl, rfl, rfl⟩
theorem at0 (a : D) (l : List D) : atI (a :: l) 0 = some a := by
  have e : ixN (a :: l).length 0 = some 0 := by
    unfold ixN
    rw [if_pos (by omega), if_pos (by rw [List.length_cons]; omega)]
    rfl
  show (ixN (a :: l).length 0).bind _ = _
  rw [e]
  rfl
theorem at1 (a b : D) (l : List D) : atI (a :: b :: l) 1 = some b := by
  have e : ixN (a :: b :: l).length 1 = some 1 := by
    unfold ixN
    rw [if_pos (by omega), if_pos (by rw [List.length_cons, List.length_cons]; omega)]
    rfl
  show (ixN (a :: b :: l).length 1).bind _ = _
  rw [e]
  rfl
theorem is_t (l : List D) : isInst .tuple (.tup l) = some true := rfl
theorem is_s (z : List Nat) : isInst .str (.str z) = some true := rfl
theorem sp_isdeed {d : Dd} (h : DOk d) : Cl T Gc 100000 4 149 [dD d] (.bl true) := Cl.rt (k := 3) (F := ⟨1, 2, b149⟩) rfl rfl fun n hn st => by
  show exs _ _ _ b149 [some (dD d), none] st = _
  have nn := ne_nil (st := st) h
  have m := m_eq (st := st)
  have t := t_eq (st := st)
  have p := p_in (st := st)
  cases d with
  | put q =>
    have c : PL.call T Gc 100000 n 8 [.int 4, .str (zc q)] st = .ok (.bl true) st := sp_ischoice (m := 4) (q := q) (by omega) h n (by omega) st
    have l : PL.call T Gc 100000 n 92 [.tup [.str wPut, .str (zc q)], .int 2] st = .ok (.bl true) st := sp_tupof [.str wPut, .str (zc q)] 2 n (by omega) st
    simp only [dD] at nn
    simp [b149, dD, nn, is_t, is_s, at0, at1, g23, g24, g1', m.1, l, p.1, c, fin, back]
  | take q =>
    have c : PL.call T Gc 100000 n 8 [.int 4, .str (zc q)] st = .ok (.bl true) st := sp_ischoice (m := 4) (q := q) (by omega) h n (by omega) st
    have l : PL.call T Gc 100000 n 92 [.tup [.str wTake, .str (zc q)], .int 2] st = .ok (.bl true) st := sp_tupof [.str wTake, .str (zc q)] 2 n (by omega) st
    simp only [dD] at nn
    simp [b149, dD, nn, is_t, is_s, at0, at1, g23, g24, g1', m.2.1, l, p.2.1, c, fin, back]
  | turn k =>
    have c : PL.call T Gc 100000 n 69 [.int 4, .str [65 + k]] st = .ok (.bl true) st := sp_isletter (m := 4) (k := k) (by omega) h n (by omega) st
    have l : PL.call T Gc 100000 n 92 [.tup [.str wTurn, .str [65 + k]], .int 2] st = .ok (.bl true) st := sp_tupof [.str wTurn, .str [65 + k]] 2 n (by omega) st
    simp only [dD] at nn
    simp [b149, dD, nn, is_t, is_s, at0, at1, g23, g24, g12, g1', m.2.2.2.1, l, p.2.2.1, t.1, c, fin, back]
  | ren o =>
    have c := sp_unlike h.1 h.2.1 h.2.2 n (by omega) st
    have l : PL.call T Gc 100000 n 92 [.tup [.str wRen, pic (nI o)], .int 2] st = .ok (.bl true) st := sp_tupof [.str wRen, pic (nI o)] 2 n (by omega) st
    simp only [dD] at nn
    simp [b149, dD, nn, is_t, is_s, at0, at1, g23, g24, g12, g13, g1', m.2.2.2.2, l, p.2.2.2, t.2, (w_eq (st := st)).1, c, fin, back]
  | move q r =>
    have c1 : ∀ st, PL.call T Gc 100000 n 8 [.int 4, .str (zc q)] st = .ok (.bl true) st := fun st => sp_ischoice (m := 4) (q := q) (by omega) h.1 n (by omega) st
    have c2 : ∀ st, PL.call T Gc 100000 n 8 [.int 4, .str (zc r)] st = .ok (.bl true) st := fun st => sp_ischoice (m := 4) (q := r) (by omega) h.2 n (by omega) st
    have l : PL.call T Gc 100000 n 92 [.tup [.str wMove, .str (zc q), .str (zc r)], .int 3] st = .ok (.bl true) st := sp_tupof [.str wMove, .str (zc q), .str (zc r)] 3 n (by omega) st
    simp only [dD] at nn
    have hc : ev (PL.call T Gc 100000 n) Gc (.comp [1] (.call 8 (.cons (.glb 1) (.cons (.var 1) .nil))) (.var 1) (.val (.slc (.var 0) (.some (.int 1)) .none)) .none) [some (dD (.move q r)), none] st = .ok (.frz ([q, r].filterMap fun _ => some (.bl true))) st := by
      refine ev_lcm (fun x : Nat => .str (zc x)) _ _ ?_ (by simp) fun a ha => ?_
      · have : slD st (dD (.move q r)) (some 1) none = some (.tup [.str (zc q), .str (zc r)]) := rfl
        simp [this]
      · simp only [List.mem_cons, List.not_mem_nil, or_false] at ha
        rcases ha with rfl | rfl
        · simp [compB, wipe, g1', c1]
        · simp [compB, wipe, g1', c2]
    rw [fm_some] at hc
    have ha : blsOf [D.bl true, D.bl true] = some [true, true] := rfl
    simp only [dD] at hc
    simp [b149, dD, nn, is_t, is_s, at0, at1, g23, m.2.2.1, l, hc, ha, fin, back]
end Lw

set_option Elab.async false
set_option linter.all false
set_option maxRecDepth 100000
set_option maxHeartbeats 2000000
namespace Lw
open PL
theorem g17 : Gc 17 = .str [32] := rfl
theorem tups_star {C : Nat → List D → Sto → R D} {G : Nat → D} {env : Env} {st : Sto} {i : Nat} {e : E} {d : D} {ds : List D} (h1 : env[i]? = some (some d)) (h2 : ev C G e env st = .ok (.frz ds) st) (hz : szOk (d :: ds).length = true) : ev C G (.tups (.cons (.var i) (.star e .nil))) env st = .ok (.tup (d :: ds)) st := by
  have e2 : sv st (.frz ds) = some ds := rfl
  simp only [ev, evz, h1, h2, bind_ok, e2, oD_some, List.append_nil]
  rw [if_pos hz]
theorem sp_readb {s w : List Nat} {b : Bool} (ps : List (List Nat × D)) (hp : ∀ p ∈ ps, Cl T Gc 100000 3 152 [.str w, .str p.1] p.2) (hs : splitC 32 s = w :: ps.map (·.1)) (hd : Cl T Gc 100000 4 149 [.tup (.str w :: ps.map (·.2))] (.bl b)) (h1 : s.length < 1000) (h2 : ps.length < 1000) :
    Cl T Gc 100000 5 153 [.str s] (if b then .tup (.str w :: ps.map (·.2)) else .non) := Cl.rt (k := 4) (F := ⟨1, 5, b153⟩) rfl rfl fun n hn st => by
  show exs _ _ _ b153 [some (.str s), none, none, none, none] st = _
  have hm : mOk .split (.str s) = true := rfl
  have hc : mcall st .split (.str s) [.str [32]] = .ok (.frz (.str w :: ps.map fun p => .str p.1)) st := by
    show (if (szOk (s.length + 2) && Nat.blt 32 256) = true then R.ok (D.frz ((splitC 32 s).map .str)) st else .bad) = _
    rw [if_pos (by rw [Bool.and_eq_true]; exact ⟨szOk_of (by omega), rfl⟩), hs, List.map_cons, List.map_map]
    rfl
  have hev : ev (PL.call T Gc 100000 n) Gc (.comp [4] (.call 152 (.cons (.var 1) (.cons (.var 4) .nil))) (.var 4) (.val (.var 2)) .none) [some (.str s), some (.str w), some (.frz (ps.map fun p => .str p.1)), none, none] st = .ok (.frz (ps.filterMap fun p => some p.2)) st := by
    refine ev_lcm (fun p : List Nat × D => .str p.1) _ _ ?_ (by omega) fun a ha => ?_
    · simp
    · simp [compB, wipe, hp a ha n (by omega)]
  rw [fm_some] at hev
  have hd' := hd n (by omega) st
  have hl : lv st (.frz (.str w :: ps.map fun p => .str p.1)) = some (.str w :: ps.map fun p => .str p.1) := rfl
  have hb : Nat.blt (ps.map fun p => D.str p.1).length 16384 = true := by
    rw [List.length_map, Nat.blt_eq]
    omega
  have s1 : ex (PL.call T Gc 100000 n) Gc 100000 (.asg (.tupS 1 2) (.mth .split (.var 0) (.cons (.glb 17) .nil))) [some (.str s), none, none, none, none] st = .ok (.nx [some (.str s), some (.str w), some (.frz (ps.map fun p => .str p.1)), none, none]) st := by
    have e : ev (PL.call T Gc 100000 n) Gc (.mth .split (.var 0) (.cons (.glb 17) .nil)) [some (.str s), none, none, none, none] st = .ok (.frz (.str w :: ps.map fun p => .str p.1)) st := by
      simp [g17, hm, hc]
    simp only [ex, e, bind_ok, evt, hl]
    rw [if_pos (by rw [hb]; rfl)]
    rfl
  have s2 : ex (PL.call T Gc 100000 n) Gc 100000 (.asg (.var 3) (.tups (.cons (.var 1) (.star (.comp [4] (.call 152 (.cons (.var 1) (.cons (.var 4) .nil))) (.var 4) (.val (.var 2)) .none) .nil)))) [some (.str s), some (.str w), some (.frz (ps.map fun p => .str p.1)), none, none] st = .ok (.nx [some (.str s), some (.str w), some (.frz (ps.map fun p => .str p.1)), some (.tup (.str w :: ps.map (·.2))), none]) st := by
    have hz : szOk (.str w :: ps.map (·.2)).length = true := szOk_of (by simp; omega)
    have e : ev (PL.call T Gc 100000 n) Gc (.tups (.cons (.var 1) (.star (.comp [4] (.call 152 (.cons (.var 1) (.cons (.var 4) .nil))) (.var 4) (.val (.var 2)) .none) .nil))) [some (.str s), some (.str w), some (.frz (ps.map fun p => .str p.1)), none, none] st = .ok (.tup (.str w :: ps.map (·.2))) st := by
      exact tups_star rfl hev hz
    simp only [ex, e, bind_ok, evt]
    rfl
  rw [show b153 = .cons (.ifs (.not (.isi (.var 0) .str)) (.cons (.ret .non) .nil) .nil) (.cons (.asg (.tupS 1 2) (.mth .split (.var 0) (.cons (.glb 17) .nil))) (.cons (.asg (.var 3) (.tups (.cons (.var 1) (.star (.comp [4] (.call 152 (.cons (.var 1) (.cons (.var 4) .nil))) (.var 4) (.val (.var 2)) .none) .nil)))) (.cons (.ret (.ife (.call 149 (.cons (.var 3) .nil)) (.var 3) .non)) .nil))) from rfl,
    exs_cons (env' := [some (.str s), none, none, none, none]) (st' := st) (by simp [is_s]), exs_cons s1, exs_cons s2]
  cases b <;> simp [hd', fin, back]
theorem sp_readp {s w : List Nat} (ps : List (List Nat × D)) (hp : ∀ p ∈ ps, Cl T Gc 100000 3 152 [.str w, .str p.1] p.2) (hs : splitC 32 s = w :: ps.map (·.1)) (hd : Cl T Gc 100000 4 149 [.tup (.str w :: ps.map (·.2))] (.bl true)) (h1 : s.length < 1000) (h2 : ps.length < 1000) :
    Cl T Gc 100000 5 153 [.str s] (.tup (.str w :: ps.map (·.2))) := sp_readb ps hp hs hd h1 h2
end Lw

set_option Elab.async false
set_option linter.all false
set_option maxRecDepth 100000
set_option maxHeartbeats 2000000
namespace Lw
open PL
theorem text_len {d : Dd} (h : DOk d) : (dT d).length < 1000 := by
  cases d with
  | put q => have := wc_len q; simp [dT, dW, joinL, wPut]; omega
  | take q => have := wc_len q; simp [dT, dW, joinL, wTake]; omega
  | move q r => have := wc_len q; have := wc_len r; simp [dT, dW, joinL, wMove]; omega
  | turn k => simp [dT, dW, joinL, wTurn]
  | ren o => have := h.1; simp [dT, dW, joinL, wRen]; omega
theorem up {k k' f : Nat} {as : List D} {d : D} (h : Cl T Gc 100000 k f as d) (hk : k ≤ k') : Cl T Gc 100000 k' f as d := fun n hn st => h n (Nat.le_trans hk hn) st
theorem sp_read {d : Dd} (h : DOk d) : Cl T Gc 100000 5 153 [.str (dT d)] (dD d) := by
  have hs := split_text h
  have hd := sp_isdeed h
  have hl := text_len h
  cases d with
  | put q => exact sp_readp [(wC (zc q), .str (zc q))] (fun p hp => by rw [List.mem_singleton.mp hp]; exact up (sp_ptC h (.inl rfl)) (by omega)) hs hd hl (by simp)
  | take q => exact sp_readp [(wC (zc q), .str (zc q))] (fun p hp => by rw [List.mem_singleton.mp hp]; exact up (sp_ptC h (.inr (.inl rfl))) (by omega)) hs hd hl (by simp)
  | move q r =>
    refine sp_readp [(wC (zc q), .str (zc q)), (wC (zc r), .str (zc r))] (fun p hp => ?_) hs hd hl (by simp)
    rcases List.mem_cons.mp hp with e | hp
    · rw [e]; exact up (sp_ptC h.1 (.inr (.inr rfl))) (by omega)
    · rw [List.mem_singleton.mp hp]; exact up (sp_ptC h.2 (.inr (.inr rfl))) (by omega)
  | turn k => exact sp_readp [([65 + k], .str [65 + k])] (fun p hp => by rw [List.mem_singleton.mp hp]; exact up sp_ptT (by omega)) hs hd hl (by simp)
  | ren o => exact sp_readp [(o.map fun k => 48 + k, pic (nI o))] (fun p hp => by rw [List.mem_singleton.mp hp]; exact sp_ptR h.1 h.2.1) hs hd hl (by simp)
end Lw

set_option Elab.async false
set_option linter.all false
set_option maxRecDepth 100000
set_option maxHeartbeats 2000000
namespace Lw
open PL
theorem nd_one {w : List Nat} (h1 : ∀ st, cop st .eq (.tup [.str w]) (.tup []) = some false) (h2 : ∀ st, cop st .eq (.str w) (.str wMove) = some false) : Cl T Gc 100000 4 149 [.tup [.str w]] (.bl false) := Cl.rt (k := 3) (F := ⟨1, 2, b149⟩) rfl rfl fun n hn st => by
  show exs _ _ _ b149 [some (.tup [.str w]), none] st = _
  have l : PL.call T Gc 100000 n 92 [.tup [.str w], .int 2] st = .ok (.bl false) st := sp_tupof [.str w] 2 n (by omega) st
  simp [b149, h1, h2, is_t, is_s, at0, g23, l, fin, back]
theorem nd_turn : Cl T Gc 100000 4 149 [.tup [.str wTurn, .str [45]]] (.bl false) := Cl.rt (k := 3) (F := ⟨1, 2, b149⟩) rfl rfl fun n hn st => by
  show exs _ _ _ b149 [some (.tup [.str wTurn, .str [45]]), none] st = _
  have nn : cop st .eq (.tup [.str wTurn, .str [45]]) (.tup []) = some false := rfl
  have l : PL.call T Gc 100000 n 92 [.tup [.str wTurn, .str [45]], .int 2] st = .ok (.bl true) st := sp_tupof [.str wTurn, .str [45]] 2 n (by omega) st
  have c : PL.call T Gc 100000 n 69 [.int 4, .str [45]] st = .ok (.bl false) st := by
    obtain ⟨k, rfl⟩ : ∃ k, n = k + 1 := ⟨n - 1, by omega⟩
    rw [call_eq (F := ⟨2, 2, b69⟩) rfl rfl]
    show fin _ (exs _ _ _ b69 [some (.int 4), some (.str [45])] st) = _
    have g0 : Gc 0 = .str [65, 66, 67, 68] := rfl
    have sl : cut ([65, 66, 67, 68] : List Nat) none (some 4) = [65, 66, 67, 68] := rfl
    have t : PL.call T Gc 100000 k 2 [.str [45], .str [65, 66, 67, 68]] st = .ok (.bl false) st := sp_textof [45] [65, 66, 67, 68] (by simp) k (by omega) st
    simp [b69, g0, sl, t, fin, back]
  have m := m_eq (st := st)
  have t := t_eq (st := st)
  have p := p_in (st := st)
  simp [b149, nn, is_t, is_s, at0, at1, g23, g24, g12, g1', m.2.2.2.1, l, p.2.2.1, t.1, c, fin, back]
theorem nd_move : Cl T Gc 100000 4 149 [.tup [.str wMove, .str [65]]] (.bl false) := Cl.rt (k := 3) (F := ⟨1, 2, b149⟩) rfl rfl fun n hn st => by
  show exs _ _ _ b149 [some (.tup [.str wMove, .str [65]]), none] st = _
  have nn : cop st .eq (.tup [.str wMove, .str [65]]) (.tup []) = some false := rfl
  have l : PL.call T Gc 100000 n 92 [.tup [.str wMove, .str [65]], .int 3] st = .ok (.bl false) st := sp_tupof [.str wMove, .str [65]] 3 n (by omega) st
  have m := m_eq (st := st)
  simp [b149, nn, is_t, is_s, at0, g23, m.2.2.1, l, fin, back]
def wPutU : List Nat := [80, 117, 116]
theorem nd_putU : Cl T Gc 100000 4 149 [.tup [.str wPutU, .str [65]]] (.bl false) := Cl.rt (k := 3) (F := ⟨1, 2, b149⟩) rfl rfl fun n hn st => by
  show exs _ _ _ b149 [some (.tup [.str wPutU, .str [65]]), none] st = _
  have nn : cop st .eq (.tup [.str wPutU, .str [65]]) (.tup []) = some false := rfl
  have l : PL.call T Gc 100000 n 92 [.tup [.str wPutU, .str [65]], .int 2] st = .ok (.bl true) st := sp_tupof [.str wPutU, .str [65]] 2 n (by omega) st
  have e1 : cop st .eq (.str wPutU) (.str wMove) = some false := rfl
  have e2 : cop st .mem (.str wPutU) (.tup [.str wPut, .str wTake]) = some false := rfl
  have e3 : cop st .eq (.str wPutU) (.str wTurn) = some false := rfl
  have e4 : cop st .eq (.str wPutU) (.str wRen) = some false := rfl
  simp [b149, nn, is_t, is_s, at0, at1, g23, g24, g12, g13, g1', l, e1, e2, e3, e4, fin, back]
/-- the odd lines -/
def odds : List D := [.str [], .str wPut, .non, .int 5, .str [116, 117, 114, 110, 32, 45], .str [109, 111, 118, 101, 32, 65], .str [80, 117, 116, 32, 65]]
theorem rd_txt {s w : List Nat} (ps : List (List Nat × D)) (hp : ∀ p ∈ ps, Cl T Gc 100000 3 152 [.str w, .str p.1] p.2) (hs : splitC 32 s = w :: ps.map (·.1)) (hd : Cl T Gc 100000 4 149 [.tup (.str w :: ps.map (·.2))] (.bl false)) (h1 : s.length < 1000) (h2 : ps.length < 1000) : Cl T Gc 100000 5 153 [.str s] .non := sp_readb ps hp hs hd h1 h2
theorem sp_odd : ∀ d ∈ odds, Cl T Gc 100000 5 153 [d] .non := by
  have nt : ∀ d, isInst .str d = some false → Cl T Gc 100000 5 153 [d] .non := fun d hd => Cl.rt (k := 4) (F := ⟨1, 5, b153⟩) rfl rfl fun n hn st => by
    show exs _ _ _ b153 [some d, none, none, none, none] st = _
    simp [b153, hd, fin, back]
  intro d hd
  simp only [odds, List.mem_cons, List.not_mem_nil, or_false] at hd
  rcases hd with rfl | rfl | rfl | rfl | rfl | rfl | rfl
  · exact rd_txt (w := []) [] (fun p hp => nomatch hp) (by decide) (nd_one (fun _ => rfl) fun _ => rfl) (by simp) (by simp)
  · exact rd_txt (w := wPut) [] (fun p hp => nomatch hp) (by decide) (nd_one (fun _ => rfl) fun _ => rfl) (by simp [wPut]) (by simp)
  · exact nt _ rfl
  · exact nt _ rfl
  · exact rd_txt [([45], .str [45])] (fun p hp => by rw [List.mem_singleton.mp hp]; exact up sp_ptT (by omega)) (by decide) nd_turn (by simp) (by simp)
  · exact rd_txt [([65], .str [65])] (fun p hp => by rw [List.mem_singleton.mp hp]; exact up (sp_ptC (q := 1) (by omega) (.inr (.inr rfl))) (by omega)) (by decide) nd_move (by simp) (by simp)
  · refine rd_txt [([65], .str [65])] (fun p hp => ?_) (by decide) nd_putU (by simp) (by simp)
    rw [List.mem_singleton.mp hp]
    exact Cl.rt (k := 2) (F := ⟨2, 3, b152⟩) rfl rfl fun n hn st => by
      show exs _ _ _ b152 [some (.str wPutU), some (.str [65]), none] st = _
      have e1 : cop st .eq (.str wPutU) (.str wRen) = some false := rfl
      have e2 : cop st .mem (.str wPutU) (.tup [.str wPut, .str wTake, .str wMove]) = some false := rfl
      simp [b152, g13, g25, e1, e2, fin, back]
end Lw

set_option Elab.async false
set_option linter.all false
set_option maxRecDepth 100000
set_option maxHeartbeats 1000000
/-! Comprehensions over items of any kind, for simp. -/
namespace PL
@[simp ↓] theorem bind_ok' {α β : Type} {a : α} {s : Sto} {f : α → Sto → R β} : (R.ok a s).bind f = f a s := Eq.trans rfl rfl
@[simp ↓] theorem bind_exn' {α β : Type} {c : Nat} {d : D} {s : Sto} {f : α → Sto → R β} : (R.exn c d s : R α).bind f = .exn c d s := Eq.trans rfl rfl
@[simp ↓] theorem bind_bad' {α β : Type} {f : α → Sto → R β} : (R.bad : R α).bind f = .bad := Eq.trans rfl rfl
def compA {α : Type} (f : α → Sto → R (Option D)) (xs : List α) (st : Sto) (_ : Tag f := ()) : R (List D) := match xs with
  | [] => .ok [] st
  | x :: xs => (f x st).bind fun o st1 => match o with
    | none => compA f xs st1
    | some y => (compA f xs st1).bind fun ys st2 => .ok (y :: ys) st2
theorem compA_nil0 {α : Type} (f : α → Sto → R (Option D)) (st : Sto) : compA f [] st = .ok [] st := rfl
theorem compA_cons0 {α : Type} (f : α → Sto → R (Option D)) (x : α) (xs : List α) (st : Sto) : compA f (x :: xs) st = (f x st).bind fun o st1 => match o with
    | none => compA f xs st1
    | some y => (compA f xs st1).bind fun ys st2 => .ok (y :: ys) st2 := rfl
/-- .. with what is known of an item -/
def compM {α : Type} (xs : List α) (f : (a : α) → a ∈ xs → Sto → R (Option D)) (st : Sto) : R (List D) := compA (fun a : {x // x ∈ xs} => f a.1 a.2) xs.attach st
theorem bind_eq {α β : Type} {r : R α} {f g : α → Sto → R β} (h : ∀ a s, f a s = g a s) : r.bind f = r.bind g := by
  have e : f = g := funext fun a => funext fun s => h a s
  rw [e]
theorem compL_A (f : D → Sto → R (Option D)) : ∀ (ds : List D) (st : Sto), compL f ds st = compA f ds st
  | [], st => rfl
  | d :: ds, st => by
    rw [compL, compA_cons0]
    refine bind_eq fun o s => ?_
    cases o
    · exact compL_A f ds s
    · show (compL f ds s).bind _ = (compA f ds s).bind _
      rw [compL_A f ds]
@[simp] theorem compA_map {α β : Type} (φ : α → β) (f : β → Sto → R (Option D)) : ∀ (xs : List α) (st : Sto), compA f (xs.map φ) st = compA (fun a => f (φ a)) xs st
  | [], st => rfl
  | d :: ds, st => by
    rw [List.map_cons, compA_cons0, compA_cons0]
    refine bind_eq fun o s => ?_
    cases o
    · exact compA_map φ f ds s
    · show (compA f (ds.map φ) s).bind _ = (compA (fun a => f (φ a)) ds s).bind _
      rw [compA_map φ f ds]
@[simp] theorem compA_nil {α : Type} (f : α → Sto → R (Option D)) (st : Sto) : compA f [] st = .ok [] st := Eq.trans rfl rfl
@[simp] theorem compA_cons {α : Type} (f : α → Sto → R (Option D)) (x : α) (xs : List α) (st : Sto) : compA f (x :: xs) st = (f x st).bind fun o st1 => match o with
    | none => compA f xs st1
    | some y => (compA f xs st1).bind fun ys st2 => .ok (y :: ys) st2 := Eq.trans rfl rfl
theorem compA_some {α : Type} (y : α → D) : ∀ (xs : List α) (st : Sto), compA (fun a s => .ok (some (y a)) s) xs st = .ok (xs.map y) st
  | [], st => rfl
  | d :: ds, st => by rw [compA_cons0, bind_ok, compA_some y ds]; rfl
theorem compA_none {α : Type} : ∀ (xs : List α) (st : Sto), compA (fun _ s => .ok none s) xs st = .ok [] st
  | [], st => rfl
  | d :: ds, st => by rw [compA_cons0, bind_ok, compA_none ds]
theorem compA_if {α : Type} (c : α → Prop) [DecidablePred c] (y : α → D) : ∀ (xs : List α) (st : Sto), compA (fun a s => if c a then .ok (some (y a)) s else .ok none s) xs st = .ok ((xs.filter fun a => decide (c a)).map y) st
  | [], st => rfl
  | d :: ds, st => by
    by_cases h : c d
    · rw [compA_cons0, if_pos h, bind_ok, compA_if c y ds, List.filter_cons, if_pos (by simpa using h), List.map_cons]; rfl
    · rw [compA_cons0, if_neg h, bind_ok, compA_if c y ds, List.filter_cons, if_neg (by simpa using h)]
theorem compA_pure {α : Type} (y : α → Option D) : ∀ (xs : List α) (st : Sto), compA (fun a s => .ok (y a) s) xs st = .ok (xs.filterMap y) st
  | [], st => rfl
  | d :: ds, st => by
    rw [compA_cons0, bind_ok, compA_pure y ds, List.filterMap_cons]
    cases y d <;> rfl
theorem compM_A {α : Type} (f : α → Sto → R (Option D)) (xs : List α) (st : Sto) : compM xs (fun a _ => f a) st = compA f xs st := by
  unfold compM
  conv => rhs; rw [← List.attach_map_subtype_val xs]
  rw [compA_map]
/-- (low: what is nil, cons or a map goes first) -/
@[simp low] theorem compA_M {α : Type} (f : α → Sto → R (Option D)) (xs : List α) (st : Sto) : compA f xs st = compM xs (fun a _ => f a) st := (compM_A f xs st).symm
@[simp] theorem compM_some {α : Type} (y : α → D) (xs : List α) (st : Sto) : compM xs (fun a _ s => .ok (some (y a)) s) st = .ok (xs.map y) st := (compM_A _ xs st).trans (compA_some y xs st)
@[simp] theorem compM_none {α : Type} (xs : List α) (st : Sto) : compM xs (fun _ _ s => .ok none s) st = .ok [] st := (compM_A _ xs st).trans (compA_none xs st)
@[simp] theorem compM_if {α : Type} (c : α → Prop) [DecidablePred c] (y : α → D) (xs : List α) (st : Sto) : compM xs (fun a _ s => if c a then .ok (some (y a)) s else .ok none s) st = .ok ((xs.filter fun a => decide (c a)).map y) st := (compM_A _ xs st).trans (compA_if c y xs st)
@[simp] theorem compM_pure {α : Type} (y : α → Option D) (xs : List α) (st : Sto) : compM xs (fun a _ s => .ok (y a) s) st = .ok (xs.filterMap y) st := (compM_A _ xs st).trans (compA_pure y xs st)
section
variable {C : Nat → List D → Sto → R D} {G : Nat → D} {W : Nat} {env : Env} {st : Sto}
@[simp] theorem x_comp {own : List Nat} {elt : E} {tg : Tg} {it : It} {c : Oe} : ev C G (.comp own elt tg it c) env st = (evi C G it env st).bind fun p s1 => if szOk p.1.length then ((compA (fun x s2 => (evt C G tg x (wipe env own) s2).bind fun env2 s3 => (evc C G c env2 s3).bind fun b s4 => if b then (ev C G elt env2 s4).bind fun y s5 => .ok (some y) s5 else .ok none s4) p.1 (lock s1 p.2)).noX.unl p.2).bind fun ds s6 => .ok (.frz ds) s6 else .bad := by
  rw [ev]
  refine bind_eq fun p s1 => ?_
  rw [compL_A]
@[simp] theorem unl_okk {α : Type} {a : α} {ids : List Nat} : (R.ok a st).unl ids = .ok a (unlock st ids) := Eq.trans rfl rfl
@[simp] theorem unlock_nil : unlock st [] = st := Eq.trans rfl rfl
@[simp] theorem wipe_nil : wipe env [] = env := Eq.trans rfl rfl
@[simp] theorem wipe_cons {i : Nat} {r : List Nat} : wipe env (i :: r) = (wipe env r).set i none := Eq.trans rfl rfl
end
@[simp] theorem gq_0 {α : Type} {a : α} {l : List α} : (a :: l)[0]? = some a := Eq.trans rfl rfl
@[simp] theorem gq_s {α : Type} {a : α} {l : List α} {k : Nat} : (a :: l)[k + 1]? = l[k]? := Eq.trans rfl rfl
@[simp] theorem szOk_t {n : Nat} (h : n ≤ 16777216) : szOk n = true := Nat.ble_eq_true_of_le h
@[simp] theorem szLt_t {n : Nat} (h : n < 16777216) : szLt n = true := szLt_of h
@[simp] theorem rngOk_t {i : Int} (h : -(2 ^ 62) ≤ i) (h2 : i < 2 ^ 62) : rngOk i = true := by
  simp only [rngOk, Bool.and_eq_true, decide_eq_true_eq]
  omega
theorem small_t {i : Int} (h : -(2 ^ 64) < i) (h2 : i < 2 ^ 64) : small i = true := by
  simp only [small, Bool.and_eq_true, decide_eq_true_eq]
  omega

/-! ### what else stands in expressions -/
section
variable {C : Nat → List D → Sto → R D} {G : Nat → D} {W : Nat} {env : Env} {st : Sto}
@[simp] theorem x_tups {zs : Zs} : ev C G (.tups zs) env st = (evz C G zs env st).bind fun ds s1 => if szOk ds.length then .ok (.tup ds) s1 else .bad := by simp only [ev]
@[simp] theorem x_lsts {zs : Zs} : ev C G (.lsts zs) env st = (evz C G zs env st).bind fun ds s1 => if szOk ds.length then .ok (.frz ds) s1 else .bad := by simp only [ev]
@[simp] theorem xz_nil : evz C G .nil env st = .ok [] st := by simp only [evz]
@[simp] theorem xz_cons {e : E} {zs : Zs} : evz C G (.cons e zs) env st = (ev C G e env st).bind fun x s1 => (evz C G zs env s1).bind fun xs s2 => .ok (x :: xs) s2 := by simp only [evz]
@[simp] theorem xz_star {e : E} {zs : Zs} : evz C G (.star e zs) env st = (ev C G e env st).bind fun x s1 => (oD (sv s1 x) s1).bind fun ds s2 => (evz C G zs env s2).bind fun xs s3 => .ok (ds ++ xs) s3 := by simp only [evz]
@[simp] theorem x_imp {f : Im} {as : Es} : ev C G (.imp f as) env st = (evs C G as env st).bind fun ds s1 => oD (imcall f ds) s1 := by simp only [ev]
@[simp] theorem x_hrd {tp : Bool} {w : List Nat} {ws : List (Nat × List Nat)} {e : E} : ev C G (.hrd tp w ws e) env st = (match ev C G e env st with
    | .ok d s1 => .ok (pairD tp w d) s1
    | .exn c d s1 => (match ws.lookup c with | some z => .ok (pairD tp z d) s1 | none => .bad)
    | .bad => .bad) := by
  simp only [ev]
  try rfl
@[simp] theorem x_tidx {as : Es} {e : E} : ev C G (.tidx as e) env st = (evs C G as env st).bind fun ds s1 => (ev C G e env s1).bind fun y s2 => (toI y s2).bind fun k s3 => (match intsOf ds with
      | some ns => if decide (k ∈ ns) && szOk ns.length then .ok (.int (ns.idxOf k : Nat)) s3 else .bad
      | none => .bad) := by
  simp only [ev]
  try rfl
@[simp] theorem xt_tupS {i j : Nat} {d : D} : evt C G (.tupS i j) d env st = (match lv st d with
      | some (x :: r) => if decide (i < env.length) && (decide (j < env.length) && Nat.blt r.length 16384) then .ok ((env.set i (some x)).set j (some (.frz r))) st else .bad
      | _ => .bad) := by
  simp only [evt]
  try rfl
@[simp] theorem e_rai {c : Nat} {e : E} : ex C G W (.rai c e) env st = (ev C G e env st).bind fun d s1 => .exn c d s1 := by simp only [ex]
@[simp] theorem e_brk : ex C G W .brk env st = .ok (.bk env) st := by simp only [ex]
@[simp] theorem e_cnt : ex C G W .cnt env st = .ok (.ct env) st := by simp only [ex]
@[simp] theorem noX_exn {α : Type} {c : Nat} {d : D} : (R.exn c d st : R α).noX = .bad := Eq.trans rfl rfl
@[simp] theorem unl_exn {α : Type} {c : Nat} {d : D} {ids : List Nat} : (R.exn c d st : R α).unl ids = .exn c d (unlock st ids) := Eq.trans rfl rfl
@[simp] theorem fin_rt {n : Nat} {d : D} : fin n (.ok (.rt d) st) = back n d st := Eq.trans rfl rfl
@[simp] theorem fin_nx {n : Nat} : fin n (.ok (.nx env) st) = back n .non st := Eq.trans rfl rfl
@[simp] theorem fin_exn {n c : Nat} {d : D} : fin n (.exn c d st) = .exn c d st := Eq.trans rfl rfl
@[simp] theorem back_selfS {d : D} : back st.length d st = .ok d st := back_self d st
end
/-! ### what stands behind a statement is not looked at before its turn -/
section
variable (C : Nat → List D → Sto → R D) (G : Nat → D) (W : Nat)
def qS (ss : Ss) (fl : Fl) (s1 : Sto) : R Fl := match fl with
  | .nx env1 => exs C G W ss env1 s1
  | fl => .ok fl s1
def qI (a b : Ss) (env : Env) (x : D) (s1 : Sto) : R Fl := (tru x s1).bind fun q s2 => if q then exs C G W a env s2 else exs C G W b env s2
def kF (t : Tg) (b : Ss) (x : D) (env : Env) (s2 : Sto) : R Fl := (evt C G t x env s2).bind fun env2 s3 => exs C G W b env2 s3
end
section
variable {C : Nat → List D → Sto → R D} {G : Nat → D} {W : Nat} {env : Env} {st : Sto}
@[simp] theorem qS_nx {ss : Ss} : qS C G W ss (.nx env) st = exs C G W ss env st := Eq.trans rfl rfl
@[simp] theorem qS_rt {ss : Ss} {d : D} : qS C G W ss (.rt d) st = .ok (.rt d) st := Eq.trans rfl rfl
@[simp] theorem qS_bk {ss : Ss} : qS C G W ss (.bk env) st = .ok (.bk env) st := Eq.trans rfl rfl
@[simp] theorem qS_ct {ss : Ss} : qS C G W ss (.ct env) st = .ok (.ct env) st := Eq.trans rfl rfl
@[simp] theorem es_consK {s : S} {ss : Ss} : exs C G W (.cons s ss) env st = (ex C G W s env st).bind (qS C G W ss) := by
  rw [es_cons]
  rfl
@[simp] theorem qI_bl {a b : Ss} {q : Bool} : qI C G W a b env (.bl q) st = if q then exs C G W a env st else exs C G W b env st := Eq.trans rfl rfl
@[simp] theorem e_ifsK {c : E} {a b : Ss} : ex C G W (.ifs c a b) env st = (ev C G c env st).bind (qI C G W a b env) := by
  rw [e_ifs]
  rfl
end
/-! ### for loops over items of any kind -/
def forA {α : Type} (f : α → Env → Sto → R Fl) (xs : List α) (env : Env) (st : Sto) (_ : Tag f := ()) : R Fl := match xs with
  | [] => .ok (.nx env) st
  | x :: xs => (f x env st).bind fun fl st1 => match fl with
    | .nx env1 => forA f xs env1 st1
    | .ct env1 => forA f xs env1 st1
    | .bk env1 => .ok (.nx env1) st1
    | .rt d => .ok (.rt d) st1
theorem forA_cons {α : Type} (f : α → Env → Sto → R Fl) (x : α) (xs : List α) (env : Env) (st : Sto) : forA f (x :: xs) env st = (f x env st).bind fun fl st1 => match fl with
    | .nx env1 => forA f xs env1 st1
    | .ct env1 => forA f xs env1 st1
    | .bk env1 => .ok (.nx env1) st1
    | .rt d => .ok (.rt d) st1 := rfl
theorem forL_A (f : D → Env → Sto → R Fl) : ∀ (ds : List D) (env : Env) (st : Sto), forL f ds env st = forA f ds env st
  | [], _, _ => rfl
  | d :: ds, env, st => by
    rw [forL, forA_cons]
    refine bind_eq fun fl s => ?_
    cases fl <;> first | rfl | exact forL_A f ds _ s
@[simp] theorem forA_map {α β : Type} (φ : α → β) (f : β → Env → Sto → R Fl) : ∀ (xs : List α) (env : Env) (st : Sto), forA f (xs.map φ) env st = forA (fun a => f (φ a)) xs env st
  | [], _, _ => rfl
  | d :: ds, env, st => by
    rw [List.map_cons, forA_cons, forA_cons]
    refine bind_eq fun fl s => ?_
    cases fl <;> first | rfl | exact forA_map φ f ds _ s
@[simp] theorem forA_nil {α : Type} (f : α → Env → Sto → R Fl) (env : Env) (st : Sto) : forA f [] env st = .ok (.nx env) st := Eq.trans rfl rfl
theorem e_fr {C : Nat → List D → Sto → R D} {G : Nat → D} {W : Nat} {env : Env} {st : Sto} {t : Tg} {it : It} {b : Ss} : ex C G W (.fr t it b) env st = (evi C G it env st).bind fun p s1 => (forA (fun x env s2 => (evt C G t x env s2).bind fun env2 s3 => exs C G W b env2 s3) p.1 env (lock s1 p.2)).unl p.2 := by
  rw [ex]
  refine bind_eq fun p s1 => ?_
  rw [forL_A]
@[simp] theorem e_frK {C : Nat → List D → Sto → R D} {G : Nat → D} {W : Nat} {env : Env} {st : Sto} {t : Tg} {it : It} {b : Ss} : ex C G W (.fr t it b) env st = (evi C G it env st).bind fun p s1 => (forA (kF C G W t b) p.1 env (lock s1 p.2)).unl p.2 := e_fr
/-- what a pass of a loop leads to -/
inductive Fw (σ : Type) where
  | nx (s : σ) | bk (s : σ) | rt (d : D) (s : σ) | xn (c : Nat) (d : D) (s : σ)
def runF {α σ : Type} (g : σ → α → Fw σ) : List α → σ → Fw σ
  | [], s => .nx s
  | x :: xs, s => match g s x with
    | .nx s1 => runF g xs s1
    | r => r
/-- a pass, as the interpreter tells it -/
def Fw.pass {σ : Type} (E : σ → Env) (S : σ → Sto) : Fw σ → R Fl
  | .nx s => .ok (.nx (E s)) (S s)
  | .bk s => .ok (.bk (E s)) (S s)
  | .rt d s => .ok (.rt d) (S s)
  | .xn c d s => .exn c d (S s)
/-- the whole loop -/
def Fw.all {σ : Type} (E : σ → Env) (S : σ → Sto) : Fw σ → R Fl
  | .nx s => .ok (.nx (E s)) (S s)
  | .bk s => .ok (.nx (E s)) (S s)
  | .rt d s => .ok (.rt d) (S s)
  | .xn c d s => .exn c d (S s)
theorem forA_run {α σ : Type} (E : σ → Env) (S : σ → Sto) (g : σ → α → Fw σ) (P : σ → Prop) {f : α → Env → Sto → R Fl} : ∀ {xs : List α} {s : σ}, P s → (∀ a ∈ xs, ∀ s, P s → f a (E s) (S s) = (g s a).pass E S ∧ ∀ s', g s a = .nx s' → P s') → forA f xs (E s) (S s) = (runF g xs s).all E S
  | [], s, _, _ => rfl
  | x :: xs, s, h, hs => by
    obtain ⟨h1, h2⟩ := hs x (List.mem_cons_self ..) s h
    simp only [forA_cons, h1, runF]
    cases e : g s x with
    | nx s1 => exact forA_run E S g P (h2 s1 e) fun a ha => hs a (List.mem_cons_of_mem _ ha)
    | bk s1 => rfl
    | rt d s1 => rfl
    | xn c d s1 => rfl
theorem forA_fold {α σ : Type} (E : σ → Env) (S : σ → Sto) (g : σ → α → σ) (P : σ → Prop) {f : α → Env → Sto → R Fl} : ∀ {xs : List α} {s : σ}, P s → (∀ a ∈ xs, ∀ s, P s → f a (E s) (S s) = .ok (.nx (E (g s a))) (S (g s a)) ∧ P (g s a)) → forA f xs (E s) (S s) = .ok (.nx (E (xs.foldl g s))) (S (xs.foldl g s)) ∧ P (xs.foldl g s)
  | [], s, h, _ => ⟨rfl, h⟩
  | x :: xs, s, h, hs => by
    obtain ⟨h1, h2⟩ := hs x (List.mem_cons_self ..) s h
    simp only [forA_cons, h1, bind_ok, List.foldl_cons]
    exact forA_fold E S g P h2 fun a ha => hs a (List.mem_cons_of_mem _ ha)
/-! ### choices between results -/
section
variable {st : Sto} {c : Prop} [Decidable c]
@[simp] theorem ite_ok {a b : D} : (if c then R.ok a st else R.ok b st) = R.ok (if c then a else b) st := by split <;> rfl
@[simp] theorem ite_bl {a b : Bool} : (if c then D.bl a else D.bl b) = D.bl (if c then a else b) := by split <;> rfl
theorem ite_int {a b : Int} : (if c then D.int a else D.int b) = D.int (if c then a else b) := by split <;> rfl
theorem ite_bind {α β : Type} {a b : R α} {f : α → Sto → R β} : (if c then a else b).bind f = if c then a.bind f else b.bind f := by split <;> rfl
@[simp ↓] theorem ite_fl {β : Type} {a b : R Fl} {f : Fl → Sto → R β} : (if c then a else b).bind f = if c then a.bind f else b.bind f := ite_bind
@[simp] theorem ite_fin {n : Nat} {a b : R Fl} : fin n (if c then a else b) = if c then fin n a else fin n b := by split <;> rfl
end
/-! ### indexes -/
@[simp] theorem ixN_p {n : Nat} {i : Int} (h : 0 ≤ i) (h2 : i < n) : ixN n i = some i.toNat := by
  unfold ixN
  rw [if_pos h, if_pos h2]
@[simp] theorem ixN_n {n : Nat} {i : Int} (h : i < 0) (h2 : -(n : Int) ≤ i) : ixN n i = some (i + n).toNat := by
  unfold ixN
  rw [if_neg (by omega), if_pos h2]
@[simp] theorem at_un {α : Type} (xs : List α) (i : Int) : atI xs i = (ixN xs.length i).bind fun j => xs[j]? := rfl
def gI (p : List Int) (k : Nat) : Int := p.getD k 0
theorem gI_get {p : List Int} {k : Nat} (h : k < p.length) : p[k]? = some (gI p k) := by
  simp [gI, List.getElem?_eq_getElem h]
@[simp] theorem gI_eq {p : List Int} {k : Nat} (h : k < p.length) : gI p k = p[k] := by simp [gI, List.getElem?_eq_getElem h]
@[simp] theorem cut_nn {α : Type} (xs : List α) : cut xs none none = xs := by simp [cut, sIx]
@[simp] theorem cut_to {α : Type} (xs : List α) {k : Int} (h : 0 ≤ k) : cut xs none (some k) = xs.take k.toNat := by
  unfold cut sIx
  simp only [List.drop_zero, Nat.sub_zero]
  rw [if_neg (by omega), List.take_eq_take_iff]
  omega
@[simp] theorem cut_from {α : Type} (xs : List α) {k : Int} (h : 0 ≤ k) : cut xs (some k) none = xs.drop k.toNat := by
  unfold cut sIx
  simp only
  rw [if_neg (by omega)]
  have e : (xs.drop (min k.toNat xs.length)) = xs.drop k.toNat := by
    by_cases hk : k.toNat ≤ xs.length
    · rw [Nat.min_eq_left hk]
    · rw [Nat.min_eq_right (by omega), List.drop_length, List.drop_eq_nil_of_le (by omega)]
  rw [e]
  exact List.take_of_length_le (by rw [List.length_drop]; omega)
/-! ### the store's own lists -/
@[simp] theorem ge_0 {st ext : Sto} : (st ++ ext)[st.length]? = ext[0]? := by
  rw [List.getElem?_append_right (Nat.le_refl _), Nat.sub_self]
@[simp] theorem ge_k {st ext : Sto} {k : Nat} : (st ++ ext)[st.length + k]? = ext[k]? := by
  rw [List.getElem?_append_right (by omega), Nat.add_sub_cancel_left]
@[simp] theorem se_0 {st ext : Sto} {o : Obj} : (st ++ ext).set st.length o = st ++ ext.set 0 o := by
  rw [List.set_append_right _ _ (Nat.le_refl _), Nat.sub_self]
@[simp] theorem se_k {st ext : Sto} {k : Nat} {o : Obj} : (st ++ ext).set (st.length + k) o = st ++ ext.set k o := by
  rw [List.set_append_right _ _ (by omega), Nat.add_sub_cancel_left]
theorem back_ext {st ext : Sto} {d : D} (h : refsLt st.length d = true) : back st.length d (st ++ ext) = .ok d st := by
  unfold back
  split
  · rename_i e
    have : ext = [] := by
      rw [List.length_append] at e
      exact List.eq_nil_of_length_eq_zero (by omega)
    rw [this, List.append_nil]
  · rw [List.take_left]
@[simp] theorem i_mul_r {i j : Int} (h : -(2 ^ 64) < j) (h2 : j < 2 ^ 64) : iop .mul i j = some (i * j) := by
  rw [i_mul, small_t h h2, Bool.or_true]
  rfl
@[simp] theorem i_mul_l {i j : Int} (h : -(2 ^ 64) < i) (h2 : i < 2 ^ 64) : iop .mul i j = some (i * j) := by
  rw [i_mul, small_t h h2, Bool.true_or]
  rfl
@[simp] theorem i_mod_p {i j : Int} (h : 0 < j) : iop .mod i j = some (i % j) := by
  rw [i_mod, if_pos h]
@[simp] theorem i_fdiv_p {i j : Int} (h : 0 < j) (h2 : j < 1073741824) : iop .fdiv i j = some (i / j) := by
  rw [i_fdiv, decide_eq_true h, decide_eq_true h2]
  rfl
@[simp] theorem b_divmod_p {st : Sto} {i j : Int} (h : 0 < j) (h2 : j < 1073741824) : bcall st .divmod [.int i, .int j] = some (.tup [.int (i / j), .int (i % j)]) := by
  rw [b_divmod, decide_eq_true h, decide_eq_true h2]
  rfl
/-! ### comparisons of data -/
theorem dEqs_ints : ∀ a b : List Int, dEqs (a.map D.int) (b.map D.int) = (a == b)
  | [], [] => rfl
  | [], _ :: _ => rfl
  | _ :: _, [] => rfl
  | x :: a, y :: b => by
    show (dEq (.int x) (.int y) && dEqs (a.map D.int) (b.map D.int)) = _
    rw [dEqs_ints a b]
    rfl
theorem dOk_ints (k : Nat) (a : List Int) : (a.map D.int).all (dOk k) = true := by
  rw [List.all_eq_true]
  intro x hx
  obtain ⟨i, _, rfl⟩ := List.mem_map.mp hx
  cases k <;> rfl
@[simp] theorem c_eqT {st : Sto} {a b : List Int} : cop st .eq (.tup (a.map D.int)) (.tup (b.map D.int)) = some (a == b) := by
  show (if (List.all (a.map D.int) (dOk 39) && List.all (b.map D.int) (dOk 39)) = true then some (dEqs (a.map D.int) (b.map D.int)) else none) = _
  rw [dOk_ints, dOk_ints, dEqs_ints]
  rfl
@[simp] theorem c_eqF {st : Sto} {a b : List Int} : cop st .eq (.frz (a.map D.int)) (.frz (b.map D.int)) = some (a == b) := by
  show (if (List.all (a.map D.int) (dOk 39) && List.all (b.map D.int) (dOk 39)) = true then some (dEqs (a.map D.int) (b.map D.int)) else none) = _
  rw [dOk_ints, dOk_ints, dEqs_ints]
  rfl
@[simp] theorem c_eqT0 {st : Sto} {a : List Int} : cop st .eq (.tup (a.map D.int)) (.tup []) = some (a == []) := c_eqT (b := [])
@[simp] theorem c_neT0 {st : Sto} {a : List Int} : cop st .ne (.tup (a.map D.int)) (.tup []) = some (!(a == [])) := by
  show (if (List.all (a.map D.int) (dOk 39) && true) = true then some (!(dEqs (a.map D.int) [])) else none) = _
  rw [dOk_ints]
  have := dEqs_ints a []
  rw [show ([] : List Int).map D.int = [] from rfl] at this
  rw [this]
  rfl
theorem c_eqS {st : Sto} {z y : List Nat} (hz : z.all (· < 0x110000) = true) (hy : y.all (· < 0x110000) = true) : cop st .eq (.str z) (.str y) = some (z == y) := by
  show (if (dOk 40 (top st (.str z)) && dOk 40 (top st (.str y))) = true then some (dEq (top st (.str z)) (top st (.str y))) else none) = _
  rw [show dOk 40 (top st (.str z)) = true from hz, show dOk 40 (top st (.str y)) = true from hy]
  rfl
theorem c_neS {st : Sto} {z y : List Nat} (hz : z.all (· < 0x110000) = true) (hy : y.all (· < 0x110000) = true) : cop st .ne (.str z) (.str y) = some (!(z == y)) := by
  show (if (dOk 40 (top st (.str z)) && dOk 40 (top st (.str y))) = true then some (!(dEq (top st (.str z)) (top st (.str y)))) else none) = _
  rw [show dOk 40 (top st (.str z)) = true from hz, show dOk 40 (top st (.str y)) = true from hy]
  rfl
@[simp] theorem b_sortT {st : Sto} {a : List Int} (h : a.length < 64) : bcall st .sorted [.tup (a.map D.int)] = some (.frz ((isort a).map D.int)) := by
  show ((some (a.map D.int)).bind intsOf).bind (fun ns => if Nat.blt ns.length 64 then some (D.frz ((isort ns).map .int)) else none) = _
  rw [Option.bind_some, ints_map, Option.bind_some, if_pos (by simpa using h)]
@[simp] theorem b_minL {st : Sto} {d : D} : bcall st .minL [d] = (((sv st d).bind intsOf).bind minI).map .int := Eq.trans rfl rfl
@[simp] theorem b_maxL {st : Sto} {d : D} : bcall st .maxL [d] = (((sv st d).bind intsOf).bind maxI).map .int := Eq.trans rfl rfl
@[simp] theorem c_memS {st : Sto} {c : Nat} {z : List Nat} : cop st .mem (.str [c]) (.str z) = some (decide (c ∈ z)) := Eq.trans rfl rfl
@[simp] theorem isNon_tup {ds : List D} : isNon (.tup ds) = false := Eq.trans rfl rfl
@[simp] theorem isNon_frz {ds : List D} : isNon (.frz ds) = false := Eq.trans rfl rfl
theorem at_int {p : List Int} {k : Nat} (h : k < p.length) : atI (p.map D.int) ((k : Nat) : Int) = some (.int (gI p k)) := by
  rw [at_nat (by simpa using h), List.getElem?_map, gI_get h]
  rfl
/-! ### a for statement -/
section
variable {C : Nat → List D → Sto → R D} {G : Nat → D} {W : Nat} {α σ : Type} {t : Tg} {it : It} {b : Ss}
theorem fr_fold (E : σ → Env) (S : σ → Sto) (g : σ → α → σ) (P : σ → Prop) (φ : α → D) (xs : List α) (s0 : σ) (hit : evi C G it (E s0) (S s0) = .ok (xs.map φ, []) (S s0)) (h0 : P s0)
    (hs : ∀ a ∈ xs, ∀ s, P s → ((evt C G t (φ a) (E s) (S s)).bind fun env2 s3 => exs C G W b env2 s3) = .ok (.nx (E (g s a))) (S (g s a)) ∧ P (g s a)) :
    ex C G W (.fr t it b) (E s0) (S s0) = .ok (.nx (E (xs.foldl g s0))) (S (xs.foldl g s0)) := by
  rw [e_fr, hit, bind_ok, forA_map, lock_nil, (forA_fold E S g P h0 hs).1]
  rfl
theorem fr_run (E : σ → Env) (S : σ → Sto) (g : σ → α → Fw σ) (P : σ → Prop) (φ : α → D) (xs : List α) (s0 : σ) (hit : evi C G it (E s0) (S s0) = .ok (xs.map φ, []) (S s0)) (h0 : P s0)
    (hs : ∀ a ∈ xs, ∀ s, P s → ((evt C G t (φ a) (E s) (S s)).bind fun env2 s3 => exs C G W b env2 s3) = (g s a).pass E S ∧ ∀ s', g s a = .nx s' → P s') :
    ex C G W (.fr t it b) (E s0) (S s0) = (runF g xs s0).all E S := by
  rw [e_fr, hit, bind_ok, forA_map, lock_nil, forA_run E S g P h0 hs]
  cases runF g xs s0 <;> rfl
theorem fold_P {α σ : Type} (g : σ → α → σ) (P : σ → Prop) : ∀ (xs : List α) (s : σ), P s → (∀ a ∈ xs, ∀ s, P s → P (g s a)) → P (xs.foldl g s)
  | [], _, h, _ => h
  | x :: xs, s, h, hs => fold_P g P xs (g s x) (hs x (List.mem_cons_self ..) s h) fun a ha => hs a (List.mem_cons_of_mem _ ha)
end
theorem m_tindex {st : Sto} {ds : List D} {k : Int} : mcall st .tindex (.tup ds) [.int k] = (match intsOf ds with | some ns => if decide (k ∈ ns) then .ok (.int (ns.idxOf k : Nat)) st else .bad | none => .bad) := rfl
@[simp] theorem m_index {st : Sto} {s : List Nat} {c : Nat} : mcall st .index (.str s) [.str [c]] = (match idxOf c s with | some j => .ok (.int (j : Nat)) st | none => .bad) := Eq.trans rfl rfl
@[simp] theorem mo_tindex {ds : List D} : mOk .tindex (.tup ds) = true := Eq.trans rfl rfl
@[simp] theorem mo_index {s : List Nat} : mOk .index (.str s) = true := Eq.trans rfl rfl
@[simp] theorem mo_join {s : List Nat} : mOk .join (.str s) = true := Eq.trans rfl rfl
@[simp] theorem mo_split {s : List Nat} : mOk .split (.str s) = true := Eq.trans rfl rfl
@[simp] theorem mo_append {i : Nat} : mOk .append (.lst i) = true := Eq.trans rfl rfl
@[simp] theorem mo_pop {i : Nat} : mOk .pop (.lst i) = true := Eq.trans rfl rfl
@[simp] theorem mo_popAt {i : Nat} : mOk .popAt (.lst i) = true := Eq.trans rfl rfl
@[simp] theorem mo_bitlen {i : Int} : mOk .bitlen (.int i) = true := Eq.trans rfl rfl
/-- append to a list of the store -/
theorem m_append {st : Sto} {i : Nat} {d : D} {ds : List D} (h : st[i]? = some (.lst ds)) (hz : ds.length < 16777216) (hr : refsLt i d = true) : mcall st .append (.lst i) [d] = .ok .non (st.set i (.lst (ds ++ [d]))) := by
  show (match st[i]? with
    | some (.lst ds) => if szLt ds.length && refsLt i d then R.ok D.non (st.set i (.lst (ds ++ [d]))) else .bad
    | _ => .bad) = _
  rw [h]
  show (if (szLt ds.length && refsLt i d) = true then _ else _) = _
  rw [szLt_of hz, hr]
  rfl
theorem frz_lst {st : Sto} {i : Nat} {ds : List D} (h : st[i]? = some (.lst ds)) : frzD (.lst i) st = .ok (.frz ds) (st.set i (.fz ds)) := by
  show (match st[i]? with
    | some (.lst ds) => R.ok (D.frz ds) (st.set i (.fz ds))
    | _ => .bad) = _
  rw [h]
/-! .. by places -/
theorem forA_foldI {α σ : Type} (E : σ → Env) (S : σ → Sto) (g : σ → α → σ) (P : Nat → σ → Prop) {f : α → Env → Sto → R Fl} : ∀ {xs : List α} {s : σ} {k : Nat}, P k s → (∀ i a, xs[i]? = some a → ∀ s, P (k + i) s → f a (E s) (S s) = .ok (.nx (E (g s a))) (S (g s a)) ∧ P (k + i + 1) (g s a)) → forA f xs (E s) (S s) = .ok (.nx (E (xs.foldl g s))) (S (xs.foldl g s)) ∧ P (k + xs.length) (xs.foldl g s)
  | [], s, k, h, _ => ⟨rfl, h⟩
  | x :: xs, s, k, h, hs => by
    obtain ⟨h1, h2⟩ := hs 0 x rfl s h
    simp only [forA_cons, h1, bind_ok, List.foldl_cons]
    have r := forA_foldI E S g P (xs := xs) (s := g s x) (k := k + 1) h2 fun i a ha s hp => by
      have q := hs (i + 1) a ha s (by rw [show k + (i + 1) = k + 1 + i by omega]; exact hp)
      rw [show k + (i + 1) + 1 = k + 1 + i + 1 by omega] at q
      exact q
    rw [show k + (x :: xs).length = k + 1 + xs.length by simp; omega]
    exact r
theorem forA_runI {α σ : Type} (E : σ → Env) (S : σ → Sto) (g : σ → α → Fw σ) (P : Nat → σ → Prop) {f : α → Env → Sto → R Fl} : ∀ {xs : List α} {s : σ} {k : Nat}, P k s → (∀ i a, xs[i]? = some a → ∀ s, P (k + i) s → f a (E s) (S s) = (g s a).pass E S ∧ ∀ s', g s a = .nx s' → P (k + i + 1) s') → forA f xs (E s) (S s) = (runF g xs s).all E S
  | [], s, k, _, _ => rfl
  | x :: xs, s, k, h, hs => by
    obtain ⟨h1, h2⟩ := hs 0 x rfl s h
    simp only [forA_cons, h1, runF]
    cases e : g s x with
    | nx s1 =>
      exact forA_runI E S g P (xs := xs) (s := s1) (k := k + 1) (h2 s1 e) fun i a ha s hp => by
        have q := hs (i + 1) a ha s (by rw [show k + (i + 1) = k + 1 + i by omega]; exact hp)
        rw [show k + (i + 1) + 1 = k + 1 + i + 1 by omega] at q
        exact q
    | bk s1 => rfl
    | rt d s1 => rfl
    | xn c d s1 => rfl
section
variable {C : Nat → List D → Sto → R D} {G : Nat → D} {W : Nat} {α σ : Type} {t : Tg} {it : It} {b : Ss}
theorem fr_foldI (E : σ → Env) (S : σ → Sto) (g : σ → α → σ) (P : Nat → σ → Prop) (φ : α → D) (xs : List α) (s0 : σ) (hit : evi C G it (E s0) (S s0) = .ok (xs.map φ, []) (S s0)) (h0 : P 0 s0)
    (hs : ∀ i a, xs[i]? = some a → ∀ s, P i s → ((evt C G t (φ a) (E s) (S s)).bind fun env2 s3 => exs C G W b env2 s3) = .ok (.nx (E (g s a))) (S (g s a)) ∧ P (i + 1) (g s a)) :
    ex C G W (.fr t it b) (E s0) (S s0) = .ok (.nx (E (xs.foldl g s0))) (S (xs.foldl g s0)) ∧ P xs.length (xs.foldl g s0) := by
  have r := forA_foldI E S g P (f := fun a => (fun x env s2 => (evt C G t x env s2).bind fun env2 s3 => exs C G W b env2 s3) (φ a)) (k := 0) h0 (fun i a ha s hp => by
    rw [Nat.zero_add] at hp ⊢
    exact hs i a ha s hp)
  rw [e_fr, hit, bind_ok, forA_map, lock_nil, r.1]
  rw [Nat.zero_add] at r
  exact ⟨rfl, r.2⟩
theorem fr_runI (E : σ → Env) (S : σ → Sto) (g : σ → α → Fw σ) (P : Nat → σ → Prop) (φ : α → D) (xs : List α) (s0 : σ) (hit : evi C G it (E s0) (S s0) = .ok (xs.map φ, []) (S s0)) (h0 : P 0 s0)
    (hs : ∀ i a, xs[i]? = some a → ∀ s, P i s → ((evt C G t (φ a) (E s) (S s)).bind fun env2 s3 => exs C G W b env2 s3) = (g s a).pass E S ∧ ∀ s', g s a = .nx s' → P (i + 1) s') :
    ex C G W (.fr t it b) (E s0) (S s0) = (runF g xs s0).all E S := by
  have r := forA_runI E S g P (f := fun a => (fun x env s2 => (evt C G t x env s2).bind fun env2 s3 => exs C G W b env2 s3) (φ a)) (k := 0) h0 (fun i a ha s hp => by
    rw [Nat.zero_add] at hp ⊢
    exact hs i a ha s hp)
  rw [e_fr, hit, bind_ok, forA_map, lock_nil, r]
  cases runF g xs s0 <;> rfl
end
@[simp] theorem lv_lstE {st : Sto} {i : Nat} : lv st (.lst i) = (match st[i]? with | some o => some o.its | none => none) := Eq.trans rfl rfl
@[simp] theorem its_lst {ds : List D} : Obj.its (.lst ds) = ds := Eq.trans rfl rfl
@[simp] theorem its_fz {ds : List D} : Obj.its (.fz ds) = ds := Eq.trans rfl rfl
@[simp] theorem its_lck {ds : List D} : Obj.its (.lck ds) = ds := Eq.trans rfl rfl
@[simp] theorem back_T {st ext : Sto} {ns : List Int} : back st.length (.tup (ns.map D.int)) (st ++ ext) = .ok (.tup (ns.map D.int)) st := back_ext (refs_ints _ _)
@[simp] theorem back_T0 {st ext : Sto} : back st.length (.tup []) (st ++ ext) = .ok (.tup []) st := back_ext rfl
@[simp] theorem back_F {st ext : Sto} {ns : List Int} : back st.length (.frz (ns.map D.int)) (st ++ ext) = .ok (.frz (ns.map D.int)) st := back_ext (refs_ints _ _)
@[simp] theorem back_B {st ext : Sto} {b : Bool} : back st.length (.bl b) (st ++ ext) = .ok (.bl b) st := back_ext rfl
@[simp] theorem back_I {st ext : Sto} {b : Int} : back st.length (.int b) (st ++ ext) = .ok (.int b) st := back_ext rfl
@[simp] theorem back_N {st ext : Sto} : back st.length .non (st ++ ext) = .ok .non st := back_ext rfl
@[simp] theorem back_S {st ext : Sto} {z : List Nat} : back st.length (.str z) (st ++ ext) = .ok (.str z) st := back_ext rfl
@[simp] theorem m_join {st : Sto} {s : List Nat} {d : D} : mcall st .join (.str s) [d] = (match (sv st d).bind strsOf with | some ps => if szOk ((ps.map List.length).sum + ps.length * s.length) then .ok (.str (joinL s ps)) st else .bad | none => .bad) := Eq.trans rfl rfl
@[simp] theorem strs_nil : strsOf [] = some [] := Eq.trans rfl rfl
@[simp] theorem strs_cons {z : List Nat} {r : List D} : strsOf (.str z :: r) = (strsOf r).map (z :: ·) := Eq.trans rfl rfl
@[simp] theorem ints_nil : intsOf [] = some [] := Eq.trans rfl rfl
@[simp] theorem ints_cons {z : Int} {r : List D} : intsOf (.int z :: r) = (intsOf r).map (z :: ·) := Eq.trans rfl rfl
@[simp] theorem bls_nil : blsOf [] = some [] := Eq.trans rfl rfl
@[simp] theorem bls_cons {z : Bool} {r : List D} : blsOf (.bl z :: r) = (blsOf r).map (z :: ·) := Eq.trans rfl rfl
@[simp] theorem join_0 {s : List Nat} : joinL s [] = [] := Eq.trans rfl rfl
@[simp] theorem join_1 {s z : List Nat} : joinL s [z] = z := Eq.trans rfl rfl
@[simp] theorem join_2 {s z y : List Nat} {r : List (List Nat)} : joinL s (z :: y :: r) = z ++ (s ++ joinL s (y :: r)) := Eq.trans rfl rfl
@[simp] theorem ix_lstE {st : Sto} {i : Nat} {k : Int} : ixD st (.lst i) k = (lv st (.lst i)).bind fun ds => atI ds k := Eq.trans rfl rfl
@[simp] theorem len_lstE {st : Sto} {i : Nat} : lenD st (.lst i) = (lv st (.lst i)).map fun ds => (ds.length : Int) := Eq.trans rfl rfl
theorem forA_nx {α : Type} {f : α → Env → Sto → R Fl} (P : Nat → Env → Sto → Prop) : ∀ {xs : List α} {k : Nat} {env : Env} {st : Sto}, P k env st → (∀ i a, xs[i]? = some a → ∀ env st, P (k + i) env st → ∃ env' st', f a env st = .ok (.nx env') st' ∧ P (k + i + 1) env' st') →
    ∃ env' st', forA f xs env st = .ok (.nx env') st' ∧ P (k + xs.length) env' st'
  | [], k, env, st, h, _ => ⟨env, st, rfl, h⟩
  | x :: xs, k, env, st, h, hs => by
    obtain ⟨e1, s1, h1, p1⟩ := hs 0 x rfl env st h
    obtain ⟨e2, s2, h2, p2⟩ := forA_nx P (k := k + 1) (xs := xs) p1 (fun i a ha env st p => by
      have q := hs (i + 1) a (by simpa using ha) env st (by rw [show k + (i + 1) = k + 1 + i by omega]; exact p)
      rw [show k + (i + 1) + 1 = k + 1 + i + 1 by omega] at q
      exact q)
    refine ⟨e2, s2, ?_, by rw [show k + (x :: xs).length = k + 1 + xs.length by simp; omega]; exact p2⟩
    simp only [forA_cons, h1, bind_ok, h2]
theorem kF_eq {C : Nat → List D → Sto → R D} {G : Nat → D} {W : Nat} {t : Tg} {b : Ss} {x : D} {env : Env} {st : Sto} : kF C G W t b x env st = (evt C G t x env st).bind fun env2 s3 => exs C G W b env2 s3 := rfl
/-- a statement of a body, a loop's body -/
def Ss.nth : Ss → Nat → S
  | .cons s _, 0 => s
  | .cons _ ss, k + 1 => ss.nth k
  | .nil, _ => .nev
def S.bd : S → Ss
  | .fr _ _ b => b
  | .ifs _ b _ => b
  | _ => .nil
theorem c_mem2 {st : Sto} {z a b : List Nat} (hz : z.all (· < 0x110000) = true) (ha : a.all (· < 0x110000) = true) (hb : b.all (· < 0x110000) = true) : cop st .mem (.str z) (.tup [.str a, .str b]) = some (a == z || b == z) := by
  show (if (dOk 40 (top st (.str z)) && List.all [D.str a, .str b] (dOk 40)) = true then some (List.any [D.str a, .str b] fun e => dEq e (top st (.str z))) else none) = _
  have e : (dOk 40 (top st (.str z)) && List.all [D.str a, .str b] (dOk 40)) = true := by
    simp only [List.all_cons, List.all_nil, Bool.and_true, Bool.and_eq_true]
    exact ⟨hz, ha, hb⟩
  rw [if_pos e]
  show some (a == z || (b == z || false)) = _
  rw [Bool.or_false]
theorem c_mem3 {st : Sto} {z a b c : List Nat} (hz : z.all (· < 0x110000) = true) (ha : a.all (· < 0x110000) = true) (hb : b.all (· < 0x110000) = true) (hc : c.all (· < 0x110000) = true) : cop st .mem (.str z) (.tup [.str a, .str b, .str c]) = some (a == z || b == z || c == z) := by
  show (if (dOk 40 (top st (.str z)) && List.all [D.str a, .str b, .str c] (dOk 40)) = true then some (List.any [D.str a, .str b, .str c] fun e => dEq e (top st (.str z))) else none) = _
  have e : (dOk 40 (top st (.str z)) && List.all [D.str a, .str b, .str c] (dOk 40)) = true := by
    simp only [List.all_cons, List.all_nil, Bool.and_true, Bool.and_eq_true]
    exact ⟨hz, ha, hb, hc⟩
  rw [if_pos e]
  show some (a == z || (b == z || (c == z || false))) = _
  rw [Bool.or_false, Bool.or_assoc]
@[simp] theorem walk_lstE {st : Sto} {i : Nat} : walk st (.lst i) = (match st[i]? with | some (.lst ds) => some (ds, [i]) | some (.lck ds) => some (ds, []) | some (.fz ds) => some (ds, []) | none => none) := Eq.trans rfl rfl
@[simp] theorem sl_lstE {st : Sto} {i : Nat} {lo hi : Option Int} : slD st (.lst i) lo hi = (lv st (.lst i)).map fun ds => .frz (cut ds lo hi) := Eq.trans rfl rfl
theorem unlock_lock {st : Sto} {i : Nat} {ds : List D} (h : st[i]? = some (.lst ds)) : unlock (lock st [i]) [i] = st := by
  show (st.modify i lockO).modify i unlockO = st
  refine List.ext_getElem? fun k => ?_
  rw [List.getElem?_modify, List.getElem?_modify]
  by_cases e : i = k
  · subst e
    simp [h, lockO, unlockO]
  · simp [e]
/-- a loop that may be left -/
theorem forA_exit {α : Type} {f : α → Env → Sto → R Fl} (P : Nat → Env → Sto → Prop) (Q : Env → Sto → Prop) : ∀ {xs : List α} {k : Nat} {env : Env} {st : Sto}, P k env st → (∀ i a, xs[i]? = some a → ∀ env st, P (k + i) env st → ∃ env' st', (f a env st = .ok (.nx env') st' ∧ P (k + i + 1) env' st') ∨ (f a env st = .ok (.bk env') st' ∧ Q env' st')) →
    ∃ env' st', forA f xs env st = .ok (.nx env') st' ∧ (P (k + xs.length) env' st' ∨ Q env' st')
  | [], k, env, st, h, _ => ⟨env, st, rfl, .inl h⟩
  | x :: xs, k, env, st, h, hs => by
    obtain ⟨e1, s1, ⟨h1, p1⟩ | ⟨h1, q1⟩⟩ := hs 0 x rfl env st h
    · obtain ⟨e2, s2, h2, p2⟩ := forA_exit P Q (k := k + 1) (xs := xs) p1 (fun i a ha env st p => by
        have q := hs (i + 1) a (by simpa using ha) env st (by rw [show k + (i + 1) = k + 1 + i by omega]; exact p)
        rw [show k + (i + 1) + 1 = k + 1 + i + 1 by omega] at q
        exact q)
      refine ⟨e2, s2, ?_, by rw [show k + (x :: xs).length = k + 1 + xs.length by simp; omega]; exact p2⟩
      simp only [forA_cons, h1, bind_ok, h2]
    · exact ⟨e1, s1, by simp only [forA_cons, h1, bind_ok], .inr q1⟩
end PL

set_option Elab.async false
set_option linter.all false
set_option maxRecDepth 100000
set_option maxHeartbeats 1000000
/-! What many laws end with; comprehensions with a state. -/
namespace PL
theorem compA_cong {α : Type} {f g : α → Sto → R (Option D)} : ∀ (xs : List α) (st : Sto), (∀ a ∈ xs, ∀ s, f a s = g a s) → compA f xs st = compA g xs st
  | [], _, _ => rfl
  | x :: xs, st, h => by
    rw [compA_cons0, compA_cons0, h x (List.mem_cons_self ..)]
    have e := fun s => compA_cong (f := f) (g := g) xs s fun a ha => h a (List.mem_cons_of_mem _ ha)
    refine bind_eq fun o s => ?_
    cases o with
    | none => exact e s
    | some y =>
      show (compA f xs s).bind _ = (compA g xs s).bind _
      rw [e s]
section
variable {C : Nat → List D → Sto → R D} {G : Nat → D} {env : Env} {st : Sto}
/-- a comprehension without an if, of one name, that may change the store -/
theorem ev_compS {α : Type} (φ : α → D) (xs : List α) (g : α → Sto → R D) {own : List Nat} {elt : E} {k : Nat} {it : It} {ds : List D} {st' : Sto} (hit : evi C G it env st = .ok (xs.map φ, []) st) (hz : xs.length ≤ 16777216) (hk : k < (wipe env own).length)
    (h : ∀ a ∈ xs, ∀ s, ev C G elt ((wipe env own).set k (some (φ a))) s = g a s) (hg : compA (fun a s => (g a s).bind fun y s5 => .ok (some y) s5) xs st = .ok ds st') :
    ev C G (.comp own elt (.var k) it .none) env st = .ok (.frz ds) st' := by
  rw [x_comp, hit, bind_ok]
  have hz2 : szOk (xs.map φ).length = true := szOk_of (by simpa using hz)
  show (if szOk (xs.map φ).length then _ else _) = _
  rw [if_pos hz2]
  have e : compA (fun x s2 => (evt C G (.var k) x (wipe env own) s2).bind fun env2 s3 => (evc C G .none env2 s3).bind fun b s4 => if b then (ev C G elt env2 s4).bind fun y s5 => R.ok (some y) s5 else R.ok none s4) (xs.map φ) (lock st []) = .ok ds st' := by
    rw [compA_map, ← hg]
    refine compA_cong xs st fun a ha s => ?_
    simp only [xt_var, hk, decide_true, if_true, bind_ok, xc_none, h a ha]
  rw [e]
  rfl
/-- all of so many, each of which tells True -/
theorem compA_tru {α : Type} {g : α → Sto → R D} : ∀ (xs : List α) (st : Sto), (∀ a ∈ xs, ∀ s, ∃ s', g a s = .ok (.bl true) s') → ∃ st', compA (fun a s => (g a s).bind fun y s5 => .ok (some y) s5) xs st = .ok (xs.map fun _ => .bl true) st'
  | [], st, _ => ⟨st, rfl⟩
  | x :: xs, st, h => by
    obtain ⟨s1, h1⟩ := h x (List.mem_cons_self ..) st
    obtain ⟨s2, h2⟩ := compA_tru (g := g) xs s1 fun a ha => h a (List.mem_cons_of_mem _ ha)
    refine ⟨s2, ?_⟩
    rw [compA_cons0, h1, bind_ok, bind_ok]
    show (compA _ xs s1).bind _ = _
    rw [h2]
    rfl
theorem all_tru {α : Type} (l : List α) (st : Sto) : bcall st .all [.frz (l.map fun _ => .bl true)] = some (.bl true) := by
  have e : blsOf (l.map fun _ => D.bl true) = some (l.map fun _ => true) := by
    induction l with
    | nil => rfl
    | cons x l ih => simp [blsOf, ih]
  show ((some (l.map fun _ => D.bl true)).bind blsOf).map (fun bs => D.bl (bs.all id)) = _
  rw [Option.bind_some, e]
  simp
/-- `all([right(pot(script, turn)) for turn in range(max(2, min(len(script), M)))])` -/
theorem law_end {ns : List Int} (hl : ns.length ≤ 63) {v r p M : Nat} {Mi : Int} (hMi : Mi = (M : Nat)) (hM : M ≤ 100) (h0 : env[0]? = some (some (.scr (ns.map D.int)))) (hv : v < env.length) (hv0 : 0 < v)
    (hs : ∀ t : Nat, t ≤ 100 → ∀ s, ∃ x s1 s2, C p [.scr (ns.map D.int), .int (t : Nat)] s = .ok x s1 ∧ C r [x] s1 = .ok (.bl true) s2) :
    ∃ st', ev C G (.blt .all (.cons (.comp [v] (.call r (.cons (.call p (.cons (.var 0) (.cons (.var v) .nil))) .nil)) (.var v) (.rng1 (.blt .max2 (.cons (.int 2) (.cons (.blt .min2 (.cons (.blt .len (.cons (.var 0) .nil)) (.cons (.int Mi) .nil))) .nil)))) .none) .nil)) env st = .ok (.bl true) st' := by
  subst hMi
  obtain ⟨t, ht, et⟩ : ∃ t : Nat, t ≤ 100 ∧ (if (2 : Int) < (if M < ns.length then ((M : Nat) : Int) else (ns.length : Int)) then (if M < ns.length then ((M : Nat) : Int) else (ns.length : Int)) else 2) = (t : Int) := by
    refine ⟨max 2 (min ns.length M), by omega, ?_⟩
    split <;> split <;> omega
  have g : ∀ a ∈ List.range t, ∀ s, ∃ s', ((C p [.scr (ns.map D.int), .int (a : Nat)] s).bind fun x s1 => C r [x] s1) = .ok (.bl true) s' := fun a ha s => by
    have := List.mem_range.mp ha
    obtain ⟨x, s1, s2, h1, h2⟩ := hs a (by omega) s
    exact ⟨s2, by rw [h1, bind_ok, h2]⟩
  obtain ⟨s', e⟩ := compA_tru (g := fun (a : Nat) s => (C p [.scr (ns.map D.int), .int (a : Nat)] s).bind fun x s1 => C r [x] s1) (List.range t) st g
  refine ⟨s', ?_⟩
  have hit : evi C G (.rng1 (.blt .max2 (.cons (.int 2) (.cons (.blt .min2 (.cons (.blt .len (.cons (.var 0) .nil)) (.cons (.int (M : Nat)) .nil))) .nil)))) env st = .ok ((List.range t).map fun k : Nat => .int (k : Nat), []) st := by
    simp -implicitDefEqProofs (maxSteps := 1000000) (disch := first | omega | (simp only [List.length_cons, List.length_nil, List.length_append]; omega) | decide) [-es_cons, -e_ifs, -szOk_iff, -i_mul, -i_mod, -i_fdiv, -b_divmod, -getElem?_pos, h0, et, rng_map]
  have ec := ev_compS (C := C) (G := G) (env := env) (st := st) (own := [v]) (k := v) (elt := .call r (.cons (.call p (.cons (.var 0) (.cons (.var v) .nil))) .nil)) (fun k : Nat => D.int (k : Nat)) (List.range t) (fun (a : Nat) s => (C p [.scr (ns.map D.int), .int (a : Nat)] s).bind fun x s1 => C r [x] s1) hit (by rw [List.length_range]; omega) (by simpa using hv) (fun a ha s => by
    have h1 : (env.set v none).length = env.length := List.length_set
    have h3 : ((env.set v none).set v (some (D.int (a : Nat))))[0]? = some (some (.scr (ns.map D.int))) := by
      rw [List.getElem?_set, if_neg (by omega), List.getElem?_set, if_neg (by omega), h0]
    have h4 : ((env.set v none).set v (some (D.int (a : Nat))))[v]? = some (some (D.int (a : Nat))) := by
      rw [List.getElem?_set, if_pos rfl, if_pos (by omega)]
    rw [wipe_cons, wipe_nil]
    generalize (env.set v none).set v (some (D.int (a : Nat))) = env2 at h3 h4
    simp -implicitDefEqProofs (maxSteps := 1000000) (disch := first | omega | (simp only [List.length_cons, List.length_nil, List.length_append]; omega) | decide) [-es_cons, -e_ifs, -szOk_iff, -i_mul, -i_mod, -i_fdiv, -b_divmod, -getElem?_pos, h3, h4]
    cases C p [.scr (ns.map D.int), .int (a : Nat)] s <;> simp -implicitDefEqProofs (maxSteps := 1000000) (disch := first | omega | (simp only [List.length_cons, List.length_nil, List.length_append]; omega) | decide) [-es_cons, -e_ifs, -szOk_iff, -i_mul, -i_mod, -i_fdiv, -b_divmod]) e
  rw [x_blt, xs_cons, ec]
  simp -implicitDefEqProofs (maxSteps := 1000000) (disch := first | omega | (simp only [List.length_cons, List.length_nil, List.length_append]; omega) | decide) [-es_cons, -e_ifs, -szOk_iff, -i_mul, -i_mod, -i_fdiv, -b_divmod, -x_comp, all_tru]
end
end PL

set_option Elab.async false
set_option linter.all false
set_option maxRecDepth 100000
set_option maxHeartbeats 2000000
namespace Lw
open PL
/-! ### drawing, as functions -/
structure Pot where
  a : Int
  b : Int
  c : Int
def dr (p : Pot) (m : Int) : Nat := (if 0 < p.a then p.a % m else (p.b * (p.b % 10007 + 20011) + 60013 * (p.c + 1) + 61) % 2147483563 / 97 % m).toNat
def dn (p : Pot) (m : Int) : Pot := if 0 < p.a then ⟨p.a / m, p.b, p.c⟩ else ⟨p.a, (p.b * (p.b % 10007 + 20011) + 60013 * (p.c + 1) + 61) % 2147483563, p.c + 1⟩
theorem dr_lt {p : Pot} {m : Int} (h : 0 < m) : ((dr p m : Nat) : Int) < m := by
  unfold dr
  split
  · have := Int.emod_nonneg p.a (b := m) (by omega)
    have := Int.emod_lt_of_pos p.a h
    omega
  · generalize (p.b * (p.b % 10007 + 20011) + 60013 * (p.c + 1) + 61) % 2147483563 / 97 = q
    have := Int.emod_nonneg q (b := m) (by omega)
    have := Int.emod_lt_of_pos q h
    omega
def potS (st : Sto) (i : Nat) (p : Pot) : Sto := st.set i (pot3 p.a p.b p.c)
@[simp] theorem potS_len {st : Sto} {i : Nat} {p : Pot} : (potS st i p).length = st.length := by simp [potS]
@[simp] theorem potS_get {st : Sto} {i : Nat} {p : Pot} (h : i < st.length) : (potS st i p)[i]? = some (.lst [.int p.a, .int p.b, .int p.c]) := by
  unfold potS
  rw [List.getElem?_set_self h]
  rfl
@[simp] theorem potS_set {st : Sto} {i : Nat} {p : Pot} {x y z : Int} : (potS st i p).set i (.lst [.int x, .int y, .int z]) = potS st i ⟨x, y, z⟩ := by simp [potS, pot3]
theorem potS_app {st : Sto} {i : Nat} {p : Pot} {ext : Sto} (h : i < st.length) : potS st i p ++ ext = potS (st ++ ext) i p := by
  unfold potS
  rw [List.set_append_left _ _ h]
@[simp] theorem x50 {n : Nat} {st : Sto} {i : Nat} {p : Pot} {m : Int} (hn : 1 ≤ n) (hi : i < st.length) (h0 : 0 < m) (h1 : m < 1073741824) : PL.call T Gc 100000 n 50 [.lst i, .int m] (potS st i p) = .ok (.int (dr p m : Nat)) (potS st i (dn p m)) := by
  obtain ⟨k, rfl⟩ : ∃ k, n = k + 1 := ⟨n - 1, by omega⟩
  rw [call_eq (F := ⟨2, 3, b50⟩) rfl rfl]
  show fin _ (exs _ _ _ b50 [some (.lst i), some (.int m), none] _) = _
  have ix : ∀ (p : Pot) (k : Int), ixD (potS st i p) (.lst i) k = atI [.int p.a, .int p.b, .int p.c] k := fun p k => ix_lst (potS_get hi)
  have bk : ∀ (p : Pot) (d : D), back st.length d (potS st i p) = .ok d (potS st i p) := fun p d => back_len potS_len
  by_cases ha : 0 < p.a
  · have e : ((dr p m : Nat) : Int) = p.a % m := by
      unfold dr
      rw [if_pos ha]
      exact Int.toNat_of_nonneg (Int.emod_nonneg _ (by omega))
    have e2 : dn p m = ⟨p.a / m, p.b, p.c⟩ := if_pos ha
    rw [e, e2]
    simp -implicitDefEqProofs (disch := omega) [-es_cons, -e_ifs, -szOk_iff, -i_mul, -i_mod, -i_fdiv, -b_divmod, b50, potS_get, potS_set, potS_len, ix, at_un, ixN_p, ha, b_divmod_p, bk]
  · have e : ((dr p m : Nat) : Int) = (p.b * (p.b % 10007 + 20011) + 60013 * (p.c + 1) + 61) % 2147483563 / 97 % m := by
      unfold dr
      rw [if_neg ha]
      exact Int.toNat_of_nonneg (Int.emod_nonneg _ (by omega))
    have e2 : dn p m = ⟨p.a, (p.b * (p.b % 10007 + 20011) + 60013 * (p.c + 1) + 61) % 2147483563, p.c + 1⟩ := if_neg ha
    rw [e, e2]
    simp -implicitDefEqProofs (disch := omega) [-es_cons, -e_ifs, -szOk_iff, -i_mul, -i_mod, -i_fdiv, -b_divmod, b50, potS_get, potS_set, potS_len, ix, at_un, ixN_p, ha, bk, i_mul_r, i_mul_l, i_mod_p, i_fdiv_p]
end Lw

set_option Elab.async false
set_option linter.all false
set_option maxRecDepth 100000
set_option maxHeartbeats 2000000
namespace Lw
open PL
/-! ### deeds done -/
def oL : Option (List Int) → D
  | some p => pic p
  | none => .non
def oT : Option (List Int) → D
  | some p => pic p
  | none => .tup []
def stepF (p : List Int) (q : Nat) (s : Int) : Option (List Int) := if q < p.length ∧ 0 ≤ gI p q + s ∧ gI p q + s ≤ 99 then some (p.set q (gI p q + s)) else none
theorem x1 {v lo hi : Int} {n : Nat} {st : Sto} (hn : 2 ≤ n) : PL.call T Gc 100000 n 1 [.int v, .int lo, .int hi] st = .ok (.bl (decide (lo ≤ v) && decide (v ≤ hi))) st := sp_between v lo hi n hn st
theorem x11 {q : Nat} {n : Nat} {st : Sto} (hn : 2 ≤ n) (h : q < 16) : PL.call T Gc 100000 n 11 [.str (zc q)] st = .ok (.int (q : Nat)) st := sp_index h n hn st
theorem set_cut {α : Type} : ∀ (p : List α) (q : Nat) (x : α), q < p.length → p.take q ++ x :: p.drop (q + 1) = p.set q x
  | [], _, _, h => absurd h (by simp)
  | a :: p, 0, x, _ => rfl
  | a :: p, q + 1, x, h => by
    simp only [List.take_succ_cons, List.drop_succ_cons, List.set_cons_succ, List.cons_append]
    rw [set_cut p q x (by simpa using h)]
theorem x109 {p : List Int} {q : Nat} {s : Int} {n : Nat} {st : Sto} (hn : 3 ≤ n) (hp : p.length ≤ 16) (hq : q < 16) : PL.call T Gc 100000 n 109 [pic p, .str (zc q), .int s] st = .ok (oL (stepF p q s)) st := by
  obtain ⟨k, rfl⟩ : ∃ k, n = k + 1 := ⟨n - 1, by omega⟩
  rw [call_eq (F := ⟨3, 4, b109⟩) rfl rfl]
  show fin _ (exs _ _ _ b109 [some (pic p), some (.str (zc q)), some (.int s), none] _) = _
  have g2 : Gc 2 = .int 99 := rfl
  by_cases h1 : q < p.length
  · have e1 : ¬ p.length ≤ q := by omega
    have e2 := set_cut p q (p[q] + s) h1
    have e3 : (List.map D.int p).take q ++ D.int (p[q] + s) :: (List.map D.int p).drop (q + 1) = (p.set q (p[q] + s)).map D.int := by
      rw [← e2, List.map_append, List.map_cons, List.map_take, List.map_drop]
    simp -implicitDefEqProofs (disch := omega) [-es_cons, -e_ifs, -szOk_iff, -i_mul, -i_mod, -i_fdiv, -b_divmod, b109, g2, x1, x11, stepF, h1, e1, pic]
    rw [e3]
    by_cases h2 : 0 ≤ p[q] + s ∧ p[q] + s ≤ 99
    · rw [if_neg (by omega), if_pos h2]
      rfl
    · rw [if_pos (by omega), if_neg h2]
      rfl
  · have e1 : p.length ≤ q := by omega
    simp -implicitDefEqProofs (disch := omega) [-es_cons, -e_ifs, -szOk_iff, -i_mul, -i_mod, -i_fdiv, -b_divmod, b109, g2, x1, x11, stepF, h1, e1, pic, oL]

theorem stepF_len {p p' : List Int} {q : Nat} {s : Int} (h : stepF p q s = some p') : p'.length = p.length := by
  unfold stepF at h
  split at h
  · cases h
    simp
  · cases h
def moveF (p : List Int) (q r : Nat) : Option (List Int) := (stepF p q (-1)).bind fun p' => stepF p' r 1
theorem x110 {p : List Int} {q r : Nat} {n : Nat} {st : Sto} (hn : 4 ≤ n) (hp : p.length ≤ 16) (hq : q < 16) (hr : r < 16) : PL.call T Gc 100000 n 110 [pic p, .str (zc q), .str (zc r)] st = .ok (oL (moveF p q r)) st := by
  obtain ⟨k, rfl⟩ : ∃ k, n = k + 1 := ⟨n - 1, by omega⟩
  rw [call_eq (F := ⟨3, 4, b110⟩) rfl rfl]
  show fin _ (exs _ _ _ b110 [some (pic p), some (.str (zc q)), some (.str (zc r)), none] _) = _
  cases e : stepF p q (-1) with
  | none => simp -implicitDefEqProofs (disch := omega) [-es_cons, -e_ifs, -szOk_iff, -i_mul, -i_mod, -i_fdiv, -b_divmod, b110, x109, e, oL, moveF]
  | some p' =>
    have h1 := stepF_len e
    simp -implicitDefEqProofs (disch := omega) [-es_cons, -e_ifs, -szOk_iff, -i_mul, -i_mod, -i_fdiv, -b_divmod, b110, x109, e, moveF]
    simp -implicitDefEqProofs (disch := omega) [-es_cons, -e_ifs, -szOk_iff, -i_mul, -i_mod, -i_fdiv, -b_divmod, oL, x109]
def inside (p : List Int) (q : Nat) : List Int := (List.range p.length).map fun k => gI p (k ^^^ q)
theorem xor_small : ∀ a < 16, ∀ b < 16, PySem.Builtin.bitXor ((a : Nat) : Int) ((b : Nat) : Int) = ((a ^^^ b : Nat) : Int) := by decide +kernel
theorem x106 {m : Nat} {p : List Int} {q : Nat} {n : Nat} {st : Sto} (hn : 1 ≤ n) (hp : Pic m p) (hq : q < 2 ^ m) : PL.call T Gc 100000 n 106 [pic p, .int (q : Nat)] st = .ok (pic (inside p q)) st := by
  obtain ⟨k, rfl⟩ : ∃ k, n = k + 1 := ⟨n - 1, by omega⟩
  rw [call_eq (F := ⟨2, 3, b106⟩) rfl rfl]
  show fin _ (exs _ _ _ b106 [some (pic p), some (.int (q : Nat)), none] _) = _
  have hl := hp.len
  have hq16 := pow16 hp.2.1 hq
  have hx : ∀ a < p.length, a ^^^ q < p.length := fun a ha => by
    rw [hp.2.2.1] at ha ⊢
    exact Nat.xor_lt_two_pow ha hq
  have h1 : ∀ a < p.length, iop .bxor ((a : Nat) : Int) ((q : Nat) : Int) = some ((a ^^^ q : Nat) : Int) := fun a ha => congrArg some (xor_small a (by omega) q hq16)
  have h2 : ∀ a < p.length, atI (p.map D.int) ((a ^^^ q : Nat) : Int) = some (.int (gI p (a ^^^ q))) := fun a ha => at_int (hx a ha)
  simp -implicitDefEqProofs (disch := first | omega | (simp only [List.mem_range] at *; omega)) [-es_cons, -e_ifs, -szOk_iff, -i_mul, -i_mod, -i_fdiv, -b_divmod, -at_un, -gI_eq, b106, pic, rng_map, h1, h2, inside]
end Lw

set_option Elab.async false
set_option linter.all false
set_option maxRecDepth 100000
set_option maxHeartbeats 2000000
namespace Lw
open PL
def ordB (m : Nat) (o : List Nat) : Bool := isort (nI o) == nI (List.range m)
theorem isort_len (l : List Int) : (isort l).length = l.length := by simp [isort]
theorem isort_perm (l : List Int) : (isort l).Perm l := List.mergeSort_perm l _
theorem ordB_len {m : Nat} {o : List Nat} (h : ordB m o = true) : o.length = m := by
  have e : isort (nI o) = nI (List.range m) := by simpa [ordB] using h
  have := congrArg List.length e
  rw [isort_len, nI_len, nI_len] at this
  simpa using this
theorem nI_inj : ∀ {a b : List Nat}, (nI a).Perm (nI b) → a.Perm b := fun {a b} h => by
  have := h.map Int.toNat
  unfold nI at this
  rw [List.map_map, List.map_map] at this
  have e : (Int.toNat ∘ fun k : Nat => (k : Int)) = id := by
    funext k
    simp
  rw [e, List.map_id, List.map_id] at this
  exact this
theorem ordB_perm {m : Nat} {o : List Nat} (h : ordB m o = true) : o.Perm (List.range m) := by
  have e : isort (nI o) = nI (List.range m) := by simpa [ordB] using h
  have := isort_perm (nI o)
  rw [e] at this
  exact (nI_inj this).symm
theorem x93 {m : Nat} {o : List Int} {n : Nat} {st : Sto} (hn : 2 ≤ n) (ho : o.length ≤ 100) : PL.call T Gc 100000 n 93 [pic o, .int (m : Nat)] st = .ok (.bl (decide (o.length = m))) st := by
  obtain ⟨k, rfl⟩ : ∃ k, n = k + 1 := ⟨n - 1, by omega⟩
  rw [call_eq (F := ⟨2, 3, b93⟩) rfl rfl]
  show fin _ (exs _ _ _ b93 [some (pic o), some (.int (m : Nat)), none] _) = _
  have h92 : ∀ st, PL.call T Gc 100000 k 92 [.tup (o.map D.int), .int (m : Nat)] st = .ok (.bl (decide (o.length = m))) st := fun st => by
    have := sp_tupof (o.map D.int) m k (by omega) st
    rw [List.length_map] at this
    exact this
  have h0 : ∀ (i : Int) st, PL.call T Gc 100000 k 0 [.int i] st = .ok (.bl true) st := fun i st => sp_whole i k (by omega) st
  by_cases e : o.length = m <;> simp -implicitDefEqProofs (disch := first | omega | (simp only [List.mem_range] at *; omega)) [-es_cons, -e_ifs, -szOk_iff, -i_mul, -i_mod, -i_fdiv, -b_divmod, b93, pic, h92, h0, e]
theorem x105 {m : Nat} {o : List Nat} {n : Nat} {st : Sto} (hn : 3 ≤ n) (hm : m ≤ 4) (ho : o.length ≤ 4) : PL.call T Gc 100000 n 105 [.int (m : Nat), pic (nI o)] st = .ok (.bl (ordB m o)) st := by
  obtain ⟨k, rfl⟩ : ∃ k, n = k + 1 := ⟨n - 1, by omega⟩
  rw [call_eq (F := ⟨2, 2, b105⟩) rfl rfl]
  show fin _ (exs _ _ _ b105 [some (.int (m : Nat)), some (pic (nI o))] _) = _
  have hl := nI_len o
  have e0 : rngD 0 m = (nI (List.range m)).map D.int := by
    rw [nI_D, rng_map]
    simp
  by_cases e : o.length = m
  · simp -implicitDefEqProofs (disch := first | omega | (simp only [List.mem_range] at *; omega)) [-es_cons, -e_ifs, -szOk_iff, -i_mul, -i_mod, -i_fdiv, -b_divmod, b105, pic, x93, e, hl, e0, ordB]
  · have : ordB m o = false := by
      cases h : ordB m o with
      | false => rfl
      | true => exact absurd (ordB_len h) e
    simp -implicitDefEqProofs (disch := first | omega | (simp only [List.mem_range] at *; omega)) [-es_cons, -e_ifs, -szOk_iff, -i_mul, -i_mod, -i_fdiv, -b_divmod, b105, pic, x93, e, hl, e0, this]
def perms : Nat → List (List Nat)
  | 1 => [[0]]
  | 2 => [[0, 1], [1, 0]]
  | 3 => [[0, 1, 2], [0, 2, 1], [1, 0, 2], [1, 2, 0], [2, 0, 1], [2, 1, 0]]
  | 4 => (List.range 256).filterMap fun k => if [k % 4, k / 4 % 4, k / 16 % 4, k / 64].Nodup then some [k % 4, k / 4 % 4, k / 16 % 4, k / 64] else none
  | _ => []
theorem mem_perms {m : Nat} {o : List Nat} (h1 : 1 ≤ m) (h4 : m ≤ 4) (hl : o.length = m) (hk : ∀ k ∈ o, k < m) (nd : o.Nodup) : o ∈ perms m := by
  have : m = 1 ∨ m = 2 ∨ m = 3 ∨ m = 4 := by omega
  rcases this with rfl | rfl | rfl | rfl
  · match o, hl with
    | [a], _ =>
      have := hk a (by simp)
      exact (by decide : ∀ a < 1, [a].Nodup → [a] ∈ perms 1) a this nd
  · match o, hl with
    | [a, b], _ => exact (by decide : ∀ a < 2, ∀ b < 2, [a, b].Nodup → [a, b] ∈ perms 2) a (hk a (by simp)) b (hk b (by simp)) nd
  · match o, hl with
    | [a, b, c], _ => exact (by decide +kernel : ∀ a b c : Fin 3, [a.1, b.1, c.1].Nodup → [a.1, b.1, c.1] ∈ perms 3) ⟨a, hk a (by simp)⟩ ⟨b, hk b (by simp)⟩ ⟨c, hk c (by simp)⟩ nd
  · match o, hl with
    | [a, b, c, d], _ => exact (by decide +kernel : ∀ a b c d : Fin 4, [a.1, b.1, c.1, d.1].Nodup → [a.1, b.1, c.1, d.1] ∈ perms 4) ⟨a, hk a (by simp)⟩ ⟨b, hk b (by simp)⟩ ⟨c, hk c (by simp)⟩ ⟨d, hk d (by simp)⟩ nd
theorem old_lt : ∀ m ≤ 4, ∀ o ∈ perms m, ∀ q < 2 ^ m, oldP o q < 2 ^ m := by decide +kernel
theorem perm_mem {m : Nat} (hm : m ≤ 4) (h1 : 1 ≤ m) {o : List Nat} (h : o.Perm (List.range m)) : o ∈ perms m :=
  mem_perms h1 hm (by simpa using h.length_eq) (fun k hk => by simpa using h.mem_iff.mp hk) (h.nodup_iff.mpr List.nodup_range)
theorem oldP_lt {m : Nat} (hm : m ≤ 4) (h1 : 1 ≤ m) {o : List Nat} (h : o.Perm (List.range m)) : ∀ q < 2 ^ m, oldP o q < 2 ^ m := old_lt m hm o (perm_mem hm h1 h)
theorem x77 {m : Nat} {o : List Nat} {p : List Int} {n : Nat} {st : Sto} (hn : 2 ≤ n) (h : Pic m p) (ho : o.Perm (List.range m)) : PL.call T Gc 100000 n 77 [pic p, pic (nI o)] st = .ok (pic (anew o p)) st := by
  have hl : o.length = m := by simpa using ho.length_eq
  have hk : ∀ k ∈ o, k < m := fun k hk => by simpa using ho.mem_iff.mp hk
  have := h.2.1
  exact sp_anewby h (by omega) (fun k z => by have := hk k z; omega) (oldP_lt h.2.1 h.1 ho) n hn st
def behind (m : Nat) (p : List Int) : Dd → Option (List Int)
  | .put q => stepF p q 1
  | .take q => stepF p q (-1)
  | .move q r => moveF p q r
  | .turn k => if k < m then some (inside p (2 ^ k)) else none
  | .ren o => if ordB m o then some (anew o p) else none
theorem let_in : ∀ k < 4, ∀ m ≤ 4, ∀ st, cop st .mem (.str [65 + k]) (.str (cut [65, 66, 67, 68] none (some ((m : Nat) : Int)))) = some (decide (k < m)) := fun k hk m hm st => by
  rw [c_memS]
  congr 1
  revert k m
  decide +kernel
theorem let_zc : ∀ k < 4, [65 + k] = zc (2 ^ k) := by decide +kernel
theorem pow_lt {k m : Nat} (h : k < m) (hm : m ≤ 4) : (2 ^ k : Nat) < 2 ^ m := Nat.pow_lt_pow_right (by decide) h
theorem x167 {m : Nat} {p : List Int} {d : Dd} {n : Nat} {st : Sto} (hn : 5 ≤ n) (h : Pic m p) (hd : DOk d) : PL.call T Gc 100000 n 167 [pic p, dD d] st = .ok (oL (behind m p d)) st := by
  obtain ⟨k, rfl⟩ : ∃ k, n = k + 1 := ⟨n - 1, by omega⟩
  rw [call_eq (F := ⟨2, 3, b167⟩) rfl rfl]
  show fin _ (exs _ _ _ b167 [some (pic p), some (dD d), none] _) = _
  have m1 := fun st => m_eq (st := st)
  have t1 := fun st => t_eq (st := st)
  have p1 := fun st => p_in (st := st)
  have q1 : ∀ st, cop st .eq (.str wPut) (.str wPut) = some true ∧ cop st .eq (.str wTake) (.str wPut) = some false := fun st => ⟨rfl, rfl⟩
  have g21 : Gc 21 = .str wPut := rfl
  have g0 : Gc 0 = .str [65, 66, 67, 68] := rfl
  have hl := h.len
  have hm := h.2.1
  have h9 : ∀ st, PL.call T Gc 100000 k 9 [pic p] st = .ok (.int m) st := fun st => sp_lots h k (by omega) st
  cases d with
  | put q =>
    simp only [DOk] at hd
    simp -implicitDefEqProofs (disch := omega) [-es_cons, -e_ifs, -szOk_iff, -i_mul, -i_mod, -i_fdiv, -b_divmod, b167, dD, g23, g24, g21, m1, p1, q1, x109, behind]
  | take q =>
    simp only [DOk] at hd
    simp -implicitDefEqProofs (disch := omega) [-es_cons, -e_ifs, -szOk_iff, -i_mul, -i_mod, -i_fdiv, -b_divmod, b167, dD, g23, g24, g21, m1, p1, q1, x109, behind]
  | move q r =>
    simp only [DOk] at hd
    simp -implicitDefEqProofs (disch := omega) [-es_cons, -e_ifs, -szOk_iff, -i_mul, -i_mod, -i_fdiv, -b_divmod, b167, dD, g23, g24, g21, m1, p1, q1, x110, behind]
  | turn j =>
    simp only [DOk] at hd
    have h11 : ∀ st, PL.call T Gc 100000 k 11 [.str [65 + j]] st = .ok (.int ((2 ^ j : Nat) : Int)) st := fun st => by
      rw [let_zc j hd]
      exact x11 (by omega) (zc_one j hd).2
    have li := let_in j hd m hm
    by_cases hj : j < m
    · have h106 : ∀ st, PL.call T Gc 100000 k 106 [pic p, .int ((2 ^ j : Nat) : Int)] st = .ok (pic (inside p (2 ^ j))) st := fun st => x106 (by omega) h (pow_lt hj hm)
      have h106' : ∀ st, PL.call T Gc 100000 k 106 [pic p, .int (2 ^ j)] st = .ok (pic (inside p (2 ^ j))) st := fun st => by
        have := h106 st
        simpa using this
      simp -implicitDefEqProofs (disch := omega) [-es_cons, -e_ifs, -szOk_iff, -i_mul, -i_mod, -i_fdiv, -b_divmod, -cut_to, -c_memS, b167, dD, g23, g24, g21, g12, g0, m1, p1, t1, h9, h11, li, h106', hj, behind, oL]
    · simp -implicitDefEqProofs (disch := omega) [-es_cons, -e_ifs, -szOk_iff, -i_mul, -i_mod, -i_fdiv, -b_divmod, -cut_to, -c_memS, b167, dD, g23, g24, g21, g12, g0, m1, p1, t1, h9, h11, li, hj, behind, oL]
  | ren o =>
    obtain ⟨o1, o2, o3⟩ := hd
    by_cases ho : ordB m o = true
    · simp -implicitDefEqProofs (disch := omega) [-es_cons, -e_ifs, -szOk_iff, -i_mul, -i_mod, -i_fdiv, -b_divmod, b167, dD, g23, g24, g21, g12, g0, m1, p1, t1, h9, x105, x77 (h := h) (ho := ordB_perm ho), ho, behind, oL]
    · rw [Bool.not_eq_true] at ho
      simp -implicitDefEqProofs (disch := omega) [-es_cons, -e_ifs, -szOk_iff, -i_mul, -i_mod, -i_fdiv, -b_divmod, b167, dD, g23, g24, g21, g12, g0, m1, p1, t1, h9, x105, ho, behind, oL]
end Lw

set_option Elab.async false
set_option linter.all false
set_option maxRecDepth 100000
set_option maxHeartbeats 2000000
namespace Lw
open PL
/-! ### the law's own doing -/
theorem x54 {m : Nat} {p : List Int} {n : Nat} {st : Sto} (hn : 1 ≤ n) (h : Pic m p) : PL.call T Gc 100000 n 54 [pic p] st = .ok (.int (m : Nat)) st := by
  obtain ⟨k, rfl⟩ : ∃ k, n = k + 1 := ⟨n - 1, by omega⟩
  rw [call_eq (F := ⟨1, 1, b54⟩) rfl rfl]
  show fin _ (exs _ _ _ b54 [some (pic p)] _) = _
  obtain ⟨h1, h2, h3, _⟩ := h
  have hm : mcall st .tindex (.tup [.int 2, .int 4, .int 8, .int 16]) [.int (p.length : Nat)] = .ok (.int ((m - 1 : Nat) : Int)) st := by
    have : m = 1 ∨ m = 2 ∨ m = 3 ∨ m = 4 := by omega
    rcases this with rfl | rfl | rfl | rfl <;> (rw [h3]; rfl)
  have e : ((m - 1 : Nat) : Int) + 1 = m := by omega
  simp -implicitDefEqProofs (disch := omega) [-es_cons, -e_ifs, -szOk_iff, -i_mul, -i_mod, -i_fdiv, -b_divmod, b54, pic, hm, e]
theorem zc_idx : ∀ q < 16, ∀ a ∈ zc q, idxOf a [65, 66, 67, 68] = some (a - 65) ∧ a - 65 < 4 := by decide +kernel
theorem x56 {q : Nat} {n : Nat} {st : Sto} (hn : 1 ≤ n) (h : q < 16) : PL.call T Gc 100000 n 56 [.str (zc q)] st = .ok (.int (q : Nat)) st := by
  obtain ⟨k, rfl⟩ : ∃ k, n = k + 1 := ⟨n - 1, by omega⟩
  rw [call_eq (F := ⟨1, 2, b56⟩) rfl rfl]
  show fin _ (exs _ _ _ b56 [some (.str (zc q)), none] _) = _
  have hl := zc_len q
  have hx : ∀ a, a ∈ zc q → idxOf a [65, 66, 67, 68] = some (a - 65) := fun a ha => (zc_idx q h a ha).1
  have hy : ∀ a, a ∈ zc q → iop .shl 1 ((a - 65 : Nat) : Int) = some (2 ^ (a - 65)) := fun a ha => shl_one (by have := (zc_idx q h a ha).2; omega)
  have e : ((zc q).map fun a => (2 : Int) ^ (a - 65)).sum = q := by
    revert q
    decide +kernel
  simp -implicitDefEqProofs (disch := first | omega | assumption) [-es_cons, -e_ifs, -szOk_iff, -i_mul, -i_mod, -i_fdiv, -b_divmod, b56, hx, hy, e]
theorem x59 {m : Nat} {p : List Int} {q : Nat} {n : Nat} {st : Sto} (hn : 1 ≤ n) (hp : Pic m p) (hq : q < 2 ^ m) : PL.call T Gc 100000 n 59 [pic p, .int (q : Nat)] st = .ok (pic (inside p q)) st := by
  obtain ⟨k, rfl⟩ : ∃ k, n = k + 1 := ⟨n - 1, by omega⟩
  rw [call_eq (F := ⟨2, 3, b59⟩) rfl rfl]
  show fin _ (exs _ _ _ b59 [some (pic p), some (.int (q : Nat)), none] _) = _
  have hl := hp.len
  have hq16 := pow16 hp.2.1 hq
  have hx : ∀ a < p.length, a ^^^ q < p.length := fun a ha => by
    rw [hp.2.2.1] at ha ⊢
    exact Nat.xor_lt_two_pow ha hq
  have h1 : ∀ a < p.length, iop .bxor ((a : Nat) : Int) ((q : Nat) : Int) = some ((a ^^^ q : Nat) : Int) := fun a ha => congrArg some (xor_small a (by omega) q hq16)
  have h2 : ∀ a < p.length, atI (p.map D.int) ((a ^^^ q : Nat) : Int) = some (.int (gI p (a ^^^ q))) := fun a ha => at_int (hx a ha)
  simp -implicitDefEqProofs (disch := first | omega | (simp only [List.mem_range] at *; omega)) [-es_cons, -e_ifs, -szOk_iff, -i_mul, -i_mod, -i_fdiv, -b_divmod, -at_un, -gI_eq, b59, pic, rng_map, h1, h2, inside]
/-! named anew, as the law does it -/
def lawOld (o : List Nat) (q : Nat) : Nat := (o.zipIdx.map fun p => 2 ^ p.1 * (q / 2 ^ p.2 % 2)).sum
theorem lawOld_eq : ∀ m ≤ 4, ∀ o ∈ perms m, ∀ q < 2 ^ m, lawOld o q = oldP o q := by decide +kernel
structure Sa where
  old : Int
  e5 : Option D
  e6 : Option D
theorem fold_old : ∀ (l : List (Nat × Nat)) (q : Nat) (s : Sa), (l.foldl (fun (s : Sa) (p : Nat × Nat) => ⟨s.old + (2 : Int) ^ p.1 * (((q : Nat) : Int) / 2 ^ p.2 % 2), some (.int (p.2 : Nat)), some (.int (p.1 : Nat))⟩) s).old = s.old + (((l.map fun p => 2 ^ p.1 * (q / 2 ^ p.2 % 2)).sum : Nat) : Int)
  | [], _, s => by simp
  | a :: l, q, s => by
    rw [List.foldl_cons, fold_old l q]
    simp only [List.map_cons, List.sum_cons]
    have e : (((2 ^ a.1 * (q / 2 ^ a.2 % 2) + (l.map fun p => 2 ^ p.1 * (q / 2 ^ p.2 % 2)).sum : Nat)) : Int) = (2 : Int) ^ a.1 * (((q : Nat) : Int) / 2 ^ a.2 % 2) + (((l.map fun p => 2 ^ p.1 * (q / 2 ^ p.2 % 2)).sum : Nat) : Int) := by
      rw [Int.natCast_add, Int.natCast_mul, Int.natCast_pow, Int.natCast_emod, Int.natCast_ediv, Int.natCast_pow]
      rfl
    rw [e]
    omega
structure Sb where
  acc : List Int
  e3 : Option D
  e4 : Option D
  e5 : Option D
  e6 : Option D
theorem x58 {m : Nat} {p : List Int} {o : List Nat} {n : Nat} {st : Sto} (hn : 1 ≤ n) (h : Pic m p) (ho : o.Perm (List.range m)) : PL.call T Gc 100000 n 58 [pic p, pic (nI o)] st = .ok (pic (anew o p)) st := by
  obtain ⟨k, rfl⟩ : ∃ k, n = k + 1 := ⟨n - 1, by omega⟩
  rw [call_eq (F := ⟨2, 7, b58⟩) rfl rfl]
  have hl := h.len
  have hm := h.2.1
  have ol : o.length = m := by simpa using ho.length_eq
  have ok : ∀ x ∈ o, x < m := fun x hx => by simpa using ho.mem_iff.mp hx
  have hpm := perm_mem hm h.1 ho
  let g1 : Nat → Sa → Nat × Nat → Sa := fun q s p => ⟨s.old + (2 : Int) ^ p.1 * (((q : Nat) : Int) / 2 ^ p.2 % 2), some (.int (p.2 : Nat)), some (.int (p.1 : Nat))⟩
  let E : Sb → Env := fun s => [some (pic p), some (pic (nI o)), some (.lst st.length), s.e3, s.e4, s.e5, s.e6]
  let S : Sb → Sto := fun s => st ++ [.lst (s.acc.map D.int)]
  let g : Sb → Nat → Sb := fun s q =>
    let r := o.zipIdx.foldl (g1 q) ⟨0, s.e5, s.e6⟩
    ⟨s.acc ++ [gI p (oldP o q)], some (.int (q : Nat)), some (.int r.old), r.e5, r.e6⟩
  have old : ∀ q < p.length, ∀ e5 e6, (o.zipIdx.foldl (g1 q) ⟨0, e5, e6⟩).old = ((oldP o q : Nat) : Int) := fun q hq e5 e6 => by
    rw [h.2.2.1] at hq
    have := fold_old o.zipIdx q ⟨0, e5, e6⟩
    have e := lawOld_eq m hm o hpm q hq
    unfold lawOld at e
    rw [e] at this
    simpa using this
  have acc : ∀ (l : List Nat) (s : Sb), (l.foldl g s).acc = s.acc ++ l.map fun q => gI p (oldP o q) := by
    intro l
    induction l with
    | nil => intro s; simp
    | cons a l ih => intro s; rw [List.foldl_cons, ih]; simp [g]
  have inner : ∀ q < p.length, ∀ (s : Sb), ex (PL.call T Gc 100000 k) Gc 100000 (.fr (.tup (.cons (.var 5) (.cons (.var 6) .nil))) (.enum (.var 1)) (.cons (.asg (.var 4) (.bin .add (.var 4) (.bin .mul (.bin .shl (.int 1) (.var 6)) (.bin .mod (.blt .int (.cons (.bin .fdiv (.var 3) (.bin .shl (.int 1) (.var 5))) .nil)) (.int 2))))) .nil))
      [some (pic p), some (pic (nI o)), some (.lst st.length), some (.int (q : Nat)), some (.int 0), s.e5, s.e6] (S s) =
      .ok (.nx [some (pic p), some (pic (nI o)), some (.lst st.length), some (.int (q : Nat)), some (.int ((oldP o q : Nat) : Int)), (o.zipIdx.foldl (g1 q) ⟨0, s.e5, s.e6⟩).e5, (o.zipIdx.foldl (g1 q) ⟨0, s.e5, s.e6⟩).e6]) (S s) := fun q hq s => by
    rw [← old q hq s.e5 s.e6]
    refine (fr_foldI (fun x : Sa => [some (pic p), some (pic (nI o)), some (.lst st.length), some (.int (q : Nat)), some (.int x.old), x.e5, x.e6]) (fun _ => S s) (g1 q) (fun _ _ => True) (fun p : Nat × Nat => .tup [.int (p.2 : Nat), .int (p.1 : Nat)]) o.zipIdx ⟨0, s.e5, s.e6⟩ ?_ trivial fun i a ha x _ => ⟨?_, trivial⟩).1
    · simp -implicitDefEqProofs (disch := omega) [-es_cons, -e_ifs, -szOk_iff, -i_mul, -i_mod, -i_fdiv, -b_divmod, pic, nI_D, enum_map]
    · have ha := List.mem_of_getElem? ha
      have h1 : a.1 < 4 := by have := ok a.1 (List.fst_mem_of_mem_zipIdx ha); omega
      have h2 : a.2 < 4 := by have := List.snd_lt_of_mem_zipIdx ha; omega
      have p1 : (0 : Int) < 2 ^ a.2 := Int.pow_pos (by decide)
      have p2 : ∀ k < 4, (2 : Int) ^ k < 1073741824 := by decide
      have p2 := p2 a.2 h2
      have p3 : ∀ i : Int, -(2 ^ 64) < i % 2 ∧ i % 2 < 2 ^ 64 := fun i => by omega
      simp -implicitDefEqProofs (disch := omega) [-es_cons, -e_ifs, -szOk_iff, -i_mul, -i_mod, -i_fdiv, -b_divmod, shl_one, g1]
  have s2 := fr_foldI (C := PL.call T Gc 100000 k) (G := Gc) (W := 100000) (t := .var 3) (it := .rng1 (.blt .len (.cons (.var 0) .nil))) (b := .cons (.asg (.var 4) (.int 0)) (.cons (.fr (.tup (.cons (.var 5) (.cons (.var 6) .nil))) (.enum (.var 1)) (.cons (.asg (.var 4) (.bin .add (.var 4) (.bin .mul (.bin .shl (.int 1) (.var 6)) (.bin .mod (.blt .int (.cons (.bin .fdiv (.var 3) (.bin .shl (.int 1) (.var 5))) .nil)) (.int 2))))) .nil)) (.cons (.exp (.mth .append (.var 2) (.cons (.idx (.var 0) (.var 4)) .nil))) .nil)))
    E S g (fun i s => s.acc.length = i) (fun k : Nat => .int (k : Nat)) (List.range p.length) ⟨[], none, none, none, none⟩ (by simp -implicitDefEqProofs (disch := omega) [-es_cons, -e_ifs, -szOk_iff, -i_mul, -i_mod, -i_fdiv, -b_divmod, E, S, pic, rng_map]) rfl (fun i q hq s hs => by
      have hi : i < p.length := by simpa using (List.getElem?_eq_some_iff.mp hq).1
      have hq : q < p.length := by simpa using List.mem_of_getElem? hq
      refine ⟨?_, by simp [g, hs]⟩
      have hat : atI (p.map D.int) ((oldP o q : Nat) : Int) = some (.int (gI p (oldP o q))) := at_int (by
        rw [h.2.2.1] at hq ⊢
        exact oldP_lt hm h.1 ho q hq)
      have happ : mcall (S s) .append (.lst st.length) [.int (gI p (oldP o q))] = .ok .non (st ++ [.lst (s.acc.map D.int ++ [.int (gI p (oldP o q))])]) := by
        rw [m_append (ds := s.acc.map D.int) (by simp [S]) (by rw [List.length_map]; omega) rfl]
        simp [S]
      have inn := inner q hq s
      simp only [pic] at inn
      show R.bind (evt _ _ _ _ [some (pic p), some (pic (nI o)), some (.lst st.length), s.e3, s.e4, s.e5, s.e6] _) _ = _
      have ho := old q hq s.e5 s.e6
      simp -implicitDefEqProofs (disch := omega) [-es_cons, -e_ifs, -szOk_iff, -i_mul, -i_mod, -i_fdiv, -b_divmod, -at_un, -gI_eq, -e_frK, inn, hat, happ, g, S, E, ho, pic])
  have s2 := s2.1
  show fin _ (exs _ _ _ b58 [some (pic p), some (pic (nI o)), none, none, none, none, none] _) = _
  have ac : ((List.range p.length).foldl g ⟨[], none, none, none, none⟩).acc = anew o p := by
    rw [acc]
    rfl
  simp only [E, S, List.map_nil, ac] at s2
  simp -implicitDefEqProofs (disch := omega) [-es_cons, -e_ifs, -szOk_iff, -i_mul, -i_mod, -i_fdiv, -b_divmod, -e_frK, b58, s2]
end Lw

set_option Elab.async false
set_option linter.all false
set_option maxRecDepth 100000
set_option maxHeartbeats 2000000
namespace Lw
open PL
theorem let_in2 : ∀ m ≤ 4, ∀ j < 4, (65 + j ∈ List.take m [65, 66, 67, 68]) ↔ j < m := by decide +kernel
theorem set_map (p : List Int) (q : Nat) (v : Int) : (p.map D.int).set q (D.int v) = (p.set q v).map D.int := by rw [List.map_set]
theorem minI_ge {p : List Int} {c : Int} (h : p ≠ []) : ∃ a, minI p = some a ∧ (c ≤ a ↔ ∀ x ∈ p, c ≤ x) := by
  cases p with
  | nil => exact absurd rfl h
  | cons x xs =>
    refine ⟨xs.foldl (fun a b => if b < a then b else a) x, rfl, ?_⟩
    clear h
    induction xs generalizing x with
    | nil => simp
    | cons y ys ih =>
      rw [List.foldl_cons, ih]
      simp only [List.mem_cons, forall_eq_or_imp]
      by_cases hy : y < x
      · rw [if_pos hy]
        constructor
        · rintro ⟨h1, h2⟩; exact ⟨by omega, h1, h2⟩
        · rintro ⟨h1, h2, h3⟩; exact ⟨h2, h3⟩
      · rw [if_neg hy]
        constructor
        · rintro ⟨h1, h2⟩; exact ⟨h1, by omega, h2⟩
        · rintro ⟨h1, h2, h3⟩; exact ⟨h1, h3⟩
theorem maxI_lt {p : List Int} {c : Int} (h : p ≠ []) : ∃ a, maxI p = some a ∧ (a < c ↔ ∀ x ∈ p, x < c) := by
  cases p with
  | nil => exact absurd rfl h
  | cons x xs =>
    refine ⟨xs.foldl (fun a b => if a < b then b else a) x, rfl, ?_⟩
    clear h
    induction xs generalizing x with
    | nil => simp
    | cons y ys ih =>
      rw [List.foldl_cons, ih]
      simp only [List.mem_cons, forall_eq_or_imp]
      by_cases hy : x < y
      · rw [if_pos hy]
        constructor
        · rintro ⟨h1, h2⟩; exact ⟨by omega, h1, h2⟩
        · rintro ⟨h1, h2, h3⟩; exact ⟨h2, h3⟩
      · rw [if_neg hy]
        constructor
        · rintro ⟨h1, h2⟩; exact ⟨h1, by omega, h2⟩
        · rintro ⟨h1, h2, h3⟩; exact ⟨h1, h3⟩
theorem zc_in' : ∀ m ≤ 4, ∀ q < 16, (zc q).all (fun x => decide (x ∈ List.take m [65, 66, 67, 68])) = decide (q < 2 ^ m) := by decide +kernel
theorem zc_in (m : Nat) (hm : m ≤ 4) (q : Nat) (hq : q < 16) : (∃ x, x ∈ zc q ∧ ¬ x ∈ List.take m [65, 66, 67, 68]) ↔ ¬ q < 2 ^ m := by
  have := zc_in' m hm q hq
  rw [← decide_eq_true_iff (p := q < 2 ^ m), ← this, List.all_eq_true]
  simp
theorem zc_in2 (m : Nat) (hm : m ≤ 4) (q r : Nat) (hq : q < 16) (hr : r < 16) : (∃ x, (x ∈ zc q ∨ x ∈ zc r) ∧ ¬ x ∈ List.take m [65, 66, 67, 68]) ↔ ¬ (q < 2 ^ m ∧ r < 2 ^ m) := by
  have h1 := zc_in m hm q hq
  have h2 := zc_in m hm r hr
  constructor
  · rintro ⟨x, hx | hx, hn⟩ ⟨a, b⟩
    · exact h1.mp ⟨x, hx, hn⟩ a
    · exact h2.mp ⟨x, hx, hn⟩ b
  · intro h
    by_cases a : q < 2 ^ m
    · obtain ⟨x, hx, hn⟩ := h2.mpr fun b => h ⟨a, b⟩
      exact ⟨x, .inr hx, hn⟩
    · obtain ⟨x, hx, hn⟩ := h1.mpr a
      exact ⟨x, .inl hx, hn⟩
theorem set_all {P : Int → Prop} {p : List Int} (hp : ∀ x ∈ p, P x) {q : Nat} (hq : q < p.length) (v : Int) : (∀ x ∈ p.set q v, P x) ↔ P v := by
  constructor
  · intro h
    exact h v (List.mem_iff_getElem?.mpr ⟨q, by rw [List.getElem?_set_self hq]⟩)
  · intro h x hx
    rcases List.mem_or_eq_of_mem_set hx with z | z
    · exact hp x z
    · rw [z]; exact h
theorem set_min {p : List Int} (hp : ∀ x ∈ p, 0 ≤ x) {q : Nat} (hq : q < p.length) (v : Int) : ∃ a, minI (p.set q v) = some a ∧ (0 ≤ a ↔ 0 ≤ v) := by
  obtain ⟨a, h1, h2⟩ := minI_ge (p := p.set q v) (c := 0) (by intro z; rw [List.set_eq_nil_iff] at z; rw [z] at hq; simp at hq)
  exact ⟨a, h1, h2.trans (set_all hp hq v)⟩
theorem set_max {p : List Int} (hp : ∀ x ∈ p, x < 100) {q : Nat} (hq : q < p.length) (v : Int) : ∃ a, maxI (p.set q v) = some a ∧ (a < 100 ↔ v < 100) := by
  obtain ⟨a, h1, h2⟩ := maxI_lt (p := p.set q v) (c := 100) (by intro z; rw [List.set_eq_nil_iff] at z; rw [z] at hq; simp at hq)
  exact ⟨a, h1, h2.trans (set_all hp hq v)⟩
theorem l_eq {st : Sto} : cop st .eq (.str wRen) (.str [114, 101, 110, 97, 109, 101]) = some true ∧ cop st .eq (.str wPut) (.str [114, 101, 110, 97, 109, 101]) = some false ∧ cop st .eq (.str wTake) (.str [114, 101, 110, 97, 109, 101]) = some false ∧ cop st .eq (.str wMove) (.str [114, 101, 110, 97, 109, 101]) = some false ∧ cop st .eq (.str wTurn) (.str [114, 101, 110, 97, 109, 101]) = some false := ⟨rfl, rfl, rfl, rfl, rfl⟩
theorem l_tu {st : Sto} : cop st .eq (.str wTurn) (.str [116, 117, 114, 110]) = some true ∧ cop st .eq (.str wPut) (.str [116, 117, 114, 110]) = some false ∧ cop st .eq (.str wTake) (.str [116, 117, 114, 110]) = some false ∧ cop st .eq (.str wMove) (.str [116, 117, 114, 110]) = some false := ⟨rfl, rfl, rfl, rfl⟩
theorem l_pu {st : Sto} : cop st .ne (.str wPut) (.str [112, 117, 116]) = some false ∧ cop st .ne (.str wTake) (.str [112, 117, 116]) = some true ∧ cop st .ne (.str wMove) (.str [112, 117, 116]) = some true ∧ cop st .ne (.str wPut) (.str [116, 97, 107, 101]) = some true ∧ cop st .ne (.str wTake) (.str [116, 97, 107, 101]) = some false ∧ cop st .ne (.str wMove) (.str [116, 97, 107, 101]) = some true := ⟨rfl, rfl, rfl, rfl, rfl, rfl⟩
theorem x172 {m : Nat} {p : List Int} {d : Dd} {n : Nat} {st : Sto} (hn : 5 ≤ n) (h : Pic m p) (hd : DOk d) : PL.call T Gc 100000 n 172 [pic p, dD d] st = .ok (oT (behind m p d)) st := by
  obtain ⟨k, rfl⟩ : ∃ k, n = k + 1 := ⟨n - 1, by omega⟩
  rw [call_eq (F := ⟨2, 5, b172⟩) rfl rfl]
  show fin _ (exs _ _ _ b172 [some (pic p), some (dD d), none, none, none] _) = _
  have hl := h.len
  have hm := h.2.1
  have h54 : ∀ st, PL.call T Gc 100000 k 54 [pic p] st = .ok (.int (m : Nat)) st := fun st => x54 (by omega) h
  have hne : p ≠ [] := fun z => by
    have := h.2.2.1
    rw [z] at this
    have := Nat.pow_pos (n := m) (show 0 < 2 by decide)
    simp at *
    omega
  have hp0 : ∀ x ∈ p, 0 ≤ x := fun x hx => (h.2.2.2 x hx).1
  have hp1 : ∀ x ∈ p, x < 100 := fun x hx => by have := (h.2.2.2 x hx).2; omega
  obtain ⟨a, ha, hge⟩ := minI_ge (c := 0) hne
  have ha0 := hge.mpr hp0
  have no : ∀ q (s : Int), ¬ q < 2 ^ m → stepF p q s = none := fun q s hq => by
    unfold stepF
    rw [if_neg]
    rintro ⟨z, _⟩
    rw [h.2.2.1] at z
    exact hq z
  cases d with
  | put q =>
    simp only [DOk] at hd
    have zl := zc_len q
    have zi := zc_in m hm q hd
    by_cases hq : q < 2 ^ m
    · have hq' : q < p.length := by rw [h.2.2.1]; exact hq
      obtain ⟨a2, e1, e2⟩ := set_min hp0 hq' (p[q] + 1)
      obtain ⟨b2, e3, e4⟩ := set_max hp1 hq' (p[q] + 1)
      have e5 : p[q] ≥ 0 := hp0 _ (List.getElem_mem _)
      simp -implicitDefEqProofs (disch := omega) [-es_cons, -e_ifs, -szOk_iff, -i_mul, -i_mod, -i_fdiv, -b_divmod, -List.map_set, b172, dD, l_eq, l_tu, l_pu, x56, behind, h54, zi, hq, ints_map, ha, ha0, set_map, e1, e2, e3, e4]
      unfold stepF
      simp -implicitDefEqProofs (disch := omega) only [gI_eq]
      split <;> split <;> first | exact back_T | exact back_T0 | (exfalso; omega)
    · simp -implicitDefEqProofs (disch := omega) [-es_cons, -e_ifs, -szOk_iff, -i_mul, -i_mod, -i_fdiv, -b_divmod, b172, dD, l_eq, l_tu, l_pu, x56, behind, h54, zi, hq, no, oT]
  | take q =>
    simp only [DOk] at hd
    have zl := zc_len q
    have zi := zc_in m hm q hd
    by_cases hq : q < 2 ^ m
    · have hq' : q < p.length := by rw [h.2.2.1]; exact hq
      obtain ⟨a2, e1, e2⟩ := set_min hp0 hq' (p[q] - 1)
      obtain ⟨b2, e3, e4⟩ := set_max hp1 hq' (p[q] - 1)
      simp -implicitDefEqProofs (disch := omega) [-es_cons, -e_ifs, -szOk_iff, -i_mul, -i_mod, -i_fdiv, -b_divmod, -List.map_set, b172, dD, l_eq, l_tu, l_pu, x56, behind, h54, zi, hq, ints_map, ha, ha0, set_map, e1, e2, e3, e4]
      unfold stepF
      simp -implicitDefEqProofs (disch := omega) only [gI_eq]
      split <;> split <;> first | exact back_T | exact back_T0 | (exfalso; omega)
    · simp -implicitDefEqProofs (disch := omega) [-es_cons, -e_ifs, -szOk_iff, -i_mul, -i_mod, -i_fdiv, -b_divmod, b172, dD, l_eq, l_tu, l_pu, x56, behind, h54, zi, hq, no, oT]
  | move q r =>
    simp only [DOk] at hd
    have zl := zc_len q
    have zl := zc_len r
    have zq := zc_in m hm q hd.1
    have zr := zc_in m hm r hd.2
    have hd1 := hd.1
    have hd2 := hd.2
    by_cases hqr : q < 2 ^ m ∧ r < 2 ^ m
    · have hq' : q < p.length := by rw [h.2.2.1]; exact hqr.1
      have hr' : r < p.length := by rw [h.2.2.1]; exact hqr.2
      obtain ⟨a2, e1, e2⟩ := set_min hp0 hq' (p[q] - 1)
      obtain ⟨b2, e3, e4⟩ := set_max hp1 hq' (p[q] - 1)
      have hd1 := hd.1
      have hd2 := hd.2
      by_cases hv : 0 ≤ p[q] - 1
      · have le99 := hp1 p[q] (List.getElem_mem _)
        have hs : stepF p q (-1) = some (p.set q (p[q] - 1)) := by
          unfold stepF
          rw [gI_eq hq', if_pos ⟨hq', by omega, by omega⟩]
          rfl
        have ha2 : 0 ≤ a2 := e2.mpr hv
        have pl : (p.set q (p[q] - 1)).length = p.length := List.length_set
        have g0 : ∀ x ∈ p.set q (p[q] - 1), 0 ≤ x := (set_all hp0 hq' _).mpr hv
        have g1 : ∀ x ∈ p.set q (p[q] - 1), x < 100 := (set_all hp1 hq' _).mpr (by omega)
        generalize ep : p.set q (p[q] - 1) = p1 at *
        have hr1 : r < p1.length := by omega
        obtain ⟨a3, f1, f2⟩ := set_min g0 hr1 (p1[r] + 1)
        obtain ⟨b3, f3, f4⟩ := set_max g1 hr1 (p1[r] + 1)
        simp -implicitDefEqProofs (disch := omega) [-es_cons, -e_ifs, -szOk_iff, -i_mul, -i_mod, -i_fdiv, -b_divmod, -List.map_set, -List.map_append, b172, dD, l_eq, l_tu, l_pu, x56, behind, h54, zq, zr, hqr.1, hqr.2, ints_map, ha, ha0, set_map, e1, e2, e3, e4, ha2, hs, moveF, f1, f2, f3, f4, ep]
        unfold stepF
        simp -implicitDefEqProofs (disch := omega) only [gI_eq]
        rw [if_pos (show 1 ≤ p[q] by omega)]
        split <;> split <;> first | exact back_T | exact back_T0 | (exfalso; omega)
      · have hs : stepF p q (-1) = none := by
          unfold stepF
          rw [gI_eq hq', if_neg (by omega)]
        have ha2 : ¬ 0 ≤ a2 := fun z => hv (e2.mp z)
        simp -implicitDefEqProofs (disch := omega) [-es_cons, -e_ifs, -szOk_iff, -i_mul, -i_mod, -i_fdiv, -b_divmod, -List.map_set, -List.map_append, b172, dD, l_eq, l_tu, l_pu, x56, behind, h54, zq, zr, hqr.1, hqr.2, ints_map, ha, ha0, set_map, e1, e2, e3, e4, ha2, hs, moveF, oT, hv]
        rw [if_neg (by omega), if_neg (by omega)]
        exact back_T0
    · have hs : moveF p q r = none := by
        unfold moveF
        by_cases hq : q < 2 ^ m
        · cases e : stepF p q (-1) with
          | none => rfl
          | some p1 =>
            have pl := stepF_len e
            show stepF p1 r 1 = none
            unfold stepF
            rw [if_neg]
            rintro ⟨z, _⟩
            rw [pl, h.2.2.1] at z
            exact hqr ⟨hq, z⟩
        · rw [no q _ hq]
          rfl
      simp -implicitDefEqProofs (disch := omega) [-es_cons, -e_ifs, -szOk_iff, -i_mul, -i_mod, -i_fdiv, -b_divmod, -List.map_append, b172, dD, l_eq, l_tu, l_pu, x56, behind, h54, zq, zr, hs, oT]
      intro hq hr
      exact absurd ⟨hq, hr⟩ hqr
  | turn j =>
    simp only [DOk] at hd
    have zl : ([65 + j] : List Nat).length = 1 := rfl
    have zi := let_in2 m hm j hd
    have h56 : ∀ st, PL.call T Gc 100000 k 56 [.str [65 + j]] st = .ok (.int ((2 ^ j : Nat) : Int)) st := fun st => by
      rw [let_zc j hd]
      exact x56 (by omega) (zc_one j hd).2
    by_cases hj : j < m
    · have h59 : ∀ st, PL.call T Gc 100000 k 59 [pic p, .int ((2 ^ j : Nat) : Int)] st = .ok (pic (inside p (2 ^ j))) st := fun st => x59 (by omega) h (pow_lt hj hm)
      have h59' : ∀ st, PL.call T Gc 100000 k 59 [pic p, .int (2 ^ j)] st = .ok (pic (inside p (2 ^ j))) st := fun st => by
        have := h59 st
        simpa using this
      simp -implicitDefEqProofs (disch := omega) [-es_cons, -e_ifs, -szOk_iff, -i_mul, -i_mod, -i_fdiv, -b_divmod, b172, dD, l_eq, l_tu, l_pu, behind, h54, h56, h59', hj, zi, oT]
    · simp -implicitDefEqProofs (disch := omega) [-es_cons, -e_ifs, -szOk_iff, -i_mul, -i_mod, -i_fdiv, -b_divmod, b172, dD, l_eq, l_tu, l_pu, behind, h54, h56, hj, zi, oT]
  | ren o =>
    obtain ⟨o1, o2, o3⟩ := hd
    have e0 : rngD 0 m = (nI (List.range m)).map D.int := by
      rw [nI_D, rng_map]
      simp
    have ol := nI_len o
    by_cases ho : ordB m o = true
    · have ho' : isort (nI o) = nI (List.range m) := by simpa [ordB] using ho
      simp -implicitDefEqProofs (disch := omega) [-es_cons, -e_ifs, -szOk_iff, -i_mul, -i_mod, -i_fdiv, -b_divmod, b172, dD, l_eq, l_tu, l_pu, behind, h54, pic, e0, ho, ho', x58 (h := h) (ho := ordB_perm ho), oT]
    · have ho' : ¬ isort (nI o) = nI (List.range m) := by simpa [ordB] using ho
      simp -implicitDefEqProofs (disch := omega) [-es_cons, -e_ifs, -szOk_iff, -i_mul, -i_mod, -i_fdiv, -b_divmod, b172, dD, l_eq, l_tu, l_pu, behind, h54, pic, e0, ho, ho', oT]
end Lw

set_option Elab.async false
set_option linter.all false
set_option maxRecDepth 100000
set_option maxHeartbeats 2000000
namespace Lw
open PL
/-! ### drawn things -/
theorem dr_ltL (p : Pot) {m : Int} {k : Nat} (h : 0 < m) (h2 : m = k) : dr p m < k := by
  have := dr_lt (p := p) h
  omega
theorem dr16 (p : Pot) : dr p 16 < 16 := dr_ltL p (by decide) rfl
theorem dr4 (p : Pot) : dr p 4 < 4 := dr_ltL p (by decide) rfl
theorem dr5 (p : Pot) : dr p 5 < 5 := dr_ltL p (by decide) rfl
theorem dr6 (p : Pot) : dr p 6 < 6 := dr_ltL p (by decide) rfl
theorem dr7 (p : Pot) : dr p 7 < 7 := dr_ltL p (by decide) rfl
def gD (ds : List D) (k : Nat) : D := ds.getD k .non
theorem gD_get {ds : List D} {k : Nat} (h : k < ds.length) : ds[k]? = some (gD ds k) := by simp [gD, List.getElem?_eq_getElem h]
theorem gD_mem {ds : List D} {k : Nat} (h : k < ds.length) : gD ds k ∈ ds := by
  unfold gD
  rw [List.getD_eq_getElem?_getD, List.getElem?_eq_getElem h]
  exact List.getElem_mem h
theorem x51F {n : Nat} {st : Sto} {i : Nat} {p : Pot} {ds : List D} (hn : 2 ≤ n) (hi : i < st.length) (h0 : 0 < ds.length) (h1 : ds.length < 1000000) : PL.call T Gc 100000 n 51 [.lst i, .frz ds] (potS st i p) = .ok (gD ds (dr p ds.length)) (potS st i (dn p ds.length)) := by
  obtain ⟨k, rfl⟩ : ∃ k, n = k + 1 := ⟨n - 1, by omega⟩
  rw [call_eq (F := ⟨2, 2, b51⟩) rfl rfl]
  show fin _ (exs _ _ _ b51 [some (.lst i), some (.frz ds)] _) = _
  have hk : dr p ds.length < ds.length := dr_ltL p (by omega) rfl
  have bk : ∀ (p : Pot) (d : D), back st.length d (potS st i p) = .ok d (potS st i p) := fun p d => back_len potS_len
  simp -implicitDefEqProofs (disch := omega) [-es_cons, -e_ifs, -szOk_iff, -i_mul, -i_mod, -i_fdiv, -b_divmod, -getElem?_pos, b51, x50, gD_get hk, bk]
theorem x51T {n : Nat} {st : Sto} {i : Nat} {p : Pot} {ds : List D} (hn : 2 ≤ n) (hi : i < st.length) (h0 : 0 < ds.length) (h1 : ds.length < 1000000) : PL.call T Gc 100000 n 51 [.lst i, .tup ds] (potS st i p) = .ok (gD ds (dr p ds.length)) (potS st i (dn p ds.length)) := by
  obtain ⟨k, rfl⟩ : ∃ k, n = k + 1 := ⟨n - 1, by omega⟩
  rw [call_eq (F := ⟨2, 2, b51⟩) rfl rfl]
  show fin _ (exs _ _ _ b51 [some (.lst i), some (.tup ds)] _) = _
  have hk : dr p ds.length < ds.length := dr_ltL p (by omega) rfl
  have bk : ∀ (p : Pot) (d : D), back st.length d (potS st i p) = .ok d (potS st i p) := fun p d => back_len potS_len
  simp -implicitDefEqProofs (disch := omega) [-es_cons, -e_ifs, -szOk_iff, -i_mul, -i_mod, -i_fdiv, -b_divmod, -getElem?_pos, b51, x50, gD_get hk, bk]
theorem abcd : ∀ k < 4, ([65, 66, 67, 68] : List Nat)[k]? = some (65 + k) := by decide
theorem x51S {n : Nat} {st : Sto} {i : Nat} {p : Pot} (hn : 2 ≤ n) (hi : i < st.length) : PL.call T Gc 100000 n 51 [.lst i, .str [65, 66, 67, 68]] (potS st i p) = .ok (.str [65 + dr p 4]) (potS st i (dn p 4)) := by
  obtain ⟨k, rfl⟩ : ∃ k, n = k + 1 := ⟨n - 1, by omega⟩
  rw [call_eq (F := ⟨2, 2, b51⟩) rfl rfl]
  show fin _ (exs _ _ _ b51 [some (.lst i), some (.str [65, 66, 67, 68])] _) = _
  have hk := dr4 p
  have bk : ∀ (p : Pot) (d : D), back st.length d (potS st i p) = .ok d (potS st i p) := fun p d => back_len potS_len
  simp -implicitDefEqProofs (disch := omega) [-es_cons, -e_ifs, -szOk_iff, -i_mul, -i_mod, -i_fdiv, -b_divmod, -getElem?_pos, b51, x50, abcd _ hk, bk]
theorem x57 {n : Nat} {st : Sto} {i m : Nat} {p : Pot} (hn : 3 ≤ n) (hi : i < st.length) (hm : m ≤ 4) : ∃ p' o, List.Perm o (List.range m) ∧ PL.call T Gc 100000 n 57 [.lst i, .int (m : Nat)] (potS st i p) = .ok (pic (nI o)) (potS st i p') := by
  obtain ⟨a, b, c, o, ho, e⟩ := sp_order hn (st := potS st i p) (potS_get hi) hm
  refine ⟨⟨a, b, c⟩, o, ho, e.trans ?_⟩
  rw [show pot3 a b c = .lst [.int a, .int b, .int c] from rfl, potS_set]
theorem x55 {q n : Nat} {st : Sto} (hn : 1 ≤ n) (h : q < 16) : PL.call T Gc 100000 n 55 [.int (q : Nat)] st = .ok (.str (zc q)) st := sp_lawchoice h n hn st
theorem x157 {n : Nat} {st : Sto} {i : Nat} {p : Pot} (hn : 4 ≤ n) (hi : i < st.length) : ∃ p' d, DOk d ∧ PL.call T Gc 100000 n 157 [.lst i] (potS st i p) = .ok (dD d) (potS st i p') := by
  obtain ⟨k, rfl⟩ : ∃ k, n = k + 1 := ⟨n - 1, by omega⟩
  rw [call_eq (F := ⟨1, 4, b157⟩) rfl rfl]
  have h1 := dr16 p
  have h2 := dr16 (dn p 16)
  have h3 := dr4 (dn (dn p 16) 16)
  have h4 := dr5 (dn (dn (dn p 16) 16) 4)
  obtain ⟨p5, o, ho, e⟩ := x57 (n := k) (p := dn (dn (dn (dn p 16) 16) 4) 5) (by omega) hi (show dr (dn (dn (dn p 16) 16) 4) 5 ≤ 4 by omega)
  have bk : ∀ (p : Pot) (d : D), back st.length d (potS st i p) = .ok d (potS st i p) := fun p d => back_len potS_len
  have h6 := dr6 p5
  show ∃ p' d, DOk d ∧ fin _ (exs _ _ _ b157 [some (.lst i), none, none, none] _) = _
  simp -implicitDefEqProofs (maxSteps := 1000000) (disch := first | omega | (simp only [List.length_cons, List.length_nil, List.length_append]; omega) | decide) [-es_cons, -e_ifs, -szOk_iff, -i_mul, -i_mod, -i_fdiv, -b_divmod, b157, x50, x55, x51S, e, x51F, bk]
  have op := ho.length_eq
  have ok : ∀ k ∈ o, k < 4 := fun k hk => by
    have := ho.mem_iff.mp hk
    simp at this
    omega
  have od : DOk (.ren o) := ⟨by simp at op; omega, ok, ho.nodup_iff.mpr List.nodup_range⟩
  generalize dr p5 6 = j at *
  have : j = 0 ∨ j = 1 ∨ j = 2 ∨ j = 3 ∨ j = 4 ∨ j = 5 := by omega
  rcases this with rfl | rfl | rfl | rfl | rfl | rfl
  · exact ⟨_, .put _, h1, rfl, rfl⟩
  · exact ⟨_, .take _, h1, rfl, rfl⟩
  · exact ⟨_, .move _ _, ⟨h1, h2⟩, rfl, rfl⟩
  · exact ⟨_, .move _ _, ⟨h1, h2⟩, rfl, rfl⟩
  · exact ⟨_, .turn _, h3, rfl, rfl⟩
  · exact ⟨_, .ren o, od, rfl, rfl⟩
end Lw

set_option Elab.async false
set_option linter.all false
set_option maxRecDepth 100000
set_option maxHeartbeats 2000000
namespace Lw
open PL
theorem potS_self {st : Sto} {i : Nat} {p : Pot} (h : st[i]? = some (pot3 p.a p.b p.c)) : potS st i p = st := by
  unfold potS
  obtain ⟨h1, h2⟩ := List.getElem?_eq_some_iff.mp h
  rw [← h2]
  exact List.set_getElem_self h1
theorem bkP {st : Sto} {i : Nat} {p : Pot} {d : D} : back st.length d (potS st i p) = .ok d (potS st i p) := back_len potS_len
theorem x173 {n : Nat} {st : Sto} {i m : Nat} {p : List Int} {pt : Pot} (hn : 5 ≤ n) (hi : i < st.length) (h : Pic m p) : ∃ p' d, DOk d ∧ PL.call T Gc 100000 n 173 [.lst i, pic p] (potS st i pt) = .ok (dD d) (potS st i p') := by
  obtain ⟨k, rfl⟩ : ∃ k, n = k + 1 := ⟨n - 1, by omega⟩
  rw [call_eq (F := ⟨2, 6, b173⟩) rfl rfl]
  have hl := h.len
  have hm := h.2.1
  have hm1 := h.1
  have hpos : 0 < p.length := by rw [h.2.2.1]; exact Nat.pow_pos (by decide)
  have x54' : ∀ st, PL.call T Gc 100000 k 54 [.tup (p.map D.int)] st = .ok (.int (m : Nat)) st := fun st => x54 (by omega) h
  have h1 : dr pt p.length < 16 := Nat.lt_of_lt_of_le (dr_ltL pt (m := p.length) (k := p.length) (by omega) rfl) hl
  have h2 : dr (dn pt p.length) p.length < 16 := Nat.lt_of_lt_of_le (dr_ltL _ (m := p.length) (k := p.length) (by omega) rfl) hl
  have h3 : dr (dn (dn pt p.length) p.length) m < m := dr_ltL _ (by omega) rfl
  have h3' : ([65, 66, 67, 68] : List Nat)[dr (dn (dn pt p.length) p.length) m]? = some (65 + dr (dn (dn pt p.length) p.length) m) := abcd _ (by omega)
  obtain ⟨p5, o, ho, e⟩ := x57 (n := k) (p := dn (dn (dn pt p.length) p.length) m) (by omega) hi hm
  have h5 := dr5 (dn p5 16)
  obtain ⟨p6, d6, hd6, e6⟩ := x157 (n := k) (p := dn p5 16) (by omega) hi
  have op := ho.length_eq
  have ok : ∀ k ∈ o, k < 4 := fun k hk => by
    have := ho.mem_iff.mp hk
    simp at this
    omega
  have od : DOk (.ren o) := ⟨by simp at op; omega, ok, ho.nodup_iff.mpr List.nodup_range⟩
  show ∃ p' d, DOk d ∧ fin _ (exs _ _ _ b173 [some (.lst i), some (pic p), none, none, none, none] _) = _
  simp -implicitDefEqProofs (maxSteps := 1000000) (disch := first | omega | (simp only [List.length_cons, List.length_nil, List.length_append]; omega) | decide) [-es_cons, -e_ifs, -szOk_iff, -i_mul, -i_mod, -i_fdiv, -b_divmod, -getElem?_pos, b173, pic, x54', x50, x55, h3', e, e6, x51F, bkP]
  by_cases hz : 0 < dr p5 16
  · simp -implicitDefEqProofs (maxSteps := 1000000) (disch := first | omega | (simp only [List.length_cons, List.length_nil, List.length_append]; omega) | decide) [-es_cons, -e_ifs, -szOk_iff, -i_mul, -i_mod, -i_fdiv, -b_divmod, hz, x51F, bkP]
    generalize dr (dn p5 16) 5 = j at *
    have : j = 0 ∨ j = 1 ∨ j = 2 ∨ j = 3 ∨ j = 4 := by omega
    rcases this with rfl | rfl | rfl | rfl | rfl
    · exact ⟨_, .put _, h1, rfl, rfl⟩
    · exact ⟨_, .take _, h1, rfl, rfl⟩
    · exact ⟨_, .move _ _, ⟨h1, h2⟩, rfl, rfl⟩
    · exact ⟨_, .turn _, Nat.lt_of_lt_of_le h3 hm, rfl, rfl⟩
    · exact ⟨_, .ren o, od, rfl, rfl⟩
  · simp -implicitDefEqProofs (maxSteps := 1000000) (disch := first | omega | (simp only [List.length_cons, List.length_nil, List.length_append]; omega) | decide) [-es_cons, -e_ifs, -szOk_iff, -i_mul, -i_mod, -i_fdiv, -b_divmod, hz, e6, bkP]
    exact ⟨_, _, hd6, rfl, rfl⟩
/-! ### a drawn picture -/
def wN (way : Nat) : Int := [3, 5, 2, 100, 12].getD way 0
structure Sp where
  pt : Pot
  acc : List Int
  e4 : Option D
  e5 : Option D
theorem x53 {n : Nat} {st : Sto} {i m : Nat} {pt : Pot} (hn : 2 ≤ n) (hi : i < st.length) (h1 : 1 ≤ m) (hm : m ≤ 4) : ∃ p' q, Pic m q ∧ PL.call T Gc 100000 n 53 [.lst i, .int (m : Nat)] (potS st i pt) = .ok (pic q) (potS st i p') := by
  obtain ⟨k, rfl⟩ : ∃ k, n = k + 1 := ⟨n - 1, by omega⟩
  rw [call_eq (F := ⟨2, 6, b53⟩) rfl rfl]
  have hw := dr5 pt
  show ∃ p' q, Pic m q ∧ fin _ (exs _ _ _ b53 [some (.lst i), some (.int (m : Nat)), none, none, none, none] _) = _
  have p16 : (2 : Int) ^ m ≤ 16 := by
    have : m = 1 ∨ m = 2 ∨ m = 3 ∨ m = 4 := by omega
    rcases this with rfl | rfl | rfl | rfl <;> decide
  have p0 : (0 : Int) < 2 ^ m := Int.pow_pos (by decide)
  have hwn : ∀ w < 5, ([3, 5, 2, 100, 12].map D.int)[w]? = some (.int (wN w)) ∧ 0 < wN w ∧ wN w ≤ 100 := fun w hw => by
    have : w = 0 ∨ w = 1 ∨ w = 2 ∨ w = 3 ∨ w = 4 := by omega
    rcases this with rfl | rfl | rfl | rfl | rfl <;> exact ⟨rfl, by decide, by decide⟩
  obtain ⟨hw1, hw2, hw3⟩ := hwn _ hw
  obtain ⟨w, ew⟩ : ∃ w, dr pt 5 = w := ⟨_, rfl⟩
  rw [ew] at hw hw1 hw2 hw3
  obtain ⟨e', s', hf, pt', acc, e4, e5, rfl, rfl, ha, hb⟩ := forA_nx (f := fun a : Nat => kF (PL.call T Gc 100000 k) Gc 100000 (.var 4) (b53.nth 1).bd (.int (a : Nat))) (xs := List.range (2 ^ m)) (k := 0) (env := [some (.lst i), some (.int (m : Nat)), some (.int (w : Nat)), some (.tup []), none, none]) (st := potS st i (dn pt 5))
    (fun j e s => ∃ (pt : Pot) (acc : List Int) (e4 e5 : Option D), e = [some (.lst i), some (.int (m : Nat)), some (.int (w : Nat)), some (pic acc), e4, e5] ∧ s = potS st i pt ∧ acc.length = j ∧ ∀ x ∈ acc, 0 ≤ x ∧ x ≤ 99)
    ⟨_, [], _, _, rfl, rfl, rfl, fun x hx => nomatch hx⟩ (fun j a ha e s ⟨pt, acc, e4, e5, he, hs, hl, hb⟩ => by
      subst he hs
      have hj : j < 2 ^ m := by simpa using (List.getElem?_eq_some_iff.mp ha).1
      have hj16 : j < 16 := Nat.lt_of_lt_of_le hj (Nat.pow_le_pow_right (n := 2) (by decide) hm)
      have r1 := dr_lt (p := pt) hw2
      show ∃ env' st', kF _ _ _ _ _ _ [some (.lst i), some (.int (m : Nat)), some (.int (w : Nat)), some (.tup (acc.map D.int)), e4, e5] _ = _ ∧ _
      simp only [List.map_cons, List.map_nil] at hw1
      by_cases hw2' : w = 2
      · subst hw2'
        have r2 := dr_lt (p := dn pt (wN 2)) (m := 3) (by decide)
        refine ⟨[some (.lst i), some (.int (m : Nat)), some (.int ((2 : Nat) : Int)), some (pic (acc ++ [if 0 < dr (dn pt (wN 2)) 3 then ((dr pt (wN 2) : Nat) : Int) else 0])), some (.int (a : Nat)), some (.int (dr pt (wN 2) : Nat))], potS st i (dn (dn pt (wN 2)) 3), ?_, _, _, _, _, rfl, rfl, by simp [hl], fun x hx => ?_⟩
        · simp -implicitDefEqProofs (maxSteps := 1000000) (disch := first | omega | (simp only [List.length_cons, List.length_nil, List.length_append]; omega) | decide) [-es_cons, -e_ifs, -szOk_iff, -i_mul, -i_mod, -i_fdiv, -b_divmod, -getElem?_pos, kF_eq, b53, Ss.nth, S.bd, x50, hw1, hl]
          split <;> rfl
        · rcases List.mem_append.mp hx with z | z
          · exact hb x z
          · rw [List.mem_singleton.mp z]
            split <;> omega
      · have hw3' : (((w : Nat) : Int) == 2) = false := by simp; omega
        refine ⟨[some (.lst i), some (.int (m : Nat)), some (.int (w : Nat)), some (pic (acc ++ [((dr pt (wN w) : Nat) : Int)])), some (.int (a : Nat)), some (.int (dr pt (wN w) : Nat))], potS st i (dn pt (wN w)), ?_, _, _, _, _, rfl, rfl, by simp [hl], fun x hx => ?_⟩
        · simp -implicitDefEqProofs (maxSteps := 1000000) (disch := first | omega | (simp only [List.length_cons, List.length_nil, List.length_append]; omega) | decide) [-es_cons, -e_ifs, -szOk_iff, -i_mul, -i_mod, -i_fdiv, -b_divmod, -getElem?_pos, kF_eq, b53, Ss.nth, S.bd, x50, hw1, hw3', hl]
        · rcases List.mem_append.mp hx with z | z
          · exact hb x z
          · rw [List.mem_singleton.mp z]
            omega)
  simp only [b53, Ss.nth, S.bd] at hf
  have e16 : ((2 : Int) ^ m).toNat = 2 ^ m := by
    have : (2 : Int) ^ m = ((2 ^ m : Nat) : Int) := by simp
    omega
  simp -implicitDefEqProofs (maxSteps := 1000000) (disch := first | omega | (simp only [List.length_cons, List.length_nil, List.length_append]; omega) | decide) [-es_cons, -e_ifs, -szOk_iff, -i_mul, -i_mod, -i_fdiv, -b_divmod, b53, x50, shl_one, rng_map, ew, e16, hf]
  exact ⟨pt', acc, ⟨h1, hm, by simpa using ha, hb⟩, bkP⟩
end Lw

set_option Elab.async false
set_option linter.all false
set_option maxRecDepth 100000
set_option maxHeartbeats 2000000
namespace Lw
open PL
/-! ### the same, texts too -/
def Pl : Nat → D → Prop
  | 0, d => (match d with | .int _ => True | .bl _ => True | .non => True | .str z => z.all (· < 0x110000) = true | _ => False)
  | k + 1, d => (match d with | .int _ => True | .bl _ => True | .non => True | .str z => z.all (· < 0x110000) = true | .tup ds => ds.length < 1000 ∧ ∀ d ∈ ds, Pl k d | .frz ds => ds.length < 1000 ∧ ∀ d ∈ ds, Pl k d | _ => False)
def lv2 (st : Sto) (d : D) (ds : List D) : Prop := d = .frz ds ∨ ∃ i, d = .lst i ∧ st[i]? = some (.lst ds)
theorem all_rep' {α : Type} (l : List α) (st : Sto) : bcall st .all [.frz (l.map fun _ => .bl true)] = some (.bl true) := all_rep l st
theorem same_lf {n : Nat} {d : D} {st : Sto} (hn : 1 ≤ n) (h : (match d with | .int _ => True | .bl _ => True | .non => True | .str z => z.all (· < 0x110000) = true | _ => False)) : PL.call T Gc 100000 n 52 [d, d] st = .ok (.bl true) st := by
  obtain ⟨k, rfl⟩ : ∃ k, n = k + 1 := ⟨n - 1, by omega⟩
  rw [call_eq (F := ⟨2, 3, b52⟩) rfl rfl]
  show fin _ (exs _ _ _ b52 [some d, some d, none] st) = _
  cases d with
  | int i => simp -implicitDefEqProofs (maxSteps := 1000000) (disch := first | omega | (simp only [List.length_cons, List.length_nil, List.length_append]; omega) | decide) [-es_cons, -e_ifs, -szOk_iff, -i_mul, -i_mod, -i_fdiv, -b_divmod, b52]
  | bl i => simp -implicitDefEqProofs (maxSteps := 1000000) (disch := first | omega | (simp only [List.length_cons, List.length_nil, List.length_append]; omega) | decide) [-es_cons, -e_ifs, -szOk_iff, -i_mul, -i_mod, -i_fdiv, -b_divmod, b52]
  | non => simp -implicitDefEqProofs (maxSteps := 1000000) (disch := first | omega | (simp only [List.length_cons, List.length_nil, List.length_append]; omega) | decide) [-es_cons, -e_ifs, -szOk_iff, -i_mul, -i_mod, -i_fdiv, -b_divmod, b52]
  | str z =>
    have e : ∀ st, cop st .eq (.str z) (.str z) = some (z == z) := fun st => c_eqS h h
    simp -implicitDefEqProofs (maxSteps := 1000000) (disch := first | omega | (simp only [List.length_cons, List.length_nil, List.length_append]; omega) | decide) [-es_cons, -e_ifs, -szOk_iff, -i_mul, -i_mod, -i_fdiv, -b_divmod, b52, e]
  | _ => exact h.elim
theorem same_t {n : Nat} {ds : List D} {st : Sto} (hl : ds.length < 1000) (ih : ∀ d ∈ ds, ∀ st, PL.call T Gc 100000 n 52 [d, d] st = .ok (.bl true) st) : PL.call T Gc 100000 (n + 1) 52 [.tup ds, .tup ds] st = .ok (.bl true) st := by
  rw [call_eq (F := ⟨2, 3, b52⟩) rfl rfl]
  show fin _ (exs _ _ _ b52 [some (.tup ds), some (.tup ds), none] st) = _
  have h : ∀ a < ds.length, ∀ st, PL.call T Gc 100000 n 52 [gD ds a, gD ds a] st = .ok (.bl true) st := fun a ha => ih _ (gD_mem ha)
  have hg : ∀ a < ds.length, ds[a]? = some (gD ds a) := fun a ha => gD_get ha
  simp -implicitDefEqProofs (disch := first | omega | (simp only [List.mem_range] at *; omega)) [-es_cons, -e_ifs, -szOk_iff, -i_mul, -i_mod, -i_fdiv, -b_divmod, -getElem?_pos, b52, rng_map, hg, h]
theorem same_l {n : Nat} {ds : List D} {d : D} {st : Sto} (hd : lv2 st d ds) (hl : ds.length < 1000) (ih : ∀ d ∈ ds, ∀ st, PL.call T Gc 100000 n 52 [d, d] st = .ok (.bl true) st) : PL.call T Gc 100000 (n + 1) 52 [d, .frz ds] st = .ok (.bl true) st := by
  rw [call_eq (F := ⟨2, 3, b52⟩) rfl rfl]
  have h : ∀ a < ds.length, ∀ st, PL.call T Gc 100000 n 52 [gD ds a, gD ds a] st = .ok (.bl true) st := fun a ha => ih _ (gD_mem ha)
  have hg : ∀ a < ds.length, ds[a]? = some (gD ds a) := fun a ha => gD_get ha
  rcases hd with rfl | ⟨i, rfl, hi⟩
  · show fin _ (exs _ _ _ b52 [some (.frz ds), some (.frz ds), none] st) = _
    simp -implicitDefEqProofs (disch := first | omega | (simp only [List.mem_range] at *; omega)) [-es_cons, -e_ifs, -szOk_iff, -i_mul, -i_mod, -i_fdiv, -b_divmod, -getElem?_pos, b52, rng_map, hg, h]
  · show fin _ (exs _ _ _ b52 [some (.lst i), some (.frz ds), none] st) = _
    have t1 : ∀ t, isInst t (.lst i) = some (match t with | .list => true | _ => false) := fun t => rfl
    have hr := rng_nat (n := ds.length) (by omega)
    have hc : ev (PL.call T Gc 100000 n) Gc eSame [some (.lst i), some (.frz ds), none] st = .ok (.frz ((List.range ds.length).filterMap fun _ => some (.bl true))) st := by
      refine ev_lcm (fun k => .int (k : Nat)) _ _ (by simp [hr, rng_map]) (by simp; omega) fun a ha => ?_
      have ha : a < ds.length := by simpa using ha
      simp -implicitDefEqProofs (maxSteps := 1000000) (disch := first | omega | (simp only [List.length_cons, List.length_nil, List.length_append]; omega) | decide) [-es_cons, -e_ifs, -szOk_iff, -i_mul, -i_mod, -i_fdiv, -b_divmod, -getElem?_pos, compB, hg a ha, h a ha, hi]
    unfold eSame at hc
    rw [fm_some] at hc
    simp -implicitDefEqProofs (maxSteps := 1000000) (disch := first | omega | (simp only [List.length_cons, List.length_nil, List.length_append]; omega) | decide) [-es_cons, -e_ifs, -szOk_iff, -i_mul, -i_mod, -i_fdiv, -b_divmod, -x_comp, b52, hi, t1, hc]
theorem x52 : ∀ (k : Nat) (d : D) (n : Nat) (st : Sto), Pl k d → k + 1 ≤ n → PL.call T Gc 100000 n 52 [d, d] st = .ok (.bl true) st := by
  intro k
  induction k with
  | zero => exact fun d n st h hn => same_lf hn h
  | succ k ih =>
    intro d n st h hn
    obtain ⟨j, rfl⟩ : ∃ j, n = j + 1 := ⟨n - 1, by omega⟩
    cases d with
    | int i => exact same_lf (by omega) trivial
    | bl i => exact same_lf (by omega) trivial
    | non => exact same_lf (by omega) trivial
    | str z => exact same_lf (by omega) h
    | tup ds => exact same_t h.1 fun d hd st => ih d j st (h.2 d hd) (by omega)
    | frz ds => exact same_l (.inl rfl) h.1 fun d hd st => ih d j st (h.2 d hd) (by omega)
    | _ => exact h.elim
end Lw

set_option Elab.async false
set_option linter.all false
set_option maxRecDepth 100000
set_option maxHeartbeats 2000000
namespace Lw
open PL
/-! ### pictures stay pictures -/
theorem stepF_pic {m : Nat} {p q : List Int} {k : Nat} {s : Int} (h : Pic m p) (e : stepF p k s = some q) : Pic m q := by
  unfold stepF at e
  split at e
  · rename_i c
    cases e
    refine ⟨h.1, h.2.1, by rw [List.length_set]; exact h.2.2.1, fun x hx => ?_⟩
    rcases List.mem_or_eq_of_mem_set hx with z | z
    · exact h.2.2.2 x z
    · rw [z]; exact c.2
  · cases e
theorem gI_pic {m : Nat} {p : List Int} (h : Pic m p) (k : Nat) : 0 ≤ gI p k ∧ gI p k ≤ 99 := by
  by_cases hk : k < p.length
  · rw [gI_eq hk]
    exact h.2.2.2 _ (List.getElem_mem _)
  · have : gI p k = 0 := by
      unfold gI
      rw [List.getD_eq_getElem?_getD, List.getElem?_eq_none (by omega)]
      rfl
    omega
theorem map_pic {m : Nat} {p : List Int} (h : Pic m p) (f : Nat → Nat) : Pic m ((List.range p.length).map fun k => gI p (f k)) := by
  refine ⟨h.1, h.2.1, by rw [List.length_map, List.length_range]; exact h.2.2.1, fun x hx => ?_⟩
  obtain ⟨k, _, rfl⟩ := List.mem_map.mp hx
  exact gI_pic h _
theorem behind_pic {m : Nat} {p q : List Int} {d : Dd} (h : Pic m p) (e : behind m p d = some q) : Pic m q := by
  cases d with
  | put k => exact stepF_pic h e
  | take k => exact stepF_pic h e
  | move k r =>
    obtain ⟨p1, e1, e2⟩ := Option.bind_eq_some_iff.mp (show (stepF p k (-1)).bind (fun p' => stepF p' r 1) = some q from e)
    exact stepF_pic (stepF_pic h e1) e2
  | turn k =>
    simp only [behind] at e
    split at e
    · cases e; exact map_pic h _
    · cases e
  | ren o =>
    simp only [behind] at e
    split at e
    · cases e; exact map_pic h _
    · cases e
/-! ### lines -/
inductive Ln where
  | d (d : Dd) | o (x : D)
def lnD : Ln → D
  | .d d => .str (dT d)
  | .o x => x
def lnOk : Ln → Prop
  | .d d => DOk d
  | .o x => x ∈ odds
def lnR : Ln → D
  | .d d => dD d
  | .o _ => .non
def nxt (m : Nat) (p : List Int) : Ln → Option (List Int)
  | .d d => behind m p d
  | .o _ => none
/-- the picture behind lines, or the index of the first one that does not lead on -/
def repl (m : Nat) : List Ln → Nat → List Int → List Int ⊕ Nat
  | [], _, p => .inl p
  | l :: ls, i, p => if i < 40 then (match nxt m p l with | some q => repl m ls (i + 1) q | none => .inr i) else .inr i
theorem repl_app (m : Nat) : ∀ (ls ls' : List Ln) (i : Nat) (p : List Int), repl m (ls ++ ls') i p = match repl m ls i p with | .inl q => repl m ls' (i + ls.length) q | .inr j => .inr j
  | [], ls', i, p => by simp [repl]
  | l :: ls, ls', i, p => by
    simp only [List.cons_append, repl]
    split
    · cases nxt m p l with
      | none => rfl
      | some q =>
        simp only
        rw [repl_app m ls ls' (i + 1) q, show i + (l :: ls).length = i + 1 + ls.length by simp; omega]
    · rfl
def rT (st : Sto) : List Int ⊕ Nat → R D
  | .inl q => .ok (pic q) st
  | .inr j => .exn 4 (.int (j : Nat)) st
theorem x153 {l : Ln} {n : Nat} {st : Sto} (hn : 5 ≤ n) (h : lnOk l) : PL.call T Gc 100000 n 153 [lnD l] st = .ok (lnR l) st := by
  cases l with
  | d d => exact sp_read h n hn st
  | o x => exact sp_odd x h n hn st
theorem isNon_dD (d : Dd) : isNon (dD d) = false := by cases d <;> rfl
theorem x35 {m : Nat} {p : List Int} {n : Nat} {st : Sto} (hn : 5 ≤ n) (h : Pic m p) : PL.call T Gc 100000 n 35 [pic p] st = .ok .non st := sp_ckpic h n hn st
theorem rep_loop {m : Nat} {n : Nat} (hn : 5 ≤ n) (a0 a1 : Option D) (st : Sto) : ∀ (ls : List Ln) (i : Nat) (p : List Int) (e3 e4 e5 e6 : Option D), Pic m p → (∀ l ∈ ls, lnOk l) →
    match repl m ls i p with
    | .inl q => Pic m q ∧ ∃ e3' e4' e5' e6', forA (fun a : Ln × Nat => kF (PL.call T Gc 100000 n) Gc 100000 (.tup (.cons (.var 3) (.cons (.var 4) .nil))) (b168.nth 3).bd (.tup [.int (a.2 : Nat), lnD a.1])) (ls.zipIdx i) [a0, a1, some (pic p), e3, e4, e5, e6] st = .ok (.nx [a0, a1, some (pic q), e3', e4', e5', e6']) st
    | .inr j => forA (fun a : Ln × Nat => kF (PL.call T Gc 100000 n) Gc 100000 (.tup (.cons (.var 3) (.cons (.var 4) .nil))) (b168.nth 3).bd (.tup [.int (a.2 : Nat), lnD a.1])) (ls.zipIdx i) [a0, a1, some (pic p), e3, e4, e5, e6] st = .exn 4 (.int (j : Nat)) st
  | [], i, p, e3, e4, e5, e6, h, _ => ⟨h, e3, e4, e5, e6, rfl⟩
  | l :: ls, i, p, e3, e4, e5, e6, h, hl => by
    have g26 : Gc 26 = .int 40 := rfl
    have ok := hl l (List.mem_cons_self ..)
    have hl' := fun x hx => hl x (List.mem_cons_of_mem _ hx)
    simp only [repl, List.zipIdx_cons, forA_cons]
    by_cases hi : i < 40
    · have hi' : (i : Int) < 40 := by omega
      rw [if_pos hi]
      cases l with
      | o x =>
        have h153 : ∀ st, PL.call T Gc 100000 n 153 [lnD (.o x)] st = .ok .non st := fun st => x153 hn ok
        simp -implicitDefEqProofs (maxSteps := 1000000) (disch := first | omega | (simp only [List.length_cons, List.length_nil, List.length_append]; omega) | decide) [-es_cons, -e_ifs, -szOk_iff, -i_mul, -i_mod, -i_fdiv, -b_divmod, kF_eq, b168, Ss.nth, S.bd, g26, hi', h153, nxt]
      | d d =>
        have h153 : ∀ st, PL.call T Gc 100000 n 153 [lnD (.d d)] st = .ok (dD d) st := fun st => x153 hn ok
        have h167 : ∀ st, PL.call T Gc 100000 n 167 [pic p, dD d] st = .ok (oL (behind m p d)) st := fun st => x167 hn h ok
        cases e : behind m p d with
        | none => simp -implicitDefEqProofs (maxSteps := 1000000) (disch := first | omega | (simp only [List.length_cons, List.length_nil, List.length_append]; omega) | decide) [-es_cons, -e_ifs, -szOk_iff, -i_mul, -i_mod, -i_fdiv, -b_divmod, kF_eq, b168, Ss.nth, S.bd, g26, hi', h153, h167, nxt, isNon_dD, e, oL]
        | some q =>
          have hq := behind_pic h e
          have ih := rep_loop hn a0 a1 st ls (i + 1) q (some (.int (i : Nat))) (some (lnD (.d d))) (some (dD d)) (some (pic q)) hq hl'
          have st1 : kF (PL.call T Gc 100000 n) Gc 100000 (.tup (.cons (.var 3) (.cons (.var 4) .nil))) (b168.nth 3).bd (.tup [.int (i : Nat), lnD (.d d)]) [a0, a1, some (pic p), e3, e4, e5, e6] st = .ok (.nx [a0, a1, some (pic q), some (.int (i : Nat)), some (lnD (.d d)), some (dD d), some (pic q)]) st := by
            simp -implicitDefEqProofs (maxSteps := 1000000) (disch := first | omega | (simp only [List.length_cons, List.length_nil, List.length_append]; omega) | decide) [-es_cons, -e_ifs, -szOk_iff, -i_mul, -i_mod, -i_fdiv, -b_divmod, kF_eq, b168, Ss.nth, S.bd, g26, hi', h153, h167, nxt, isNon_dD, e, oL]
          rw [st1]
          simp only [bind_ok, nxt, e]
          exact ih
    · have hi' : ¬ (i : Int) < 40 := by omega
      rw [if_neg hi]
      simp -implicitDefEqProofs (maxSteps := 1000000) (disch := first | omega | (simp only [List.length_cons, List.length_nil, List.length_append]; omega) | decide) [-es_cons, -e_ifs, -szOk_iff, -i_mul, -i_mod, -i_fdiv, -b_divmod, kF_eq, b168, Ss.nth, S.bd, g26, hi']
theorem x168 {m : Nat} {p : List Int} {ls : List Ln} {n : Nat} {st : Sto} (hn : 6 ≤ n) (h : Pic m p) (hl : ∀ l ∈ ls, lnOk l) : PL.call T Gc 100000 n 168 [pic p, .tup (ls.map lnD)] st = rT st (repl m ls 0 p) := by
  obtain ⟨k, rfl⟩ : ∃ k, n = k + 1 := ⟨n - 1, by omega⟩
  rw [call_eq (F := ⟨2, 7, b168⟩) rfl rfl]
  show fin _ (exs _ _ _ b168 [some (pic p), some (.tup (ls.map lnD)), none, none, none, none, none] st) = _
  have lp := rep_loop (m := m) (n := k) (by omega) (some (pic p)) (some (.tup (ls.map lnD))) st ls 0 p none none none none h hl
  have h35 : ∀ st, PL.call T Gc 100000 k 35 [pic p] st = .ok .non st := fun st => x35 (by omega) h
  simp only [b168, Ss.nth, S.bd] at lp
  cases e : repl m ls 0 p with
  | inl q =>
    rw [e] at lp
    obtain ⟨_, e3, e4, e5, e6, lp⟩ := lp
    simp -implicitDefEqProofs (maxSteps := 1000000) (disch := first | omega | (simp only [List.length_cons, List.length_nil, List.length_append]; omega) | decide) [-es_cons, -e_ifs, -szOk_iff, -i_mul, -i_mod, -i_fdiv, -b_divmod, b168, h35, enum_map, lp, rT]
  | inr j =>
    rw [e] at lp
    simp only at lp
    simp -implicitDefEqProofs (maxSteps := 1000000) (disch := first | omega | (simp only [List.length_cons, List.length_nil, List.length_append]; omega) | decide) [-es_cons, -e_ifs, -szOk_iff, -i_mul, -i_mod, -i_fdiv, -b_divmod, b168, h35, enum_map, lp, rT]
end Lw

set_option Elab.async false
set_option linter.all false
set_option maxRecDepth 100000
set_option maxHeartbeats 2000000
namespace Lw
open PL
theorem don_loop {m : Nat} {n : Nat} (hn : 5 ≤ n) (a0 a1 : Option D) (st : Sto) : ∀ (ls : List Dd) (i : Nat) (p : List Int) (e3 e4 e5 : Option D), Pic m p → (∀ l ∈ ls, DOk l) →
    match repl m (ls.map .d) i p with
    | .inl q => Pic m q ∧ ∃ e3' e4' e5', forA (fun a : Dd × Nat => kF (PL.call T Gc 100000 n) Gc 100000 (.tup (.cons (.var 3) (.cons (.var 4) .nil))) (b112.nth 3).bd (.tup [.int (a.2 : Nat), dD a.1])) (ls.zipIdx i) [a0, a1, some (pic p), e3, e4, e5] st = .ok (.nx [a0, a1, some (pic q), e3', e4', e5']) st
    | .inr j => forA (fun a : Dd × Nat => kF (PL.call T Gc 100000 n) Gc 100000 (.tup (.cons (.var 3) (.cons (.var 4) .nil))) (b112.nth 3).bd (.tup [.int (a.2 : Nat), dD a.1])) (ls.zipIdx i) [a0, a1, some (pic p), e3, e4, e5] st = .exn 4 (.int (j : Nat)) st
  | [], i, p, e3, e4, e5, h, _ => ⟨h, e3, e4, e5, rfl⟩
  | d :: ls, i, p, e3, e4, e5, h, hl => by
    have g15 : Gc 15 = .int 40 := rfl
    have ok := hl d (List.mem_cons_self ..)
    have hl' := fun x hx => hl x (List.mem_cons_of_mem _ hx)
    simp only [repl, List.zipIdx_cons, forA_cons, List.map_cons]
    have h149 : ∀ st, PL.call T Gc 100000 n 149 [dD d] st = .ok (.bl true) st := fun st => sp_isdeed ok n (by omega) st
    have h167 : ∀ st, PL.call T Gc 100000 n 167 [pic p, dD d] st = .ok (oL (behind m p d)) st := fun st => x167 hn h ok
    by_cases hi : i < 40
    · have hi' : (i : Int) < 40 := by omega
      rw [if_pos hi]
      cases e : behind m p d with
      | none => simp -implicitDefEqProofs (maxSteps := 1000000) (disch := first | omega | (simp only [List.length_cons, List.length_nil, List.length_append]; omega) | decide) [-es_cons, -e_ifs, -szOk_iff, -i_mul, -i_mod, -i_fdiv, -b_divmod, kF_eq, b112, Ss.nth, S.bd, g15, hi', h149, h167, nxt, e, oL]
      | some q =>
        have hq := behind_pic h e
        have ih := don_loop hn a0 a1 st ls (i + 1) q (some (.int (i : Nat))) (some (dD d)) (some (pic q)) hq hl'
        have st1 : kF (PL.call T Gc 100000 n) Gc 100000 (.tup (.cons (.var 3) (.cons (.var 4) .nil))) (b112.nth 3).bd (.tup [.int (i : Nat), dD d]) [a0, a1, some (pic p), e3, e4, e5] st = .ok (.nx [a0, a1, some (pic q), some (.int (i : Nat)), some (dD d), some (pic q)]) st := by
          simp -implicitDefEqProofs (maxSteps := 1000000) (disch := first | omega | (simp only [List.length_cons, List.length_nil, List.length_append]; omega) | decide) [-es_cons, -e_ifs, -szOk_iff, -i_mul, -i_mod, -i_fdiv, -b_divmod, kF_eq, b112, Ss.nth, S.bd, g15, hi', h149, h167, e, oL]
        rw [st1]
        simp only [bind_ok, nxt, e]
        exact ih
    · have hi' : ¬ (i : Int) < 40 := by omega
      rw [if_neg hi]
      simp -implicitDefEqProofs (maxSteps := 1000000) (disch := first | omega | (simp only [List.length_cons, List.length_nil, List.length_append]; omega) | decide) [-es_cons, -e_ifs, -szOk_iff, -i_mul, -i_mod, -i_fdiv, -b_divmod, kF_eq, b112, Ss.nth, S.bd, g15, hi']
theorem x112 {m : Nat} {p : List Int} {ls : List Dd} {n : Nat} {st : Sto} (hn : 6 ≤ n) (h : Pic m p) (hl : ∀ l ∈ ls, DOk l) : PL.call T Gc 100000 n 112 [pic p, .tup (ls.map dD)] st = rT st (repl m (ls.map .d) 0 p) := by
  obtain ⟨k, rfl⟩ : ∃ k, n = k + 1 := ⟨n - 1, by omega⟩
  rw [call_eq (F := ⟨2, 6, b112⟩) rfl rfl]
  show fin _ (exs _ _ _ b112 [some (pic p), some (.tup (ls.map dD)), none, none, none, none] st) = _
  have lp := don_loop (m := m) (n := k) (by omega) (some (pic p)) (some (.tup (ls.map dD))) st ls 0 p none none none h hl
  have h35 : ∀ st, PL.call T Gc 100000 k 35 [pic p] st = .ok .non st := fun st => x35 (by omega) h
  simp only [b112, Ss.nth, S.bd] at lp
  cases e : repl m (ls.map .d) 0 p with
  | inl q =>
    rw [e] at lp
    obtain ⟨_, e3, e4, e5, lp⟩ := lp
    simp -implicitDefEqProofs (maxSteps := 1000000) (disch := first | omega | (simp only [List.length_cons, List.length_nil, List.length_append]; omega) | decide) [-es_cons, -e_ifs, -szOk_iff, -i_mul, -i_mod, -i_fdiv, -b_divmod, b112, h35, enum_map, lp, rT]
  | inr j =>
    rw [e] at lp
    simp only at lp
    simp -implicitDefEqProofs (maxSteps := 1000000) (disch := first | omega | (simp only [List.length_cons, List.length_nil, List.length_append]; omega) | decide) [-es_cons, -e_ifs, -szOk_iff, -i_mul, -i_mod, -i_fdiv, -b_divmod, b112, h35, enum_map, lp, rT]
theorem x155 {d : Dd} {n : Nat} {st : Sto} (hn : 6 ≤ n) (h : DOk d) : PL.call T Gc 100000 n 155 [.str (dT d)] st = .ok (dD d) st := by
  obtain ⟨k, rfl⟩ : ∃ k, n = k + 1 := ⟨n - 1, by omega⟩
  rw [call_eq (F := ⟨1, 2, b155⟩) rfl rfl]
  show fin _ (exs _ _ _ b155 [some (.str (dT d)), none] st) = _
  have h153 : ∀ st, PL.call T Gc 100000 k 153 [.str (dT d)] st = .ok (dD d) st := fun st => sp_read h k (by omega) st
  have h132 : ∀ y st, PL.call T Gc 100000 k 132 [dD d, y] st = .ok .non st := fun y st => by
    obtain ⟨j, rfl⟩ : ∃ j, k = j + 1 := ⟨k - 1, by omega⟩
    rw [call_eq (F := ⟨2, 2, b132⟩) rfl rfl]
    show fin _ (exs _ _ _ b132 [some (dD d), some y] st) = _
    simp -implicitDefEqProofs (maxSteps := 1000000) (disch := first | omega | (simp only [List.length_cons, List.length_nil, List.length_append]; omega) | decide) [-es_cons, -e_ifs, -szOk_iff, -i_mul, -i_mod, -i_fdiv, -b_divmod, b132, isNon_dD]
  simp -implicitDefEqProofs (maxSteps := 1000000) (disch := first | omega | (simp only [List.length_cons, List.length_nil, List.length_append]; omega) | decide) [-es_cons, -e_ifs, -szOk_iff, -i_mul, -i_mod, -i_fdiv, -b_divmod, b155, h153, h132]
theorem x169 {m : Nat} {p : List Int} {q : Nat} {n : Nat} {st : Sto} (hn : 7 ≤ n) (h : Pic m p) (hq : q < 2 ^ m) : PL.call T Gc 100000 n 169 [pic p, .str (zc q)] st = .ok (pic (inside p q)) st := by
  obtain ⟨k, rfl⟩ : ∃ k, n = k + 1 := ⟨n - 1, by omega⟩
  rw [call_eq (F := ⟨2, 2, b169⟩) rfl rfl]
  show fin _ (exs _ _ _ b169 [some (pic p), some (.str (zc q))] st) = _
  have hq16 := pow16 h.2.1 hq
  have h40 : ∀ st, PL.call T Gc 100000 k 40 [pic p, .str (zc q)] st = .ok .non st := fun st => sp_ckpc h hq k (by omega) st
  have h106 : ∀ st, PL.call T Gc 100000 k 106 [pic p, .int (q : Nat)] st = .ok (pic (inside p q)) st := fun st => x106 (by omega) h hq
  simp -implicitDefEqProofs (maxSteps := 1000000) (disch := first | omega | (simp only [List.length_cons, List.length_nil, List.length_append]; omega) | decide) [-es_cons, -e_ifs, -szOk_iff, -i_mul, -i_mod, -i_fdiv, -b_divmod, b169, h40, x11, h106]
theorem x78 {m : Nat} {o : List Nat} {p : List Int} {n : Nat} {st : Sto} (hn : 6 ≤ n) (h : Pic m p) (ho : o.Perm (List.range m)) : PL.call T Gc 100000 n 78 [pic p, pic (nI o)] st = .ok (pic (anew o p)) st :=
  sp_anew h (by simpa using ho.length_eq) (fun k hk => by simpa using ho.mem_iff.mp hk) (ho.nodup_iff.mpr List.nodup_range) (oldP_lt h.2.1 h.1 ho) n hn st
/-! ### there and back -/
theorem gI_set {p : List Int} {q : Nat} {v : Int} (h : q < p.length) (k : Nat) : gI (p.set q v) k = if k = q then v else gI p k := by
  unfold gI
  rw [List.getD_eq_getElem?_getD, List.getD_eq_getElem?_getD, List.getElem?_set]
  by_cases e : q = k
  · subst e
    simp [h]
  · rw [if_neg e, if_neg (fun z => e z.symm)]
theorem stepF_some {p p' : List Int} {q : Nat} {s : Int} (h : stepF p q s = some p') : q < p.length ∧ 0 ≤ gI p q + s ∧ gI p q + s ≤ 99 ∧ p' = p.set q (gI p q + s) := by
  unfold stepF at h
  split at h
  · rename_i c
    cases h
    exact ⟨c.1, c.2.1, c.2.2, rfl⟩
  · cases h
theorem set_back {p : List Int} {q : Nat} (v : Int) (h : q < p.length) : (p.set q v).set q (gI p q) = p := by
  rw [List.set_set, gI_eq h]
  exact List.set_getElem_self h
theorem stepF_back {m : Nat} {p p' : List Int} {q : Nat} {s : Int} (hp : Pic m p) (h : stepF p q s = some p') : stepF p' q (-s) = some p := by
  obtain ⟨h1, h2, h3, rfl⟩ := stepF_some h
  have g := gI_pic hp q
  unfold stepF
  rw [gI_set h1, if_pos rfl, List.length_set, if_pos ⟨h1, by omega, by omega⟩, show gI p q + s + -s = gI p q by omega, set_back _ h1]
theorem moveF_back {m : Nat} {p p' : List Int} {q r : Nat} (hp : Pic m p) (h : moveF p q r = some p') : moveF p' r q = some p := by
  obtain ⟨p1, e1, e2⟩ := Option.bind_eq_some_iff.mp (show (stepF p q (-1)).bind (fun p' => stepF p' r 1) = some p' from h)
  show (stepF p' r (-1)).bind (fun p' => stepF p' q 1) = some p
  rw [stepF_back (stepF_pic hp e1) e2]
  exact stepF_back hp e1
theorem inside_len (p : List Int) (q : Nat) : (inside p q).length = p.length := by simp [inside]
theorem gI_map {p : List Int} (f : Nat → Nat) {k : Nat} (h : k < p.length) : gI ((List.range p.length).map fun k => gI p (f k)) k = gI p (f k) := by
  unfold gI
  rw [List.getD_eq_getElem?_getD, List.getElem?_map, List.getElem?_range h]
  rfl
theorem ext_gI {p q : List Int} (hl : p.length = q.length) (h : ∀ k < p.length, gI p k = gI q k) : p = q := by
  refine List.ext_getElem hl fun k h1 h2 => ?_
  have := h k h1
  rwa [gI_eq h1, gI_eq h2] at this
theorem inside_back {m : Nat} {p : List Int} {q : Nat} (h : Pic m p) (hq : q < 2 ^ m) : inside (inside p q) q = p := by
  refine ext_gI (by simp [inside]) fun k hk => ?_
  rw [inside_len, inside_len] at hk
  have hx : k ^^^ q < p.length := by
    rw [h.2.2.1] at hk ⊢
    exact Nat.xor_lt_two_pow hk hq
  have e1 : gI (inside (inside p q) q) k = gI (inside p q) (k ^^^ q) := gI_map (p := inside p q) (fun k => k ^^^ q) (by rw [inside_len]; exact hk)
  have e2 : gI (inside p q) (k ^^^ q) = gI p (k ^^^ q ^^^ q) := gI_map (p := p) (fun k => k ^^^ q) hx
  rw [e1, e2, Nat.xor_assoc, Nat.xor_self, Nat.xor_zero]
def inv (o : List Nat) : List Nat := (List.range o.length).map fun a => o.idxOf a
theorem inv_ok : ∀ m ≤ 4, ∀ o ∈ perms m, inv o ∈ perms m ∧ ∀ q < 2 ^ m, oldP o (oldP (inv o) q) = q := by decide +kernel
theorem perms_ok : ∀ m ≤ 4, ∀ o ∈ perms m, o.length = m ∧ (∀ k ∈ o, k < m) ∧ o.Nodup := by decide +kernel
theorem perms_isp : ∀ m ≤ 4, ∀ o ∈ perms m, o.isPerm (List.range m) = true := by decide +kernel
theorem perms_perm {m : Nat} (hm : m ≤ 4) {o : List Nat} (h : o ∈ perms m) : o.Perm (List.range m) := List.isPerm_iff.mp (perms_isp m hm o h)
theorem isort_uniq {l r : List Int} (h : l.Perm r) (hr : r.Pairwise (· ≤ ·)) : isort l = r := by
  have p : (isort l).Perm l := List.mergeSort_perm _ _
  have s : (isort l).Pairwise (· ≤ ·) := by
    have := List.pairwise_mergeSort (le := fun a b : Int => decide (a ≤ b)) (fun a b c h1 h2 => by simp at *; omega) (fun a b => by simp; omega) l
    exact this.imp fun h => by simpa using h
  exact (p.trans h).eq_of_pairwise (fun a b _ _ h1 h2 => by omega) s hr
theorem perm_ordB {m : Nat} {o : List Nat} (h : o.Perm (List.range m)) : ordB m o = true := by
  have e : isort (nI o) = nI (List.range m) := isort_uniq (h.map _) (by
    unfold nI
    rw [List.pairwise_map]
    exact List.pairwise_lt_range.imp fun h => by omega)
  simp [ordB, e]
theorem anew_len (o : List Nat) (p : List Int) : (anew o p).length = p.length := by simp [anew]
theorem anew_back {m : Nat} {p : List Int} {o : List Nat} (h : Pic m p) (ho : o ∈ perms m) : anew (inv o) (anew o p) = p := by
  refine ext_gI (by simp [anew]) fun k hk => ?_
  rw [anew_len, anew_len] at hk
  obtain ⟨i1, i2⟩ := inv_ok m h.2.1 o ho
  have hk' : k < 2 ^ m := by rw [← h.2.2.1]; exact hk
  have hx : oldP (inv o) k < p.length := by
    rw [h.2.2.1]
    exact old_lt m h.2.1 _ i1 k hk'
  have e1 : gI (anew (inv o) (anew o p)) k = gI (anew o p) (oldP (inv o) k) := gI_map (p := anew o p) (oldP (inv o)) (by rw [anew_len]; exact hk)
  have e2 : gI (anew o p) (oldP (inv o) k) = gI p (oldP o (oldP (inv o) k)) := gI_map (p := p) (oldP o) hx
  rw [e1, e2, i2 k hk']
end Lw

set_option Elab.async false
set_option linter.all false
set_option maxRecDepth 100000
set_option maxHeartbeats 2000000
namespace Lw
open PL
@[simp] theorem pairD_f {w : List Nat} {d : D} : pairD false w d = .frz [.str w, d] := Eq.trans rfl rfl
theorem pl_pic {m : Nat} {p : List Int} (h : Pic m p) (k : Nat) : Pl (k + 1) (pic p) := by
  refine ⟨by have := h.len; simp; omega, fun d hd => ?_⟩
  obtain ⟨i, _, rfl⟩ := List.mem_map.mp hd
  cases k <;> trivial
theorem pl_two {k : Nat} {a b : D} (ha : Pl k a) (hb : Pl k b) : Pl (k + 1) (.frz [a, b]) := ⟨by simp, fun d hd => by
  simp only [List.mem_cons, List.not_mem_nil, or_false] at hd
  rcases hd with rfl | rfl
  · exact ha
  · exact hb⟩
def wTold : List Nat := [116, 111, 108, 100]
def wDeeds : List Nat := [100, 101, 101, 100, 115]
theorem x52told {m : Nat} {p : List Int} {n : Nat} {st : Sto} (hn : 3 ≤ n) (h : Pic m p) : PL.call T Gc 100000 n 52 [.frz [.str [116, 111, 108, 100], .tup (p.map D.int)], .frz [.str [116, 111, 108, 100], .tup (p.map D.int)]] st = .ok (.bl true) st :=
  x52 2 _ n st (pl_two rfl (pl_pic h 0)) hn
theorem x52deeds {j : Int} {n : Nat} {st : Sto} (hn : 3 ≤ n) : PL.call T Gc 100000 n 52 [.frz [.str [100, 101, 101, 100, 115], .int j], .frz [.str [100, 101, 101, 100, 115], .int j]] st = .ok (.bl true) st :=
  x52 2 _ n st (pl_two rfl trivial) hn
theorem x52pic {m : Nat} {p : List Int} {n : Nat} {st : Sto} (hn : 3 ≤ n) (h : Pic m p) : PL.call T Gc 100000 n 52 [.tup (p.map D.int), .tup (p.map D.int)] st = .ok (.bl true) st :=
  x52 1 _ n st (pl_pic h 0) (by omega)
theorem x52two {m : Nat} {p q : List Int} {n : Nat} {st : Sto} (hn : 3 ≤ n) (h : Pic m p) (h2 : Pic m q) : PL.call T Gc 100000 n 52 [.frz [.tup (q.map D.int), .tup (p.map D.int)], .frz [.tup (q.map D.int), .tup (p.map D.int)]] st = .ok (.bl true) st :=
  x52 2 _ n st (pl_two (pl_pic h2 0) (pl_pic h 0)) hn
theorem pic_ne {m : Nat} {p : List Int} (h : Pic m p) : (p == []) = false := by
  cases p with
  | nil =>
    have := h.2.2.1
    have := Nat.pow_pos (n := m) (show 0 < 2 by decide)
    simp at *
    omega
  | cons a r => rfl
theorem x159 {d : Dd} {n : Nat} {st : Sto} (hn : 2 ≤ n) (h : DOk d) : PL.call T Gc 100000 n 159 [dD d] st = .ok (.str (dT d)) st := sp_text h n hn st
theorem x175 {m : Nat} {p : List Int} {d : Dd} {x : D} {n : Nat} {st : Sto} (hn : 8 ≤ n) (h : Pic m p) (hd : DOk d) : PL.call T Gc 100000 n 175 [x, pic p, dD d] st = .ok (.bl true) st := by
  obtain ⟨k, rfl⟩ : ∃ k, n = k + 1 := ⟨n - 1, by omega⟩
  rw [call_eq (F := ⟨3, 6, b175⟩) rfl rfl]
  show fin _ (exs _ _ _ b175 [some x, some (pic p), some (dD d), none, none, none] st) = _
  have hl := h.len
  have h172 : ∀ st, PL.call T Gc 100000 k 172 [.tup (p.map D.int), dD d] st = .ok (oT (behind m p d)) st := fun st => x172 (by omega) h hd
  have h159 : ∀ st, PL.call T Gc 100000 k 159 [dD d] st = .ok (.str (dT d)) st := fun st => x159 (by omega) hd
  have h168 : ∀ st, PL.call T Gc 100000 k 168 [.tup (p.map D.int), .tup [.str (dT d)]] st = rT st (repl m [.d d] 0 p) := fun st => x168 (ls := [.d d]) (by omega) h fun l hl => by
    rw [List.mem_singleton.mp hl]
    exact hd
  have rp : repl m [.d d] 0 p = match behind m p d with | some q => .inl q | none => .inr 0 := by
    simp only [repl, nxt]
    rw [if_pos (by decide)]
    all_goals (cases behind m p d <;> rfl)
  have pn := pic_ne h
  cases e : behind m p d with
  | none =>
    rw [e] at rp
    have h52 : ∀ st, PL.call T Gc 100000 k 52 [.frz [.str [100, 101, 101, 100, 115], .int 0], .frz [.str [100, 101, 101, 100, 115], .int 0]] st = .ok (.bl true) st := fun st => x52deeds (by omega)
    have ne0 : ∀ st, cop st .ne (.tup []) (.tup []) = some false := fun st => rfl
    have eq0 : ∀ st, cop st .eq (.tup []) (.tup []) = some true := fun st => rfl
    cases d with
    | put q => simp -implicitDefEqProofs (maxSteps := 1000000) (disch := first | omega | (simp only [List.length_cons, List.length_nil, List.length_append]; omega) | decide) [-es_cons, -e_ifs, -szOk_iff, -i_mul, -i_mod, -i_fdiv, -b_divmod, b175, pic, h172, h159, h168, rp, e, oT, rT, List.lookup, h52, ne0, eq0]; simp -implicitDefEqProofs (maxSteps := 1000000) (disch := first | omega | (simp only [List.length_cons, List.length_nil, List.length_append]; omega) | decide) [-es_cons, -e_ifs, -szOk_iff, -i_mul, -i_mod, -i_fdiv, -b_divmod, dD, wPut, c_eqS, eq0]
    | take q => simp -implicitDefEqProofs (maxSteps := 1000000) (disch := first | omega | (simp only [List.length_cons, List.length_nil, List.length_append]; omega) | decide) [-es_cons, -e_ifs, -szOk_iff, -i_mul, -i_mod, -i_fdiv, -b_divmod, b175, pic, h172, h159, h168, rp, e, oT, rT, List.lookup, h52, ne0, eq0]; simp -implicitDefEqProofs (maxSteps := 1000000) (disch := first | omega | (simp only [List.length_cons, List.length_nil, List.length_append]; omega) | decide) [-es_cons, -e_ifs, -szOk_iff, -i_mul, -i_mod, -i_fdiv, -b_divmod, dD, wTake, c_eqS, eq0]
    | move q r => simp -implicitDefEqProofs (maxSteps := 1000000) (disch := first | omega | (simp only [List.length_cons, List.length_nil, List.length_append]; omega) | decide) [-es_cons, -e_ifs, -szOk_iff, -i_mul, -i_mod, -i_fdiv, -b_divmod, b175, pic, h172, h159, h168, rp, e, oT, rT, List.lookup, h52, ne0, eq0]; simp -implicitDefEqProofs (maxSteps := 1000000) (disch := first | omega | (simp only [List.length_cons, List.length_nil, List.length_append]; omega) | decide) [-es_cons, -e_ifs, -szOk_iff, -i_mul, -i_mod, -i_fdiv, -b_divmod, dD, wMove, c_eqS, eq0]
    | turn j => simp -implicitDefEqProofs (maxSteps := 1000000) (disch := first | omega | (simp only [List.length_cons, List.length_nil, List.length_append]; omega) | decide) [-es_cons, -e_ifs, -szOk_iff, -i_mul, -i_mod, -i_fdiv, -b_divmod, b175, pic, h172, h159, h168, rp, e, oT, rT, List.lookup, h52, ne0, eq0]; simp -implicitDefEqProofs (maxSteps := 1000000) (disch := first | omega | (simp only [List.length_cons, List.length_nil, List.length_append]; omega) | decide) [-es_cons, -e_ifs, -szOk_iff, -i_mul, -i_mod, -i_fdiv, -b_divmod, dD, wTurn, c_eqS, eq0]
    | ren o => simp -implicitDefEqProofs (maxSteps := 1000000) (disch := first | omega | (simp only [List.length_cons, List.length_nil, List.length_append]; omega) | decide) [-es_cons, -e_ifs, -szOk_iff, -i_mul, -i_mod, -i_fdiv, -b_divmod, b175, pic, h172, h159, h168, rp, e, oT, rT, List.lookup, h52, ne0, eq0]; simp -implicitDefEqProofs (maxSteps := 1000000) (disch := first | omega | (simp only [List.length_cons, List.length_nil, List.length_append]; omega) | decide) [-es_cons, -e_ifs, -szOk_iff, -i_mul, -i_mod, -i_fdiv, -b_divmod, dD, wRen, c_eqS, eq0]
  | some q =>
    rw [e] at rp
    have hq := behind_pic h e
    have qn := pic_ne hq
    have h52 : ∀ st, PL.call T Gc 100000 k 52 [.frz [.str [116, 111, 108, 100], .tup (q.map D.int)], .frz [.str [116, 111, 108, 100], .tup (q.map D.int)]] st = .ok (.bl true) st := fun st => x52told (by omega) hq
    have h52p : ∀ st, PL.call T Gc 100000 k 52 [.tup (p.map D.int), .tup (p.map D.int)] st = .ok (.bl true) st := fun st => x52pic (by omega) h
    have h52t : ∀ st, PL.call T Gc 100000 k 52 [.frz [.tup (q.map D.int), .tup (p.map D.int)], .frz [.tup (q.map D.int), .tup (p.map D.int)]] st = .ok (.bl true) st := fun st => x52two (by omega) h hq
    -- two deeds, there and back
    have h112 : ∀ d2, DOk d2 → behind m q d2 = some p → ∀ st, PL.call T Gc 100000 k 112 [.tup (p.map D.int), .tup [dD d, dD d2]] st = .ok (.tup (p.map D.int)) st := fun d2 hd2 e2 st => by
      have := x112 (ls := [d, d2]) (n := k) (st := st) (by omega) h (fun l hl => by
        simp only [List.mem_cons, List.not_mem_nil, or_false] at hl
        rcases hl with rfl | rfl
        · exact hd
        · exact hd2)
      refine Eq.trans this ?_
      simp only [List.map_cons, List.map_nil, repl, nxt, e, e2]
      rfl
    cases d with
    | put j =>
      have h2 := h112 (.take j) hd (stepF_back h e)
      simp only [dD] at h2 h159 h168 h172
      simp only [wPut, wTake] at h2 h159 h168 h172
      simp -implicitDefEqProofs (maxSteps := 1000000) (disch := first | omega | (simp only [List.length_cons, List.length_nil, List.length_append]; omega) | decide) [-es_cons, -e_ifs, -szOk_iff, -i_mul, -i_mod, -i_fdiv, -b_divmod, b175, pic, h172, h159, h168, rp, e, oT, rT, List.lookup, h52, h52p, dD, wPut, wTake, c_eqS, c_mem2, h2, qn]
    | take j =>
      have h2 := h112 (.put j) hd (stepF_back h e)
      simp only [dD] at h2 h159 h168 h172
      simp only [wPut, wTake] at h2 h159 h168 h172
      simp -implicitDefEqProofs (maxSteps := 1000000) (disch := first | omega | (simp only [List.length_cons, List.length_nil, List.length_append]; omega) | decide) [-es_cons, -e_ifs, -szOk_iff, -i_mul, -i_mod, -i_fdiv, -b_divmod, b175, pic, h172, h159, h168, rp, e, oT, rT, List.lookup, h52, h52p, dD, wPut, wTake, c_eqS, c_mem2, h2, qn]
    | move j r =>
      have h2 := h112 (.move r j) ⟨hd.2, hd.1⟩ (moveF_back h e)
      simp only [dD] at h2 h159 h168 h172
      simp only [wMove] at h2 h159 h168 h172
      simp -implicitDefEqProofs (maxSteps := 1000000) (disch := first | omega | (simp only [List.length_cons, List.length_nil, List.length_append]; omega) | decide) [-es_cons, -e_ifs, -szOk_iff, -i_mul, -i_mod, -i_fdiv, -b_divmod, b175, pic, h172, h159, h168, rp, e, oT, rT, List.lookup, h52, h52p, dD, wMove, c_eqS, c_mem2, h2, qn]
    | turn j =>
      have hj : j < m := by
        simp only [behind] at e
        split at e
        · assumption
        · cases e
      have eq1 : q = inside p (2 ^ j) := by
        simp only [behind, if_pos hj] at e
        exact (Option.some.inj e).symm
      have h2 := h112 (.turn j) hd (by
        simp only [behind, if_pos hj]
        rw [eq1, inside_back h (pow_lt hj h.2.1)])
      have h169 : ∀ st, PL.call T Gc 100000 k 169 [.tup (p.map D.int), .str [65 + j]] st = .ok (.tup (q.map D.int)) st := fun st => by
        rw [let_zc j hd, eq1]
        exact x169 (by omega) h (pow_lt hj h.2.1)
      simp only [dD] at h2 h159 h168 h172
      simp only [wTurn] at h2 h159 h168 h172
      simp -implicitDefEqProofs (maxSteps := 1000000) (disch := first | omega | (simp only [List.length_cons, List.length_nil, List.length_append]; omega) | decide) [-es_cons, -e_ifs, -szOk_iff, -i_mul, -i_mod, -i_fdiv, -b_divmod, b175, pic, h172, h159, h168, rp, e, oT, rT, List.lookup, h52, h52t, dD, wTurn, c_eqS, c_mem2, h2, qn, h169]
    | ren o =>
      have ho : ordB m o = true := by
        simp only [behind] at e
        split at e
        · assumption
        · cases e
      have eq1 : q = anew o p := by
        simp only [behind, if_pos ho] at e
        exact (Option.some.inj e).symm
      have op := ordB_perm ho
      have opm := perm_mem h.2.1 h.1 op
      obtain ⟨i1, i2⟩ := inv_ok m h.2.1 o opm
      have ip := perms_perm h.2.1 i1
      have idk : DOk (.ren (inv o)) := ⟨by have := ip.length_eq; simp at this; have := h.2.1; omega, fun k hk => by have := ip.mem_iff.mp hk; simp at this; have := h.2.1; omega, ip.nodup_iff.mpr List.nodup_range⟩
      have h2 := h112 (.ren (inv o)) idk (by
        simp only [behind, if_pos (perm_ordB ip)]
        rw [eq1, anew_back h opm])
      have h78 : ∀ st, PL.call T Gc 100000 k 78 [.tup (p.map D.int), .tup ((nI o).map D.int)] st = .ok (.tup (q.map D.int)) st := fun st => by
        rw [eq1]
        exact x78 (by omega) h op
      have ol : o.length = m := by simpa using op.length_eq
      have om := h.2.1
      have ol2 := nI_len o
      have hix : ∀ a < o.length, ∀ st, mcall st .tindex (.tup ((nI o).map D.int)) [.int (a : Nat)] = .ok (.int ((o.idxOf a : Nat) : Int)) st := fun a ha st => by
        rw [m_tindex, ints_map]
        have hm : a ∈ o := op.mem_iff.mpr (by simp; omega)
        have hm' : (a : Int) ∈ nI o := List.mem_map.mpr ⟨a, hm, rfl⟩
        have e0 : (nI o).idxOf (a : Int) = o.idxOf a := by
          clear ha hm hm' ol2 ol om h2 e i1 i2 idk ip opm op ho hd rp h112 h159 h168 h172 h78 eq1
          induction o with
          | nil => rfl
          | cons b r ih =>
            show ((b : Int) :: nI r).idxOf (a : Int) = _
            rw [List.idxOf_cons, List.idxOf_cons, ih]
            by_cases hb : b = a
            · simp [hb]
            · have : ¬ ((b : Int) = (a : Int)) := fun z => hb (by exact_mod_cast z)
              rw [beq_false_of_ne hb, beq_false_of_ne this]
        show (if decide ((a : Int) ∈ nI o) = true then _ else _) = _
        rw [if_pos (decide_eq_true hm'), e0]
      have einv : (List.range o.length).map (fun a => D.int ((o.idxOf a : Nat) : Int)) = (nI (inv o)).map D.int := by simp [inv, nI]
      simp only [dD, pic] at h2 h159 h168 h172
      simp only [wRen] at h2 h159 h168 h172
      simp -implicitDefEqProofs (maxSteps := 1000000) (disch := first | omega | (simp only [List.length_cons, List.length_nil, List.length_append]; omega) | decide) [-es_cons, -e_ifs, -szOk_iff, -i_mul, -i_mod, -i_fdiv, -b_divmod, b175, pic, h172, h159, h168, rp, e, oT, rT, List.lookup, h52, h52t, dD, wRen, c_eqS, c_mem2, qn, h78, ol2, rng_map]
      simp -implicitDefEqProofs (disch := first | omega | (simp only [List.mem_range] at *; omega)) [-es_cons, -e_ifs, -szOk_iff, -i_mul, -i_mod, -i_fdiv, -b_divmod, hix, einv, h78, h2, h52t]
end Lw

set_option Elab.async false
set_option linter.all false
set_option maxRecDepth 100000
set_option maxHeartbeats 2000000
namespace Lw
open PL
@[simp] theorem potS_ext {st : Sto} {i : Nat} {p : Pot} {ext : Sto} (h : i < st.length) : potS st i p ++ ext = potS (st ++ ext) i p := potS_app h
@[simp] theorem potS_g0 {st : Sto} {i : Nat} {p : Pot} {ext : Sto} (h : i < st.length) : (potS (st ++ ext) i p)[st.length]? = ext[0]? := by
  rw [← potS_app h]
  have := ge_0 (st := potS st i p) (ext := ext)
  rwa [potS_len] at this
@[simp] theorem potS_gk {st : Sto} {i k : Nat} {p : Pot} {ext : Sto} (h : i < st.length) : (potS (st ++ ext) i p)[st.length + k]? = ext[k]? := by
  rw [← potS_app h]
  have := ge_k (st := potS st i p) (ext := ext) (k := k)
  rwa [potS_len] at this
@[simp] theorem potS_s0 {st : Sto} {i : Nat} {p : Pot} {ext : Sto} {o : Obj} (h : i < st.length) : (potS (st ++ ext) i p).set st.length o = potS (st ++ ext.set 0 o) i p := by
  rw [← potS_app h, ← potS_app h]
  have := se_0 (st := potS st i p) (ext := ext) (o := o)
  rwa [potS_len] at this
@[simp] theorem potS_sk {st : Sto} {i k : Nat} {p : Pot} {ext : Sto} {o : Obj} (h : i < st.length) : (potS (st ++ ext) i p).set (st.length + k) o = potS (st ++ ext.set k o) i p := by
  rw [← potS_app h, ← potS_app h]
  have := se_k (st := potS st i p) (ext := ext) (o := o) (k := k)
  rwa [potS_len] at this
theorem potS_bk {st : Sto} {i : Nat} {p : Pot} {ext : Sto} {d : D} (h : i < st.length) (hr : refsLt st.length d = true) : back st.length d (potS (st ++ ext) i p) = .ok d (potS st i p) := by
  rw [← potS_app h]
  have := back_ext (st := potS st i p) (ext := ext) (d := d) (by rw [potS_len]; exact hr)
  rwa [potS_len] at this
theorem join_all {P : Nat → Bool} {s : List Nat} (hs : s.all P = true) : ∀ {ws : List (List Nat)}, (∀ w ∈ ws, w.all P = true) → (joinL s ws).all P = true
  | [], _ => rfl
  | [w], h => h w (by simp)
  | w :: v :: r, h => by
    show (w ++ (s ++ joinL s (v :: r))).all P = true
    rw [List.all_append, List.all_append, h w (by simp), hs, join_all hs fun x hx => h x (List.mem_cons_of_mem _ hx)]
    rfl
theorem dT_cp {d : Dd} (h : DOk d) : (dT d).all (· < 0x110000) = true := by
  refine join_all rfl ?_
  cases d with
  | put q => intro w hw; simp only [dW, List.mem_cons, List.not_mem_nil, or_false] at hw; rcases hw with rfl | rfl; exact rfl; exact (wc_facts q h).1
  | take q => intro w hw; simp only [dW, List.mem_cons, List.not_mem_nil, or_false] at hw; rcases hw with rfl | rfl; exact rfl; exact (wc_facts q h).1
  | move q r => intro w hw; simp only [dW, List.mem_cons, List.not_mem_nil, or_false] at hw; rcases hw with rfl | rfl | rfl; exact rfl; exact (wc_facts q h.1).1; exact (wc_facts r h.2).1
  | turn k => intro w hw; simp only [dW, List.mem_cons, List.not_mem_nil, or_false] at hw; rcases hw with rfl | rfl; exact rfl; exact let_cp k h
  | ren o =>
    intro w hw; simp only [dW, List.mem_cons, List.not_mem_nil, or_false] at hw
    rcases hw with rfl | rfl
    · rfl
    · rw [List.all_map, List.all_eq_true]
      intro k hk
      have := h.2.1 k hk
      simp
      omega
theorem odd_ne {x : D} {d : Dd} {st : Sto} (hx : x ∈ odds) (h : DOk d) : cop st .eq x (.str (dT d)) = some false := by
  have cp := dT_cp h
  have ns : ∀ z, .str z ∈ odds → z ≠ dT d := fun z hz e => by
    subst e
    have h1 := sp_odd _ hz 5 (Nat.le_refl _) []
    have h2 := sp_read h 5 (Nat.le_refl _) []
    rw [h1] at h2
    injection h2 with h2
    cases d <;> cases h2
  have hc : dOk 40 (top st (.str (dT d))) = true := cp
  simp only [odds, List.mem_cons, List.not_mem_nil, or_false] at hx ns
  have sc : ∀ z : List Nat, z.all (· < 0x110000) = true → z ≠ dT d → cop st .eq (.str z) (.str (dT d)) = some false := fun z hz hn => by
    rw [c_eqS hz cp, beq_false_of_ne hn]
  rcases hx with rfl | rfl | rfl | rfl | rfl | rfl | rfl
  · exact sc _ rfl (ns _ (by simp))
  · exact sc _ rfl (ns _ (by simp))
  · show (if (dOk 40 (top st .non) && dOk 40 (top st (.str (dT d)))) = true then some (dEq (top st .non) (top st (.str (dT d)))) else none) = _
    rw [hc]
    rfl
  · show (if (dOk 40 (top st (.int 5)) && dOk 40 (top st (.str (dT d)))) = true then some (dEq (top st (.int 5)) (top st (.str (dT d)))) else none) = _
    rw [hc]
    rfl
  · exact sc _ rfl (ns _ (by simp))
  · exact sc _ rfl (ns _ (by simp))
  · exact sc _ rfl (ns _ (by simp))
theorem lnD_d : (fun d => lnD (.d d)) = fun d => D.str (dT d) := rfl
theorem isr_loop {m : Nat} {n : Nat} (hn : 6 ≤ n) {st : Sto} {i : Nat} (hi : i < st.length) {p0 : List Int} (h0 : Pic m p0) {most : Nat} (hm : most ≤ 20) (pt0 : Pot) :
    ∃ (pt : Pot) (p : List Int) (ds : List Dd) (bad : Int) (ls : List Ln) (e6 e7 e8 e9 : Option D), forA (fun a : Nat => kF (PL.call T Gc 100000 n) Gc 100000 (.var 6) (b174.nth 1).bd (.int (a : Nat))) (List.range most) [some (.lst i), some (pic p0), some (.int (most : Nat)), some (pic p0), some (.lst st.length), some (.int (-1)), none, none, none, none, none, none, none] (potS (st ++ [.lst []]) i pt0)
      = .ok (.nx [some (.lst i), some (pic p), some (.int (most : Nat)), some (pic p0), some (.lst st.length), some (.int bad), e6, e7, e8, e9, none, none, none]) (potS (st ++ [.lst (ls.map lnD)]) i pt) ∧ Pic m p ∧ (∀ d ∈ ds, DOk d) ∧ repl m (ds.map .d) 0 p0 = .inl p ∧
      ((bad = -1 ∧ ls = ds.map .d ∧ ds.length ≤ 20) ∨ (bad = ds.length ∧ ds.length < 20 ∧ ∃ l, ls = ds.map .d ++ [l] ∧ lnOk l ∧ nxt m p l = none)) := by
  obtain ⟨e', s', hf, hq⟩ := forA_exit (f := fun a : Nat => kF (PL.call T Gc 100000 n) Gc 100000 (.var 6) (b174.nth 1).bd (.int (a : Nat))) (xs := List.range most) (k := 0)
    (env := [some (.lst i), some (pic p0), some (.int (most : Nat)), some (pic p0), some (.lst st.length), some (.int (-1)), none, none, none, none, none, none, none]) (st := potS (st ++ [.lst []]) i pt0)
    (fun j e s => ∃ (pt : Pot) (p : List Int) (ds : List Dd) (e6 e7 e8 e9 : Option D), e = [some (.lst i), some (pic p), some (.int (most : Nat)), some (pic p0), some (.lst st.length), some (.int (-1)), e6, e7, e8, e9, none, none, none] ∧ s = potS (st ++ [.lst ((ds.map Ln.d).map lnD)]) i pt ∧ Pic m p ∧ (∀ d ∈ ds, DOk d) ∧ repl m (ds.map .d) 0 p0 = .inl p ∧ ds.length = j)
    (fun e s => ∃ (pt : Pot) (p : List Int) (ds : List Dd) (l : Ln) (e6 e7 e8 e9 : Option D), e = [some (.lst i), some (pic p), some (.int (most : Nat)), some (pic p0), some (.lst st.length), some (.int (ds.length : Nat)), e6, e7, e8, e9, none, none, none] ∧ s = potS (st ++ [.lst ((ds.map Ln.d ++ [l]).map lnD)]) i pt ∧ Pic m p ∧ (∀ d ∈ ds, DOk d) ∧ repl m (ds.map .d) 0 p0 = .inl p ∧ ds.length < 20 ∧ lnOk l ∧ nxt m p l = none)
    ⟨pt0, p0, [], none, none, none, none, rfl, rfl, h0, by simp, rfl, rfl⟩ (fun j a ha e s ⟨pt, p, ds, e6, e7, e8, e9, he, hs, hp, hd, hr, hl⟩ => by
      subst he hs
      have hj : j < most := by simpa using (List.getElem?_eq_some_iff.mp ha).1
      have hja : a = j := by
        rw [List.getElem?_range hj] at ha
        exact (Option.some.inj ha).symm
      subst hja
      rw [Nat.zero_add] at hl
      obtain ⟨L, eL⟩ : ∃ L, (ds.map Ln.d).map lnD = L := ⟨_, rfl⟩
      have hL : L.length = ds.length := by rw [← eL]; simp
      rw [eL]
      obtain ⟨p1, d, hdd, e173⟩ := x173 (n := n) (st := st ++ [.lst L]) (i := i) (pt := pt) (by omega) (by simp; omega) hp
      have h159 : ∀ st, PL.call T Gc 100000 n 159 [dD d] st = .ok (.str (dT d)) st := fun st => x159 (by omega) hdd
      have h172 : ∀ st, PL.call T Gc 100000 n 172 [pic p, dD d] st = .ok (oT (behind m p d)) st := fun st => x172 (by omega) hp hdd
      have hii : i < (st ++ [Obj.lst L]).length := by simp; omega
      have eq0 : ∀ st, cop st .eq (.tup []) (.tup []) = some true := fun st => rfl
      have happ : ∀ z pt, mcall (potS (st ++ [.lst L]) i pt) .append (.lst st.length) [.str z] = .ok .non (potS (st ++ [.lst (L ++ [.str z])]) i pt) := fun z pt => by
        rw [m_append (ds := L) (potS_g0 hi) (by omega) rfl, potS_s0 hi]
        rfl
      by_cases hz : 0 < dr p1 24
      · have eqt : ∀ st, cop st .eq (.str (dT d)) (.str (dT d)) = some true := fun st => by
          rw [c_eqS (dT_cp hdd) (dT_cp hdd)]
          simp
        cases eb : behind m p d with
        | none =>
          refine ⟨[some (.lst i), some (pic p), some (.int (most : Nat)), some (pic p0), some (.lst st.length), some (.int (ds.length : Nat)), some (.int (a : Nat)), some (dD d), some (.str (dT d)), some (.tup []), none, none, none], potS (st ++ [.lst (L ++ [.str (dT d)])]) i (dn p1 24), .inr ⟨?_, dn p1 24, p, ds, .d d, some (.int (a : Nat)), some (dD d), some (.str (dT d)), some (.tup []), rfl, by rw [List.map_append, eL]; rfl, hp, hd, hr, by omega, hdd, eb⟩⟩
          simp -implicitDefEqProofs (maxSteps := 1000000) (disch := first | omega | (simp only [List.length_cons, List.length_nil, List.length_append]; omega) | decide) [-es_cons, -e_ifs, -szOk_iff, -i_mul, -i_mod, -i_fdiv, -b_divmod, kF_eq, b174, Ss.nth, S.bd, e173, x50, hz, h159, h172, eb, eqt, oT, eq0, happ, hl]
        | some q =>
          have hq := behind_pic hp eb
          have qn := pic_ne hq
          refine ⟨[some (.lst i), some (pic q), some (.int (most : Nat)), some (pic p0), some (.lst st.length), some (.int (-1)), some (.int (a : Nat)), some (dD d), some (.str (dT d)), some (pic q), none, none, none], potS (st ++ [.lst (L ++ [.str (dT d)])]) i (dn p1 24), .inl ⟨?_, dn p1 24, q, ds ++ [d], some (.int (a : Nat)), some (dD d), some (.str (dT d)), some (pic q), rfl, by rw [List.map_append, List.map_append, eL]; rfl, hq, ?_, ?_, by simp; omega⟩⟩
          · simp -implicitDefEqProofs (maxSteps := 1000000) (disch := first | omega | (simp only [List.length_cons, List.length_nil, List.length_append]; omega) | decide) [-es_cons, -e_ifs, -szOk_iff, -i_mul, -i_mod, -i_fdiv, -b_divmod, kF_eq, b174, Ss.nth, S.bd, e173, x50, hz, h159, h172, eb, eqt, oT, eq0, happ, hl, qn]
          · intro x hx
            rcases List.mem_append.mp hx with z | z
            · exact hd x z
            · rw [List.mem_singleton.mp z]; exact hdd
          · rw [List.map_append, repl_app, hr]
            simp only [List.map_cons, List.map_nil, repl, nxt, eb, List.length_map, Nat.zero_add]
            rw [if_pos (by omega)]
      · have hj7 := dr7 (dn p1 24)
        have hx : gD odds (dr (dn p1 24) 7) ∈ odds := gD_mem hj7
        have e51 := x51T (n := n) (st := st ++ [.lst L]) (i := i) (p := dn p1 24) (ds := odds) (by omega) hii (by decide) (by decide)
        obtain ⟨x, ex⟩ : ∃ x, gD odds (dr (dn p1 24) 7) = x := ⟨_, rfl⟩
        have happ2 : ∀ pt, mcall (potS (st ++ [.lst L]) i pt) .append (.lst st.length) [x] = .ok .non (potS (st ++ [.lst (L ++ [x])]) i pt) := fun pt => by
          rw [m_append (ds := L) (potS_g0 hi) (by omega) ?_, potS_s0 hi]
          · rfl
          · rw [ex] at hx
            simp only [odds, List.mem_cons, List.not_mem_nil, or_false] at hx
            rcases hx with rfl | rfl | rfl | rfl | rfl | rfl | rfl <;> rfl
        rw [ex] at hx
        have ne := fun st => odd_ne (st := st) hx hdd
        rw [show (odds.length : Int) = 7 from rfl, ex] at e51
        simp only [odds, wPut] at e51
        refine ⟨[some (.lst i), some (pic p), some (.int (most : Nat)), some (pic p0), some (.lst st.length), some (.int (ds.length : Nat)), some (.int (a : Nat)), some (dD d), some x, some (.tup []), none, none, none], potS (st ++ [.lst (L ++ [x])]) i (dn (dn p1 24) 7), .inr ⟨?_, dn (dn p1 24) 7, p, ds, .o x, some (.int (a : Nat)), some (dD d), some x, some (.tup []), rfl, by rw [List.map_append, eL]; rfl, hp, hd, hr, by omega, hx, rfl⟩⟩
        simp -implicitDefEqProofs (maxSteps := 1000000) (disch := first | omega | (simp only [List.length_cons, List.length_nil, List.length_append]; omega) | decide) [-es_cons, -e_ifs, -szOk_iff, -i_mul, -i_mod, -i_fdiv, -b_divmod, kF_eq, b174, Ss.nth, S.bd, e173, x50, hz, h159, h172, eq0, happ2, hl, e51, ne])
  rcases hq with ⟨pt, p, ds, e6, e7, e8, e9, rfl, rfl, hp, hd, hr, hl⟩ | ⟨pt, p, ds, l, e6, e7, e8, e9, rfl, rfl, hp, hd, hr, hl, hk, hx⟩
  · exact ⟨pt, p, ds, -1, ds.map .d, e6, e7, e8, e9, hf, hp, hd, hr, .inl ⟨rfl, rfl, by simp at hl; omega⟩⟩
  · exact ⟨pt, p, ds, _, ds.map .d ++ [l], e6, e7, e8, e9, hf, hp, hd, hr, .inr ⟨rfl, hl, l, rfl, hk, hx⟩⟩
end Lw

set_option Elab.async false
set_option linter.all false
set_option maxRecDepth 100000
set_option maxHeartbeats 2000000
namespace Lw
open PL
theorem x174 {m : Nat} {n : Nat} (hn : 8 ≤ n) {st : Sto} {i : Nat} (hi : i < st.length) {p0 : List Int} (h0 : Pic m p0) {most : Nat} (hm : most ≤ 20) (pt0 : Pot) :
    ∃ pt, PL.call T Gc 100000 n 174 [.lst i, pic p0, .int (most : Nat)] (potS st i pt0) = .ok (.bl true) (potS st i pt) := by
  obtain ⟨k, rfl⟩ : ∃ k, n = k + 1 := ⟨n - 1, by omega⟩
  rw [call_eq (F := ⟨3, 13, b174⟩) rfl rfl]
  obtain ⟨pt, p, ds, bad, ls, e6, e7, e8, e9, hf, hp, hd, hr, hcase⟩ := isr_loop (n := k) (by omega) hi h0 hm pt0
  simp only [b174, Ss.nth, S.bd, pic] at hf
  refine ⟨pt, ?_⟩
  show fin _ (exs _ _ _ b174 [some (.lst i), some (pic p0), some (.int (most : Nat)), none, none, none, none, none, none, none, none, none, none] _) = _
  have okl : ∀ l ∈ ds.map Ln.d, lnOk l := fun l hl => by
    obtain ⟨d, h1, rfl⟩ := List.mem_map.mp hl
    exact hd d h1
  have h112 : ∀ st, PL.call T Gc 100000 k 112 [.tup (p0.map D.int), .tup (ds.map dD)] st = .ok (.tup (p.map D.int)) st := fun st => by
    refine (x112 (by omega) h0 hd).trans ?_
    rw [hr]
    rfl
  have h52p : ∀ st, PL.call T Gc 100000 k 52 [.tup (p.map D.int), .tup (p.map D.int)] st = .ok (.bl true) st := fun st => x52pic (by omega) hp
  have h155 : ∀ d ∈ ds, ∀ st, PL.call T Gc 100000 k 155 [.str (dT d)] st = .ok (dD d) st := fun d hd' st => x155 (by omega) (hd d hd')
  rcases hcase with ⟨rfl, rfl, hlen⟩ | ⟨rfl, hlen, l, rfl, hk, hx⟩
  · have h168 : ∀ st, PL.call T Gc 100000 k 168 [.tup (p0.map D.int), .tup ((ds.map Ln.d).map lnD)] st = .ok (.tup (p.map D.int)) st := fun st => by
      refine (x168 (by omega) h0 okl).trans ?_
      rw [hr]
      rfl
    obtain ⟨L, eL⟩ : ∃ L, (ds.map Ln.d).map lnD = L := ⟨_, rfl⟩
    have eL2 : L = ds.map fun d => .str (dT d) := by rw [← eL, List.map_map]; rfl
    rw [eL] at hf h168
    have hL : L.length = ds.length := by rw [← eL]; simp
    have app : mcall (potS (st ++ [.lst L, .lst [.frz [.str [116, 111, 108, 100], .tup (p.map D.int)]]]) i pt) .append (.lst (st.length + 1)) [.frz [.str [116, 111, 108, 100], .tup (p.map D.int)]] = .ok .non (potS (st ++ [.lst L, .lst [.frz [.str [116, 111, 108, 100], .tup (p.map D.int)], .frz [.str [116, 111, 108, 100], .tup (p.map D.int)]]]) i pt) := by
      have := @potS_gk st i 1 pt [.lst L, .lst [.frz [.str [116, 111, 108, 100], .tup (p.map D.int)]]] hi
      rw [m_append (ds := [.frz [.str [116, 111, 108, 100], .tup (p.map D.int)]]) this (by simp) ?_, potS_sk hi]
      · rfl
      · simp [refsLt, refsLts, refs_ints]
    have sam : PL.call T Gc 100000 k 52 [.lst (st.length + 1), .frz [.frz [.str [116, 111, 108, 100], .tup (p.map D.int)], .frz [.str [116, 111, 108, 100], .tup (p.map D.int)]]] (potS (st ++ [.lst L, .lst [.frz [.str [116, 111, 108, 100], .tup (p.map D.int)], .frz [.str [116, 111, 108, 100], .tup (p.map D.int)]]]) i pt) = .ok (.bl true) (potS (st ++ [.lst L, .lst [.frz [.str [116, 111, 108, 100], .tup (p.map D.int)], .frz [.str [116, 111, 108, 100], .tup (p.map D.int)]]]) i pt) := by
      obtain ⟨j, rfl⟩ : ∃ j, k = j + 1 := ⟨k - 1, by omega⟩
      refine same_l (.inr ⟨_, rfl, @potS_gk st i 1 pt _ hi⟩) (by simp) fun d hd st => ?_
      simp only [List.mem_cons, List.not_mem_nil, or_false, or_self] at hd
      rw [hd]
      exact x52told (by omega) hp
    have hul : ∀ o pt, unlock (lock (potS (st ++ [.lst L, o]) i pt) [st.length]) [st.length] = potS (st ++ [.lst L, o]) i pt := fun o pt => unlock_lock (@potS_g0 st i pt [.lst L, o] hi)
    have hcL : ∀ s, compM L (fun a _ s => (PL.call T Gc 100000 k 155 [a] s).bind fun y s5 => .ok (some y) s5) s = .ok (ds.map dD) s := fun s => by
      rw [compM_A (fun a s => (PL.call T Gc 100000 k 155 [a] s).bind fun y s5 => .ok (some y) s5)]
      rw [eL2]
      simp -implicitDefEqProofs (disch := first | omega | assumption) [-es_cons, -e_ifs, -szOk_iff, -i_mul, -i_mod, -i_fdiv, -b_divmod, h155]
    simp -implicitDefEqProofs (maxSteps := 1000000) (disch := first | omega | (simp only [List.length_cons, List.length_nil, List.length_append]; omega) | decide) [-es_cons, -e_ifs, -szOk_iff, -i_mul, -i_mod, -i_fdiv, -b_divmod, b174, rng_map, hf, h168, app, sam, pic, hcL, hul, h112, h52p]
    exact potS_bk hi rfl
  · have okl2 : ∀ x ∈ ds.map Ln.d ++ [l], lnOk x := fun x hx => by
      rcases List.mem_append.mp hx with z | z
      · exact okl x z
      · rw [List.mem_singleton.mp z]; exact hk
    have h168 : ∀ st, PL.call T Gc 100000 k 168 [.tup (p0.map D.int), .tup ((ds.map Ln.d ++ [l]).map lnD)] st = .exn 4 (.int (ds.length : Nat)) st := fun st => by
      refine (x168 (by omega) h0 okl2).trans ?_
      rw [repl_app, hr]
      simp only [repl, hx, List.length_map, Nat.zero_add]
      rw [if_pos (by omega)]
      rfl
    obtain ⟨L, eL⟩ : ∃ L, (ds.map Ln.d).map lnD = L := ⟨_, rfl⟩
    have eL2 : L = ds.map fun d => .str (dT d) := by rw [← eL, List.map_map]; rfl
    obtain ⟨M, eM⟩ : ∃ M, (ds.map Ln.d ++ [l]).map lnD = M := ⟨_, rfl⟩
    have eM2 : M.take ds.length = L := by
      rw [← eM, ← eL, List.map_append]
      exact List.take_left' (by simp)
    rw [eM] at hf h168
    have app : mcall (potS (st ++ [.lst M, .lst [.frz [.str [100, 101, 101, 100, 115], .int (ds.length : Nat)]]]) i pt) .append (.lst (st.length + 1)) [.frz [.str [100, 101, 101, 100, 115], .int (ds.length : Nat)]] = .ok .non (potS (st ++ [.lst M, .lst [.frz [.str [100, 101, 101, 100, 115], .int (ds.length : Nat)], .frz [.str [100, 101, 101, 100, 115], .int (ds.length : Nat)]]]) i pt) := by
      have := @potS_gk st i 1 pt [.lst M, .lst [.frz [.str [100, 101, 101, 100, 115], .int (ds.length : Nat)]]] hi
      rw [m_append (ds := [.frz [.str [100, 101, 101, 100, 115], .int (ds.length : Nat)]]) this (by simp) rfl, potS_sk hi]
      rfl
    have sam : PL.call T Gc 100000 k 52 [.lst (st.length + 1), .frz [.frz [.str [100, 101, 101, 100, 115], .int (ds.length : Nat)], .frz [.str [100, 101, 101, 100, 115], .int (ds.length : Nat)]]] (potS (st ++ [.lst M, .lst [.frz [.str [100, 101, 101, 100, 115], .int (ds.length : Nat)], .frz [.str [100, 101, 101, 100, 115], .int (ds.length : Nat)]]]) i pt) = .ok (.bl true) (potS (st ++ [.lst M, .lst [.frz [.str [100, 101, 101, 100, 115], .int (ds.length : Nat)], .frz [.str [100, 101, 101, 100, 115], .int (ds.length : Nat)]]]) i pt) := by
      obtain ⟨j, rfl⟩ : ∃ j, k = j + 1 := ⟨k - 1, by omega⟩
      refine same_l (.inr ⟨_, rfl, @potS_gk st i 1 pt _ hi⟩) (by simp) fun d hd st => ?_
      simp only [List.mem_cons, List.not_mem_nil, or_false, or_self] at hd
      rw [hd]
      exact x52deeds (by omega)
    have hLl : L.length = ds.length := by rw [← eL]; simp
    have hcL : ∀ s, compM L (fun a _ s => (PL.call T Gc 100000 k 155 [a] s).bind fun y s5 => .ok (some y) s5) s = .ok (ds.map dD) s := fun s => by
      rw [compM_A (fun a s => (PL.call T Gc 100000 k 155 [a] s).bind fun y s5 => .ok (some y) s5)]
      rw [eL2]
      simp -implicitDefEqProofs (disch := first | omega | assumption) [-es_cons, -e_ifs, -szOk_iff, -i_mul, -i_mod, -i_fdiv, -b_divmod, h155]
    simp -implicitDefEqProofs (maxSteps := 1000000) (disch := first | omega | (simp only [List.length_cons, List.length_nil, List.length_append]; omega) | decide) [-es_cons, -e_ifs, -szOk_iff, -i_mul, -i_mod, -i_fdiv, -b_divmod, b174, rng_map, hf, h168, app, sam, pic, eM2, hcL, h112, h52p, rT, List.lookup]
    exact potS_bk hi rfl
end Lw

set_option Elab.async false
set_option linter.all false
set_option maxRecDepth 100000
set_option maxHeartbeats 2000000
namespace Lw
open PL
/-! ### full places -/
theorem full_comp {C : Nat → List D → Sto → R D} {st : Sto} {i : Nat} (hC : ∀ pt, C 50 [.lst i, .int 2] (potS st i pt) = .ok (.int (dr pt 2 : Nat)) (potS st i (dn pt 2))) :
    ∀ (p : List Int) (pt : Pot), (∀ x ∈ p, 0 ≤ x ∧ x ≤ 99) → ∃ (q : List Int) (pt' : Pot), compA (fun a s => (((C 50 [D.lst i, D.int 2] s).bind fun x s1 => (oD (cop s1 Cm.eq x (D.int 0)) s1).bind fun c s3 => R.ok (D.bl c) s3).bind fun x s1 => (tru x s1).bind fun q s2 => R.ok (if q = true then D.int 99 else D.int a) s2).bind fun y s5 => R.ok (some y) s5) p (potS st i pt) = .ok (q.map D.int) (potS st i pt') ∧ q.length = p.length ∧ ∀ x ∈ q, 0 ≤ x ∧ x ≤ 99
  | [], pt, _ => ⟨[], pt, rfl, rfl, by simp⟩
  | a :: p, pt, h => by
    obtain ⟨q, pt', e, hl, hq⟩ := full_comp hC p (dn pt 2) fun x hx => h x (List.mem_cons_of_mem _ hx)
    have ha := h a (List.mem_cons_self ..)
    by_cases hz : ((dr pt 2 : Nat) : Int) = 0
    · refine ⟨99 :: q, pt', ?_, by simp [hl], fun x hx => ?_⟩
      · rw [compA_cons]
        simp only [hC, bind_ok, c_eqI, oD_some, tru_bl, hz, beq_self_eq_true, if_true, e, List.map_cons]
      · rcases List.mem_cons.mp hx with rfl | z
        · omega
        · exact hq x z
    · have hz' : (((dr pt 2 : Nat) : Int) == 0) = false := beq_false_of_ne hz
      refine ⟨a :: q, pt', ?_, by simp [hl], fun x hx => ?_⟩
      · rw [compA_cons]
        simp only [hC, bind_ok, c_eqI, oD_some, tru_bl, hz', Bool.false_eq_true, if_false, e, List.map_cons]
      · rcases List.mem_cons.mp hx with rfl | z
        · omega
        · exact hq x z
theorem turn_two {m : Nat} {p : List Int} (h : Pic m p) : ∀ (n i : Nat), i + 2 * n ≤ 40 → repl m (List.replicate (2 * n) (.d (.turn 0))) i p = .inl p
  | 0, i, _ => rfl
  | n + 1, i, hi => by
    have h1 : behind m p (.turn 0) = some (inside p 1) := if_pos h.1
    have h2 : behind m (inside p 1) (.turn 0) = some p := by
      show (if 0 < m then some (inside (inside p 1) 1) else none) = _
      rw [if_pos (show 0 < m from h.1), inside_back h (q := 1) (pow_lt (k := 0) h.1 h.2.1)]
    rw [show 2 * (n + 1) = 2 * n + 1 + 1 by omega, List.replicate_succ, List.replicate_succ]
    simp only [repl, nxt, h1, h2]
    rw [if_pos (by omega), if_pos (by omega)]
    exact turn_two h n (i + 1 + 1) (by omega)
theorem x168F {m : Nat} {p : List Int} {ds : List D} {n : Nat} {st : Sto} (hn : 6 ≤ n) (h : Pic m p) : PL.call T Gc 100000 n 168 [pic p, .frz ds] st = .exn 4 .non st := by
  obtain ⟨k, rfl⟩ : ∃ k, n = k + 1 := ⟨n - 1, by omega⟩
  rw [call_eq (F := ⟨2, 7, b168⟩) rfl rfl]
  show fin _ (exs _ _ _ b168 [some (pic p), some (.frz ds), none, none, none, none, none] st) = _
  have h35 : ∀ st, PL.call T Gc 100000 k 35 [pic p] st = .ok .non st := fun st => x35 (by omega) h
  simp -implicitDefEqProofs (maxSteps := 1000000) (disch := first | omega | (simp only [List.length_cons, List.length_nil, List.length_append]; omega) | decide) [-es_cons, -e_ifs, -szOk_iff, -i_mul, -i_mod, -i_fdiv, -b_divmod, b168, h35]
theorem turns_ln (n : Nat) : List.replicate n (D.str [116, 117, 114, 110, 32, 65]) = (List.replicate n (Ln.d (.turn 0))).map lnD := by
  rw [List.map_replicate]
  rfl
theorem rep_T {st : Sto} {z : List Nat} {k : Nat} (h1 : 2 ≤ k) (h2 : k ≤ 1000) : bop st .mul (.tup [.str z]) (.int (k : Nat)) = some (.tup (List.replicate k (.str z))) := by
  show repT [.str z] (k : Nat) = _
  unfold repT
  rw [if_pos]
  · have e : ∀ k : Nat, (List.replicate k [D.str z]).flatten = List.replicate k (.str z) := fun k => by
      induction k with
      | zero => rfl
      | succ k ih => rw [List.replicate_succ, List.flatten_cons, ih]; rfl
    rw [Int.toNat_natCast, e]
  · simp only [List.isEmpty_cons, Bool.not_false, Bool.true_and, Bool.and_eq_true, decide_eq_true_eq, List.length_cons, List.length_nil]
    exact ⟨by omega, by omega, rfl⟩
theorem x176 {n : Nat} (hn : 9 ≤ n) {st : Sto} {i : Nat} (hi : i < st.length) (pt0 : Pot) :
    ∃ pt, PL.call T Gc 100000 n 176 [.lst i] (potS st i pt0) = .ok (.bl true) (potS st i pt) := by
  obtain ⟨k, rfl⟩ : ∃ k, n = k + 1 := ⟨n - 1, by omega⟩
  rw [call_eq (F := ⟨1, 6, b176⟩) rfl rfl]
  obtain ⟨e', s', hf, pt, e1, e2, e3, e4, rfl, rfl, hpp⟩ := forA_nx (f := fun a : Nat => kF (PL.call T Gc 100000 k) Gc 100000 (.var 1) (b176.nth 0).bd (.int (a : Nat))) (xs := List.range 16) (k := 0) (env := [some (.lst i), none, none, none, none, none]) (st := potS st i pt0)
    (fun j e s => ∃ (pt : Pot) (e1 e2 e3 e4 : Option D), e = [some (.lst i), e1, e2, e3, e4, none] ∧ s = potS st i pt ∧ (0 < j → ∃ m p, e2 = some (pic p) ∧ Pic m p))
    ⟨pt0, _, _, _, _, rfl, rfl, fun h => absurd h (Nat.lt_irrefl 0)⟩ (fun j a ha e s ⟨pt, e1, e2, e3, e4, he, hs, _⟩ => by
      subst he hs
      have h4 := dr4 pt
      obtain ⟨m, em⟩ : ∃ m : Nat, (1 : Int) + (dr pt 4 : Nat) = (m : Nat) := ⟨dr pt 4 + 1, by omega⟩
      obtain ⟨p1, p, hp, ep⟩ := x53 (n := k) (st := st) (i := i) (m := m) (pt := dn pt 4) (by omega) hi (by omega) (by omega)
      have hC : ∀ pt, PL.call T Gc 100000 k 50 [.lst i, .int 2] (potS st i pt) = .ok (.int (dr pt 2 : Nat)) (potS st i (dn pt 2)) := fun pt => x50 (by omega) hi (by decide) (by decide)
      obtain ⟨q, p2, ef, hql, hqr⟩ := full_comp (i := i) hC p p1 hp.2.2.2
      have ec : ev (PL.call T Gc 100000 k) Gc (.comp [4] (.ife (.cmp .eq (.call 50 (.cons (.var 0) (.cons (.int 2) .nil))) (.int 0)) (.int 99) (.var 4)) (.var 4) (.val (.var 2)) .none) [some (.lst i), some (.int (a : Nat)), some (pic p), e3, e4, none] (potS st i p1) = .ok (.frz (q.map D.int)) (potS st i p2) := by
        have e := (compA_cong (f := fun a' s2 => (evt (PL.call T Gc 100000 k) Gc (.var 4) (D.int a') (wipe [some (.lst i), some (.int (a : Nat)), some (pic p), e3, e4, none] [4]) s2).bind fun env2 s3 => (evc (PL.call T Gc 100000 k) Gc .none env2 s3).bind fun b s4 => if b then (ev (PL.call T Gc 100000 k) Gc (.ife (.cmp .eq (.call 50 (.cons (.var 0) (.cons (.int 2) .nil))) (.int 0)) (.int 99) (.var 4)) env2 s4).bind fun y s5 => .ok (some y) s5 else .ok none s4) p (potS st i p1) fun a' _ s => by
          simp -implicitDefEqProofs (maxSteps := 1000000) (disch := first | omega | (simp only [List.length_cons, List.length_nil, List.length_append]; omega) | decide) [-es_cons, -e_ifs, -szOk_iff, -i_mul, -i_mod, -i_fdiv, -b_divmod]
          cases PL.call T Gc 100000 k 50 [D.lst i, D.int 2] s with
          | ok x s1 =>
            simp -implicitDefEqProofs (maxSteps := 1000000) (disch := first | omega | (simp only [List.length_cons, List.length_nil, List.length_append]; omega) | decide) [-es_cons, -e_ifs, -szOk_iff, -i_mul, -i_mod, -i_fdiv, -b_divmod]
            cases cop s1 Cm.eq x (D.int 0) with
            | some b => cases b <;> simp -implicitDefEqProofs (maxSteps := 1000000) (disch := first | omega | (simp only [List.length_cons, List.length_nil, List.length_append]; omega) | decide) [-es_cons, -e_ifs, -szOk_iff, -i_mul, -i_mod, -i_fdiv, -b_divmod]
            | none => rfl
          | exn c d s1 => rfl
          | bad => rfl).trans ef
        have hl := hp.len
        simp -implicitDefEqProofs (maxSteps := 1000000) (disch := first | omega | (simp only [List.length_cons, List.length_nil, List.length_append]; omega) | decide) [-es_cons, -e_ifs, -szOk_iff, -i_mul, -i_mod, -i_fdiv, -b_divmod, -compA_M, pic, e]
      have hq : Pic m q := ⟨hp.1, hp.2.1, by rw [hql]; exact hp.2.2.1, hqr⟩
      have hl := hp.len
      have h21 : dr p2 21 < 21 := dr_ltL _ (by decide) rfl
      obtain ⟨p3, e174⟩ := x174 (n := k) (by omega) hi hp (most := dr p2 21) (by omega) (dn p2 21)
      have h6 := dr6 p3
      obtain ⟨p4, e174'⟩ := x174 (n := k) (by omega) hi hq (most := dr p3 6) (by omega) (dn p3 6)
      obtain ⟨p5, d, hd, e173⟩ := x173 (n := k) (pt := p4) (by omega) hi hp
      obtain ⟨p6, d', hd', e157⟩ := x157 (n := k) (p := p5) (by omega) hi
      have e175 : ∀ st, PL.call T Gc 100000 k 175 [.lst i, pic p, dD d] st = .ok (.bl true) st := fun st => x175 (by omega) hp hd
      have e175' : ∀ st, PL.call T Gc 100000 k 175 [.lst i, pic q, dD d'] st = .ok (.bl true) st := fun st => x175 (by omega) hq hd'
      refine ⟨[some (.lst i), some (.int (a : Nat)), some (pic p), some (pic q), e4, none], potS st i p6, ?_, p6, _, some (pic p), _, _, rfl, rfl, fun _ => ⟨m, p, rfl, hp⟩⟩
      simp -implicitDefEqProofs (maxSteps := 1000000) (disch := first | omega | (simp only [List.length_cons, List.length_nil, List.length_append]; omega) | decide) [-es_cons, -e_ifs, -szOk_iff, -i_mul, -i_mod, -i_fdiv, -b_divmod, kF_eq, b176, Ss.nth, S.bd, x50, em, ep, -x_comp, ec, e174, e174', e173, e175, e157, e175']
      )
  obtain ⟨m, p, rfl, hp⟩ := hpp (by simp)
  simp only [b176, Ss.nth, S.bd, pic] at hf
  refine ⟨pt, ?_⟩
  show fin _ (exs _ _ _ b176 [some (.lst i), none, none, none, none, none] _) = _
  have tok : ∀ n, ∀ l ∈ List.replicate n (Ln.d (.turn 0)), lnOk l := fun n l hl => by
    rw [(List.mem_replicate.mp hl).2]
    exact (show 0 < 4 by decide)
  have e40 : ∀ st, PL.call T Gc 100000 k 168 [.tup (p.map D.int), .tup (List.replicate 40 (.str [116, 117, 114, 110, 32, 65]))] st = .ok (.tup (p.map D.int)) st := fun st => by
    rw [turns_ln]
    refine (x168 (by omega) hp (tok 40)).trans ?_
    rw [turn_two hp 20 0 (by omega)]
    rfl
  have e41 : ∀ st, PL.call T Gc 100000 k 168 [.tup (p.map D.int), .tup (List.replicate 41 (.str [116, 117, 114, 110, 32, 65]))] st = .exn 4 (.int (40 : Nat)) st := fun st => by
    rw [turns_ln]
    refine (x168 (by omega) hp (tok 41)).trans ?_
    rw [show List.replicate 41 (Ln.d (.turn 0)) = List.replicate (2 * 20) (Ln.d (.turn 0)) ++ [Ln.d (.turn 0)] from rfl, repl_app, turn_two hp 20 0 (by omega)]
    rfl
  have eF : ∀ st, PL.call T Gc 100000 k 168 [.tup (p.map D.int), .frz [.str [116, 117, 114, 110, 32, 65]]] st = .exn 4 .non st := fun st => x168F (by omega) hp
  have m40 : ∀ st, bop st .mul (.tup [.str [116, 117, 114, 110, 32, 65]]) (.int 40) = some (.tup (List.replicate 40 (.str [116, 117, 114, 110, 32, 65]))) := fun st => rep_T (k := 40) (by decide) (by decide)
  have m41 : ∀ st, bop st .mul (.tup [.str [116, 117, 114, 110, 32, 65]]) (.int 41) = some (.tup (List.replicate 41 (.str [116, 117, 114, 110, 32, 65]))) := fun st => rep_T (k := 41) (by decide) (by decide)
  generalize List.replicate 40 (D.str [116, 117, 114, 110, 32, 65]) = L40 at *
  generalize List.replicate 41 (D.str [116, 117, 114, 110, 32, 65]) = L41 at *
  have app : ∀ (ds : List D) (x : D), ds.length < 100 → refsLt st.length x = true → mcall (potS (st ++ [.lst ds]) i pt) .append (.lst st.length) [x] = .ok .non (potS (st ++ [.lst (ds ++ [x])]) i pt) := fun ds x h1 h2 => by
    rw [m_append (ds := ds) (potS_g0 hi) (by omega) h2, potS_s0 hi]
    rfl
  have sam : PL.call T Gc 100000 k 52 [.lst st.length, .frz [.frz [.str [116, 111, 108, 100], .tup (p.map D.int)], .frz [.str [100, 101, 101, 100, 115], .int 40], .frz [.str [100, 101, 101, 100, 115], .non]]] (potS (st ++ [.lst [.frz [.str [116, 111, 108, 100], .tup (p.map D.int)], .frz [.str [100, 101, 101, 100, 115], .int 40], .frz [.str [100, 101, 101, 100, 115], .non]]]) i pt) = .ok (.bl true) (potS (st ++ [.lst [.frz [.str [116, 111, 108, 100], .tup (p.map D.int)], .frz [.str [100, 101, 101, 100, 115], .int 40], .frz [.str [100, 101, 101, 100, 115], .non]]]) i pt) := by
    obtain ⟨j, rfl⟩ : ∃ j, k = j + 1 := ⟨k - 1, by omega⟩
    refine same_l (.inr ⟨_, rfl, potS_g0 hi⟩) (by simp) fun d hd st => ?_
    simp only [List.mem_cons, List.not_mem_nil, or_false] at hd
    rcases hd with rfl | rfl | rfl
    · exact x52told (by omega) hp
    · exact x52deeds (by omega)
    · exact x52 2 _ j st (pl_two rfl trivial) (by omega)
  have a1 := app [.frz [.str [116, 111, 108, 100], .tup (p.map D.int)]] (.frz [.str [100, 101, 101, 100, 115], .int 40]) (by simp) rfl
  have a2 := app [.frz [.str [116, 111, 108, 100], .tup (p.map D.int)], .frz [.str [100, 101, 101, 100, 115], .int 40]] (.frz [.str [100, 101, 101, 100, 115], .non]) (by simp) rfl
  simp only [List.cons_append, List.nil_append] at a1 a2
  have r16 : rngD 0 16 = (List.range 16).map fun k : Nat => D.int (k : Nat) := rfl
  simp -implicitDefEqProofs (maxSteps := 1000000) (disch := first | omega | (simp only [List.length_cons, List.length_nil, List.length_append]; omega) | decide) [-es_cons, -e_ifs, -szOk_iff, -i_mul, -i_mod, -i_fdiv, -b_divmod, b176, r16, hf, m40, m41, e40, e41, eF, List.lookup, a1, a2, sam, pic]
  exact potS_bk hi rfl
end Lw

set_option Elab.async false
set_option linter.all false
set_option maxRecDepth 100000
set_option maxHeartbeats 2000000
namespace Lw
open PL
def dl80 : List Dd := [.turn 0, .turn 1, .ren [0], .ren [0, 1], .put 0, .take 0, .move 0 0, .move 0 1, .move 0 2, .put 1, .take 1, .move 1 0, .move 1 1, .move 1 2, .put 2, .take 2, .move 2 0, .move 2 1, .move 2 2]
theorem dl80_ok : ∀ d ∈ dl80, DOk d := by
  intro d hd
  simp only [dl80, List.mem_cons, List.not_mem_nil, or_false] at hd
  rcases hd with rfl | rfl | rfl | rfl | rfl | rfl | rfl | rfl | rfl | rfl | rfl | rfl | rfl | rfl | rfl | rfl | rfl | rfl | rfl <;> simp [DOk] <;> omega
theorem law80 (ns : List Int) (hl : ns.length ≤ 63) : ∃ st, PL.call T Gc 100000 60 177 [.scr (ns.map .int)] [] = .ok (.bl true) st := by
  rw [call_eq (n := 59) (F := ⟨1, 9, b177⟩) rfl rfl]
  obtain ⟨a, b, c, e170⟩ := sp_pot (n := 59) (by omega) (st := []) hl (t := 5) (by omega)
  have e170 : PL.call T Gc 100000 59 170 [.scr (ns.map D.int), .int 5] [] = .ok (.lst 0) [pot3 a b c] := e170
  generalize [pot3 a b c] = st at *
  show ∃ st', fin _ (exs _ _ _ b177 [some (.scr (ns.map .int)), none, none, none, none, none, none, none, none] []) = _
  generalize hC : PL.call T Gc 100000 59 = C at *
  have s2 : ∀ st, ex C Gc 100000 (b177.nth 2) [some (.scr (ns.map .int)), some (.lst 0), some (.frz [.tup [.str [116, 117, 114, 110], .str [65]], .tup [.str [116, 117, 114, 110], .str [66]], .tup [.str [114, 101, 110, 97, 109, 101], .tup [.int 0]], .tup [.str [114, 101, 110, 97, 109, 101], .tup [.int 0, .int 1]]]), none, none, none, none, none, none] st =
      .ok (.nx [some (.scr (ns.map .int)), some (.lst 0), some (.frz (dl80.map dD)), some (.str [66]), none, none, none, none, none]) st := fun st => by
    simp -implicitDefEqProofs (maxSteps := 1000000) (disch := first | omega | (simp only [List.length_cons, List.length_nil, List.length_append]; omega) | decide) [-es_cons, -e_ifs, -szOk_iff, -i_mul, -i_mod, -i_fdiv, -b_divmod, b177, Ss.nth, forA_cons, kF_eq]
    rfl
  have h175 : ∀ (lo hi : Int), 0 ≤ lo → lo ≤ 99 → 0 ≤ hi → hi ≤ 99 → ∀ d ∈ dl80, ∀ s, C 175 [.lst 0, .tup [.int lo, .int hi], dD d] s = .ok (.bl true) s := fun lo hi h1 h2 h3 h4 d hd s => by
    rw [← hC]
    exact x175 (m := 1) (p := [lo, hi]) (by omega) ⟨by omega, by omega, rfl, fun x hx => by
      simp only [List.mem_cons, List.not_mem_nil, or_false] at hx
      omega⟩ (dl80_ok d hd)
  have inner : ∀ lo : Int, 0 ≤ lo → lo ≤ 99 → ∀ e6 st, ∃ e6', ex C Gc 100000 ((b177.nth 3).bd.nth 0) [some (.scr (ns.map .int)), some (.lst 0), some (.frz (dl80.map dD)), some (.str [66]), none, some (.int lo), e6, none, none] st =
      .ok (.nx [some (.scr (ns.map .int)), some (.lst 0), some (.frz (dl80.map dD)), some (.str [66]), none, some (.int lo), e6', none, none]) st := fun lo hlo hlo2 e6 st => by
    refine ⟨some (.int 99), ?_⟩
    have h0 := h175 lo 0 hlo hlo2 (by omega) (by omega)
    have h1 := h175 lo 1 hlo hlo2 (by omega) (by omega)
    have h99 := h175 lo 99 hlo hlo2 (by omega) (by omega)
    have dlen : dl80.length = 19 := rfl
    simp -implicitDefEqProofs (maxSteps := 1000000) (disch := first | omega | assumption) [-es_cons, -e_ifs, -szOk_iff, -i_mul, -i_mod, -i_fdiv, -b_divmod, b177, Ss.nth, S.bd, forA_cons, kF_eq, h0, h1, h99]
  have outer : ∀ st, ∃ e6', ex C Gc 100000 (b177.nth 3) [some (.scr (ns.map .int)), some (.lst 0), some (.frz (dl80.map dD)), some (.str [66]), none, none, none, none, none] st =
      .ok (.nx [some (.scr (ns.map .int)), some (.lst 0), some (.frz (dl80.map dD)), some (.str [66]), none, some (.int 99), e6', none, none]) st := fun st => by
    simp only [b177, Ss.nth, S.bd] at inner
    obtain ⟨f1, i1⟩ := inner 0 (by omega) (by omega) none st
    obtain ⟨f2, i2⟩ := inner 1 (by omega) (by omega) f1 st
    obtain ⟨f3, i3⟩ := inner 2 (by omega) (by omega) f2 st
    obtain ⟨f4, i4⟩ := inner 99 (by omega) (by omega) f3 st
    refine ⟨f4, ?_⟩
    simp -implicitDefEqProofs (maxSteps := 1000000) (disch := first | omega | (simp only [List.length_cons, List.length_nil, List.length_append]; omega) | decide) [-es_cons, -e_ifs, -szOk_iff, -i_mul, -i_mod, -i_fdiv, -b_divmod, -e_frK, b177, Ss.nth, S.bd, e_frK (t := .var 5), forA_cons, kF_eq, i1, i2, i3, i4]
  obtain ⟨e6, ou⟩ := outer st
  have s2' := s2 st
  simp only [b177, Ss.nth, S.bd] at ou s2'
  obtain ⟨s', el⟩ := law_end (C := C) (G := Gc) (env := [some (.scr (ns.map .int)), some (.lst 0), some (.frz (dl80.map dD)), some (.str [66]), none, some (.int 99), e6, none, none]) (st := st) (ns := ns) hl (v := 8) (r := 176) (p := 170) (M := 4) (Mi := 4) rfl (by decide) rfl (by simp) (by decide) (fun t ht s => by
    obtain ⟨a, b, c, e⟩ := sp_pot (n := 59) (by omega) (st := s) hl (t := t) ht
    rw [show s ++ [pot3 a b c] = potS (s ++ [pot3 a b c]) s.length ⟨a, b, c⟩ from (potS_self (by simp)).symm] at e
    obtain ⟨pt, e2⟩ := x176 (n := 59) (by omega) (st := s ++ [pot3 a b c]) (i := s.length) (by simp) ⟨a, b, c⟩
    rw [hC] at e e2
    exact ⟨_, _, _, e, e2⟩)
  have hb : back 0 (.bl true) s' = .ok (.bl true) [] := by
    cases s' with
    | nil => rfl
    | cons a r => rfl
  refine ⟨[], ?_⟩
  simp -implicitDefEqProofs (maxSteps := 1000000) (disch := first | omega | (simp only [List.length_cons, List.length_nil, List.length_append]; omega) | decide) [-es_cons, -e_ifs, -szOk_iff, -i_mul, -i_mod, -i_fdiv, -b_divmod, -e_frK, -x_blt, b177, e170, s2', ou, el]
  exact hb
end Lw

set_option Elab.async false
set_option linter.all false
set_option maxRecDepth 100000
set_option maxHeartbeats 0
namespace Lw
open PL PySem PySem.Spec PyProof.Rows L2
def mkD (n : Str) (i : Nat) : He.DefD := ⟨(n, none), n, n, defArgs (tpS i), defBody (tpS i), defScope (tpS i), [], []⟩
def mkM (x ql : Str) (i : Nat) : He.DefD := ⟨(x, some "__init__"), "__init__", ql, defArgs (PL.mth (tpS i) 0), defBody (PL.mth (tpS i) 0), defScope (PL.mth (tpS i) 0), [], []⟩
def fn : List He.DefD := [mkD "is_whole" 1, mkD "is_between" 2, mkD "is_tuple_of" 3, mkD "are_wholes" 4, mkD "is_text_of" 5, mkD "place_count" 10, mkD "is_picture_of" 11, mkD "is_pictured" 12, mkD "is_letter_of" 13, mkD "is_choice_of" 14, mkD "lot_count_of" 15, mkD "lot_of" 16, mkD "index_of" 17, mkD "old_places" 19, mkD "is_order_of" 21, mkD "named_anew_by" 22, mkD "inside_out_by" 23, mkD "are_unlike_lots" 31, mkD "is_deed" 32, mkD "with_step" 33, mkD "moved" 34, mkD "behind_deed" 35, mkD "check_picture" 44, mkD "check_choice" 45, mkD "check_picture_choice" 46, mkD "check_order" 47, mkD "count_told" 53, mkD "choice_told" 54, mkD "part_told" 55, mkD "deed_of_text" 56, mkD "check_told" 59, mkD "read_deed" 60, mkD "replayed" 61, mkD "done" 64, mkD "named_anew" 66, mkD "inside_out" 67, mkD "_law_pot" 69, mkD "_law_draw" 70, mkD "_law_pick" 71, mkD "_law_same" 72, mkD "_law_picture" 73, mkD "_law_many" 74, mkD "_law_choice" 75, mkD "_law_index" 76, mkD "_law_order" 77, mkD "_law_anew" 78, mkD "_law_inside" 79, mkD "_law_deed" 81, mkD "_law_word" 82, mkD "_law_text" 83, mkD "_law_done" 87, mkD "_law_fitting" 88, mkD "_law_is_right" 89, mkD "_law_single_right" 90, mkD "_law_right" 91, mkD "law" 92, mkD "_law_heard" 86, mkM "InvalidPicture" "InvalidPicture.__init__" 38, mkM "InvalidChoice" "InvalidChoice.__init__" 39, mkM "InvalidOrder" "InvalidOrder.__init__" 41, mkM "InvalidText" "InvalidText.__init__" 40, mkM "InvalidDeeds" "InvalidDeeds.__init__" 42]
def tf : List He.Defn := [("_law_is_right", none), ("_law_single_right", none), ("_law_right", none)]
def xn : Nat → Str
  | 0 => "given"
  | 1 => "given"
  | 2 => "index"
  | 3 => "given"
  | 4 => "index"
  | _ => ⟨#[]⟩
def xnm : Nat → Str
  | 0 => "InvalidPicture"
  | 1 => "InvalidChoice"
  | 2 => "InvalidOrder"
  | 3 => "InvalidText"
  | 4 => "InvalidDeeds"
  | _ => ⟨#[]⟩
def cA (K : PySem.W.Frag) (k : Nat) : Addr := He.ga K (xnm k)
def ws__law_heard : List (Nat × List Nat) := [(4, [100, 101, 101, 100, 115])]
def fal : List He.Fa := [.glo "is_whole", .glo "is_between", .glo "is_tuple_of", .glo "are_wholes", .glo "is_text_of", .glo "place_count", .glo "is_picture_of", .glo "is_pictured", .glo "is_letter_of", .glo "is_choice_of", .glo "lot_count_of", .glo "lot_of", .glo "index_of", .glo "old_places", .glo "is_order_of", .glo "named_anew_by", .glo "inside_out_by", .glo "are_unlike_lots", .glo "is_deed", .glo "with_step", .glo "moved", .glo "behind_deed", .glo "check_picture", .glo "check_choice", .glo "check_picture_choice", .glo "check_order", .glo "count_told", .glo "choice_told", .glo "part_told", .glo "deed_of_text", .glo "check_told", .glo "read_deed", .glo "replayed", .glo "done", .glo "named_anew", .glo "inside_out", .glo "_law_pot", .glo "_law_draw", .glo "_law_pick", .glo "_law_same", .glo "_law_picture", .glo "_law_many", .glo "_law_choice", .glo "_law_index", .glo "_law_order", .glo "_law_anew", .glo "_law_inside", .glo "_law_deed", .glo "_law_word", .glo "_law_text", .glo "_law_done", .glo "_law_fitting", .glo "_law_is_right", .glo "_law_single_right", .glo "_law_right", .glo "law", .glo "_law_heard", .glo "InvalidPicture", .glo "InvalidChoice", .glo "InvalidOrder", .glo "InvalidText", .glo "InvalidDeeds", .free "len", .free "sum", .free "all", .free "any", .free "int", .free "abs", .free "min", .free "max", .free "divmod", .free "tuple", .free "list", .free "sorted", .free "isinstance", .free "str", .free "bool", .free "range", .free "enumerate", .free "zip", .int "MOST_HERE" 99, .int "MOST_LOTS" 4, .str "LETTERS" ⟨[65, 66, 67, 68].toArray⟩, .str "MOVE" ⟨[109, 111, 118, 101].toArray⟩, .glo "OF_ONE_PLACE", .str "TURN" ⟨[116, 117, 114, 110].toArray⟩, .str "RENAME" ⟨[114, 101, 110, 97, 109, 101].toArray⟩, .str "PUT" ⟨[112, 117, 116].toArray⟩, .str "DIGITS" ⟨[48, 49, 50, 51, 52, 53, 54, 55, 56, 57].toArray⟩, .str "EMPTY" ⟨[45].toArray⟩, .glo "WITH_CHOICES", .str "BLANK" ⟨[32].toArray⟩, .int "MOST_LINES" 40, .int "MOST_DEEDS" 40]
abbrev R : PySem.W.OpenRow := PySem.W.OpenLaw.row PySem.Challenge.rw_lotoverlaps_k80_whole_deeds_replayed
def exl : List (PySem.W.Frag → Bool) := [fun K => He.tupB K "OF_ONE_PLACE" [.str "put", .str "take"], PL.noD "OF_ONE_PLACE", fun K => He.tupB K "WITH_CHOICES" [.str "put", .str "take", .str "move"], PL.noD "WITH_CHOICES", PL.xcB "InvalidPicture" "given", PL.xcB "InvalidChoice" "given", PL.xcB "InvalidOrder" "index", PL.xcB "InvalidText" "given", PL.xcB "InvalidDeeds" "index", fun K => PL.exB K (cA K) ws__law_heard, PL.tbU tf]
abbrev hk : PySem.W.Hook := PL.hookE 4 fal fn exl tf
def ob (s : PySem.W.SharedT) : (He.AlD × Bool) × Bool := PL.obsEG 4 fal fn exl tf (HandSHeadRun.getT s)
theorem ob_eq (s : PySem.W.SharedT) : ob s = hk.obs s.abs := PL.obsEG_eq (HandSHeadRun.getT_eq s)
def nm0 : List PySem.Str := ["__name__", "is_whole", "is_between", "is_tuple_of", "are_wholes", "is_text_of", "LETTERS", "MOST_LOTS", "MOST_HERE", "place_count", "is_picture_of", "is_pictured", "is_letter_of", "is_choice_of", "lot_count_of", "lot_of", "index_of", "old_places", "is_order_of", "named_anew_by", "inside_out_by", "PUT", "TAKE", "MOVE", "TURN", "RENAME", "OF_ONE_PLACE", "are_unlike_lots", "is_deed", "with_step"]
def nm1 : List PySem.Str := ["moved", "behind_deed", "LotError", "InvalidPicture", "InvalidChoice", "InvalidText", "InvalidOrder", "InvalidDeeds", "check_picture", "check_choice", "check_picture_choice", "check_order", "BLANK", "EMPTY", "DIGITS", "WITH_CHOICES", "count_told", "choice_told", "part_told", "deed_of_text", "MOST_LINES", "check_told", "read_deed", "replayed", "MOST_DEEDS", "done", "named_anew", "inside_out", "_law_pot", "_law_draw"]
def nm2 : List PySem.Str := ["_law_pick", "_law_same", "_law_picture", "_law_many", "_law_choice", "_law_index", "_law_order", "_law_anew", "_law_inside", "_law_orders", "_law_deed", "_law_word", "_law_text", "_law_part", "_law_read", "_law_heard", "_law_done", "_law_fitting", "_law_is_right", "_law_single_right", "_law_right"]
def loose : List PySem.Str := nm0 ++ nm1 ++ nm2
theorem run (w : World) : HandSHeadRun.RunEq R (PySem.W.view R.prog [92]) hk ob 20000 loose w := by
  intro os
  kernel_rfl
def nms : Nat → Str
  | 0 => "is_whole"
  | 1 => "is_between"
  | 92 => "is_tuple_of"
  | 93 => "are_wholes"
  | 2 => "is_text_of"
  | 5 => "place_count"
  | 6 => "is_picture_of"
  | 7 => "is_pictured"
  | 69 => "is_letter_of"
  | 8 => "is_choice_of"
  | 9 => "lot_count_of"
  | 10 => "lot_of"
  | 11 => "index_of"
  | 70 => "old_places"
  | 105 => "is_order_of"
  | 77 => "named_anew_by"
  | 106 => "inside_out_by"
  | 107 => "are_unlike_lots"
  | 149 => "is_deed"
  | 109 => "with_step"
  | 110 => "moved"
  | 167 => "behind_deed"
  | 35 => "check_picture"
  | 39 => "check_choice"
  | 40 => "check_picture_choice"
  | 75 => "check_order"
  | 124 => "count_told"
  | 126 => "choice_told"
  | 152 => "part_told"
  | 153 => "deed_of_text"
  | 132 => "check_told"
  | 155 => "read_deed"
  | 168 => "replayed"
  | 112 => "done"
  | 78 => "named_anew"
  | 169 => "inside_out"
  | 170 => "_law_pot"
  | 50 => "_law_draw"
  | 51 => "_law_pick"
  | 52 => "_law_same"
  | 53 => "_law_picture"
  | 54 => "_law_many"
  | 55 => "_law_choice"
  | 56 => "_law_index"
  | 57 => "_law_order"
  | 58 => "_law_anew"
  | 59 => "_law_inside"
  | 157 => "_law_deed"
  | 158 => "_law_word"
  | 159 => "_law_text"
  | 172 => "_law_done"
  | 173 => "_law_fitting"
  | 174 => "_law_is_right"
  | 175 => "_law_single_right"
  | 176 => "_law_right"
  | 177 => "law"
  | _ => ⟨#[]⟩
def fA (K : PySem.W.Frag) (k : Nat) : Addr := He.ga K (nms k)
theorem f_cons {α : Type} {P : α → Prop} {a : α} {l : List α} (h : P a) (t : ∀ q ∈ l, P q) : ∀ q ∈ a :: l, P q := fun q hq => by
  rcases List.mem_cons.mp hq with e | e
  · rw [e]
    exact h
  · exact t q e
theorem f_nil {α : Type} {P : α → Prop} : ∀ q ∈ ([] : List α), P q := fun q hq => nomatch hq
theorem kbn [Tbl] {K : PySem.W.Frag} {x qual : Str} {params : Arguments} {body : List Stmt} {scope : Scope} {kws : List (Str × V)} {f : Addr} {fd : FuncData} {ps ks : List Str} {n : Nat} {pm : List Nat} (F : FunD K x qual params body scope [] kws f fd)
    (h : ∀ (kV doc pm' : Value) (an : Option Addr) (cdv ct : Value) (us ws : List Value), us.length = n → ws.length = ks.length → bindArgs (PySem.W.fnOf x qual params body scope .none kV doc pm' an cdv ct) ⟨us, ks.zip ws⟩ = pure (ps.zip (gK Value.none pm us ws))) : KBn K fd ps n ks (gK Value.none pm) (gK V.non pm) := by
  obtain ⟨oc, od, dV, kV, doc, pm', an, cdv, ct, osl, rfl, lk, hcd, hD, hK⟩ := F.ex
  rcases hD with ⟨_, rfl⟩ | ⟨e, _⟩
  · exact ⟨fun s us ws X l1 l2 => .of_eq (h kV doc pm' an cdv ct us ws l1 l2), fun r1 r2 => gK_rel pm r1 r2⟩
  · exact absurd rfl e
section
variable [Tbl]
variable {K : PySem.W.Frag} {mg : Str → Option Value} {base : Heap}
structure Tb (K : PySem.W.Frag) (mg : Str → Option Value) (base : Heap) : Prop where
  t : Tbl.T = PL.tbT tf K
  b : ∀ p ∈ tf, LamX.TabB base mg (He.cT K p).1 (He.cT K p).2
theorem d0 (c : PL.SaysE fal fn exl K) (tb : Tb K mg base) : DefOk ck K mg base (fA K) 0 ⟨1, 1, b0⟩ := by
  obtain ⟨fd, F⟩ := c.d.def_ 0 (d := mkD "is_whole" 1) rfl
  refine ⟨_, _, _, _, _, fd, n0, p0, F, C8.fnScope_by s0, rfl, rfl, c0, F.bindsN fun _ _ _ _ _ _ us hl => match us, hl with | [_], _ => rfl, fun n ks pm h => ?_, fun z => absurd ((show lamB ck (defScope (tpS 1)) = false from by kernel_rfl).symm.trans z) Bool.false_ne_true⟩
  simp only [ck, List.mem_cons, Prod.mk.injEq, List.not_mem_nil, or_false] at h
  obtain ⟨h1, rfl, rfl, rfl⟩ := h
  · exact absurd h1 (by decide)
theorem d1 (c : PL.SaysE fal fn exl K) (tb : Tb K mg base) : DefOk ck K mg base (fA K) 1 ⟨3, 3, b1⟩ := by
  obtain ⟨fd, F⟩ := c.d.def_ 1 (d := mkD "is_between" 2) rfl
  refine ⟨_, _, _, _, _, fd, n1, p1, F, C8.fnScope_by s1, rfl, rfl, c1, F.bindsN fun _ _ _ _ _ _ us hl => match us, hl with | [_, _, _], _ => rfl, fun n ks pm h => ?_, fun z => absurd ((show lamB ck (defScope (tpS 2)) = false from by kernel_rfl).symm.trans z) Bool.false_ne_true⟩
  simp only [ck, List.mem_cons, Prod.mk.injEq, List.not_mem_nil, or_false] at h
  obtain ⟨h1, rfl, rfl, rfl⟩ := h
  · exact absurd h1 (by decide)
theorem d92 (c : PL.SaysE fal fn exl K) (tb : Tb K mg base) : DefOk ck K mg base (fA K) 92 ⟨2, 2, b92⟩ := by
  obtain ⟨fd, F⟩ := c.d.def_ 2 (d := mkD "is_tuple_of" 3) rfl
  refine ⟨_, _, _, _, _, fd, n92, p92, F, C8.fnScope_by s92, rfl, rfl, c92, F.bindsN fun _ _ _ _ _ _ us hl => match us, hl with | [_, _], _ => rfl, fun n ks pm h => ?_, fun z => absurd ((show lamB ck (defScope (tpS 3)) = false from by kernel_rfl).symm.trans z) Bool.false_ne_true⟩
  simp only [ck, List.mem_cons, Prod.mk.injEq, List.not_mem_nil, or_false] at h
  obtain ⟨h1, rfl, rfl, rfl⟩ := h
  · exact absurd h1 (by decide)
theorem d93 (c : PL.SaysE fal fn exl K) (tb : Tb K mg base) : DefOk ck K mg base (fA K) 93 ⟨2, 3, b93⟩ := by
  obtain ⟨fd, F⟩ := c.d.def_ 3 (d := mkD "are_wholes" 4) rfl
  refine ⟨_, _, _, _, _, fd, n93, p93, F, C8.fnScope_by s93, rfl, rfl, c93, F.bindsN fun _ _ _ _ _ _ us hl => match us, hl with | [_, _], _ => rfl, fun n ks pm h => ?_, fun z => absurd ((show lamB ck (defScope (tpS 4)) = false from by kernel_rfl).symm.trans z) Bool.false_ne_true⟩
  simp only [ck, List.mem_cons, Prod.mk.injEq, List.not_mem_nil, or_false] at h
  obtain ⟨h1, rfl, rfl, rfl⟩ := h
  · exact absurd h1 (by decide)
theorem d2 (c : PL.SaysE fal fn exl K) (tb : Tb K mg base) : DefOk ck K mg base (fA K) 2 ⟨2, 3, b2⟩ := by
  obtain ⟨fd, F⟩ := c.d.def_ 4 (d := mkD "is_text_of" 5) rfl
  refine ⟨_, _, _, _, _, fd, n2, p2, F, C8.fnScope_by s2, rfl, rfl, c2, F.bindsN fun _ _ _ _ _ _ us hl => match us, hl with | [_, _], _ => rfl, fun n ks pm h => ?_, fun z => absurd ((show lamB ck (defScope (tpS 5)) = false from by kernel_rfl).symm.trans z) Bool.false_ne_true⟩
  simp only [ck, List.mem_cons, Prod.mk.injEq, List.not_mem_nil, or_false] at h
  obtain ⟨h1, rfl, rfl, rfl⟩ := h
  · exact absurd h1 (by decide)
theorem d5 (c : PL.SaysE fal fn exl K) (tb : Tb K mg base) : DefOk ck K mg base (fA K) 5 ⟨1, 1, b5⟩ := by
  obtain ⟨fd, F⟩ := c.d.def_ 5 (d := mkD "place_count" 10) rfl
  refine ⟨_, _, _, _, _, fd, n5, p5, F, C8.fnScope_by s5, rfl, rfl, c5, F.bindsN fun _ _ _ _ _ _ us hl => match us, hl with | [_], _ => rfl, fun n ks pm h => ?_, fun z => absurd ((show lamB ck (defScope (tpS 10)) = false from by kernel_rfl).symm.trans z) Bool.false_ne_true⟩
  simp only [ck, List.mem_cons, Prod.mk.injEq, List.not_mem_nil, or_false] at h
  obtain ⟨h1, rfl, rfl, rfl⟩ := h
  · exact absurd h1 (by decide)
theorem d6 (c : PL.SaysE fal fn exl K) (tb : Tb K mg base) : DefOk ck K mg base (fA K) 6 ⟨2, 3, b6⟩ := by
  obtain ⟨fd, F⟩ := c.d.def_ 6 (d := mkD "is_picture_of" 11) rfl
  refine ⟨_, _, _, _, _, fd, n6, p6, F, C8.fnScope_by s6, rfl, rfl, c6, F.bindsN fun _ _ _ _ _ _ us hl => match us, hl with | [_, _], _ => rfl, fun n ks pm h => ?_, fun z => absurd ((show lamB ck (defScope (tpS 11)) = false from by kernel_rfl).symm.trans z) Bool.false_ne_true⟩
  simp only [ck, List.mem_cons, Prod.mk.injEq, List.not_mem_nil, or_false] at h
  obtain ⟨h1, rfl, rfl, rfl⟩ := h
  · exact absurd h1 (by decide)
theorem d7 (c : PL.SaysE fal fn exl K) (tb : Tb K mg base) : DefOk ck K mg base (fA K) 7 ⟨1, 2, b7⟩ := by
  obtain ⟨fd, F⟩ := c.d.def_ 7 (d := mkD "is_pictured" 12) rfl
  refine ⟨_, _, _, _, _, fd, n7, p7, F, C8.fnScope_by s7, rfl, rfl, c7, F.bindsN fun _ _ _ _ _ _ us hl => match us, hl with | [_], _ => rfl, fun n ks pm h => ?_, fun z => absurd ((show lamB ck (defScope (tpS 12)) = false from by kernel_rfl).symm.trans z) Bool.false_ne_true⟩
  simp only [ck, List.mem_cons, Prod.mk.injEq, List.not_mem_nil, or_false] at h
  obtain ⟨h1, rfl, rfl, rfl⟩ := h
  · exact absurd h1 (by decide)
theorem d69 (c : PL.SaysE fal fn exl K) (tb : Tb K mg base) : DefOk ck K mg base (fA K) 69 ⟨2, 2, b69⟩ := by
  obtain ⟨fd, F⟩ := c.d.def_ 8 (d := mkD "is_letter_of" 13) rfl
  refine ⟨_, _, _, _, _, fd, n69, p69, F, C8.fnScope_by s69, rfl, rfl, c69, F.bindsN fun _ _ _ _ _ _ us hl => match us, hl with | [_, _], _ => rfl, fun n ks pm h => ?_, fun z => absurd ((show lamB ck (defScope (tpS 13)) = false from by kernel_rfl).symm.trans z) Bool.false_ne_true⟩
  simp only [ck, List.mem_cons, Prod.mk.injEq, List.not_mem_nil, or_false] at h
  obtain ⟨h1, rfl, rfl, rfl⟩ := h
  · exact absurd h1 (by decide)
theorem d8 (c : PL.SaysE fal fn exl K) (tb : Tb K mg base) : DefOk ck K mg base (fA K) 8 ⟨2, 4, b8⟩ := by
  obtain ⟨fd, F⟩ := c.d.def_ 9 (d := mkD "is_choice_of" 14) rfl
  refine ⟨_, _, _, _, _, fd, n8, p8, F, C8.fnScope_by s8, rfl, rfl, c8, F.bindsN fun _ _ _ _ _ _ us hl => match us, hl with | [_, _], _ => rfl, fun n ks pm h => ?_, fun z => absurd ((show lamB ck (defScope (tpS 14)) = false from by kernel_rfl).symm.trans z) Bool.false_ne_true⟩
  simp only [ck, List.mem_cons, Prod.mk.injEq, List.not_mem_nil, or_false] at h
  obtain ⟨h1, rfl, rfl, rfl⟩ := h
  · exact absurd h1 (by decide)
theorem d9 (c : PL.SaysE fal fn exl K) (tb : Tb K mg base) : DefOk ck K mg base (fA K) 9 ⟨1, 1, b9⟩ := by
  obtain ⟨fd, F⟩ := c.d.def_ 10 (d := mkD "lot_count_of" 15) rfl
  refine ⟨_, _, _, _, _, fd, n9, p9, F, C8.fnScope_by s9, rfl, rfl, c9, F.bindsN fun _ _ _ _ _ _ us hl => match us, hl with | [_], _ => rfl, fun n ks pm h => ?_, fun z => absurd ((show lamB ck (defScope (tpS 15)) = false from by kernel_rfl).symm.trans z) Bool.false_ne_true⟩
  simp only [ck, List.mem_cons, Prod.mk.injEq, List.not_mem_nil, or_false] at h
  obtain ⟨h1, rfl, rfl, rfl⟩ := h
  · exact absurd h1 (by decide)
theorem d10 (c : PL.SaysE fal fn exl K) (tb : Tb K mg base) : DefOk ck K mg base (fA K) 10 ⟨1, 1, b10⟩ := by
  obtain ⟨fd, F⟩ := c.d.def_ 11 (d := mkD "lot_of" 16) rfl
  refine ⟨_, _, _, _, _, fd, n10, p10, F, C8.fnScope_by s10, rfl, rfl, c10, F.bindsN fun _ _ _ _ _ _ us hl => match us, hl with | [_], _ => rfl, fun n ks pm h => ?_, fun z => absurd ((show lamB ck (defScope (tpS 16)) = false from by kernel_rfl).symm.trans z) Bool.false_ne_true⟩
  simp only [ck, List.mem_cons, Prod.mk.injEq, List.not_mem_nil, or_false] at h
  obtain ⟨h1, rfl, rfl, rfl⟩ := h
  · exact absurd h1 (by decide)
theorem d11 (c : PL.SaysE fal fn exl K) (tb : Tb K mg base) : DefOk ck K mg base (fA K) 11 ⟨1, 2, b11⟩ := by
  obtain ⟨fd, F⟩ := c.d.def_ 12 (d := mkD "index_of" 17) rfl
  refine ⟨_, _, _, _, _, fd, n11, p11, F, C8.fnScope_by s11, rfl, rfl, c11, F.bindsN fun _ _ _ _ _ _ us hl => match us, hl with | [_], _ => rfl, fun n ks pm h => ?_, fun z => absurd ((show lamB ck (defScope (tpS 17)) = false from by kernel_rfl).symm.trans z) Bool.false_ne_true⟩
  simp only [ck, List.mem_cons, Prod.mk.injEq, List.not_mem_nil, or_false] at h
  obtain ⟨h1, rfl, rfl, rfl⟩ := h
  · exact absurd h1 (by decide)
theorem d70 (c : PL.SaysE fal fn exl K) (tb : Tb K mg base) : DefOk ck K mg base (fA K) 70 ⟨2, 4, b70⟩ := by
  obtain ⟨fd, F⟩ := c.d.def_ 13 (d := mkD "old_places" 19) rfl
  refine ⟨_, _, _, _, _, fd, n70, p70, F, C8.fnScope_by s70, rfl, rfl, c70, F.bindsN fun _ _ _ _ _ _ us hl => match us, hl with | [_, _], _ => rfl, fun n ks pm h => ?_, fun z => absurd ((show lamB ck (defScope (tpS 19)) = false from by kernel_rfl).symm.trans z) Bool.false_ne_true⟩
  simp only [ck, List.mem_cons, Prod.mk.injEq, List.not_mem_nil, or_false] at h
  obtain ⟨h1, rfl, rfl, rfl⟩ := h
  · exact absurd h1 (by decide)
theorem d105 (c : PL.SaysE fal fn exl K) (tb : Tb K mg base) : DefOk ck K mg base (fA K) 105 ⟨2, 2, b105⟩ := by
  obtain ⟨fd, F⟩ := c.d.def_ 14 (d := mkD "is_order_of" 21) rfl
  refine ⟨_, _, _, _, _, fd, n105, p105, F, C8.fnScope_by s105, rfl, rfl, c105, F.bindsN fun _ _ _ _ _ _ us hl => match us, hl with | [_, _], _ => rfl, fun n ks pm h => ?_, fun z => absurd ((show lamB ck (defScope (tpS 21)) = false from by kernel_rfl).symm.trans z) Bool.false_ne_true⟩
  simp only [ck, List.mem_cons, Prod.mk.injEq, List.not_mem_nil, or_false] at h
  obtain ⟨h1, rfl, rfl, rfl⟩ := h
  · exact absurd h1 (by decide)
theorem d77 (c : PL.SaysE fal fn exl K) (tb : Tb K mg base) : DefOk ck K mg base (fA K) 77 ⟨2, 3, b77⟩ := by
  obtain ⟨fd, F⟩ := c.d.def_ 15 (d := mkD "named_anew_by" 22) rfl
  refine ⟨_, _, _, _, _, fd, n77, p77, F, C8.fnScope_by s77, rfl, rfl, c77, F.bindsN fun _ _ _ _ _ _ us hl => match us, hl with | [_, _], _ => rfl, fun n ks pm h => ?_, fun z => absurd ((show lamB ck (defScope (tpS 22)) = false from by kernel_rfl).symm.trans z) Bool.false_ne_true⟩
  simp only [ck, List.mem_cons, Prod.mk.injEq, List.not_mem_nil, or_false] at h
  obtain ⟨h1, rfl, rfl, rfl⟩ := h
  · exact absurd h1 (by decide)
theorem d106 (c : PL.SaysE fal fn exl K) (tb : Tb K mg base) : DefOk ck K mg base (fA K) 106 ⟨2, 3, b106⟩ := by
  obtain ⟨fd, F⟩ := c.d.def_ 16 (d := mkD "inside_out_by" 23) rfl
  refine ⟨_, _, _, _, _, fd, n106, p106, F, C8.fnScope_by s106, rfl, rfl, c106, F.bindsN fun _ _ _ _ _ _ us hl => match us, hl with | [_, _], _ => rfl, fun n ks pm h => ?_, fun z => absurd ((show lamB ck (defScope (tpS 23)) = false from by kernel_rfl).symm.trans z) Bool.false_ne_true⟩
  simp only [ck, List.mem_cons, Prod.mk.injEq, List.not_mem_nil, or_false] at h
  obtain ⟨h1, rfl, rfl, rfl⟩ := h
  · exact absurd h1 (by decide)
theorem d107 (c : PL.SaysE fal fn exl K) (tb : Tb K mg base) : DefOk ck K mg base (fA K) 107 ⟨1, 3, b107⟩ := by
  obtain ⟨fd, F⟩ := c.d.def_ 17 (d := mkD "are_unlike_lots" 31) rfl
  refine ⟨_, _, _, _, _, fd, n107, p107, F, C8.fnScope_by s107, rfl, rfl, c107, F.bindsN fun _ _ _ _ _ _ us hl => match us, hl with | [_], _ => rfl, fun n ks pm h => ?_, fun z => absurd ((show lamB ck (defScope (tpS 31)) = false from by kernel_rfl).symm.trans z) Bool.false_ne_true⟩
  simp only [ck, List.mem_cons, Prod.mk.injEq, List.not_mem_nil, or_false] at h
  obtain ⟨h1, rfl, rfl, rfl⟩ := h
  · exact absurd h1 (by decide)
theorem d149 (c : PL.SaysE fal fn exl K) (tb : Tb K mg base) : DefOk ck K mg base (fA K) 149 ⟨1, 2, b149⟩ := by
  obtain ⟨fd, F⟩ := c.d.def_ 18 (d := mkD "is_deed" 32) rfl
  refine ⟨_, _, _, _, _, fd, n149, p149, F, C8.fnScope_by s149, rfl, rfl, c149, F.bindsN fun _ _ _ _ _ _ us hl => match us, hl with | [_], _ => rfl, fun n ks pm h => ?_, fun z => absurd ((show lamB ck (defScope (tpS 32)) = false from by kernel_rfl).symm.trans z) Bool.false_ne_true⟩
  simp only [ck, List.mem_cons, Prod.mk.injEq, List.not_mem_nil, or_false] at h
  obtain ⟨h1, rfl, rfl, rfl⟩ := h
  · exact absurd h1 (by decide)
theorem d109 (c : PL.SaysE fal fn exl K) (tb : Tb K mg base) : DefOk ck K mg base (fA K) 109 ⟨3, 4, b109⟩ := by
  obtain ⟨fd, F⟩ := c.d.def_ 19 (d := mkD "with_step" 33) rfl
  refine ⟨_, _, _, _, _, fd, n109, p109, F, C8.fnScope_by s109, rfl, rfl, c109, F.bindsN fun _ _ _ _ _ _ us hl => match us, hl with | [_, _, _], _ => rfl, fun n ks pm h => ?_, fun z => absurd ((show lamB ck (defScope (tpS 33)) = false from by kernel_rfl).symm.trans z) Bool.false_ne_true⟩
  simp only [ck, List.mem_cons, Prod.mk.injEq, List.not_mem_nil, or_false] at h
  obtain ⟨h1, rfl, rfl, rfl⟩ := h
  · exact absurd h1 (by decide)
theorem d110 (c : PL.SaysE fal fn exl K) (tb : Tb K mg base) : DefOk ck K mg base (fA K) 110 ⟨3, 4, b110⟩ := by
  obtain ⟨fd, F⟩ := c.d.def_ 20 (d := mkD "moved" 34) rfl
  refine ⟨_, _, _, _, _, fd, n110, p110, F, C8.fnScope_by s110, rfl, rfl, c110, F.bindsN fun _ _ _ _ _ _ us hl => match us, hl with | [_, _, _], _ => rfl, fun n ks pm h => ?_, fun z => absurd ((show lamB ck (defScope (tpS 34)) = false from by kernel_rfl).symm.trans z) Bool.false_ne_true⟩
  simp only [ck, List.mem_cons, Prod.mk.injEq, List.not_mem_nil, or_false] at h
  obtain ⟨h1, rfl, rfl, rfl⟩ := h
  · exact absurd h1 (by decide)
theorem d167 (c : PL.SaysE fal fn exl K) (tb : Tb K mg base) : DefOk ck K mg base (fA K) 167 ⟨2, 3, b167⟩ := by
  obtain ⟨fd, F⟩ := c.d.def_ 21 (d := mkD "behind_deed" 35) rfl
  refine ⟨_, _, _, _, _, fd, n167, p167, F, C8.fnScope_by s167, rfl, rfl, c167, F.bindsN fun _ _ _ _ _ _ us hl => match us, hl with | [_, _], _ => rfl, fun n ks pm h => ?_, fun z => absurd ((show lamB ck (defScope (tpS 35)) = false from by kernel_rfl).symm.trans z) Bool.false_ne_true⟩
  simp only [ck, List.mem_cons, Prod.mk.injEq, List.not_mem_nil, or_false] at h
  obtain ⟨h1, rfl, rfl, rfl⟩ := h
  · exact absurd h1 (by decide)
theorem d35 (c : PL.SaysE fal fn exl K) (tb : Tb K mg base) : DefOk ck K mg base (fA K) 35 ⟨1, 1, b35⟩ := by
  obtain ⟨fd, F⟩ := c.d.def_ 22 (d := mkD "check_picture" 44) rfl
  refine ⟨_, _, _, _, _, fd, n35, p35, F, C8.fnScope_by s35, rfl, rfl, c35, F.bindsN fun _ _ _ _ _ _ us hl => match us, hl with | [_], _ => rfl, fun n ks pm h => ?_, fun z => absurd ((show lamB ck (defScope (tpS 44)) = false from by kernel_rfl).symm.trans z) Bool.false_ne_true⟩
  simp only [ck, List.mem_cons, Prod.mk.injEq, List.not_mem_nil, or_false] at h
  obtain ⟨h1, rfl, rfl, rfl⟩ := h
  · exact absurd h1 (by decide)
theorem d39 (c : PL.SaysE fal fn exl K) (tb : Tb K mg base) : DefOk ck K mg base (fA K) 39 ⟨2, 2, b39⟩ := by
  obtain ⟨fd, F⟩ := c.d.def_ 23 (d := mkD "check_choice" 45) rfl
  refine ⟨_, _, _, _, _, fd, n39, p39, F, C8.fnScope_by s39, rfl, rfl, c39, F.bindsN fun _ _ _ _ _ _ us hl => match us, hl with | [_, _], _ => rfl, fun n ks pm h => ?_, fun z => absurd ((show lamB ck (defScope (tpS 45)) = false from by kernel_rfl).symm.trans z) Bool.false_ne_true⟩
  simp only [ck, List.mem_cons, Prod.mk.injEq, List.not_mem_nil, or_false] at h
  obtain ⟨h1, rfl, rfl, rfl⟩ := h
  · exact absurd h1 (by decide)
theorem d40 (c : PL.SaysE fal fn exl K) (tb : Tb K mg base) : DefOk ck K mg base (fA K) 40 ⟨2, 2, b40⟩ := by
  obtain ⟨fd, F⟩ := c.d.def_ 24 (d := mkD "check_picture_choice" 46) rfl
  refine ⟨_, _, _, _, _, fd, n40, p40, F, C8.fnScope_by s40, rfl, rfl, c40, F.bindsN fun _ _ _ _ _ _ us hl => match us, hl with | [_, _], _ => rfl, fun n ks pm h => ?_, fun z => absurd ((show lamB ck (defScope (tpS 46)) = false from by kernel_rfl).symm.trans z) Bool.false_ne_true⟩
  simp only [ck, List.mem_cons, Prod.mk.injEq, List.not_mem_nil, or_false] at h
  obtain ⟨h1, rfl, rfl, rfl⟩ := h
  · exact absurd h1 (by decide)
theorem d75 (c : PL.SaysE fal fn exl K) (tb : Tb K mg base) : DefOk ck K mg base (fA K) 75 ⟨2, 4, b75⟩ := by
  obtain ⟨fd, F⟩ := c.d.def_ 25 (d := mkD "check_order" 47) rfl
  refine ⟨_, _, _, _, _, fd, n75, p75, F, C8.fnScope_by s75, rfl, rfl, c75, F.bindsN fun _ _ _ _ _ _ us hl => match us, hl with | [_, _], _ => rfl, fun n ks pm h => ?_, fun z => absurd ((show lamB ck (defScope (tpS 47)) = false from by kernel_rfl).symm.trans z) Bool.false_ne_true⟩
  simp only [ck, List.mem_cons, Prod.mk.injEq, List.not_mem_nil, or_false] at h
  obtain ⟨h1, rfl, rfl, rfl⟩ := h
  · exact absurd h1 (by decide)
theorem d124 (c : PL.SaysE fal fn exl K) (tb : Tb K mg base) : DefOk ck K mg base (fA K) 124 ⟨1, 1, b124⟩ := by
  obtain ⟨fd, F⟩ := c.d.def_ 26 (d := mkD "count_told" 53) rfl
  refine ⟨_, _, _, _, _, fd, n124, p124, F, C8.fnScope_by s124, rfl, rfl, c124, F.bindsN fun _ _ _ _ _ _ us hl => match us, hl with | [_], _ => rfl, fun n ks pm h => ?_, fun z => absurd ((show lamB ck (defScope (tpS 53)) = false from by kernel_rfl).symm.trans z) Bool.false_ne_true⟩
  simp only [ck, List.mem_cons, Prod.mk.injEq, List.not_mem_nil, or_false] at h
  obtain ⟨h1, rfl, rfl, rfl⟩ := h
  · exact absurd h1 (by decide)
theorem d126 (c : PL.SaysE fal fn exl K) (tb : Tb K mg base) : DefOk ck K mg base (fA K) 126 ⟨1, 1, b126⟩ := by
  obtain ⟨fd, F⟩ := c.d.def_ 27 (d := mkD "choice_told" 54) rfl
  refine ⟨_, _, _, _, _, fd, n126, p126, F, C8.fnScope_by s126, rfl, rfl, c126, F.bindsN fun _ _ _ _ _ _ us hl => match us, hl with | [_], _ => rfl, fun n ks pm h => ?_, fun z => absurd ((show lamB ck (defScope (tpS 54)) = false from by kernel_rfl).symm.trans z) Bool.false_ne_true⟩
  simp only [ck, List.mem_cons, Prod.mk.injEq, List.not_mem_nil, or_false] at h
  obtain ⟨h1, rfl, rfl, rfl⟩ := h
  · exact absurd h1 (by decide)
theorem d152 (c : PL.SaysE fal fn exl K) (tb : Tb K mg base) : DefOk ck K mg base (fA K) 152 ⟨2, 3, b152⟩ := by
  obtain ⟨fd, F⟩ := c.d.def_ 28 (d := mkD "part_told" 55) rfl
  refine ⟨_, _, _, _, _, fd, n152, p152, F, C8.fnScope_by s152, rfl, rfl, c152, F.bindsN fun _ _ _ _ _ _ us hl => match us, hl with | [_, _], _ => rfl, fun n ks pm h => ?_, fun z => absurd ((show lamB ck (defScope (tpS 55)) = false from by kernel_rfl).symm.trans z) Bool.false_ne_true⟩
  simp only [ck, List.mem_cons, Prod.mk.injEq, List.not_mem_nil, or_false] at h
  obtain ⟨h1, rfl, rfl, rfl⟩ := h
  · exact absurd h1 (by decide)
theorem d153 (c : PL.SaysE fal fn exl K) (tb : Tb K mg base) : DefOk ck K mg base (fA K) 153 ⟨1, 5, b153⟩ := by
  obtain ⟨fd, F⟩ := c.d.def_ 29 (d := mkD "deed_of_text" 56) rfl
  refine ⟨_, _, _, _, _, fd, n153, p153, F, C8.fnScope_by s153, rfl, rfl, c153, F.bindsN fun _ _ _ _ _ _ us hl => match us, hl with | [_], _ => rfl, fun n ks pm h => ?_, fun z => absurd ((show lamB ck (defScope (tpS 56)) = false from by kernel_rfl).symm.trans z) Bool.false_ne_true⟩
  simp only [ck, List.mem_cons, Prod.mk.injEq, List.not_mem_nil, or_false] at h
  obtain ⟨h1, rfl, rfl, rfl⟩ := h
  · exact absurd h1 (by decide)
theorem d132 (c : PL.SaysE fal fn exl K) (tb : Tb K mg base) : DefOk ck K mg base (fA K) 132 ⟨2, 2, b132⟩ := by
  obtain ⟨fd, F⟩ := c.d.def_ 30 (d := mkD "check_told" 59) rfl
  refine ⟨_, _, _, _, _, fd, n132, p132, F, C8.fnScope_by s132, rfl, rfl, c132, F.bindsN fun _ _ _ _ _ _ us hl => match us, hl with | [_, _], _ => rfl, fun n ks pm h => ?_, fun z => absurd ((show lamB ck (defScope (tpS 59)) = false from by kernel_rfl).symm.trans z) Bool.false_ne_true⟩
  simp only [ck, List.mem_cons, Prod.mk.injEq, List.not_mem_nil, or_false] at h
  obtain ⟨h1, rfl, rfl, rfl⟩ := h
  · exact absurd h1 (by decide)
theorem d155 (c : PL.SaysE fal fn exl K) (tb : Tb K mg base) : DefOk ck K mg base (fA K) 155 ⟨1, 2, b155⟩ := by
  obtain ⟨fd, F⟩ := c.d.def_ 31 (d := mkD "read_deed" 60) rfl
  refine ⟨_, _, _, _, _, fd, n155, p155, F, C8.fnScope_by s155, rfl, rfl, c155, F.bindsN fun _ _ _ _ _ _ us hl => match us, hl with | [_], _ => rfl, fun n ks pm h => ?_, fun z => absurd ((show lamB ck (defScope (tpS 60)) = false from by kernel_rfl).symm.trans z) Bool.false_ne_true⟩
  simp only [ck, List.mem_cons, Prod.mk.injEq, List.not_mem_nil, or_false] at h
  obtain ⟨h1, rfl, rfl, rfl⟩ := h
  · exact absurd h1 (by decide)
theorem d168 (c : PL.SaysE fal fn exl K) (tb : Tb K mg base) : DefOk ck K mg base (fA K) 168 ⟨2, 7, b168⟩ := by
  obtain ⟨fd, F⟩ := c.d.def_ 32 (d := mkD "replayed" 61) rfl
  refine ⟨_, _, _, _, _, fd, n168, p168, F, C8.fnScope_by s168, rfl, rfl, c168, F.bindsN fun _ _ _ _ _ _ us hl => match us, hl with | [_, _], _ => rfl, fun n ks pm h => ?_, fun z => absurd ((show lamB ck (defScope (tpS 61)) = false from by kernel_rfl).symm.trans z) Bool.false_ne_true⟩
  simp only [ck, List.mem_cons, Prod.mk.injEq, List.not_mem_nil, or_false] at h
  obtain ⟨h1, rfl, rfl, rfl⟩ := h
  · exact kbn F fun _ _ _ _ _ _ us ws hl hm => match us, hl, ws, hm with | [], _, [_, _], _ => rfl
theorem d112 (c : PL.SaysE fal fn exl K) (tb : Tb K mg base) : DefOk ck K mg base (fA K) 112 ⟨2, 6, b112⟩ := by
  obtain ⟨fd, F⟩ := c.d.def_ 33 (d := mkD "done" 64) rfl
  refine ⟨_, _, _, _, _, fd, n112, p112, F, C8.fnScope_by s112, rfl, rfl, c112, F.bindsN fun _ _ _ _ _ _ us hl => match us, hl with | [_, _], _ => rfl, fun n ks pm h => ?_, fun z => absurd ((show lamB ck (defScope (tpS 64)) = false from by kernel_rfl).symm.trans z) Bool.false_ne_true⟩
  simp only [ck, List.mem_cons, Prod.mk.injEq, List.not_mem_nil, or_false] at h
  obtain ⟨h1, rfl, rfl, rfl⟩ := h
  · exact absurd h1 (by decide)
theorem d78 (c : PL.SaysE fal fn exl K) (tb : Tb K mg base) : DefOk ck K mg base (fA K) 78 ⟨2, 2, b78⟩ := by
  obtain ⟨fd, F⟩ := c.d.def_ 34 (d := mkD "named_anew" 66) rfl
  refine ⟨_, _, _, _, _, fd, n78, p78, F, C8.fnScope_by s78, rfl, rfl, c78, F.bindsN fun _ _ _ _ _ _ us hl => match us, hl with | [_, _], _ => rfl, fun n ks pm h => ?_, fun z => absurd ((show lamB ck (defScope (tpS 66)) = false from by kernel_rfl).symm.trans z) Bool.false_ne_true⟩
  simp only [ck, List.mem_cons, Prod.mk.injEq, List.not_mem_nil, or_false] at h
  obtain ⟨h1, rfl, rfl, rfl⟩ := h
  · exact absurd h1 (by decide)
theorem d169 (c : PL.SaysE fal fn exl K) (tb : Tb K mg base) : DefOk ck K mg base (fA K) 169 ⟨2, 2, b169⟩ := by
  obtain ⟨fd, F⟩ := c.d.def_ 35 (d := mkD "inside_out" 67) rfl
  refine ⟨_, _, _, _, _, fd, n169, p169, F, C8.fnScope_by s169, rfl, rfl, c169, F.bindsN fun _ _ _ _ _ _ us hl => match us, hl with | [_, _], _ => rfl, fun n ks pm h => ?_, fun z => absurd ((show lamB ck (defScope (tpS 67)) = false from by kernel_rfl).symm.trans z) Bool.false_ne_true⟩
  simp only [ck, List.mem_cons, Prod.mk.injEq, List.not_mem_nil, or_false] at h
  obtain ⟨h1, rfl, rfl, rfl⟩ := h
  · exact absurd h1 (by decide)
theorem d170 (c : PL.SaysE fal fn exl K) (tb : Tb K mg base) : DefOk ck K mg base (fA K) 170 ⟨2, 5, b170⟩ := by
  obtain ⟨fd, F⟩ := c.d.def_ 36 (d := mkD "_law_pot" 69) rfl
  refine ⟨_, _, _, _, _, fd, n170, p170, F, C8.fnScope_by s170, rfl, rfl, c170, F.bindsN fun _ _ _ _ _ _ us hl => match us, hl with | [_, _], _ => rfl, fun n ks pm h => ?_, fun z => absurd ((show lamB ck (defScope (tpS 69)) = false from by kernel_rfl).symm.trans z) Bool.false_ne_true⟩
  simp only [ck, List.mem_cons, Prod.mk.injEq, List.not_mem_nil, or_false] at h
  obtain ⟨h1, rfl, rfl, rfl⟩ := h
  · exact absurd h1 (by decide)
theorem d50 (c : PL.SaysE fal fn exl K) (tb : Tb K mg base) : DefOk ck K mg base (fA K) 50 ⟨2, 3, b50⟩ := by
  obtain ⟨fd, F⟩ := c.d.def_ 37 (d := mkD "_law_draw" 70) rfl
  refine ⟨_, _, _, _, _, fd, n50, p50, F, C8.fnScope_by s50, rfl, rfl, c50, F.bindsN fun _ _ _ _ _ _ us hl => match us, hl with | [_, _], _ => rfl, fun n ks pm h => ?_, fun z => absurd ((show lamB ck (defScope (tpS 70)) = false from by kernel_rfl).symm.trans z) Bool.false_ne_true⟩
  simp only [ck, List.mem_cons, Prod.mk.injEq, List.not_mem_nil, or_false] at h
  obtain ⟨h1, rfl, rfl, rfl⟩ := h
  · exact absurd h1 (by decide)
theorem d51 (c : PL.SaysE fal fn exl K) (tb : Tb K mg base) : DefOk ck K mg base (fA K) 51 ⟨2, 2, b51⟩ := by
  obtain ⟨fd, F⟩ := c.d.def_ 38 (d := mkD "_law_pick" 71) rfl
  refine ⟨_, _, _, _, _, fd, n51, p51, F, C8.fnScope_by s51, rfl, rfl, c51, F.bindsN fun _ _ _ _ _ _ us hl => match us, hl with | [_, _], _ => rfl, fun n ks pm h => ?_, fun z => absurd ((show lamB ck (defScope (tpS 71)) = false from by kernel_rfl).symm.trans z) Bool.false_ne_true⟩
  simp only [ck, List.mem_cons, Prod.mk.injEq, List.not_mem_nil, or_false] at h
  obtain ⟨h1, rfl, rfl, rfl⟩ := h
  · exact absurd h1 (by decide)
theorem d52 (c : PL.SaysE fal fn exl K) (tb : Tb K mg base) : DefOk ck K mg base (fA K) 52 ⟨2, 3, b52⟩ := by
  obtain ⟨fd, F⟩ := c.d.def_ 39 (d := mkD "_law_same" 72) rfl
  refine ⟨_, _, _, _, _, fd, n52, p52, F, C8.fnScope_by s52, rfl, rfl, c52, F.bindsN fun _ _ _ _ _ _ us hl => match us, hl with | [_, _], _ => rfl, fun n ks pm h => ?_, fun z => absurd ((show lamB ck (defScope (tpS 72)) = false from by kernel_rfl).symm.trans z) Bool.false_ne_true⟩
  simp only [ck, List.mem_cons, Prod.mk.injEq, List.not_mem_nil, or_false] at h
  obtain ⟨h1, rfl, rfl, rfl⟩ := h
  · exact absurd h1 (by decide)
theorem d53 (c : PL.SaysE fal fn exl K) (tb : Tb K mg base) : DefOk ck K mg base (fA K) 53 ⟨2, 6, b53⟩ := by
  obtain ⟨fd, F⟩ := c.d.def_ 40 (d := mkD "_law_picture" 73) rfl
  refine ⟨_, _, _, _, _, fd, n53, p53, F, C8.fnScope_by s53, rfl, rfl, c53, F.bindsN fun _ _ _ _ _ _ us hl => match us, hl with | [_, _], _ => rfl, fun n ks pm h => ?_, fun z => absurd ((show lamB ck (defScope (tpS 73)) = false from by kernel_rfl).symm.trans z) Bool.false_ne_true⟩
  simp only [ck, List.mem_cons, Prod.mk.injEq, List.not_mem_nil, or_false] at h
  obtain ⟨h1, rfl, rfl, rfl⟩ := h
  · exact absurd h1 (by decide)
theorem d54 (c : PL.SaysE fal fn exl K) (tb : Tb K mg base) : DefOk ck K mg base (fA K) 54 ⟨1, 1, b54⟩ := by
  obtain ⟨fd, F⟩ := c.d.def_ 41 (d := mkD "_law_many" 74) rfl
  refine ⟨_, _, _, _, _, fd, n54, p54, F, C8.fnScope_by s54, rfl, rfl, c54, F.bindsN fun _ _ _ _ _ _ us hl => match us, hl with | [_], _ => rfl, fun n ks pm h => ?_, fun z => absurd ((show lamB ck (defScope (tpS 74)) = false from by kernel_rfl).symm.trans z) Bool.false_ne_true⟩
  simp only [ck, List.mem_cons, Prod.mk.injEq, List.not_mem_nil, or_false] at h
  obtain ⟨h1, rfl, rfl, rfl⟩ := h
  · exact absurd h1 (by decide)
theorem d55 (c : PL.SaysE fal fn exl K) (tb : Tb K mg base) : DefOk ck K mg base (fA K) 55 ⟨1, 3, b55⟩ := by
  obtain ⟨fd, F⟩ := c.d.def_ 42 (d := mkD "_law_choice" 75) rfl
  refine ⟨_, _, _, _, _, fd, n55, p55, F, C8.fnScope_by s55, rfl, rfl, c55, F.bindsN fun _ _ _ _ _ _ us hl => match us, hl with | [_], _ => rfl, fun n ks pm h => ?_, fun z => absurd ((show lamB ck (defScope (tpS 75)) = false from by kernel_rfl).symm.trans z) Bool.false_ne_true⟩
  simp only [ck, List.mem_cons, Prod.mk.injEq, List.not_mem_nil, or_false] at h
  obtain ⟨h1, rfl, rfl, rfl⟩ := h
  · exact absurd h1 (by decide)
theorem d56 (c : PL.SaysE fal fn exl K) (tb : Tb K mg base) : DefOk ck K mg base (fA K) 56 ⟨1, 2, b56⟩ := by
  obtain ⟨fd, F⟩ := c.d.def_ 43 (d := mkD "_law_index" 76) rfl
  refine ⟨_, _, _, _, _, fd, n56, p56, F, C8.fnScope_by s56, rfl, rfl, c56, F.bindsN fun _ _ _ _ _ _ us hl => match us, hl with | [_], _ => rfl, fun n ks pm h => ?_, fun z => absurd ((show lamB ck (defScope (tpS 76)) = false from by kernel_rfl).symm.trans z) Bool.false_ne_true⟩
  simp only [ck, List.mem_cons, Prod.mk.injEq, List.not_mem_nil, or_false] at h
  obtain ⟨h1, rfl, rfl, rfl⟩ := h
  · exact absurd h1 (by decide)
theorem d57 (c : PL.SaysE fal fn exl K) (tb : Tb K mg base) : DefOk ck K mg base (fA K) 57 ⟨2, 5, b57⟩ := by
  obtain ⟨fd, F⟩ := c.d.def_ 44 (d := mkD "_law_order" 77) rfl
  refine ⟨_, _, _, _, _, fd, n57, p57, F, C8.fnScope_by s57, rfl, rfl, c57, F.bindsN fun _ _ _ _ _ _ us hl => match us, hl with | [_, _], _ => rfl, fun n ks pm h => ?_, fun z => absurd ((show lamB ck (defScope (tpS 77)) = false from by kernel_rfl).symm.trans z) Bool.false_ne_true⟩
  simp only [ck, List.mem_cons, Prod.mk.injEq, List.not_mem_nil, or_false] at h
  obtain ⟨h1, rfl, rfl, rfl⟩ := h
  · exact absurd h1 (by decide)
theorem d58 (c : PL.SaysE fal fn exl K) (tb : Tb K mg base) : DefOk ck K mg base (fA K) 58 ⟨2, 7, b58⟩ := by
  obtain ⟨fd, F⟩ := c.d.def_ 45 (d := mkD "_law_anew" 78) rfl
  refine ⟨_, _, _, _, _, fd, n58, p58, F, C8.fnScope_by s58, rfl, rfl, c58, F.bindsN fun _ _ _ _ _ _ us hl => match us, hl with | [_, _], _ => rfl, fun n ks pm h => ?_, fun z => absurd ((show lamB ck (defScope (tpS 78)) = false from by kernel_rfl).symm.trans z) Bool.false_ne_true⟩
  simp only [ck, List.mem_cons, Prod.mk.injEq, List.not_mem_nil, or_false] at h
  obtain ⟨h1, rfl, rfl, rfl⟩ := h
  · exact absurd h1 (by decide)
theorem d59 (c : PL.SaysE fal fn exl K) (tb : Tb K mg base) : DefOk ck K mg base (fA K) 59 ⟨2, 3, b59⟩ := by
  obtain ⟨fd, F⟩ := c.d.def_ 46 (d := mkD "_law_inside" 79) rfl
  refine ⟨_, _, _, _, _, fd, n59, p59, F, C8.fnScope_by s59, rfl, rfl, c59, F.bindsN fun _ _ _ _ _ _ us hl => match us, hl with | [_, _], _ => rfl, fun n ks pm h => ?_, fun z => absurd ((show lamB ck (defScope (tpS 79)) = false from by kernel_rfl).symm.trans z) Bool.false_ne_true⟩
  simp only [ck, List.mem_cons, Prod.mk.injEq, List.not_mem_nil, or_false] at h
  obtain ⟨h1, rfl, rfl, rfl⟩ := h
  · exact absurd h1 (by decide)
theorem d157 (c : PL.SaysE fal fn exl K) (tb : Tb K mg base) : DefOk ck K mg base (fA K) 157 ⟨1, 4, b157⟩ := by
  obtain ⟨fd, F⟩ := c.d.def_ 47 (d := mkD "_law_deed" 81) rfl
  refine ⟨_, _, _, _, _, fd, n157, p157, F, C8.fnScope_by s157, rfl, rfl, c157, F.bindsN fun _ _ _ _ _ _ us hl => match us, hl with | [_], _ => rfl, fun n ks pm h => ?_, fun z => absurd ((show lamB ck (defScope (tpS 81)) = false from by kernel_rfl).symm.trans z) Bool.false_ne_true⟩
  simp only [ck, List.mem_cons, Prod.mk.injEq, List.not_mem_nil, or_false] at h
  obtain ⟨h1, rfl, rfl, rfl⟩ := h
  · exact absurd h1 (by decide)
theorem d158 (c : PL.SaysE fal fn exl K) (tb : Tb K mg base) : DefOk ck K mg base (fA K) 158 ⟨1, 2, b158⟩ := by
  obtain ⟨fd, F⟩ := c.d.def_ 48 (d := mkD "_law_word" 82) rfl
  refine ⟨_, _, _, _, _, fd, n158, p158, F, C8.fnScope_by s158, rfl, rfl, c158, F.bindsN fun _ _ _ _ _ _ us hl => match us, hl with | [_], _ => rfl, fun n ks pm h => ?_, fun z => absurd ((show lamB ck (defScope (tpS 82)) = false from by kernel_rfl).symm.trans z) Bool.false_ne_true⟩
  simp only [ck, List.mem_cons, Prod.mk.injEq, List.not_mem_nil, or_false] at h
  obtain ⟨h1, rfl, rfl, rfl⟩ := h
  · exact absurd h1 (by decide)
theorem d159 (c : PL.SaysE fal fn exl K) (tb : Tb K mg base) : DefOk ck K mg base (fA K) 159 ⟨1, 2, b159⟩ := by
  obtain ⟨fd, F⟩ := c.d.def_ 49 (d := mkD "_law_text" 83) rfl
  refine ⟨_, _, _, _, _, fd, n159, p159, F, C8.fnScope_by s159, rfl, rfl, c159, F.bindsN fun _ _ _ _ _ _ us hl => match us, hl with | [_], _ => rfl, fun n ks pm h => ?_, fun z => absurd ((show lamB ck (defScope (tpS 83)) = false from by kernel_rfl).symm.trans z) Bool.false_ne_true⟩
  simp only [ck, List.mem_cons, Prod.mk.injEq, List.not_mem_nil, or_false] at h
  obtain ⟨h1, rfl, rfl, rfl⟩ := h
  · exact absurd h1 (by decide)
theorem d172 (c : PL.SaysE fal fn exl K) (tb : Tb K mg base) : DefOk ck K mg base (fA K) 172 ⟨2, 5, b172⟩ := by
  obtain ⟨fd, F⟩ := c.d.def_ 50 (d := mkD "_law_done" 87) rfl
  refine ⟨_, _, _, _, _, fd, n172, p172, F, C8.fnScope_by s172, rfl, rfl, c172, F.bindsN fun _ _ _ _ _ _ us hl => match us, hl with | [_, _], _ => rfl, fun n ks pm h => ?_, fun z => absurd ((show lamB ck (defScope (tpS 87)) = false from by kernel_rfl).symm.trans z) Bool.false_ne_true⟩
  simp only [ck, List.mem_cons, Prod.mk.injEq, List.not_mem_nil, or_false] at h
  obtain ⟨h1, rfl, rfl, rfl⟩ := h
  · exact absurd h1 (by decide)
theorem d173 (c : PL.SaysE fal fn exl K) (tb : Tb K mg base) : DefOk ck K mg base (fA K) 173 ⟨2, 6, b173⟩ := by
  obtain ⟨fd, F⟩ := c.d.def_ 51 (d := mkD "_law_fitting" 88) rfl
  refine ⟨_, _, _, _, _, fd, n173, p173, F, C8.fnScope_by s173, rfl, rfl, c173, F.bindsN fun _ _ _ _ _ _ us hl => match us, hl with | [_, _], _ => rfl, fun n ks pm h => ?_, fun z => absurd ((show lamB ck (defScope (tpS 88)) = false from by kernel_rfl).symm.trans z) Bool.false_ne_true⟩
  simp only [ck, List.mem_cons, Prod.mk.injEq, List.not_mem_nil, or_false] at h
  obtain ⟨h1, rfl, rfl, rfl⟩ := h
  · exact absurd h1 (by decide)
theorem d174 (c : PL.SaysE fal fn exl K) (tb : Tb K mg base) : DefOk ck K mg base (fA K) 174 ⟨3, 13, b174⟩ := by
  obtain ⟨fd, F⟩ := c.d.def_ 52 (d := mkD "_law_is_right" 89) rfl
  refine ⟨_, _, _, _, _, fd, n174, p174, F, C8.fnScope_by s174, rfl, rfl, c174, F.bindsN fun _ _ _ _ _ _ us hl => match us, hl with | [_, _, _], _ => rfl, fun n ks pm h => ?_, fun _ => PL.lam_ok (x := "_law_is_right") tb.t tb.b (c.more 10 rfl) F (show (("_law_is_right" : Str), (none : Option Str)) ∈ tf from by simp [tf])⟩
  simp only [ck, List.mem_cons, Prod.mk.injEq, List.not_mem_nil, or_false] at h
  obtain ⟨h1, rfl, rfl, rfl⟩ := h
  · exact absurd h1 (by decide)
theorem d175 (c : PL.SaysE fal fn exl K) (tb : Tb K mg base) : DefOk ck K mg base (fA K) 175 ⟨3, 6, b175⟩ := by
  obtain ⟨fd, F⟩ := c.d.def_ 53 (d := mkD "_law_single_right" 90) rfl
  refine ⟨_, _, _, _, _, fd, n175, p175, F, C8.fnScope_by s175, rfl, rfl, c175, F.bindsN fun _ _ _ _ _ _ us hl => match us, hl with | [_, _, _], _ => rfl, fun n ks pm h => ?_, fun _ => PL.lam_ok (x := "_law_single_right") tb.t tb.b (c.more 10 rfl) F (show (("_law_single_right" : Str), (none : Option Str)) ∈ tf from by simp [tf])⟩
  simp only [ck, List.mem_cons, Prod.mk.injEq, List.not_mem_nil, or_false] at h
  obtain ⟨h1, rfl, rfl, rfl⟩ := h
  · exact absurd h1 (by decide)
theorem d176 (c : PL.SaysE fal fn exl K) (tb : Tb K mg base) : DefOk ck K mg base (fA K) 176 ⟨1, 6, b176⟩ := by
  obtain ⟨fd, F⟩ := c.d.def_ 54 (d := mkD "_law_right" 91) rfl
  refine ⟨_, _, _, _, _, fd, n176, p176, F, C8.fnScope_by s176, rfl, rfl, c176, F.bindsN fun _ _ _ _ _ _ us hl => match us, hl with | [_], _ => rfl, fun n ks pm h => ?_, fun _ => PL.lam_ok (x := "_law_right") tb.t tb.b (c.more 10 rfl) F (show (("_law_right" : Str), (none : Option Str)) ∈ tf from by simp [tf])⟩
  simp only [ck, List.mem_cons, Prod.mk.injEq, List.not_mem_nil, or_false] at h
  obtain ⟨h1, rfl, rfl, rfl⟩ := h
  · exact absurd h1 (by decide)
theorem d177 (c : PL.SaysE fal fn exl K) (tb : Tb K mg base) : DefOk ck K mg base (fA K) 177 ⟨1, 9, b177⟩ := by
  obtain ⟨fd, F⟩ := c.d.def_ 55 (d := mkD "law" 92) rfl
  refine ⟨_, _, _, _, _, fd, n177, p177, F, C8.fnScope_by s177, rfl, rfl, c177, F.bindsN fun _ _ _ _ _ _ us hl => match us, hl with | [_], _ => rfl, fun n ks pm h => ?_, fun z => absurd ((show lamB ck (defScope (tpS 92)) = false from by kernel_rfl).symm.trans z) Bool.false_ne_true⟩
  simp only [ck, List.mem_cons, Prod.mk.injEq, List.not_mem_nil, or_false] at h
  obtain ⟨h1, rfl, rfl, rfl⟩ := h
  · exact absurd h1 (by decide)
theorem dAll (c : PL.SaysE fal fn exl K) (tb : Tb K mg base) : ∀ f F, T f = some F → DefOk ck K mg base (fA K) f F := fun f F h => by
  unfold T at h
  split at h <;> first | (cases h; done) | (injection h with h; subst h)
  · exact d0 c tb
  · exact d1 c tb
  · exact d92 c tb
  · exact d93 c tb
  · exact d2 c tb
  · exact d5 c tb
  · exact d6 c tb
  · exact d7 c tb
  · exact d69 c tb
  · exact d8 c tb
  · exact d9 c tb
  · exact d10 c tb
  · exact d11 c tb
  · exact d70 c tb
  · exact d105 c tb
  · exact d77 c tb
  · exact d106 c tb
  · exact d107 c tb
  · exact d149 c tb
  · exact d109 c tb
  · exact d110 c tb
  · exact d167 c tb
  · exact d35 c tb
  · exact d39 c tb
  · exact d40 c tb
  · exact d75 c tb
  · exact d124 c tb
  · exact d126 c tb
  · exact d152 c tb
  · exact d153 c tb
  · exact d132 c tb
  · exact d155 c tb
  · exact d168 c tb
  · exact d112 c tb
  · exact d78 c tb
  · exact d169 c tb
  · exact d170 c tb
  · exact d50 c tb
  · exact d51 c tb
  · exact d52 c tb
  · exact d53 c tb
  · exact d54 c tb
  · exact d55 c tb
  · exact d56 c tb
  · exact d57 c tb
  · exact d58 c tb
  · exact d59 c tb
  · exact d157 c tb
  · exact d158 c tb
  · exact d159 c tb
  · exact d172 c tb
  · exact d173 c tb
  · exact d174 c tb
  · exact d175 c tb
  · exact d176 c tb
  · exact d177 c tb
theorem nam : ∀ f F, T f = some F → ∃ x, ck.fns.lookup x = some (f, F.ps) := fun f F h => by
  unfold T at h
  split at h <;> first | (cases h; done) | (injection h with h; subst h)
  · exact ⟨"is_whole", by kernel_rfl⟩
  · exact ⟨"is_between", by kernel_rfl⟩
  · exact ⟨"is_tuple_of", by kernel_rfl⟩
  · exact ⟨"are_wholes", by kernel_rfl⟩
  · exact ⟨"is_text_of", by kernel_rfl⟩
  · exact ⟨"place_count", by kernel_rfl⟩
  · exact ⟨"is_picture_of", by kernel_rfl⟩
  · exact ⟨"is_pictured", by kernel_rfl⟩
  · exact ⟨"is_letter_of", by kernel_rfl⟩
  · exact ⟨"is_choice_of", by kernel_rfl⟩
  · exact ⟨"lot_count_of", by kernel_rfl⟩
  · exact ⟨"lot_of", by kernel_rfl⟩
  · exact ⟨"index_of", by kernel_rfl⟩
  · exact ⟨"old_places", by kernel_rfl⟩
  · exact ⟨"is_order_of", by kernel_rfl⟩
  · exact ⟨"named_anew_by", by kernel_rfl⟩
  · exact ⟨"inside_out_by", by kernel_rfl⟩
  · exact ⟨"are_unlike_lots", by kernel_rfl⟩
  · exact ⟨"is_deed", by kernel_rfl⟩
  · exact ⟨"with_step", by kernel_rfl⟩
  · exact ⟨"moved", by kernel_rfl⟩
  · exact ⟨"behind_deed", by kernel_rfl⟩
  · exact ⟨"check_picture", by kernel_rfl⟩
  · exact ⟨"check_choice", by kernel_rfl⟩
  · exact ⟨"check_picture_choice", by kernel_rfl⟩
  · exact ⟨"check_order", by kernel_rfl⟩
  · exact ⟨"count_told", by kernel_rfl⟩
  · exact ⟨"choice_told", by kernel_rfl⟩
  · exact ⟨"part_told", by kernel_rfl⟩
  · exact ⟨"deed_of_text", by kernel_rfl⟩
  · exact ⟨"check_told", by kernel_rfl⟩
  · exact ⟨"read_deed", by kernel_rfl⟩
  · exact ⟨"replayed", by kernel_rfl⟩
  · exact ⟨"done", by kernel_rfl⟩
  · exact ⟨"named_anew", by kernel_rfl⟩
  · exact ⟨"inside_out", by kernel_rfl⟩
  · exact ⟨"_law_pot", by kernel_rfl⟩
  · exact ⟨"_law_draw", by kernel_rfl⟩
  · exact ⟨"_law_pick", by kernel_rfl⟩
  · exact ⟨"_law_same", by kernel_rfl⟩
  · exact ⟨"_law_picture", by kernel_rfl⟩
  · exact ⟨"_law_many", by kernel_rfl⟩
  · exact ⟨"_law_choice", by kernel_rfl⟩
  · exact ⟨"_law_index", by kernel_rfl⟩
  · exact ⟨"_law_order", by kernel_rfl⟩
  · exact ⟨"_law_anew", by kernel_rfl⟩
  · exact ⟨"_law_inside", by kernel_rfl⟩
  · exact ⟨"_law_deed", by kernel_rfl⟩
  · exact ⟨"_law_word", by kernel_rfl⟩
  · exact ⟨"_law_text", by kernel_rfl⟩
  · exact ⟨"_law_done", by kernel_rfl⟩
  · exact ⟨"_law_fitting", by kernel_rfl⟩
  · exact ⟨"_law_is_right", by kernel_rfl⟩
  · exact ⟨"_law_single_right", by kernel_rfl⟩
  · exact ⟨"_law_right", by kernel_rfl⟩
  · exact ⟨"law", by kernel_rfl⟩
theorem fns {h : Heap} (X : K.In h) (G : h.Ns mainGlobals mg) (c : PL.SaysE fal fn exl K) : ∀ q ∈ ck.fns, mg q.1 = some (.ref (fA K q.2.1)) ∧ ∃ F, T q.2.1 = some F ∧ F.ps = q.2.2 :=
  (f_cons ⟨He.glo_ok X G (c.d.fact 0 rfl), _, rfl, rfl⟩ (f_cons ⟨He.glo_ok X G (c.d.fact 1 rfl), _, rfl, rfl⟩ (f_cons ⟨He.glo_ok X G (c.d.fact 2 rfl), _, rfl, rfl⟩ (f_cons ⟨He.glo_ok X G (c.d.fact 3 rfl), _, rfl, rfl⟩ (f_cons ⟨He.glo_ok X G (c.d.fact 4 rfl), _, rfl, rfl⟩ (f_cons ⟨He.glo_ok X G (c.d.fact 5 rfl), _, rfl, rfl⟩ (f_cons ⟨He.glo_ok X G (c.d.fact 6 rfl), _, rfl, rfl⟩ (f_cons ⟨He.glo_ok X G (c.d.fact 7 rfl), _, rfl, rfl⟩ (f_cons ⟨He.glo_ok X G (c.d.fact 8 rfl), _, rfl, rfl⟩ (f_cons ⟨He.glo_ok X G (c.d.fact 9 rfl), _, rfl, rfl⟩ (f_cons ⟨He.glo_ok X G (c.d.fact 10 rfl), _, rfl, rfl⟩ (f_cons ⟨He.glo_ok X G (c.d.fact 11 rfl), _, rfl, rfl⟩ (f_cons ⟨He.glo_ok X G (c.d.fact 12 rfl), _, rfl, rfl⟩ (f_cons ⟨He.glo_ok X G (c.d.fact 13 rfl), _, rfl, rfl⟩ (f_cons ⟨He.glo_ok X G (c.d.fact 14 rfl), _, rfl, rfl⟩ (f_cons ⟨He.glo_ok X G (c.d.fact 15 rfl), _, rfl, rfl⟩ (f_cons ⟨He.glo_ok X G (c.d.fact 16 rfl), _, rfl, rfl⟩ (f_cons ⟨He.glo_ok X G (c.d.fact 17 rfl), _, rfl, rfl⟩ (f_cons ⟨He.glo_ok X G (c.d.fact 18 rfl), _, rfl, rfl⟩ (f_cons ⟨He.glo_ok X G (c.d.fact 19 rfl), _, rfl, rfl⟩ (f_cons ⟨He.glo_ok X G (c.d.fact 20 rfl), _, rfl, rfl⟩ (f_cons ⟨He.glo_ok X G (c.d.fact 21 rfl), _, rfl, rfl⟩ (f_cons ⟨He.glo_ok X G (c.d.fact 22 rfl), _, rfl, rfl⟩ (f_cons ⟨He.glo_ok X G (c.d.fact 23 rfl), _, rfl, rfl⟩ (f_cons ⟨He.glo_ok X G (c.d.fact 24 rfl), _, rfl, rfl⟩ (f_cons ⟨He.glo_ok X G (c.d.fact 25 rfl), _, rfl, rfl⟩ (f_cons ⟨He.glo_ok X G (c.d.fact 26 rfl), _, rfl, rfl⟩ (f_cons ⟨He.glo_ok X G (c.d.fact 27 rfl), _, rfl, rfl⟩ (f_cons ⟨He.glo_ok X G (c.d.fact 28 rfl), _, rfl, rfl⟩ (f_cons ⟨He.glo_ok X G (c.d.fact 29 rfl), _, rfl, rfl⟩ (f_cons ⟨He.glo_ok X G (c.d.fact 30 rfl), _, rfl, rfl⟩ (f_cons ⟨He.glo_ok X G (c.d.fact 31 rfl), _, rfl, rfl⟩ (f_cons ⟨He.glo_ok X G (c.d.fact 32 rfl), _, rfl, rfl⟩ (f_cons ⟨He.glo_ok X G (c.d.fact 33 rfl), _, rfl, rfl⟩ (f_cons ⟨He.glo_ok X G (c.d.fact 34 rfl), _, rfl, rfl⟩ (f_cons ⟨He.glo_ok X G (c.d.fact 35 rfl), _, rfl, rfl⟩ (f_cons ⟨He.glo_ok X G (c.d.fact 36 rfl), _, rfl, rfl⟩ (f_cons ⟨He.glo_ok X G (c.d.fact 37 rfl), _, rfl, rfl⟩ (f_cons ⟨He.glo_ok X G (c.d.fact 38 rfl), _, rfl, rfl⟩ (f_cons ⟨He.glo_ok X G (c.d.fact 39 rfl), _, rfl, rfl⟩ (f_cons ⟨He.glo_ok X G (c.d.fact 40 rfl), _, rfl, rfl⟩ (f_cons ⟨He.glo_ok X G (c.d.fact 41 rfl), _, rfl, rfl⟩ (f_cons ⟨He.glo_ok X G (c.d.fact 42 rfl), _, rfl, rfl⟩ (f_cons ⟨He.glo_ok X G (c.d.fact 43 rfl), _, rfl, rfl⟩ (f_cons ⟨He.glo_ok X G (c.d.fact 44 rfl), _, rfl, rfl⟩ (f_cons ⟨He.glo_ok X G (c.d.fact 45 rfl), _, rfl, rfl⟩ (f_cons ⟨He.glo_ok X G (c.d.fact 46 rfl), _, rfl, rfl⟩ (f_cons ⟨He.glo_ok X G (c.d.fact 47 rfl), _, rfl, rfl⟩ (f_cons ⟨He.glo_ok X G (c.d.fact 48 rfl), _, rfl, rfl⟩ (f_cons ⟨He.glo_ok X G (c.d.fact 49 rfl), _, rfl, rfl⟩ (f_cons ⟨He.glo_ok X G (c.d.fact 50 rfl), _, rfl, rfl⟩ (f_cons ⟨He.glo_ok X G (c.d.fact 51 rfl), _, rfl, rfl⟩ (f_cons ⟨He.glo_ok X G (c.d.fact 52 rfl), _, rfl, rfl⟩ (f_cons ⟨He.glo_ok X G (c.d.fact 53 rfl), _, rfl, rfl⟩ (f_cons ⟨He.glo_ok X G (c.d.fact 54 rfl), _, rfl, rfl⟩ (f_cons ⟨He.glo_ok X G (c.d.fact 55 rfl), _, rfl, rfl⟩ f_nil))))))))))))))))))))))))))))))))))))))))))))))))))))))))
theorem bln {h : Heap} (X : K.In h) (G : h.Ns mainGlobals mg) (c : PL.SaysE fal fn exl K) : ∀ x ∈ blNames, mg x = none :=
  (f_cons (He.free_ok X G (c.d.fact 62 rfl)) (f_cons (He.free_ok X G (c.d.fact 63 rfl)) (f_cons (He.free_ok X G (c.d.fact 64 rfl)) (f_cons (He.free_ok X G (c.d.fact 65 rfl)) (f_cons (He.free_ok X G (c.d.fact 66 rfl)) (f_cons (He.free_ok X G (c.d.fact 67 rfl)) (f_cons (He.free_ok X G (c.d.fact 68 rfl)) (f_cons (He.free_ok X G (c.d.fact 69 rfl)) (f_cons (He.free_ok X G (c.d.fact 70 rfl)) (f_cons (He.free_ok X G (c.d.fact 71 rfl)) (f_cons (He.free_ok X G (c.d.fact 72 rfl)) (f_cons (He.free_ok X G (c.d.fact 73 rfl)) (f_cons (He.free_ok X G (c.d.fact 74 rfl)) (f_cons (He.free_ok X G (c.d.fact 75 rfl)) (f_cons (He.free_ok X G (c.d.fact 76 rfl)) (f_cons (He.free_ok X G (c.d.fact 77 rfl)) (f_cons (He.free_ok X G (c.d.fact 78 rfl)) (f_cons (He.free_ok X G (c.d.fact 79 rfl)) f_nil))))))))))))))))))
theorem gls {h : Heap} (X : K.In h) (G : h.Ns mainGlobals mg) (c : PL.SaysE fal fn exl K) : ∀ q ∈ ck.gls, ∃ u v, mg q.1 = some u ∧ RelV v u ∧ ∀ H m β ρ n, RD K (fA K) H m β ρ n (Gc q.2) v :=
  (f_cons (let ⟨t, e⟩ := He.int_ok X G (c.d.fact 80 rfl); ⟨_, .int 99, e, ⟨t, rfl⟩, fun _ _ _ _ _ => .int _⟩) (f_cons (let ⟨t, e⟩ := He.int_ok X G (c.d.fact 81 rfl); ⟨_, .int 4, e, ⟨t, rfl⟩, fun _ _ _ _ _ => .int _⟩) (f_cons (let ⟨t, e⟩ := He.str_ok X G (c.d.fact 82 rfl); ⟨_, .str ⟨[65, 66, 67, 68].toArray⟩, e, ⟨t, rfl⟩, fun _ _ _ _ _ => .str _⟩) (f_cons (let ⟨t, e⟩ := He.str_ok X G (c.d.fact 83 rfl); ⟨_, .str ⟨[109, 111, 118, 101].toArray⟩, e, ⟨t, rfl⟩, fun _ _ _ _ _ => .str _⟩) (f_cons ⟨_, .ref (He.ga K "OF_ONE_PLACE"), He.glo_ok X G (c.d.fact 84 rfl), rfl, fun _ _ _ _ _ => .tupK (PL.stT_of (He.tupB_ok (x := "OF_ONE_PLACE") (vs := [.str "put", .str "take"]) (c.more 0 rfl) fun _ => none) (c.more 1 rfl)) (.cons (.str _) (.cons (.str _) .nil))⟩ (f_cons (let ⟨t, e⟩ := He.str_ok X G (c.d.fact 85 rfl); ⟨_, .str ⟨[116, 117, 114, 110].toArray⟩, e, ⟨t, rfl⟩, fun _ _ _ _ _ => .str _⟩) (f_cons (let ⟨t, e⟩ := He.str_ok X G (c.d.fact 86 rfl); ⟨_, .str ⟨[114, 101, 110, 97, 109, 101].toArray⟩, e, ⟨t, rfl⟩, fun _ _ _ _ _ => .str _⟩) (f_cons (let ⟨t, e⟩ := He.str_ok X G (c.d.fact 87 rfl); ⟨_, .str ⟨[112, 117, 116].toArray⟩, e, ⟨t, rfl⟩, fun _ _ _ _ _ => .str _⟩) (f_cons (let ⟨t, e⟩ := He.str_ok X G (c.d.fact 88 rfl); ⟨_, .str ⟨[48, 49, 50, 51, 52, 53, 54, 55, 56, 57].toArray⟩, e, ⟨t, rfl⟩, fun _ _ _ _ _ => .str _⟩) (f_cons (let ⟨t, e⟩ := He.str_ok X G (c.d.fact 89 rfl); ⟨_, .str ⟨[45].toArray⟩, e, ⟨t, rfl⟩, fun _ _ _ _ _ => .str _⟩) (f_cons ⟨_, .ref (He.ga K "WITH_CHOICES"), He.glo_ok X G (c.d.fact 90 rfl), rfl, fun _ _ _ _ _ => .tupK (PL.stT_of (He.tupB_ok (x := "WITH_CHOICES") (vs := [.str "put", .str "take", .str "move"]) (c.more 2 rfl) fun _ => none) (c.more 3 rfl)) (.cons (.str _) (.cons (.str _) (.cons (.str _) .nil)))⟩ (f_cons (let ⟨t, e⟩ := He.str_ok X G (c.d.fact 91 rfl); ⟨_, .str ⟨[32].toArray⟩, e, ⟨t, rfl⟩, fun _ _ _ _ _ => .str _⟩) (f_cons (let ⟨t, e⟩ := He.int_ok X G (c.d.fact 92 rfl); ⟨_, .int 40, e, ⟨t, rfl⟩, fun _ _ _ _ _ => .int _⟩) (f_cons (let ⟨t, e⟩ := He.int_ok X G (c.d.fact 93 rfl); ⟨_, .int 40, e, ⟨t, rfl⟩, fun _ _ _ _ _ => .int _⟩) f_nil))))))))))))))
theorem ims {h : Heap} (X : K.In h) (G : h.Ns mainGlobals mg) (c : PL.SaysE fal fn exl K) : ∀ q ∈ ck.ims, mg q.1 = some (imV q.2) :=
  f_nil
theorem prm {h : Heap} (X : K.In h) (G : h.Ns mainGlobals mg) (c : PL.SaysE fal fn exl K) : ck.perm = true → mg "permutations" = some (.type "itertools.permutations") := fun e => by cases e
theorem xcs {h : Heap} (X : K.In h) (G : h.Ns mainGlobals mg) (c : PL.SaysE fal fn exl K) : ∀ q ∈ ck.xcs, XcOk K mg q.1 (cA K q.2) (xn q.2) ∧ mg q.1 = some (.ref (cA K q.2)) :=
  (f_cons ⟨(let ⟨_, F⟩ := c.d.def_ 57 (d := mkM "InvalidPicture" "InvalidPicture.__init__" 38) rfl; PL.xcOk_given (He.glo_ok X G (c.d.fact 57 rfl)) (c.more 4 rfl) (by kernel_rfl) F), He.glo_ok X G (c.d.fact 57 rfl)⟩ (f_cons ⟨(let ⟨_, F⟩ := c.d.def_ 58 (d := mkM "InvalidChoice" "InvalidChoice.__init__" 39) rfl; PL.xcOk_given (He.glo_ok X G (c.d.fact 58 rfl)) (c.more 5 rfl) (by kernel_rfl) F), He.glo_ok X G (c.d.fact 58 rfl)⟩ (f_cons ⟨(let ⟨_, F⟩ := c.d.def_ 59 (d := mkM "InvalidOrder" "InvalidOrder.__init__" 41) rfl; PL.xcOk_index (He.glo_ok X G (c.d.fact 59 rfl)) (c.more 6 rfl) (by kernel_rfl) F), He.glo_ok X G (c.d.fact 59 rfl)⟩ (f_cons ⟨(let ⟨_, F⟩ := c.d.def_ 60 (d := mkM "InvalidText" "InvalidText.__init__" 40) rfl; PL.xcOk_given (He.glo_ok X G (c.d.fact 60 rfl)) (c.more 7 rfl) (by kernel_rfl) F), He.glo_ok X G (c.d.fact 60 rfl)⟩ (f_cons ⟨(let ⟨_, F⟩ := c.d.def_ 61 (d := mkM "InvalidDeeds" "InvalidDeeds.__init__" 42) rfl; PL.xcOk_index (He.glo_ok X G (c.d.fact 61 rfl)) (c.more 8 rfl) (by kernel_rfl) F), He.glo_ok X G (c.d.fact 61 rfl)⟩ f_nil)))))
theorem hrs {h : Heap} (X : K.In h) (G : h.Ns mainGlobals mg) (c : PL.SaysE fal fn exl K) : ∀ q ∈ ck.hrs, HrOk K mg (cA K) xn q.1 q.2.1 q.2.2.1 q.2.2.2 :=
  (f_cons (let ⟨_, F⟩ := c.d.def_ 56 (d := mkD "_law_heard" 86) rfl; PL.hr_by (xcs := ck.xcs) (a := "act") (en := "e") (ws := ws__law_heard) F (He.glo_ok X G (c.d.fact 56 rfl)) (C8.fnScope_by (by kernel_rfl)) (F.bindsN fun _ _ _ _ _ _ us hl => match us, hl with | [_], _ => rfl) (fun x k e => xcs X G c _ (PySem.mem_of_lookup e)) (by kernel_rfl) (c.more 9 rfl) (by kernel_rfl)) f_nil)
theorem nl : lamB ck (defScope (tpS 92)) = false := by kernel_rfl
theorem tab {h : Heap} (X : K.In h) (G : h.Ns mainGlobals mg) (c : PL.SaysE fal fn exl K) (tb : Tb K mg base) : TabOk ck K mg base (fA K) T Gc (cA K) xn :=
  ⟨dAll c tb, fun x f np e => fns X G c _ (PySem.mem_of_lookup e), nam, fun x i e => gls X G c _ (PySem.mem_of_lookup e), bln X G c, fun x k e => (xcs X G c _ (PySem.mem_of_lookup e)).1, fun x f e => ims X G c _ (PySem.mem_of_lookup e), prm X G c, fun x tp w ws e => hrs X G c _ (PySem.mem_of_lookup e)⟩
end
theorem rd_scr [Tbl] {K : PySem.W.Frag} {fa : Nat → Addr} {H : Hp} {a : Addr} {ns : List Int} (hT : LamX.Tabs Tbl.T H) (S : SqL K H a (ns.map V.int)) : RDs K fa H (Mu [] []) [] [] 0 [.scr (ns.map .int)] [.ref a] := by
  have r : RDs K fa H (Mu [] []) [] [] 0 (ns.map .int) (ns.map V.int) := rds_ints ns
  rcases S with S | S
  · have nt : ¬ PL.tbAt a := fun ⟨q, hq⟩ => by
      obtain ⟨ps, e, _⟩ := hT _ hq
      rcases S with S | ⟨o, S⟩ <;> (rw [S] at e; cases e)
    exact .cons (.scrH S (fun z => z.elim nt fun ⟨i, _, h, _⟩ => by simp at h) (by simp) r) .nil
  · exact .cons (.scrK S r) .nil
theorem pure_law (ns : List Int) (hl : ns.length ≤ 63) : ∃ st, PL.call T Gc 100000 60 177 [.scr (ns.map .int)] [] = .ok (.bl true) st := law80 ns hl
end Lw
open PySem PySem.W PySem.Calls PyProof.Rows
theorem PySem.Challenge.cw_lotoverlaps_k80_whole_deeds_replayed_holds : PySem.Challenge.rw_lotoverlaps_k80_whole_deeds_replayed.Holds := by
  w_on; o_law
  refine HandSHeadRun.head_any (r := OpenLaw.row PySem.Challenge.rw_lotoverlaps_k80_whole_deeds_replayed) (q := view (OpenLaw.row PySem.Challenge.rw_lotoverlaps_k80_whole_deeds_replayed).prog [92]) (H := Lw.hk) (ob := Lw.ob) (M := 20000) (loose := Lw.loose) (d := HandSHeadRun.topDef (OpenLaw.row PySem.Challenge.rw_lotoverlaps_k80_whole_deeds_replayed).prog 92) (kwd := []) Lw.ob_eq
    (by kernel_rfl) (fun s => by kernel_rfl) Lw.run (by kernel_rfl) (by kernel_rfl) (by kernel_rfl) (by rfl) (by first | assumption | decide +kernel) (by decide +kernel) ⟨rfl, rfl, rfl, rfl, rfl, by decide +kernel⟩ ?hw ?hc
  case hw => w_witness2
  case hc =>
    refine LamX.walk_ofTsE (l := PySem.Challenge.rw_lotoverlaps_k80_whole_deeds_replayed) (n := 63) (k := 180) (x := "script") (CX := fun w => L2.CX PySem.Challenge.rw_lotoverlaps_k80_whole_deeds_replayed.prog w) rfl (by decide) (by kernel_rfl) ⟨rfl, by decide, by decide⟩ ?F (fun _ _ _ _ _ z => (letI : PL.Tbl := ⟨[]⟩; PL.cx_false z))
    intro w mg fa h Y G hmg0
    obtain ⟨K, KX, c, t⟩ := Y
    have hmg : mg ("law" : PySem.Str) = some (.ref fa) := by
      have e : (HandSHeadRun.topDef (OpenLaw.row PySem.Challenge.rw_lotoverlaps_k80_whole_deeds_replayed).prog 92).name = ("law" : PySem.Str) := by kernel_rfl
      rw [← e]
      exact hmg0
    obtain ⟨fd, F⟩ := c.d.def_ 55 (d := Lw.mkD "law" 92) rfl
    have e := hmg.symm.trans (He.glo_ok KX G (c.d.fact 55 (f := .glo "law") rfl))
    cases e
    have b := F.bindsA (ps := ["script"]) fun _ _ _ _ _ _ us hl => match us, hl with | [_], _ => rfl
    letI : PL.Tbl := ⟨PL.tbT Lw.tf K⟩
    refine ⟨K, KX, fd, Lw.tf.map (He.cT K), _, fun p hp => ?_, fun p hp => ?_, fun p hp => ?_, fun s v => b s [v] rfl, ?_, fun base KB NB TB =>
      (have tb := Lw.tab (base := base) KX G c ⟨rfl, fun p hp => TB _ (List.mem_map.mpr ⟨p, hp, rfl⟩)⟩
       PL.fn_one (n := 59) (f := 177) (W := 100000) tb rfl (PL.fn_ok tb 59) F (C8.fnScope_by Lw.s177) rfl rfl Lw.c177 fun z => absurd (Lw.nl.symm.trans z) Bool.false_ne_true)⟩
    · obtain ⟨r, hr, rfl⟩ := List.mem_map.mp hp
      exact t.empty r hr
    · obtain ⟨r, hr, rfl⟩ := List.mem_map.mp hp
      exact t.out r hr
    · obtain ⟨r, hr, rfl⟩ := List.mem_map.mp hp
      exact PySem.W.codeHd_of_K KX (t.hd r hr)
    · intro H a ns hl _ hH hS
      have hTb : LamX.Tabs PL.Tbl.T H := fun p hp => by
        obtain ⟨r, hr, rfl⟩ := List.mem_map.mp hp
        exact LamX.TabS.nil (hH _ (List.mem_map.mpr ⟨r, hr, rfl⟩))
      obtain ⟨st, hr⟩ := Lw.pure_law ns hl
      refine ⟨[], [], [], [.scr (ns.map .int)], ⟨fun i j a h => by simp at h, rfl, fun i o h => by simp at h, (fun b hb => nomatch hb), hTb⟩, Lw.rd_scr hTb hS, rfl, ?_⟩
      rw [hr]
      intro v H' ρ' a1 S1 r1
      cases r1
      rfl

