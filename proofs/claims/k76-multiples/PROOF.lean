import PyProof.Rows.All
import Wide.All
import OpenK.AllK
import Wide.FinOn
import KE.KStateDown
import HandS.ForExc
import HandS.ForMost
import HandS.Walk
import HandS.IsInst
import HandS.StrMore
import HandS.Deep
import HandS.Style
import HandS.Defaults
import HandS.Zip
import HandS.Rev
import HandS.SetFor
import HandS.RaiseMore
import HandS.TupAny
import HandS.TupMul
import HandS.TupLe
import KE.KIndexOf
import KE.KSortedM
import HandS.Replace
import HandS.CallLocal
import HandS.Codes
import KE.GoesEnum
import HandS.Conv
import HandS.Head0
import HandS.Head1
import HandS.Head2
import HandS.HeadEnd
import HandS.HeadHook1
import HandS.HeadHook2
import PySem.Challenge.RW_lotoverlaps_k76_whole_pictures_of_multip
set_option Elab.async false
set_option linter.all false
set_option maxRecDepth 100000
/-! A small language with plain values: what a def of the text computes, without heap, addresses, tokens. -/
namespace PL

/-- a plain value: a text is its code points; frz a list that nobody changes any more, scr the script, lst a list in the store, by its number -/
inductive D where
  | non | bl (b : Bool) | int (i : Int) | str (s : List Nat)
  | tup (ds : List D) | frz (ds : List D) | scr (ds : List D) | lst (id : Nat) | fn (k : Nat)
/-- what stands in the store: a list; a list that a loop walks; a list that nobody changes any more -/
inductive Obj where
  | lst (ds : List D) | lck (ds : List D) | fz (ds : List D)
def Obj.its : Obj → List D
  | .lst ds => ds
  | .lck ds => ds
  | .fz ds => ds
abbrev Sto := List Obj
abbrev Env := List (Option D)
inductive R (α : Type) where
  | ok (a : α) (st : Sto)
  | exn (c : Nat) (d : D) (st : Sto)
  | bad
def R.bind {α β : Type} (r : R α) (f : α → Sto → R β) : R β := match r with
  | .ok a st => f a st
  | .exn c d st => .exn c d st
  | .bad => .bad

inductive Op where
  | add | sub | mul | fdiv | mod | pow | shl | shr | band | bor | bxor
  deriving DecidableEq
inductive Cm where
  | eq | ne | lt | le | gt | ge | is | isn | mem | nmem
  deriving DecidableEq
inductive Ty where
  | int | str | bool | list | tuple
  deriving DecidableEq
/-- built-in functions -/
inductive Bl where
  | len | sum | all | any | int | abs | min2 | max2 | divmod | tuple | list | sorted
  deriving DecidableEq
/-- methods -/
inductive Mt where
  | append | pop | popAt | index | count | join | bitlen
  deriving DecidableEq

mutual
inductive E where
  | non | bl (b : Bool) | int (i : Int) | str (s : List Nat)
  | var (i : Nat) | glb (k : Nat) | fnv (k : Nat)
  | bin (o : Op) (a b : E) | neg (a : E) | not (a : E) | and (a b : E) | or (a b : E)
  | cmp (o : Cm) (a b : E) | chn (o p : Cm) (a b c : E) | ife (c a b : E)
  | call (f : Nat) (as : Es) | callk (f : Nat) (as ks : Es) (pm : List Nat) | callv (i : Nat) (as : Es)
  | blt (b : Bl) (as : Es) | isi (a : E) (t : Ty) | mth (m : Mt) (o : E) (as : Es)
  | idx (a b : E) | slc (a : E) (lo hi : Oe)
  | tup (as : Es) | list (as : Es)
  | comp (own : List Nat) (elt : E) (tg : Tg) (it : It) (c : Oe)
  | tidx (as : Es) (e : E)
  | thaw (a : E) | frz (a : E)
  | rgv (tp : Bool) (lo : Oe) (b : E)
inductive Es where
  | nil | cons (e : E) (es : Es)
inductive Oe where
  | none | some (e : E)
inductive It where
  | val (e : E) | rng1 (a : E) | rng2 (a b : E) | rng3 (a b : E) (c : Int) | enum (e : E) | zip (a b : E)
inductive Tg where
  | var (i : Nat) | idx (a b : E) | tup (ts : Tgs)
inductive Tgs where
  | nil | cons (t : Tg) (ts : Tgs)
end
mutual
inductive S where
  | asg (t : Tg) (e : E) | par (is : List Nat) (es : Es) | ifs (c : E) (a b : Ss) | whl (c : E) (b : Ss) | fr (t : Tg) (it : It) (b : Ss)
  | ret (e : E) | retn | exp (e : E) | pas | brk | cnt | nev
inductive Ss where
  | nil | cons (s : S) (ss : Ss)
end
def tgLen : Tgs → Nat
  | .nil => 0
  | .cons _ ts => tgLen ts + 1
/-- a def: how many parameters, how many names, the body -/
structure Fd where
  ps : Nat
  nl : Nat
  body : Ss
/-- behind a statement -/
inductive Fl where
  | nx (env : Env) | rt (d : D) | bk (env : Env) | ct (env : Env)

/-! ### values -/
def b2i (b : Bool) : Int := if b then 1 else 0
mutual
/-- == of data -/
def dEq : D → D → Bool
  | .non, e => (match e with | .non => true | _ => false)
  | .bl a, e => (match e with | .bl b => a == b | .int j => b2i a == j | _ => false)
  | .int i, e => (match e with | .int j => i == j | .bl b => i == b2i b | _ => false)
  | .str x, e => (match e with | .str y => x == y | _ => false)
  | .tup xs, e => (match e with | .tup ys => dEqs xs ys | _ => false)
  | .frz xs, e => (match e with | .frz ys => dEqs xs ys | _ => false)
  | .scr _, _ => false
  | .lst _, _ => false
  | .fn _, _ => false
def dEqs : List D → List D → Bool
  | [], e => (match e with | [] => true | _ :: _ => false)
  | x :: xs, e => (match e with | [] => false | y :: ys => dEq x y && dEqs xs ys)
end
/-- data, so many levels deep at most -/
def dOk : Nat → D → Bool
  | 0, d => (match d with | .non => true | .bl _ => true | .int _ => true | .str s => s.all (· < 0x110000) | _ => false)
  | k + 1, d => (match d with | .non => true | .bl _ => true | .int _ => true | .str s => s.all (· < 0x110000) | .tup ds => ds.all (dOk k) | .frz ds => ds.all (dOk k) | _ => false)
mutual
/-- all lists of the store that a value names are older than number n -/
def refsLt (n : Nat) : D → Bool
  | .tup ds => refsLts n ds
  | .frz ds => refsLts n ds
  | .scr ds => refsLts n ds
  | .lst i => Nat.blt i n
  | _ => true
def refsLts (n : Nat) : List D → Bool
  | [] => true
  | d :: ds => refsLt n d && refsLts n ds
end
/-- a list's items -/
def lv (st : Sto) : D → Option (List D)
  | .frz ds => some ds
  | .scr ds => some ds
  | .lst i => (match st[i]? with | some o => some o.its | none => none)
  | _ => none
/-- a list's or a tuple's items -/
def sv (st : Sto) : D → Option (List D)
  | .tup ds => some ds
  | d => lv st d
/-- a list of the store as it stands -/
def top (st : Sto) : D → D
  | .lst i => (match lv st (.lst i) with | some ds => .frz ds | none => .lst i)
  | d => d
/-- ints | bools | texts alone -/
def intsOf : List D → Option (List Int)
  | [] => some []
  | .int i :: r => (intsOf r).map (i :: ·)
  | _ :: _ => none
def blsOf : List D → Option (List Bool)
  | [] => some []
  | .bl b :: r => (blsOf r).map (b :: ·)
  | _ :: _ => none
def strsOf : List D → Option (List (List Nat))
  | [] => some []
  | .str s :: r => (strsOf r).map (s :: ·)
  | _ :: _ => none
def isInst (t : Ty) : D → Option Bool
  | .non => some false
  | .bl _ => some (match t with | .int => true | .bool => true | _ => false)
  | .int _ => some (match t with | .int => true | _ => false)
  | .str _ => some (match t with | .str => true | _ => false)
  | .tup _ => some (match t with | .tuple => true | _ => false)
  | .frz _ => some (match t with | .list => true | _ => false)
  | .lst _ => some (match t with | .list => true | _ => false)
  | _ => none
/-- an item by its index, from the end too -/
def ixN (n : Nat) (i : Int) : Option Nat := if 0 ≤ i then (if i < n then some i.toNat else none) else if -(n : Int) ≤ i then some (i + n).toNat else none
def atI {α : Type} (xs : List α) (i : Int) : Option α := (ixN xs.length i).bind fun j => xs[j]?
def sIx (n d : Nat) : Option Int → Nat
  | none => d
  | some v => if v < 0 then (v + (n : Int)).toNat else min v.toNat n
def cut {α : Type} (xs : List α) (lo hi : Option Int) : List α := (xs.drop (sIx xs.length 0 lo)).take (sIx xs.length xs.length hi - sIx xs.length 0 lo)
def szOk (n : Nat) : Bool := Nat.ble n 16777216
def szLt (n : Nat) : Bool := Nat.blt n 16777216
def small (i : Int) : Bool := decide (-(2 ^ 64) < i) && decide (i < 2 ^ 64)

/-- x[i], x[lo:hi] -/
def ixD (st : Sto) (x : D) (i : Int) : Option D := match x with
  | .str s => if szOk s.length then (atI s i).map fun c => .str [c] else none
  | x => (sv st x).bind fun ds => atI ds i
def slD (st : Sto) (x : D) (lo hi : Option Int) : Option D := match x with
  | .str s => if szOk s.length then some (.str (cut s lo hi)) else none
  | .tup ds => some (.tup (cut ds lo hi))
  | x => (lv st x).map fun ds => .frz (cut ds lo hi)

/-! ### operators -/
def iop : Op → Int → Int → Option Int
  | .add, i, j => some (i + j)
  | .sub, i, j => some (i - j)
  | .mul, i, j => if small i || small j then some (i * j) else none
  | .fdiv, i, j => if decide (0 < j) && decide (j < 1073741824) then some (i / j) else none
  | .mod, i, j => if 0 < j then some (i % j) else none
  | .pow, i, j => if decide (0 ≤ j) && (decide (j ≤ 1000000) && decide (i.natAbs < 2 ^ 64)) then some (i ^ j.toNat) else none
  | .shl, i, j => if decide (0 ≤ j) && (decide (j ≤ 1000000) && decide (i.natAbs < 2 ^ 64)) then some (i * 2 ^ j.toNat) else none
  | .shr, i, j => if 0 ≤ j then some (i / 2 ^ j.toNat) else none
  | .band, i, j => some (PySem.Builtin.bitAnd i j)
  | .bor, i, j => some (PySem.Builtin.bitOr i j)
  | .bxor, i, j => some (PySem.Builtin.bitXor i j)
def rep (xs : List D) (k : Int) : Option D := if decide (-(2 ^ 63) ≤ k) && (decide (k < 2 ^ 63) && szOk (xs.length * k.toNat)) then some (.frz (List.replicate k.toNat xs).flatten) else none
def bop (st : Sto) (o : Op) (x y : D) : Option D := match x, y with
  | .int i, .int j => (iop o i j).map .int
  | .str a, .str b => (match o with | .add => if szOk (a.length + b.length) then some (.str (a ++ b)) else none | _ => none)
  | .tup a, .tup b => (match o with | .add => if szOk (a.length + b.length) then some (.tup (a ++ b)) else none | _ => none)
  | .frz a, .frz b => (match o with | .add => if szOk (a.length + b.length) then some (.frz (a ++ b)) else none | _ => none)
  | .frz a, .lst j => (match o, lv st (.lst j) with | .add, some b => if szOk (a.length + b.length) then some (.frz (a ++ b)) else none | _, _ => none)
  | .lst i, .frz b => (match o, lv st (.lst i) with | .add, some a => if szOk (a.length + b.length) then some (.frz (a ++ b)) else none | _, _ => none)
  | .lst i, .lst j => (match o, lv st (.lst i), lv st (.lst j) with | .add, some a, some b => if szOk (a.length + b.length) then some (.frz (a ++ b)) else none | _, _, _ => none)
  | .frz a, .int k => (match o with | .mul => rep a k | _ => none)
  | .lst i, .int k => (match o, lv st (.lst i) with | .mul, some a => rep a k | _, _ => none)
  | _, _ => none
def lexLt : List Int → List Int → Bool
  | [], [] => false
  | [], _ :: _ => true
  | _ :: _, [] => false
  | x :: xs, y :: ys => if x = y then lexLt xs ys else decide (x < y)
def isNon : D → Bool
  | .non => true
  | _ => false
def cis (x y : D) : Option Bool := match y with
  | .non => some (isNon x)
  | .bl b => (match x with | .bl a => some (a == b) | _ => none)
  | _ => none
def cin (st : Sto) (x y : D) : Option Bool := match y with
  | .str s => (match x with | .str [c] => some (decide (c ∈ s)) | _ => none)
  | y => (match sv st y with | some ds => if dOk 40 (top st x) && ds.all (dOk 40) then some (ds.any fun e => dEq e (top st x)) else none | none => none)
def clt (x y : D) : Option Bool := match x, y with
  | .int i, .int j => some (decide (i < j))
  | .str a, .str b => some (decide (a < b))
  | .tup a, .tup b => (match intsOf a, intsOf b with | some a, some b => some (lexLt a b) | _, _ => none)
  | _, _ => none
def cop (st : Sto) (o : Cm) (x y : D) : Option Bool := match o with
  | .eq => if dOk 40 (top st x) && dOk 40 (top st y) then some (dEq (top st x) (top st y)) else none
  | .ne => if dOk 40 (top st x) && dOk 40 (top st y) then some (!dEq (top st x) (top st y)) else none
  | .lt => clt x y
  | .gt => (match x, y with | .int i, .int j => some (decide (j < i)) | _, _ => none)
  | .le => (match x, y with | .int i, .int j => some (decide (i ≤ j)) | _, _ => none)
  | .ge => (match x, y with | .int i, .int j => some (decide (j ≤ i)) | _, _ => none)
  | .is => cis x y
  | .isn => (cis x y).map (!·)
  | .mem => cin st x y
  | .nmem => (cin st x y).map (!·)

/-! ### built-in functions, methods -/
def lenD (st : Sto) : D → Option Int
  | .str s => if szOk s.length then some s.length else none
  | d => (sv st d).map fun ds => (ds.length : Int)
def isort (xs : List Int) : List Int := xs.mergeSort (fun a b => decide (a ≤ b))
def bcall (st : Sto) (b : Bl) (as : List D) : Option D := match b, as with
  | .len, [d] => (lenD st d).map .int
  | .sum, [d] => ((sv st d).bind intsOf).map fun ns => .int ns.sum
  | .all, [d] => ((lv st d).bind blsOf).map fun bs => .bl (bs.all id)
  | .any, [d] => ((lv st d).bind blsOf).map fun bs => .bl (bs.any id)
  | .int, [.int i] => some (.int i)
  | .int, [.bl b] => some (.int (b2i b))
  | .abs, [.int i] => some (.int (if i < 0 then -i else i))
  | .min2, [.int i, .int j] => some (.int (if j < i then j else i))
  | .max2, [.int i, .int j] => some (.int (if j > i then j else i))
  | .divmod, [.int i, .int j] => if decide (0 < j) && decide (j < 1073741824) then some (.tup [.int (i / j), .int (i % j)]) else none
  | .tuple, [d] => (sv st d).map .tup
  | .list, [d] => (sv st d).map .frz
  | .sorted, [d] => ((lv st d).bind intsOf).bind fun ns => if Nat.blt ns.length 64 then some (.frz ((isort ns).map .int)) else none
  | _, _ => none
def bitLen (i : Int) : Int := if i = 0 then 0 else ((i.natAbs.log2 + 1 : Nat) : Int)
def joinL (sep : List Nat) : List (List Nat) → List Nat
  | [] => []
  | [x] => x
  | x :: y :: r => x ++ (sep ++ joinL sep (y :: r))
/-- the method fits the receiver's kind -/
def mOk (m : Mt) (x : D) : Bool := match m, x with
  | .append, .lst _ => true
  | .pop, .lst _ => true
  | .popAt, .lst _ => true
  | .index, .str _ => true
  | .count, .lst _ => true
  | .count, .frz _ => true
  | .join, .str _ => true
  | .bitlen, .int _ => true
  | _, _ => false
def idxOf (c : Nat) : List Nat → Option Nat
  | [] => none
  | y :: ys => if y = c then some 0 else (idxOf c ys).map (· + 1)
/-- a method: its value and the store behind it -/
def mcall (st : Sto) (m : Mt) (o : D) (as : List D) : R D := match m, o, as with
  | .append, .lst i, [d] => (match st[i]? with
    | some (.lst ds) => if szLt ds.length && refsLt i d then .ok .non (st.set i (.lst (ds ++ [d]))) else .bad
    | _ => .bad)
  | .pop, .lst i, [] => (match st[i]? with
    | some (.lst ds) => (match ds[ds.length - 1]? with | some d => .ok d (st.set i (.lst ds.dropLast)) | none => .bad)
    | _ => .bad)
  | .popAt, .lst i, [.int k] => (match st[i]? with
    | some (.lst ds) => if decide (-(2 ^ 63) ≤ k) && decide (k < 2 ^ 63) then (match ixN ds.length k with
      | some j => (match ds[j]? with | some d => .ok d (st.set i (.lst (ds.eraseIdx j))) | none => .bad)
      | none => .bad) else .bad
    | _ => .bad)
  | .index, .str s, [.str [c]] => (match idxOf c s with | some j => .ok (.int (j : Nat)) st | none => .bad)
  | .count, o, [.int k] => (match (lv st o).bind intsOf with | some ns => .ok (.int (ns.count k : Nat)) st | none => .bad)
  | .join, .str s, [d] => (match (sv st d).bind strsOf with | some ps => if szOk ((ps.map List.length).sum + ps.length * s.length) then .ok (.str (joinL s ps)) st else .bad | none => .bad)
  | .bitlen, .int i, [] => .ok (.int (bitLen i)) st
  | _, _, _ => .bad

/-! ### loops -/
def rngOk (i : Int) : Bool := decide (-(2 ^ 62) ≤ i) && decide (i < 2 ^ 62)
def rngD (lo : Int) (n : Nat) : List D := (List.range n).map fun k => .int (lo + (k : Nat))
def rngC (lo c : Int) (n : Nat) : List D := (List.range n).map fun k => .int (lo + (k : Nat) * c)
def enumD (ds : List D) : List D := (ds.zipIdx).map fun p => .tup [.int (p.2 : Nat), p.1]
def zipD (xs ys : List D) : List D := (xs.zip ys).map fun p => .tup [p.1, p.2]
/-- what a loop over a value walks, and the list that is locked meanwhile -/
def walk (st : Sto) : D → Option (List D × List Nat)
  | .tup ds => some (ds, [])
  | .frz ds => some (ds, [])
  | .scr ds => some (ds, [])
  | .str s => some (s.map fun c => .str [c], [])
  | .lst i => (match st[i]? with | some (.lst ds) => some (ds, [i]) | some (.lck ds) => some (ds, []) | some (.fz ds) => some (ds, []) | none => none)
  | _ => none
def lockO : Obj → Obj
  | .lst ds => .lck ds
  | o => o
def unlockO : Obj → Obj
  | .lck ds => .lst ds
  | o => o
def lock (st : Sto) : List Nat → Sto
  | [] => st
  | i :: r => lock (st.modify i lockO) r
def unlock (st : Sto) : List Nat → Sto
  | [] => st
  | i :: r => unlock (st.modify i unlockO) r
/-- where nothing may be raised -/
def R.noX {α : Type} : R α → R α
  | .ok a st => .ok a st
  | _ => .bad
def R.unl {α : Type} (ids : List Nat) : R α → R α
  | .ok a st => .ok a (unlock st ids)
  | .exn c d st => .exn c d (unlock st ids)
  | .bad => .bad
def compL (f : D → Sto → R (Option D)) : List D → Sto → R (List D)
  | [], st => .ok [] st
  | x :: xs, st => (f x st).bind fun o st1 => match o with
    | none => compL f xs st1
    | some y => (compL f xs st1).bind fun ys st2 => .ok (y :: ys) st2
def forL (f : D → Env → Sto → R Fl) : List D → Env → Sto → R Fl
  | [], env, st => .ok (.nx env) st
  | x :: xs, env, st => (f x env st).bind fun fl st1 => match fl with
    | .nx env1 => forL f xs env1 st1
    | .ct env1 => forL f xs env1 st1
    | .bk env1 => .ok (.nx env1) st1
    | .rt d => .ok (.rt d) st1
def whlL (c : Env → Sto → R Bool) (f : Env → Sto → R Fl) : Nat → Env → Sto → R Fl
  | 0, _, _ => .bad
  | n + 1, env, st => (c env st).bind fun b st0 => if b then (f env st0).bind fun fl st1 => match fl with
    | .nx env1 => whlL c f n env1 st1
    | .ct env1 => whlL c f n env1 st1
    | .bk env1 => .ok (.nx env1) st1
    | .rt d => .ok (.rt d) st1 else .ok (.nx env) st0
def wipe (env : Env) : List Nat → Env
  | [] => env
  | i :: r => (wipe env r).set i none
def oD {α : Type} (o : Option α) (st : Sto) : R α := match o with
  | some d => .ok d st
  | none => .bad
def tru (d : D) (st : Sto) : R Bool := match d with
  | .bl b => .ok b st
  | _ => .bad
def toI (d : D) (st : Sto) : R Int := match d with
  | .int i => .ok i st
  | _ => .bad
/-- a value into a new place of the store -/
def thawD (d : D) (st : Sto) : R D := match d with
  | .frz ds => .ok (.lst st.length) (st ++ [.lst ds])
  | _ => .bad
/-- a list of the store, no longer changed -/
def frzD (d : D) (st : Sto) : R D := match d with
  | .lst i => (match st[i]? with
    | some (.lst ds) => .ok (.frz ds) (st.set i (.fz ds))
    | _ => .bad)
  | .frz ds => .ok (.frz ds) st
  | _ => .bad
/-- behind a call: the callee's own lists go, where its value names none -/
def back (n : Nat) (d : D) (st : Sto) : R D := if st.length = n then .ok d st else if refsLt n d then .ok d (st.take n) else .ok d st
def asgs (is : List Nat) (ds : List D) (env : Env) : Env := match is, ds with
  | i :: is, d :: ds => asgs is ds (env.set i (some d))
  | _, _ => env

section
variable (C : Nat → List D → Sto → R D) (G : Nat → D) (W : Nat)
mutual
def ev : E → Env → Sto → R D
  | .non, _, st => .ok .non st
  | .bl b, _, st => .ok (.bl b) st
  | .int i, _, st => .ok (.int i) st
  | .str s, _, st => .ok (.str s) st
  | .var i, env, st => (match env[i]? with | some (some d) => .ok d st | _ => .bad)
  | .glb k, _, st => .ok (G k) st
  | .fnv k, _, st => .ok (.fn k) st
  | .bin o a b, env, st => (ev a env st).bind fun x s1 => (ev b env s1).bind fun y s2 => oD (bop s2 o x y) s2
  | .neg a, env, st => (ev a env st).bind fun x s1 => (toI x s1).bind fun i s2 => .ok (.int (-i)) s2
  | .not a, env, st => (ev a env st).bind fun x s1 => (tru x s1).bind fun b s2 => .ok (.bl (!b)) s2
  | .and a b, env, st => (ev a env st).bind fun x s1 => (tru x s1).bind fun c s2 => if c then ev b env s2 else .ok (.bl false) s2
  | .or a b, env, st => (ev a env st).bind fun x s1 => (tru x s1).bind fun c s2 => if c then .ok (.bl true) s2 else ev b env s2
  | .cmp o a b, env, st => (ev a env st).bind fun x s1 => (ev b env s1).bind fun y s2 => (oD (cop s2 o x y) s2).bind fun c s3 => .ok (.bl c) s3
  | .chn o p a b c, env, st => (ev a env st).bind fun x s1 => (ev b env s1).bind fun y s2 => (oD (cop s2 o x y) s2).bind fun q s3 =>
      if q then (ev c env s3).bind fun z s4 => (oD (cop s4 p y z) s4).bind fun r s5 => .ok (.bl r) s5 else .ok (.bl false) s3
  | .ife c a b, env, st => (ev c env st).bind fun x s1 => (tru x s1).bind fun q s2 => if q then ev a env s2 else ev b env s2
  | .call f as, env, st => (evs as env st).bind fun ds s1 => C f ds s1
  | .callk f as ks pm, env, st => (evs as env st).bind fun ds s1 => (evs ks env s1).bind fun es s2 => C f (pm.map fun j => (ds ++ es).getD j .non) s2
  | .callv i as, env, st => (match env[i]? with | some (some (.fn f)) => (evs as env st).noX.bind fun ds s1 => C f ds s1 | _ => .bad)
  | .blt b as, env, st => (evs as env st).bind fun ds s1 => oD (bcall s1 b ds) s1
  | .isi a t, env, st => (ev a env st).bind fun x s1 => oD ((isInst t x).map .bl) s1
  | .mth m o as, env, st => (ev o env st).bind fun x s1 => if mOk m x then (evs as env s1).bind fun ds s2 => mcall s2 m x ds else .bad
  | .idx a b, env, st => (ev a env st).bind fun x s1 => (ev b env s1).bind fun y s2 => (toI y s2).bind fun i s3 => oD (ixD s3 x i) s3
  | .slc a lo hi, env, st => (ev a env st).bind fun x s1 => (evo lo env s1).bind fun l s2 => (evo hi env s2).bind fun h s3 => oD (slD s3 x l h) s3
  | .tup as, env, st => (evs as env st).bind fun ds s1 => if szOk ds.length then .ok (.tup ds) s1 else .bad
  | .list as, env, st => (evs as env st).bind fun ds s1 => if szOk ds.length then .ok (.frz ds) s1 else .bad
  | .comp own elt tg it c, env, st => (evi it env st).bind fun p s1 =>
      if szOk p.1.length then ((compL (fun x s2 => (evt tg x (wipe env own) s2).bind fun env2 s3 => (evc c env2 s3).bind fun b s4 =>
        if b then (ev elt env2 s4).bind fun y s5 => .ok (some y) s5 else .ok none s4) p.1 (lock s1 p.2)).noX.unl p.2).bind fun ds s6 => .ok (.frz ds) s6 else .bad
  | .tidx as e, env, st => (evs as env st).bind fun ds s1 => (ev e env s1).bind fun y s2 => (toI y s2).bind fun k s3 => (match intsOf ds with
      | some ns => if decide (k ∈ ns) && szOk ns.length then .ok (.int (ns.idxOf k : Nat)) s3 else .bad
      | none => .bad)
  | .thaw a, env, st => (ev a env st).bind fun x s1 => thawD x s1
  | .frz a, env, st => (ev a env st).bind fun x s1 => frzD x s1
  | .rgv tp lo b, env, st => (evo lo env st).bind fun l s1 => (ev b env s1).bind fun y s2 => (toI y s2).bind fun j s3 => if rngOk (l.getD 0) && (rngOk j && szOk (j - l.getD 0).toNat) then .ok (if tp then .tup (rngD (l.getD 0) (j - l.getD 0).toNat) else .frz (rngD (l.getD 0) (j - l.getD 0).toNat)) s3 else .bad
def evs : Es → Env → Sto → R (List D)
  | .nil, _, st => .ok [] st
  | .cons e es, env, st => (ev e env st).bind fun x s1 => (evs es env s1).bind fun xs s2 => .ok (x :: xs) s2
/-- a part of a slice -/
def evo : Oe → Env → Sto → R (Option Int)
  | .none, _, st => .ok none st
  | .some e, env, st => (ev e env st).bind fun x s1 => (toI x s1).bind fun i s2 => .ok (some i) s2
/-- a comprehension's test -/
def evc : Oe → Env → Sto → R Bool
  | .none, _, st => .ok true st
  | .some e, env, st => (ev e env st).bind fun x s1 => tru x s1
/-- what a loop walks -/
def evi : It → Env → Sto → R (List D × List Nat)
  | .val e, env, st => (ev e env st).bind fun x s1 => oD (walk s1 x) s1
  | .rng1 a, env, st => (ev a env st).bind fun x s1 => (toI x s1).bind fun i s2 => if rngOk i then .ok (rngD 0 i.toNat, []) s2 else .bad
  | .rng2 a b, env, st => (ev a env st).bind fun x s1 => (ev b env s1).bind fun y s2 => (toI x s2).bind fun i s3 => (toI y s3).bind fun j s4 =>
      if rngOk i && rngOk j then .ok (rngD i (j - i).toNat, []) s4 else .bad
  | .rng3 a b c, env, st => (ev a env st).bind fun x s1 => (ev b env s1).bind fun y s2 => (toI x s2).bind fun i s3 => (toI y s3).bind fun j s4 =>
      if rngOk i && (rngOk j && decide (c = -1)) then .ok (rngC i (-1) (i - j).toNat, []) s4 else .bad
  | .enum e, env, st => (ev e env st).bind fun x s1 => (oD (walk s1 x) s1).bind fun p s2 => .ok (enumD p.1, p.2) s2
  | .zip a b, env, st => (ev a env st).bind fun x s1 => (ev b env s1).bind fun y s2 => (oD (walk s2 x) s2).bind fun p s3 => (oD (walk (lock s3 p.2) y) s3).bind fun q s4 => .ok (zipD p.1 q.1, p.2 ++ q.2) s4
/-- a value to a target -/
def evt : Tg → D → Env → Sto → R Env
  | .var i, d, env, st => if i < env.length then .ok (env.set i (some d)) st else .bad
  | .idx a b, d, env, st => (ev a env st).bind fun x s1 => (ev b env s1).bind fun y s2 => (toI y s2).bind fun k s3 => (match x with
      | .lst i => (match s3[i]? with
        | some (.lst ds) => if refsLt i d then (match ixN ds.length k with | some j => .ok env (s3.set i (.lst (ds.set j d))) | none => .bad) else .bad
        | _ => .bad)
      | _ => .bad)
  | .tup ts, d, env, st => (match d with
      | .tup ds => if ds.length = tgLen ts then evts ts ds env st else .bad
      | _ => .bad)
def evts : Tgs → List D → Env → Sto → R Env
  | .nil, ds, env, st => (match ds with | [] => .ok env st | _ => .bad)
  | .cons t ts, ds, env, st => (match ds with | d :: r => (evt t d env st).bind fun env1 s1 => evts ts r env1 s1 | [] => .bad)
end
mutual
def ex : S → Env → Sto → R Fl
  | .asg t e, env, st => (ev C G e env st).bind fun x s1 => (evt C G t x env s1).bind fun env1 s2 => .ok (.nx env1) s2
  | .par is es, env, st => (evs C G es env st).bind fun ds s1 => if ds.length = is.length then .ok (.nx (asgs is ds env)) s1 else .bad
  | .ifs c a b, env, st => (ev C G c env st).bind fun x s1 => (tru x s1).bind fun q s2 => if q then exs a env s2 else exs b env s2
  | .whl c b, env, st => whlL (fun env st => (ev C G c env st).bind fun x s1 => tru x s1) (fun env st => exs b env st) W env st
  | .fr t it b, env, st => (evi C G it env st).bind fun p s1 => (forL (fun x env s2 => (evt C G t x env s2).bind fun env2 s3 => exs b env2 s3) p.1 env (lock s1 p.2)).unl p.2
  | .ret e, env, st => (ev C G e env st).bind fun x s1 => .ok (.rt x) s1
  | .retn, _, st => .ok (.rt .non) st
  | .exp e, env, st => (ev C G e env st).bind fun _ s1 => .ok (.nx env) s1
  | .pas, env, st => .ok (.nx env) st
  | .brk, env, st => .ok (.bk env) st
  | .cnt, env, st => .ok (.ct env) st
  | .nev, _, _ => .bad
def exs : Ss → Env → Sto → R Fl
  | .nil, env, st => .ok (.nx env) st
  | .cons s ss, env, st => (ex s env st).bind fun fl s1 => match fl with
    | .nx env1 => exs ss env1 s1
    | fl => .ok fl s1
end
end
def fin (n : Nat) (r : R Fl) : R D := r.bind fun fl st => match fl with
  | .rt d => back n d st
  | .nx _ => back n .non st
  | _ => .bad
/-- a call, so many calls deep at most -/
def call (T : Nat → Option Fd) (G : Nat → D) (W : Nat) : Nat → Nat → List D → Sto → R D
  | 0, _, _, _ => .bad
  | n + 1, f, as, st => match T f with
    | none => .bad
    | some F => if as.length = F.ps then fin st.length (exs (call T G W n) G W F.body (as.map some ++ List.replicate (F.nl - F.ps) none) st) else .bad
end PL

set_option Elab.async false
set_option linter.all false
set_option maxRecDepth 100000
/-! How plain values lie in the abstract heap. -/
namespace PL
open PySem PySem.Spec PyProof.Rows L2

def Obj.isFz : Obj → Bool
  | .fz _ => true
  | _ => false
/-- a tuple, a list of the module's own -/
def StT (K : PySem.W.Frag) (a : Addr) (xs : List V) : Prop := ∃ (o : PySem.Obj) (its : Array Value) (n : Nat), K.lookup a = some o ∧ o.cls = .type "tuple" ∧ o.data = .seq its n ∧ its.size ≤ sizeLine ∧ Vals xs its.toList
def StL (K : PySem.W.Frag) (a : Addr) (xs : List V) : Prop := ∃ (o : PySem.Obj) (its : Array Value) (n : Nat), K.lookup a = some o ∧ o.cls = .type "list" ∧ o.dict = none ∧ o.data = .seq its n ∧ its.size ≤ sizeLine ∧ Vals xs its.toList
mutual
inductive RD (K : PySem.W.Frag) (fa : Nat → Addr) (H : Hp) (m : Addr → Prop) (β ρ : List Addr) (n : Nat) : D → V → Prop
  | non : RD K fa H m β ρ n .non .non
  | bl (b : Bool) : RD K fa H m β ρ n (.bl b) (.bl b)
  | int (i : Int) : RD K fa H m β ρ n (.int i) (.int i)
  | str (s : List Nat) : RD K fa H m β ρ n (.str s) (.str ⟨s.toArray⟩)
  | tupH {ds : List D} {a : Addr} {vs : List V} : Rd H a (.tup vs) → ¬ m a → a ∉ β → RDs K fa H m β ρ n ds vs → RD K fa H m β ρ n (.tup ds) (.ref a)
  | tupK {ds : List D} {a : Addr} {vs : List V} : StT K a vs → RDs K fa H m β ρ n ds vs → RD K fa H m β ρ n (.tup ds) (.ref a)
  | frz {ds : List D} {a : Addr} {vs : List V} : H a = some (.lst vs) → ¬ m a → a ∉ β → RDs K fa H m β ρ n ds vs → RD K fa H m β ρ n (.frz ds) (.ref a)
  | scrH {ds : List D} {a : Addr} {vs : List V} : Rd H a (.lst vs) → ¬ m a → a ∉ β → RDs K fa H m β ρ n ds vs → RD K fa H m β ρ n (.scr ds) (.ref a)
  | scrK {ds : List D} {a : Addr} {vs : List V} : StL K a vs → RDs K fa H m β ρ n ds vs → RD K fa H m β ρ n (.scr ds) (.ref a)
  | lst {i : Nat} {a : Addr} : i < n → ρ[i]? = some a → RD K fa H m β ρ n (.lst i) (.ref a)
  | fn (k : Nat) : RD K fa H m β ρ n (.fn k) (.ref (fa k))
inductive RDs (K : PySem.W.Frag) (fa : Nat → Addr) (H : Hp) (m : Addr → Prop) (β ρ : List Addr) (n : Nat) : List D → List V → Prop
  | nil : RDs K fa H m β ρ n [] []
  | cons {d : D} {ds : List D} {v : V} {vs : List V} : RD K fa H m β ρ n d v → RDs K fa H m β ρ n ds vs → RDs K fa H m β ρ n (d :: ds) (v :: vs)
end
section
variable {K : PySem.W.Frag} {fa : Nat → Addr} {H H' : Hp} {m m' : Addr → Prop} {β β' ρ ρ' : List Addr} {n n' : Nat}
theorem Rd.out {a : Addr} {u : HO} (h : Rd H a u) (h3 : a ∉ β) (hβ : ∀ b ∈ β', b ∈ β ∨ H b = none) : a ∉ β' := fun q => by
  rcases hβ a q with z | z
  · exact h3 z
  · rcases h with h | ⟨o, h⟩ <;> (rw [h] at z; cases z)
theorem Rd.keepP {a : Addr} {u : HO} (k : ∀ a o, H a = some o → ¬ m a → H' a = some o ∧ ¬ m' a) (h : Rd H a u) (hm : ¬ m a) : Rd H' a u ∧ ¬ m' a := by
  rcases h with h | ⟨o, h⟩
  · exact ⟨.inl (k a _ h hm).1, (k a _ h hm).2⟩
  · exact ⟨.inr ⟨o, (k a _ h hm).1⟩, (k a _ h hm).2⟩
mutual
theorem RD.mono (k : ∀ a o, H a = some o → ¬ m a → H' a = some o ∧ ¬ m' a) (hρ : ∀ (i : Nat) (a : Addr), ρ[i]? = some a → ρ'[i]? = some a) (hβ : ∀ b ∈ β', b ∈ β ∨ H b = none) (hn : n ≤ n') :
    ∀ {d : D} {v : V}, RD K fa H m β ρ n d v → RD K fa H' m' β' ρ' n' d v
  | _, _, .non => .non
  | _, _, .bl b => .bl b
  | _, _, .int i => .int i
  | _, _, .str s => .str s
  | _, _, .tupH h1 h2 h3 h4 => .tupH (Rd.keepP k h1 h2).1 (Rd.keepP k h1 h2).2 (Rd.out h1 h3 hβ) (RDs.mono k hρ hβ hn h4)
  | _, _, .tupK h1 h4 => .tupK h1 (RDs.mono k hρ hβ hn h4)
  | _, _, .frz h1 h2 h3 h4 => .frz (k _ _ h1 h2).1 (k _ _ h1 h2).2 (Rd.out (.inl h1) h3 hβ) (RDs.mono k hρ hβ hn h4)
  | _, _, .scrH h1 h2 h3 h4 => .scrH (Rd.keepP k h1 h2).1 (Rd.keepP k h1 h2).2 (Rd.out h1 h3 hβ) (RDs.mono k hρ hβ hn h4)
  | _, _, .scrK h1 h4 => .scrK h1 (RDs.mono k hρ hβ hn h4)
  | _, _, .lst h1 h2 => .lst (Nat.lt_of_lt_of_le h1 hn) (hρ _ _ h2)
  | _, _, .fn k => .fn k
theorem RDs.mono (k : ∀ a o, H a = some o → ¬ m a → H' a = some o ∧ ¬ m' a) (hρ : ∀ (i : Nat) (a : Addr), ρ[i]? = some a → ρ'[i]? = some a) (hβ : ∀ b ∈ β', b ∈ β ∨ H b = none) (hn : n ≤ n') :
    ∀ {ds : List D} {vs : List V}, RDs K fa H m β ρ n ds vs → RDs K fa H' m' β' ρ' n' ds vs
  | _, _, .nil => .nil
  | _, _, .cons h t => .cons (RD.mono k hρ hβ hn h) (RDs.mono k hρ hβ hn t)
end
mutual
/-- a value that was read while p was busy does not name p -/
theorem RD.busyMu {p : Addr} : ∀ {d : D} {v : V}, RD K fa H m (p :: β) ρ n d v → RD K fa H (fun b => m b ∨ b = p) β ρ n d v
  | _, _, .non => .non
  | _, _, .bl b => .bl b
  | _, _, .int i => .int i
  | _, _, .str s => .str s
  | _, _, .tupH h1 h2 h3 h4 => .tupH h1 (fun z => z.elim h2 fun e => h3 (e ▸ List.mem_cons_self)) (fun z => h3 (List.mem_cons_of_mem _ z)) (RDs.busyMu h4)
  | _, _, .tupK h1 h4 => .tupK h1 (RDs.busyMu h4)
  | _, _, .frz h1 h2 h3 h4 => .frz h1 (fun z => z.elim h2 fun e => h3 (e ▸ List.mem_cons_self)) (fun z => h3 (List.mem_cons_of_mem _ z)) (RDs.busyMu h4)
  | _, _, .scrH h1 h2 h3 h4 => .scrH h1 (fun z => z.elim h2 fun e => h3 (e ▸ List.mem_cons_self)) (fun z => h3 (List.mem_cons_of_mem _ z)) (RDs.busyMu h4)
  | _, _, .scrK h1 h4 => .scrK h1 (RDs.busyMu h4)
  | _, _, .lst h1 h2 => .lst h1 h2
  | _, _, .fn k => .fn k
theorem RDs.busyMu {p : Addr} : ∀ {ds : List D} {vs : List V}, RDs K fa H m (p :: β) ρ n ds vs → RDs K fa H (fun b => m b ∨ b = p) β ρ n ds vs
  | _, _, .nil => .nil
  | _, _, .cons h t => .cons (RD.busyMu h) (RDs.busyMu t)
end
mutual
/-- a value that names only lists older than number j -/
theorem RD.older {j : Nat} : ∀ {d : D} {v : V}, RD K fa H m β ρ n d v → refsLt j d = true → RD K fa H m β ρ j d v
  | _, _, .non, _ => .non
  | _, _, .bl b, _ => .bl b
  | _, _, .int i, _ => .int i
  | _, _, .str s, _ => .str s
  | _, _, .tupH h1 h2 h3 h4, q => .tupH h1 h2 h3 (RDs.older h4 (by simpa [refsLt] using q))
  | _, _, .tupK h1 h4, q => .tupK h1 (RDs.older h4 (by simpa [refsLt] using q))
  | _, _, .frz h1 h2 h3 h4, q => .frz h1 h2 h3 (RDs.older h4 (by simpa [refsLt] using q))
  | _, _, .scrH h1 h2 h3 h4, q => .scrH h1 h2 h3 (RDs.older h4 (by simpa [refsLt] using q))
  | _, _, .scrK h1 h4, q => .scrK h1 (RDs.older h4 (by simpa [refsLt] using q))
  | _, _, .lst h1 h2, q => .lst (by simpa [refsLt] using q) h2
  | _, _, .fn k, _ => .fn k
theorem RDs.older {j : Nat} : ∀ {ds : List D} {vs : List V}, RDs K fa H m β ρ n ds vs → refsLts j ds = true → RDs K fa H m β ρ j ds vs
  | _, _, .nil, _ => .nil
  | _, _, .cons h t, q => .cons (RD.older h (by simp [refsLts] at q; exact q.1)) (RDs.older t (by simp [refsLts] at q; exact q.2))
end
theorem RDs.length : ∀ {ds : List D} {vs : List V}, RDs K fa H m β ρ n ds vs → ds.length = vs.length
  | _, _, .nil => rfl
  | _, _, .cons _ t => congrArg (· + 1) (RDs.length t)
theorem RDs.get : ∀ {ds : List D} {vs : List V} {i : Nat} {d : D}, RDs K fa H m β ρ n ds vs → ds[i]? = some d → ∃ v, vs[i]? = some v ∧ RD K fa H m β ρ n d v
  | _, _, _, _, .nil, e => by simp at e
  | _, _, 0, _, .cons h _, e => by simp at e; subst e; exact ⟨_, rfl, h⟩
  | _, _, i + 1, d, .cons _ t, e => by
    obtain ⟨v, h1, h2⟩ := RDs.get (i := i) (d := d) t (by simpa using e)
    exact ⟨v, by simpa using h1, h2⟩
theorem RDs.getV : ∀ {ds : List D} {vs : List V} {i : Nat} {v : V}, RDs K fa H m β ρ n ds vs → vs[i]? = some v → ∃ d, ds[i]? = some d ∧ RD K fa H m β ρ n d v
  | _, _, _, _, .nil, e => by simp at e
  | _, _, 0, _, .cons h _, e => by simp at e; subst e; exact ⟨_, rfl, h⟩
  | _, _, i + 1, v, .cons _ t, e => by
    obtain ⟨d, h1, h2⟩ := RDs.getV (i := i) (v := v) t (by simpa using e)
    exact ⟨d, by simpa using h1, h2⟩
theorem RDs.append : ∀ {ds es : List D} {vs ws : List V}, RDs K fa H m β ρ n ds vs → RDs K fa H m β ρ n es ws → RDs K fa H m β ρ n (ds ++ es) (vs ++ ws)
  | _, _, _, _, .nil, s => s
  | _, _, _, _, .cons h t, s => .cons h (RDs.append t s)
theorem RDs.take : ∀ {ds : List D} {vs : List V} (k : Nat), RDs K fa H m β ρ n ds vs → RDs K fa H m β ρ n (ds.take k) (vs.take k)
  | _, _, 0, _ => .nil
  | _, _, _ + 1, .nil => .nil
  | _, _, k + 1, .cons h t => .cons h (RDs.take k t)
theorem RDs.drop : ∀ {ds : List D} {vs : List V} (k : Nat), RDs K fa H m β ρ n ds vs → RDs K fa H m β ρ n (ds.drop k) (vs.drop k)
  | _, _, 0, s => s
  | _, _, _ + 1, .nil => .nil
  | _, _, k + 1, .cons _ t => RDs.drop k t
theorem RDs.set {d : D} {v : V} (h : RD K fa H m β ρ n d v) : ∀ {ds : List D} {vs : List V} (i : Nat), RDs K fa H m β ρ n ds vs → RDs K fa H m β ρ n (ds.set i d) (vs.set i v)
  | _, _, _, .nil => .nil
  | _, _, 0, .cons _ t => .cons h t
  | _, _, i + 1, .cons g t => .cons g (RDs.set h i t)
theorem RDs.erase : ∀ {ds : List D} {vs : List V} (i : Nat), RDs K fa H m β ρ n ds vs → RDs K fa H m β ρ n (ds.eraseIdx i) (vs.eraseIdx i)
  | _, _, _, .nil => .nil
  | _, _, 0, .cons _ t => t
  | _, _, i + 1, .cons g t => .cons g (RDs.erase i t)
theorem RDs.dropLast {ds : List D} {vs : List V} (h : RDs K fa H m β ρ n ds vs) : RDs K fa H m β ρ n ds.dropLast vs.dropLast := by
  rw [List.dropLast_eq_take, List.dropLast_eq_take, h.length]
  exact h.take _
theorem RDs.rep {ds : List D} {vs : List V} (h : RDs K fa H m β ρ n ds vs) : ∀ k : Nat, RDs K fa H m β ρ n (List.replicate k ds).flatten (List.replicate k vs).flatten
  | 0 => .nil
  | k + 1 => by
    rw [List.replicate_succ, List.replicate_succ, List.flatten_cons, List.flatten_cons]
    exact h.append (RDs.rep h k)
theorem RDs.ints : ∀ {ds : List D} {vs : List V} {ns : List Int}, RDs K fa H m β ρ n ds vs → intsOf ds = some ns → vs = ns.map V.int
  | _, _, ns, .nil, e => by
    cases e
    rfl
  | _, _, ns, .cons (d := d) h t, e => by
    cases d with
    | int i =>
      simp only [intsOf] at e
      obtain ⟨r, e1, rfl⟩ := Option.map_eq_some_iff.mp e
      cases h
      rw [RDs.ints t e1]
      rfl
    | _ => simp [intsOf] at e
theorem RDs.bls : ∀ {ds : List D} {vs : List V} {ns : List Bool}, RDs K fa H m β ρ n ds vs → blsOf ds = some ns → vs = ns.map V.bl
  | _, _, ns, .nil, e => by
    cases e
    rfl
  | _, _, ns, .cons (d := d) h t, e => by
    cases d with
    | bl i =>
      simp only [blsOf] at e
      obtain ⟨r, e1, rfl⟩ := Option.map_eq_some_iff.mp e
      cases h
      rw [RDs.bls t e1]
      rfl
    | _ => simp [blsOf] at e
theorem RDs.strs : ∀ {ds : List D} {vs : List V} {ns : List (List Nat)}, RDs K fa H m β ρ n ds vs → strsOf ds = some ns → vs = (ns.map fun s => (⟨s.toArray⟩ : Str)).map V.str
  | _, _, ns, .nil, e => by
    cases e
    rfl
  | _, _, ns, .cons (d := d) h t, e => by
    cases d with
    | str i =>
      simp only [strsOf] at e
      obtain ⟨r, e1, rfl⟩ := Option.map_eq_some_iff.mp e
      cases h
      rw [RDs.strs t e1]
      rfl
    | _ => simp [strsOf] at e
theorem rds_ints : ∀ (ns : List Int), RDs K fa H m β ρ n (ns.map D.int) (ns.map V.int)
  | [] => .nil
  | i :: r => .cons (.int i) (rds_ints r)
end

/-! ### the store -/
/-- what may still be changed -/
def Mu (ρ : List Addr) (st : Sto) (a : Addr) : Prop := ∃ (i : Nat) (o : Obj), ρ[i]? = some a ∧ st[i]? = some o ∧ o.isFz = false
structure RS (K : PySem.W.Frag) (fa : Nat → Addr) (β ρ : List Addr) (st : Sto) (H : Hp) : Prop where
  nd : ∀ (i j : Nat) (a : Addr), ρ[i]? = some a → ρ[j]? = some a → i = j
  len : ρ.length = st.length
  obj : ∀ (i : Nat) (o : Obj), st[i]? = some o → ∃ a vs, ρ[i]? = some a ∧ H a = some (.lst vs) ∧ RDs K fa H (Mu ρ st) β ρ i o.its vs
  busy : ∀ b ∈ β, (∃ o, H b = some o) ∧ b ∉ ρ
structure Stp (ρ : List Addr) (st : Sto) (H : Hp) (ρ' : List Addr) (st' : Sto) (H' : Hp) : Prop where
  pre : ∃ t, ρ' = ρ ++ t
  le : st.length ≤ st'.length
  keep : ∀ a o, H a = some o → ¬ Mu ρ st a → H' a = some o ∧ ¬ Mu ρ' st' a
  lck : ∀ (i : Nat) (ds : List D), st[i]? = some (.lck ds) → st'[i]? = some (.lck ds)
section
variable {K : PySem.W.Frag} {fa : Nat → Addr} {H H1 H2 : Hp} {β ρ ρ1 ρ2 : List Addr} {st s1 s2 : Sto} {n : Nat}
theorem Stp.refl : Stp ρ st H ρ st H := ⟨⟨[], by simp⟩, Nat.le_refl _, fun _ _ h m => ⟨h, m⟩, fun _ _ h => h⟩
theorem Stp.trans (a : Stp ρ st H ρ1 s1 H1) (b : Stp ρ1 s1 H1 ρ2 s2 H2) : Stp ρ st H ρ2 s2 H2 := by
  refine ⟨?_, Nat.le_trans a.le b.le, fun p o h m => ?_, fun i ds h => b.lck i ds (a.lck i ds h)⟩
  · obtain ⟨t, rfl⟩ := a.pre
    obtain ⟨u, rfl⟩ := b.pre
    exact ⟨t ++ u, by simp⟩
  · obtain ⟨h1, m1⟩ := a.keep p o h m
    exact b.keep p o h1 m1
theorem Stp.at (a : Stp ρ st H ρ1 s1 H1) : ∀ (i : Nat) (p : Addr), ρ[i]? = some p → ρ1[i]? = some p := fun i p h => by
  obtain ⟨t, rfl⟩ := a.pre
  rw [List.getElem?_append_left (List.getElem?_eq_some_iff.mp h).1]
  exact h
theorem RD.stp {d : D} {v : V} (a : Stp ρ st H ρ1 s1 H1) (h : RD K fa H (Mu ρ st) β ρ st.length d v) : RD K fa H1 (Mu ρ1 s1) β ρ1 s1.length d v :=
  h.mono a.keep a.at (fun _ q => .inl q) a.le
theorem RDs.stp {ds : List D} {vs : List V} (a : Stp ρ st H ρ1 s1 H1) (h : RDs K fa H (Mu ρ st) β ρ st.length ds vs) : RDs K fa H1 (Mu ρ1 s1) β ρ1 s1.length ds vs :=
  h.mono a.keep a.at (fun _ q => .inl q) a.le
/-- what is new is not changed by what was there -/
theorem RS.fresh (S : RS K fa β ρ st H) {p : Addr} (h : H p = none) : p ∉ ρ ∧ p ∉ β ∧ ¬ Mu ρ st p := by
  have h1 : p ∉ ρ := fun q => by
    obtain ⟨i, hi⟩ := List.mem_iff_getElem?.mp q
    have hl : i < st.length := by rw [← S.len]; exact (List.getElem?_eq_some_iff.mp hi).1
    obtain ⟨a, vs, e1, e2, _⟩ := S.obj i _ (List.getElem?_eq_getElem hl)
    rw [hi] at e1
    cases e1
    rw [h] at e2
    cases e2
  refine ⟨h1, fun q => ?_, fun ⟨i, _, e, _⟩ => h1 (List.mem_iff_getElem?.mpr ⟨i, e⟩)⟩
  obtain ⟨⟨o, e⟩, _⟩ := S.busy p q
  rw [h] at e
  cases e
/-- a new object, not in the store -/
theorem RS.lay (S : RS K fa β ρ st H) {p : Addr} {o : HO} (h : H p = none) : RS K fa β ρ st (upd H p o) ∧ Stp ρ st H ρ st (upd H p o) := by
  have k : ∀ a u, H a = some u → ¬ Mu ρ st a → upd H p o a = some u ∧ ¬ Mu ρ st a := fun a u e m => by
    refine ⟨?_, m⟩
    rw [upd_ne (ne_of_none e h)]
    exact e
  refine ⟨⟨S.nd, S.len, fun i u e => ?_, fun b hb => ?_⟩, ⟨⟨[], by simp⟩, Nat.le_refl _, k, fun _ _ h => h⟩⟩
  · obtain ⟨a, vs, e1, e2, e3⟩ := S.obj i u e
    exact ⟨a, vs, e1, by rw [upd_ne (ne_of_none e2 h)]; exact e2, e3.mono k (fun _ _ h => h) (fun _ q => .inl q) (Nat.le_refl _)⟩
  · obtain ⟨⟨u, e⟩, nb⟩ := S.busy b hb
    exact ⟨⟨u, by rw [upd_ne (ne_of_none e h)]; exact e⟩, nb⟩
theorem its_get {i : Nat} {o : Obj} (h : st[i]? = some o) : i < st.length := (List.getElem?_eq_some_iff.mp h).1
end
end PL

set_option Elab.async false
set_option linter.all false
set_option maxRecDepth 100000
set_option maxHeartbeats 1000000
/-! The operators on plain values, over the layer's rules. -/
namespace PL
open PySem PySem.Spec PyProof.Rows L2

section
variable (K : PySem.W.Frag) (fa : Nat → Addr)
/-- what is wanted of a value, of values, of an answer, behind an evaluation -/
def Post (β ρ : List Addr) (st : Sto) (H : Hp) (d : D) (st' : Sto) (Q : VK) : Prop :=
  ∀ v H' ρ', Stp ρ st H ρ' st' H' → RS K fa β ρ' st' H' → RD K fa H' (Mu ρ' st') β ρ' st'.length d v → Q v H'
def PostS (β ρ : List Addr) (st : Sto) (H : Hp) (ds : List D) (st' : Sto) (Q : List V → Hp → Prop) : Prop :=
  ∀ vs H' ρ', Stp ρ st H ρ' st' H' → RS K fa β ρ' st' H' → RDs K fa H' (Mu ρ' st') β ρ' st'.length ds vs → Q vs H'
def PostB (β ρ : List Addr) (st : Sto) (H : Hp) (b : Bool) (st' : Sto) (Q : Bool → Hp → Prop) : Prop :=
  ∀ H' ρ', Stp ρ st H ρ' st' H' → RS K fa β ρ' st' H' → Q b H'
end
section
variable {K : PySem.W.Frag} {fa : Nat → Addr} {H H' : Hp} {β ρ ρ' : List Addr} {st st' : Sto} {d : D} {ds : List D} {v : V} {vs : List V} {Q : VK} {p : Addr}
theorem Post.here (h : Post K fa β ρ st H d st Q) (S : RS K fa β ρ st H) (r : RD K fa H (Mu ρ st) β ρ st.length d v) : Q v H := h v H ρ .refl S r
theorem Post.after {ρ1 : List Addr} {s1 s2 : Sto} {H1 : Hp} (h : Post K fa β ρ st H d s2 Q) (a : Stp ρ st H ρ1 s1 H1) : Post K fa β ρ1 s1 H1 d s2 Q := fun v H' ρ' b S r => h v H' ρ' (a.trans b) S r
/-- a new tuple, a new list -/
theorem lay_tup (S : RS K fa β ρ st H) (h : H p = none) (r : RDs K fa H (Mu ρ st) β ρ st.length ds vs) : RD K fa (upd H p (.tup vs)) (Mu ρ st) β ρ st.length (.tup ds) (.ref p) :=
  .tupH (.inl upd_same) (S.fresh h).2.2 (S.fresh h).2.1 (r.stp (S.lay h).2)
theorem lay_frz (S : RS K fa β ρ st H) (h : H p = none) (r : RDs K fa H (Mu ρ st) β ρ st.length ds vs) : RD K fa (upd H p (.lst vs)) (Mu ρ st) β ρ st.length (.frz ds) (.ref p) :=
  .frz upd_same (S.fresh h).2.2 (S.fresh h).2.1 (r.stp (S.lay h).2)
theorem Post.tup (h : Post K fa β ρ st H (.tup ds) st Q) (S : RS K fa β ρ st H) (r : RDs K fa H (Mu ρ st) β ρ st.length ds vs) (hp : H p = none) : Q (.ref p) (upd H p (.tup vs)) :=
  h _ _ _ (S.lay hp).2 (S.lay hp).1 (lay_tup S hp r)
theorem Post.frz (h : Post K fa β ρ st H (.frz ds) st Q) (S : RS K fa β ρ st H) (r : RDs K fa H (Mu ρ st) β ρ st.length ds vs) (hp : H p = none) : Q (.ref p) (upd H p (.lst vs)) :=
  h _ _ _ (S.lay hp).2 (S.lay hp).1 (lay_frz S hp r)
/-- reading -/
theorem rd_tup (r : RD K fa H (Mu ρ st) β ρ st.length (.tup ds) v) : ∃ a vs, v = .ref a ∧ SqT K H a vs ∧ RDs K fa H (Mu ρ st) β ρ st.length ds vs := by
  cases r with
  | tupH h1 _ _ h4 => exact ⟨_, _, rfl, .inl h1, h4⟩
  | tupK h1 h4 => exact ⟨_, _, rfl, .inr h1, h4⟩
theorem rs_at (S : RS K fa β ρ st H) {i : Nat} {o : Obj} (h : st[i]? = some o) : ∃ a vs, ρ[i]? = some a ∧ H a = some (.lst vs) ∧ RDs K fa H (Mu ρ st) β ρ st.length o.its vs := by
  obtain ⟨a, vs, e1, e2, e3⟩ := S.obj i o h
  exact ⟨a, vs, e1, e2, e3.mono (fun _ _ x y => ⟨x, y⟩) (fun _ _ x => x) (fun _ x => .inl x) (Nat.le_of_lt (its_get h))⟩
theorem rd_lv (S : RS K fa β ρ st H) (r : RD K fa H (Mu ρ st) β ρ st.length d v) (h : lv st d = some ds) : ∃ a vs, v = .ref a ∧ SqL K H a vs ∧ RDs K fa H (Mu ρ st) β ρ st.length ds vs := by
  cases r with
  | frz h1 _ _ h4 =>
    cases h
    exact ⟨_, _, rfl, .inl (.inl h1), h4⟩
  | scrH h1 _ _ h4 =>
    cases h
    exact ⟨_, _, rfl, .inl h1, h4⟩
  | scrK h1 h4 =>
    cases h
    exact ⟨_, _, rfl, .inr h1, h4⟩
  | lst h1 h2 =>
    simp only [lv] at h
    split at h
    · rename_i o ho
      cases h
      obtain ⟨a, vs, e1, e2, e3⟩ := rs_at S ho
      rw [h2] at e1
      cases e1
      exact ⟨_, _, rfl, .inl (.inl e2), e3⟩
    · cases h
  | _ => cases h
/-- .. a list that is read as it stands -/
theorem rd_lh (S : RS K fa β ρ st H) (r : RD K fa H (Mu ρ st) β ρ st.length d v) (h : lv st d = some ds) (hn : ∀ ds, d ≠ .scr ds) : ∃ a vs, v = .ref a ∧ H a = some (.lst vs) ∧ RDs K fa H (Mu ρ st) β ρ st.length ds vs := by
  cases r with
  | frz h1 _ _ h4 =>
    cases h
    exact ⟨_, _, rfl, h1, h4⟩
  | scrH h1 _ _ h4 => exact absurd rfl (hn _)
  | scrK h1 h4 => exact absurd rfl (hn _)
  | lst h1 h2 =>
    simp only [lv] at h
    split at h
    · rename_i o ho
      cases h
      obtain ⟨a, vs, e1, e2, e3⟩ := rs_at S ho
      rw [h2] at e1
      cases e1
      exact ⟨_, _, rfl, e2, e3⟩
    · cases h
  | _ => cases h
theorem rd_sv (S : RS K fa β ρ st H) (r : RD K fa H (Mu ρ st) β ρ st.length d v) (h : sv st d = some ds) : ∃ a vs, v = .ref a ∧ (SqL K H a vs ∨ SqT K H a vs) ∧ RDs K fa H (Mu ρ st) β ρ st.length ds vs := by
  by_cases ht : ∃ es, d = .tup es
  · obtain ⟨es, rfl⟩ := ht
    cases h
    obtain ⟨a, vs, e, q, r'⟩ := rd_tup r
    exact ⟨a, vs, e, .inr q, r'⟩
  · have h' : lv st d = some ds := by
      cases d with
      | tup es => exact absurd ⟨es, rfl⟩ ht
      | _ => exact h
    obtain ⟨a, vs, e, q, r'⟩ := rd_lv S r h'
    exact ⟨a, vs, e, .inl q, r'⟩
theorem szOk_le {n : Nat} (h : szOk n = true) : n ≤ sizeLine := by
  have h1 : n ≤ 16777216 := Nat.le_of_ble_eq_true h
  rw [sizeLine_eq]
  exact h1
theorem szLt_lt {n : Nat} (h : szLt n = true) : n < sizeLine := by
  have h1 : n < 16777216 := by simpa [szLt] using h
  rw [sizeLine_eq]
  exact h1
theorem str_len (s : List Nat) : (⟨s.toArray⟩ : Str).length = s.length := by simp [Str.length]
end

/-! ### two-place operators -/
def opOf : Op → Operator
  | .add => .Add | .sub => .Sub | .mul => .Mult | .fdiv => .FloorDiv | .mod => .Mod | .pow => .Pow | .shl => .LShift | .shr => .RShift | .band => .BitAnd | .bor => .BitOr | .bxor => .BitXor
def rBop (K : PySem.W.Frag) (fa : Nat → Addr) (o : Op) : R2 := fun x y H Q => ∃ β ρ st dx dy d, RS K fa β ρ st H ∧ RD K fa H (Mu ρ st) β ρ st.length dx x ∧ RD K fa H (Mu ρ st) β ρ st.length dy y ∧ bop st o dx dy = some d ∧ Post K fa β ρ st H d st Q
section
variable {X : Cx} {fa : Nat → Addr}
theorem small_ok {i j : Int} (h : (small i || small j) = true) : CMul i j := by
  rcases Bool.or_eq_true_iff.mp h with h | h
  · left
    simp only [small, Bool.and_eq_true, decide_eq_true_eq] at h
    exact h
  · right
    simp only [small, Bool.and_eq_true, decide_eq_true_eq] at h
    exact h
theorem op_iop (o : Op) : OpR X (binaryOp (opOf o)) (fun x y H Q => ∃ i j k, x = .int i ∧ y = .int j ∧ iop o i j = some k ∧ Q (.int k) H) := by
  intro pins s σ H x y v u Q I rx ry h
  obtain ⟨i, j, k, rfl, rfl, hk, q⟩ := h
  cases o with
  | add => cases hk; exact op_add pins s σ H _ _ v u Q I rx ry ⟨i, j, rfl, rfl, q⟩
  | sub => cases hk; exact op_sub pins s σ H _ _ v u Q I rx ry ⟨i, j, rfl, rfl, q⟩
  | mul =>
    simp only [iop] at hk
    split at hk
    · cases hk
      exact op_mul pins s σ H _ _ v u Q I rx ry ⟨i, j, rfl, rfl, small_ok (by assumption), q⟩
    · cases hk
  | fdiv =>
    simp only [iop] at hk
    split at hk
    · rename_i c
      simp only [Bool.and_eq_true, decide_eq_true_eq] at c
      cases hk
      exact op_fdiv pins s σ H _ _ v u Q I rx ry ⟨i, j, rfl, rfl, c, q⟩
    · cases hk
  | mod =>
    simp only [iop] at hk
    split at hk
    · cases hk
      exact op_mod pins s σ H _ _ v u Q I rx ry ⟨i, j, rfl, rfl, by assumption, q⟩
    · cases hk
  | pow =>
    simp only [iop] at hk
    split at hk
    · rename_i c
      simp only [Bool.and_eq_true, decide_eq_true_eq] at c
      cases hk
      exact op_pow pins s σ H _ _ v u Q I rx ry ⟨i, j, rfl, rfl, c, q⟩
    · cases hk
  | shl =>
    simp only [iop] at hk
    split at hk
    · rename_i c
      simp only [Bool.and_eq_true, decide_eq_true_eq] at c
      cases hk
      exact op_shl pins s σ H _ _ v u Q I rx ry ⟨i, j, rfl, rfl, c, q⟩
    · cases hk
  | shr =>
    simp only [iop] at hk
    split at hk
    · cases hk
      exact op_shr pins s σ H _ _ v u Q I rx ry ⟨i, j, rfl, rfl, by assumption, q⟩
    · cases hk
  | band => cases hk; exact op_and pins s σ H _ _ v u Q I rx ry ⟨i, j, rfl, rfl, q⟩
  | bor => cases hk; exact op_or pins s σ H _ _ v u Q I rx ry ⟨i, j, rfl, rfl, q⟩
  | bxor => cases hk; exact op_xor pins s σ H _ _ v u Q I rx ry ⟨i, j, rfl, rfl, q⟩
theorem op_catD {a b : D} {xs ys : List D} {st : Sto} {β ρ : List Addr} {H : Hp} {x y : V} {Q : VK} {pins : List (Addr × PySem.Obj)} {s : Shared} {σ : L2.St} {v u : Value} (I : Inv X pins σ H s) (rx : RelV x v) (ry : RelV y u)
    (S : RS X.K fa β ρ st H) (ra : RD X.K fa H (Mu ρ st) β ρ st.length a x) (rb : RD X.K fa H (Mu ρ st) β ρ st.length b y) (ha : lv st a = some xs) (hb : lv st b = some ys) (na : ∀ ds, a ≠ .scr ds) (nb : ∀ ds, b ≠ .scr ds)
    (hz : szOk (xs.length + ys.length) = true) (q : Post X.K fa β ρ st H (.frz (xs ++ ys)) st Q) : wpAny (model X.prog X.w) X.A (binaryOp .Add v u) (EP X pins σ Q) X.xe s := by
  obtain ⟨p1, vs, rfl, h1, r1⟩ := rd_lh S ra ha na
  obtain ⟨p2, ws, rfl, h2, r2⟩ := rd_lh S rb hb nb
  exact op_cat pins s σ H _ _ v u Q I rx ry ⟨p1, p2, vs, ws, rfl, rfl, h1, h2, by rw [← r1.length, ← r2.length]; exact szOk_le hz, fun p hp => q.frz S (r1.append r2) hp⟩
theorem op_repD {a d : D} {xs : List D} {k : Int} {st : Sto} {β ρ : List Addr} {H : Hp} {x y : V} {Q : VK} {pins : List (Addr × PySem.Obj)} {s : Shared} {σ : L2.St} {v u : Value} (I : Inv X pins σ H s) (rx : RelV x v) (ry : RelV y u)
    (S : RS X.K fa β ρ st H) (ra : RD X.K fa H (Mu ρ st) β ρ st.length a x) (rb : RD X.K fa H (Mu ρ st) β ρ st.length (.int k) y) (ha : lv st a = some xs) (na : ∀ ds, a ≠ .scr ds)
    (hd : rep xs k = some d) (q : Post X.K fa β ρ st H d st Q) : wpAny (model X.prog X.w) X.A (binaryOp .Mult v u) (EP X pins σ Q) X.xe s := by
  obtain ⟨p1, vs, rfl, h1, r1⟩ := rd_lh S ra ha na
  cases rb
  unfold rep at hd
  split at hd
  · rename_i c
    simp only [Bool.and_eq_true, decide_eq_true_eq] at c
    cases hd
    exact op_rep pins s σ H _ _ v u Q I rx ry ⟨p1, k, vs, rfl, rfl, h1, c.1, c.2.1, by rw [← r1.length]; exact szOk_le c.2.2, fun p hp => q.frz S (r1.rep _) hp⟩
  · cases hd
theorem op_bop (o : Op) : OpR X (binaryOp (opOf o)) (rBop X.K fa o) := by
  intro pins s σ H x y v u Q I rx ry h
  obtain ⟨β, ρ, st, dx, dy, d, S, ra, rb, hd, q⟩ := h
  unfold bop at hd
  split at hd
  · -- ints
    obtain ⟨k, hk, rfl⟩ := Option.map_eq_some_iff.mp hd
    cases ra
    cases rb
    exact op_iop o pins s σ H _ _ v u Q I rx ry ⟨_, _, k, rfl, rfl, hk, q.here S (.int k)⟩
  · -- texts
    split at hd
    · split at hd
      · rename_i c
        cases hd
        cases ra
        cases rb
        refine op_add_str pins s σ H _ _ v u Q I rx ry ⟨_, _, rfl, rfl, by rw [str_len, str_len]; exact szOk_le c, ?_⟩
        rename_i a b _
        have e2 : ((⟨a.toArray⟩ : Str) ++ (⟨b.toArray⟩ : Str)) = (⟨(a ++ b).toArray⟩ : Str) := by
          show Str.append _ _ = _
          simp [Str.append]
        rw [e2]
        exact q.here S (.str _)
      · cases hd
    · cases hd
  · -- tuples
    split at hd
    · split at hd
      · rename_i c
        cases hd
        obtain ⟨p1, vs, rfl, h1, r1⟩ := rd_tup ra
        obtain ⟨p2, ws, rfl, h2, r2⟩ := rd_tup rb
        refine op_catA pins s σ H _ _ v u Q I rx ry ⟨p1, p2, vs, ws, rfl, rfl, h1, h2, by rw [← r1.length, ← r2.length]; exact szOk_le c, fun e => ?_, fun _ e => ?_, fun _ _ p hp => q.tup S (r1.append r2) hp⟩
        · subst e
          cases r1
          exact q.here S rb
        · subst e
          cases r2
          have z := q
          rw [List.append_nil] at z
          exact z.here S ra
      · cases hd
    · cases hd
  · split at hd
    · split at hd
      · cases hd
        exact op_catD I rx ry S ra rb rfl rfl (by intro ds z; cases z) (by intro ds z; cases z) (by assumption) q
      · cases hd
    · cases hd
  · split at hd
    · split at hd
      · cases hd
        exact op_catD I rx ry S ra rb rfl (by assumption) (by intro ds z; cases z) (by intro ds z; cases z) (by assumption) q
      · cases hd
    · cases hd
  · split at hd
    · split at hd
      · cases hd
        exact op_catD I rx ry S ra rb (by assumption) rfl (by intro ds z; cases z) (by intro ds z; cases z) (by assumption) q
      · cases hd
    · cases hd
  · split at hd
    · split at hd
      · cases hd
        exact op_catD I rx ry S ra rb (by assumption) (by assumption) (by intro ds z; cases z) (by intro ds z; cases z) (by assumption) q
      · cases hd
    · cases hd
  · split at hd
    · exact op_repD I rx ry S ra rb rfl (by intro ds z; cases z) hd q
    · cases hd
  · split at hd
    · exact op_repD I rx ry S ra rb (by assumption) (by intro ds z; cases z) hd q
    · cases hd
  · cases hd
end
end PL

set_option Elab.async false
set_option linter.all false
set_option maxRecDepth 100000
set_option maxHeartbeats 1000000
/-! Comparisons, isinstance. -/
namespace PL
open PySem PySem.Spec PyProof.Rows L2
mutual
/-- as the library's data -/
def py : D → PyData
  | .non => .none
  | .bl b => .bool b
  | .int i => .int i
  | .str s => .str ⟨s.toArray⟩
  | .tup ds => .tuple (pys ds)
  | .frz ds => .list (pys ds)
  | .scr _ => .none
  | .lst _ => .none
  | .fn _ => .none
def pys : List D → List PyData
  | [] => []
  | d :: ds => py d :: pys ds
end
theorem pys_map : ∀ ds : List D, pys ds = ds.map py
  | [] => rfl
  | d :: ds => by rw [pys, pys_map ds, List.map_cons]
theorem dOk_tup {k : Nat} {ds : List D} (h : dOk (k + 1) (.tup ds) = true) : ∀ d ∈ ds, dOk k d = true := by
  simp only [dOk, List.all_eq_true] at h
  exact h
theorem dOk_frz {k : Nat} {ds : List D} (h : dOk (k + 1) (.frz ds) = true) : ∀ d ∈ ds, dOk k d = true := by
  simp only [dOk, List.all_eq_true] at h
  exact h
theorem str_eq {x y : List Nat} : ((⟨x.toArray⟩ : Str) == ⟨y.toArray⟩) = (x == y) := by
  rw [Bool.eq_iff_iff]
  simp
mutual
theorem dEq_py : ∀ (d : D) (k k' : Nat) (e : D), dOk k d = true → dOk k' e = true → dEq d e = PyData.eqv (py d) (py e)
  | .non, k, k', e, _, he => by
    cases e <;> first
      | rfl
      | (cases k' <;> simp [dOk] at he)
  | .bl b, k, k', e, _, he => by
    cases e <;> first
      | rfl
      | (cases k' <;> simp [dOk] at he)
  | .int i, k, k', e, _, he => by
    cases e <;> first
      | rfl
      | (cases k' <;> simp [dOk] at he)
  | .str s, k, k', e, _, he => by
    cases e <;> first
      | rfl
      | (cases k' <;> simp [dOk] at he; done)
      | (simp only [dEq, py, PyData.eqv]; exact str_eq.symm)
  | .tup ds, k, k', e, hd, he => by
    cases e with
    | tup es =>
      cases k with
      | zero => simp [dOk] at hd
      | succ k =>
        cases k' with
        | zero => simp [dOk] at he
        | succ k' =>
          simp only [dEq, py, PyData.eqv]
          exact dEqs_py ds k k' es (dOk_tup hd) (dOk_tup he)
    | scr _ => cases k' <;> simp [dOk] at he
    | lst _ => cases k' <;> simp [dOk] at he
    | fn _ => cases k' <;> simp [dOk] at he
    | _ => rfl
  | .frz ds, k, k', e, hd, he => by
    cases e with
    | frz es =>
      cases k with
      | zero => simp [dOk] at hd
      | succ k =>
        cases k' with
        | zero => simp [dOk] at he
        | succ k' =>
          simp only [dEq, py, PyData.eqv]
          exact dEqs_py ds k k' es (dOk_frz hd) (dOk_frz he)
    | scr _ => cases k' <;> simp [dOk] at he
    | lst _ => cases k' <;> simp [dOk] at he
    | fn _ => cases k' <;> simp [dOk] at he
    | _ => rfl
  | .scr _, k, _, _, hd, _ => by cases k <;> simp [dOk] at hd
  | .lst _, k, _, _, hd, _ => by cases k <;> simp [dOk] at hd
  | .fn _, k, _, _, hd, _ => by cases k <;> simp [dOk] at hd
theorem dEqs_py : ∀ (ds : List D) (k k' : Nat) (es : List D), (∀ d ∈ ds, dOk k d = true) → (∀ e ∈ es, dOk k' e = true) → dEqs ds es = PyData.eqvAll (pys ds) (pys es)
  | [], _, _, es, _, _ => by cases es <;> rfl
  | d :: ds, k, k', es, hd, he => by
    cases es with
    | nil => rfl
    | cons e es =>
      simp only [dEqs, pys, PyData.eqvAll]
      rw [dEq_py d k k' e (hd d List.mem_cons_self) (he e List.mem_cons_self), dEqs_py ds k k' es (fun x hx => hd x (List.mem_cons_of_mem _ hx)) (fun x hx => he x (List.mem_cons_of_mem _ hx))]
end
mutual
theorem py_ok : ∀ (d : D) (k : Nat), dOk k d = true → (py d).canLay0 = true ∧ (py d).depth ≤ k
  | .non, k, _ => ⟨by simp [py, PyData.canLay0], by simp [py, PyData.depth]⟩
  | .bl b, k, _ => ⟨by simp [py, PyData.canLay0], by simp [py, PyData.depth]⟩
  | .int i, k, _ => ⟨by simp [py, PyData.canLay0], by simp [py, PyData.depth]⟩
  | .str s, k, h => by
    refine ⟨?_, by simp [py, PyData.depth]⟩
    have h2 : s.all (· < 0x110000) = true := by cases k <;> exact h
    simp only [py, PyData.canLay0, PyData.strOk]
    simpa using h2
  | .tup ds, k, h => by
    cases k with
    | zero => simp [dOk] at h
    | succ k =>
      have q := pys_ok ds k (dOk_tup h)
      simp only [py, PyData.canLay0, PyData.depth]
      exact ⟨q.1, by omega⟩
  | .frz ds, k, h => by
    cases k with
    | zero => simp [dOk] at h
    | succ k =>
      have q := pys_ok ds k (dOk_frz h)
      simp only [py, PyData.canLay0, PyData.depth]
      exact ⟨q.1, by omega⟩
  | .scr _, k, hd => by cases k <;> simp [dOk] at hd
  | .lst _, k, hd => by cases k <;> simp [dOk] at hd
  | .fn _, k, hd => by cases k <;> simp [dOk] at hd
theorem pys_ok : ∀ (ds : List D) (k : Nat), (∀ d ∈ ds, dOk k d = true) → PyData.canLayAll0 (pys ds) = true ∧ PyData.depthAll (pys ds) ≤ k
  | [], k, _ => ⟨by simp [pys, PyData.canLayAll0], by simp [pys, PyData.depthAll]⟩
  | d :: ds, k, h => by
    have q1 := py_ok d k (h d List.mem_cons_self)
    have q2 := pys_ok ds k fun x hx => h x (List.mem_cons_of_mem _ hx)
    simp only [pys, PyData.canLayAll0, PyData.depthAll]
    refine ⟨by rw [q1.1, q2.1]; rfl, by omega⟩
end

section
variable {K : PySem.W.Frag} {fa : Nat → Addr} {H : Hp} {m : Addr → Prop} {β ρ : List Addr} {n : Nat}
mutual
theorem rd_dp : ∀ {d : D} {v : V} (k : Nat), RD K fa H m β ρ n d v → dOk k d = true → Dp K H v (py d)
  | _, _, _, .non, _ => .non
  | _, _, _, .bl b, _ => .bl b
  | _, _, _, .int i, _ => .int i
  | _, _, _, .str s, _ => .str _
  | _, _, 0, .tupH _ _ _ _, h => by simp [dOk] at h
  | _, _, k + 1, .tupH h1 _ _ h4, h => .tup (.inl h1) (rds_dp k h4 (dOk_tup h))
  | _, _, 0, .tupK _ _, h => by simp [dOk] at h
  | _, _, k + 1, .tupK h1 h4, h => .tup (.inr h1) (rds_dp k h4 (dOk_tup h))
  | _, _, 0, .frz _ _ _ _, h => by simp [dOk] at h
  | _, _, k + 1, .frz h1 _ _ h4, h => .lst (.inl (.inl h1)) (rds_dp k h4 (dOk_frz h))
  | _, _, k, .scrH _ _ _ _, h => by cases k <;> simp [dOk] at h
  | _, _, k, .scrK _ _, h => by cases k <;> simp [dOk] at h
  | _, _, k, .lst _ _, h => by cases k <;> simp [dOk] at h
  | _, _, k, .fn _, h => by cases k <;> simp [dOk] at h
theorem rds_dp : ∀ {ds : List D} {vs : List V} (k : Nat), RDs K fa H m β ρ n ds vs → (∀ d ∈ ds, dOk k d = true) → DpAll K H vs (pys ds)
  | _, _, _, .nil, _ => .nil
  | _, _, k, .cons h t, q => .cons (rd_dp k h (q _ List.mem_cons_self)) (rds_dp k t fun x hx => q x (List.mem_cons_of_mem _ hx))
end
end
theorem shaped_py {d : D} {k : Nat} (h : dOk k d = true) (hk : k ≤ 64) : SeqAt.shaped (py d) = true := by
  obtain ⟨h1, h2⟩ := py_ok d k h
  unfold SeqAt.shaped
  rw [h1, decide_eq_true (Nat.le_trans h2 hk)]
  rfl
section
variable {K : PySem.W.Frag} {fa : Nat → Addr} {H : Hp} {β ρ : List Addr} {st : Sto} {d : D} {v : V}
theorem top_dp (S : RS K fa β ρ st H) (r : RD K fa H (Mu ρ st) β ρ st.length d v) {k : Nat} (h : dOk k (top st d) = true) : Dp K H v (py (top st d)) := by
  by_cases hl : ∃ i, d = .lst i
  · obtain ⟨i, rfl⟩ := hl
    cases e : lv st (.lst i) with
    | none =>
      have et : top st (.lst i) = .lst i := by
        show (match lv st (.lst i) with | some ds => D.frz ds | none => D.lst i) = _
        rw [e]
      rw [et] at h
      cases k <;> simp [dOk] at h
    | some ds =>
      have et : top st (.lst i) = .frz ds := by
        show (match lv st (.lst i) with | some ds => D.frz ds | none => D.lst i) = _
        rw [e]
      rw [et] at h ⊢
      obtain ⟨a, vs, rfl, h1, h2⟩ := rd_lh S r e (by intro ds z; cases z)
      cases k with
      | zero => simp [dOk] at h
      | succ k => exact .lst (.inl (.inl h1)) (rds_dp k h2 (dOk_frz h))
  · have et : top st d = d := by
      cases d with
      | lst i => exact absurd ⟨i, rfl⟩ hl
      | _ => rfl
    rw [et] at h ⊢
    exact rd_dp k r h
end
/-! ### the comparisons -/
def cmOf : Cm → CmpOp
  | .eq => .Eq | .ne => .NotEq | .lt => .Lt | .le => .LtE | .gt => .Gt | .ge => .GtE | .is => .Is | .isn => .IsNot | .mem => .In | .nmem => .NotIn
def rCop (K : PySem.W.Frag) (fa : Nat → Addr) (o : Cm) : R2 := fun x y H Q => ∃ β ρ st dx dy c, RS K fa β ρ st H ∧ RD K fa H (Mu ρ st) β ρ st.length dx x ∧ RD K fa H (Mu ρ st) β ρ st.length dy y ∧ cop st o dx dy = some c ∧ Q (.bl c) H
section
variable {X : Cx} {fa : Nat → Addr}
theorem rd_int {K : PySem.W.Frag} {fa : Nat → Addr} {H : Hp} {m : Addr → Prop} {β ρ : List Addr} {n : Nat} {i : Int} {v : V} (r : RD K fa H m β ρ n (.int i) v) : v = .int i := by
  cases r
  rfl
theorem lex_eq : ∀ a b : List Int, lexLt a b = HT.lexLt a b
  | [], [] => rfl
  | [], _ :: _ => rfl
  | _ :: _, [] => rfl
  | x :: xs, y :: ys => by
    rw [HT.lexLt_cons, lexLt, lex_eq xs ys]
/-- the items' answers where they are data -/
theorem ans_at {H : Hp} {d : D} {ds : List D} {x : V} {vs : List V} {m : Addr → Prop} {β ρ : List Addr} {n : Nat} {pins : List (Addr × PySem.Obj)} {s : Shared} {σ : L2.St} {v : Value} {its : List Value} (hu : X.A.units + 65 < cLine)
    (I : Inv X pins σ H s) (rx : RelV x v) (hd : Dp X.K H x (py d)) (ok : dOk 40 d = true) (hr : RDs X.K fa H m β ρ n ds vs) (rv : Vals vs its) (oks : ∀ e ∈ ds, dOk 40 e = true) :
    ∃ f : Value → Bool, (∀ u, u ∈ its.toArray → SeqAt.EqAt X.A.in1 s u v (f u)) ∧ its.toArray.any f = ds.any fun e => dEq e d := by
  have da := rds_dp 40 hr oks
  obtain ⟨as, hra⟩ := Dp.readsAll I _ _ _ da rv
  obtain ⟨bs, hrd⟩ := Dp.reads I _ _ _ hd rx
  have hl := (pys_ok ds 40 oks)
  have hl2 := py_ok d 40 ok
  refine ⟨fun u => PyData.eqv (SeqAt.readOf s.heap u) (py d), SeqAt.items_eqAt (vs := its.toArray) (show ReadsAll s.heap its.toArray.toList (pys ds) as from hra) hrd hl.1 hl2.1 ?_, ?_⟩
  · show X.A.units + 1 + min (PyData.depthAll (pys ds)) (py d).depth < cLine
    omega
  · have hmap : its.map (SeqAt.readOf s.heap) = pys ds := SeqAt.readsAll_map _ its as hl.1 hra
    have e1 : its.toArray.any (fun u => PyData.eqv (SeqAt.readOf s.heap u) (py d)) = (its.map (SeqAt.readOf s.heap)).any fun z => PyData.eqv z (py d) := by
      rw [List.any_map, List.any_toArray]
      rfl
    rw [e1, hmap, pys_map, List.any_map]
    have key : ∀ (es : List D), (∀ e ∈ es, dOk 40 e = true) → es.any ((fun z => PyData.eqv z (py d)) ∘ py) = es.any fun e => dEq e d := by
      intro es
      induction es with
      | nil => intro _; rfl
      | cons e es ih =>
        intro h
        rw [List.any_cons, List.any_cons, ih (fun x hx => h x (List.mem_cons_of_mem _ hx)), dEq_py e 40 40 d (h e List.mem_cons_self) ok]
        rfl
    exact key ds oks
def ng (o : Cm) (c : Bool) : Bool := match o with
  | .isn => !c
  | .nmem => !c
  | _ => c
theorem cis_ok {o : Cm} (ho : o = .is ∨ o = .isn) {pins : List (Addr × PySem.Obj)} {s : Shared} {σ : L2.St} {H : Hp} {x y : V} {v u : Value} {Q : VK} {m : Addr → Prop} {β ρ : List Addr} {n : Nat} {dx dy : D} {c : Bool} (I : Inv X pins σ H s) (rx : RelV x v) (ry : RelV y u)
    (ra : RD X.K fa H m β ρ n dx x) (rb : RD X.K fa H m β ρ n dy y) (h : cis dx dy = some c) (q : Q (.bl (ng o c)) H) : wpAny (model X.prog X.w) X.A (compareOp (cmOf o) v u) (EP X pins σ Q) X.xe s := by
  have hn : decide (x = V.non) = isNon dx := by cases ra <;> rfl
  cases rb with
  | non =>
    rcases ho with rfl | rfl
    · have e : isNon dx = c := Option.some.inj h
      exact op_isN pins s σ H _ _ v u Q I rx ry ⟨rfl, by rw [hn, e]; exact q⟩
    · have e : isNon dx = c := Option.some.inj h
      exact op_notN pins s σ H _ _ v u Q I rx ry ⟨rfl, by rw [hn, e]; exact q⟩
  | bl b =>
    cases ra with
    | bl a =>
      rcases ho with rfl | rfl
      · have e : (a == b) = c := Option.some.inj h
        exact op_isBl pins s σ H _ _ v u Q I rx ry ⟨a, b, rfl, rfl, by rw [← Bool.beq_eq_decide_eq, e]; exact q⟩
      · have e : (a == b) = c := Option.some.inj h
        exact op_notBl pins s σ H _ _ v u Q I rx ry ⟨a, b, rfl, rfl, by rw [← Bool.beq_eq_decide_eq, e]; exact q⟩
    | _ => rcases ho with rfl | rfl <;> cases h
  | _ => rcases ho with rfl | rfl <;> cases h
theorem cin_ok {o : Cm} (ho : o = .mem ∨ o = .nmem) (hu : X.A.units + 65 < cLine) {pins : List (Addr × PySem.Obj)} {s : Shared} {σ : L2.St} {H : Hp} {x y : V} {v u : Value} {Q : VK} {β ρ : List Addr} {st : Sto} {dx dy : D} {c : Bool} (I : Inv X pins σ H s) (rx : RelV x v) (ry : RelV y u)
    (S : RS X.K fa β ρ st H) (ra : RD X.K fa H (Mu ρ st) β ρ st.length dx x) (rb : RD X.K fa H (Mu ρ st) β ρ st.length dy y) (he : cin st dx dy = some c) (q : Q (.bl (ng o c)) H) :
    wpAny (model X.prog X.w) X.A (compareOp (cmOf o) v u) (EP X pins σ Q) X.xe s := by
  unfold cin at he
  split at he
  · -- a text
    split at he
    · cases he
      cases ra
      cases rb
      rcases ho with rfl | rfl
      · exact op_in_sign pins s σ H _ _ v u Q I rx ry ⟨_, _, rfl, rfl, q⟩
      · exact op_notIn_sign pins s σ H _ _ v u Q I rx ry ⟨_, _, rfl, rfl, q⟩
    · cases he
  · -- a list, a tuple
    split at he
    · rename_i ds hs
      split at he
      · rename_i ok
        rw [Bool.and_eq_true, List.all_eq_true] at ok
        cases he
        have hd := top_dp S ra ok.1
        obtain ⟨a, vs, rfl, hq, hr⟩ := rd_sv S rb hs
        cases ry
        rcases hq with hq | hq
        · obtain ⟨its, rv, pl, hz⟩ := I.list hq
          obtain ⟨f, hf, e⟩ := ans_at hu I rx hd ok.1 hr rv ok.2
          rcases ho with rfl | rfl
          · refine SeqAt.in_listAt f pl.isList hf ⟨.bl _, H, I, rfl, ?_⟩
            rw [e]
            exact q
          · refine SeqAt.notIn_listAt f pl.isList hf ⟨.bl _, H, I, rfl, ?_⟩
            rw [e]
            exact q
        · obtain ⟨its, rv, pl, hz⟩ := I.tuple hq
          obtain ⟨f, hf, e⟩ := ans_at hu I rx hd ok.1 hr rv ok.2
          rcases ho with rfl | rfl
          · refine SeqAt.in_tupleAt f pl hf ⟨.bl _, H, I, rfl, ?_⟩
            rw [e]
            exact q
          · refine SeqAt.notIn_tupleAt f pl hf ⟨.bl _, H, I, rfl, ?_⟩
            rw [e]
            exact q
      · cases he
    · cases he
theorem op_cop (o : Cm) (hu : X.A.units + 65 < cLine) : OpR X (compareOp (cmOf o)) (rCop X.K fa o) := by
  intro pins s σ H x y v u Q I rx ry h
  obtain ⟨β, ρ, st, dx, dy, c, S, ra, rb, hc, q⟩ := h
  cases o with
  | eq =>
    simp only [cop] at hc
    split at hc
    · rename_i ok
      rw [Bool.and_eq_true] at ok
      cases hc
      refine op_eqD (by omega) pins s σ H x y v u Q I rx ry ⟨_, _, top_dp S ra ok.1, top_dp S rb ok.2, shaped_py ok.1 (by decide), shaped_py ok.2 (by decide), ?_⟩
      rw [← dEq_py _ 40 40 _ ok.1 ok.2]
      exact q
    · cases hc
  | ne =>
    simp only [cop] at hc
    split at hc
    · rename_i ok
      rw [Bool.and_eq_true] at ok
      cases hc
      refine op_neD (by omega) pins s σ H x y v u Q I rx ry ⟨_, _, top_dp S ra ok.1, top_dp S rb ok.2, shaped_py ok.1 (by decide), shaped_py ok.2 (by decide), ?_⟩
      rw [← dEq_py _ 40 40 _ ok.1 ok.2]
      exact q
    · cases hc
  | lt =>
    simp only [cop] at hc
    unfold clt at hc
    split at hc
    · cases hc
      cases ra
      cases rb
      exact op_lt pins s σ H _ _ v u Q I rx ry ⟨_, _, rfl, rfl, q⟩
    · cases hc
      cases ra
      cases rb
      exact op_lt_str pins s σ H _ _ v u Q I rx ry ⟨_, _, rfl, rfl, q⟩
    · split at hc
      · rename_i a' b' e1 e2
        cases hc
        obtain ⟨p1, vs, rfl, h1, r1⟩ := rd_tup ra
        obtain ⟨p2, ws, rfl, h2, r2⟩ := rd_tup rb
        have w1 := r1.ints e1
        have w2 := r2.ints e2
        subst w1 w2
        exact op_ltT (by omega) pins s σ H _ _ v u Q I rx ry ⟨p1, p2, _, _, rfl, rfl, h1, h2, by rw [← lex_eq]; exact q⟩
      · cases hc
    · cases hc
  | gt =>
    simp only [cop] at hc
    split at hc
    · cases hc
      cases ra
      cases rb
      exact op_gt pins s σ H _ _ v u Q I rx ry ⟨_, _, rfl, rfl, q⟩
    · cases hc
  | le =>
    simp only [cop] at hc
    split at hc
    · cases hc
      cases ra
      cases rb
      exact op_le pins s σ H _ _ v u Q I rx ry ⟨_, _, rfl, rfl, q⟩
    · cases hc
  | ge =>
    simp only [cop] at hc
    split at hc
    · cases hc
      cases ra
      cases rb
      exact op_ge pins s σ H _ _ v u Q I rx ry ⟨_, _, rfl, rfl, q⟩
    · cases hc
  | is => exact cis_ok (.inl rfl) I rx ry ra rb hc q
  | isn =>
    obtain ⟨e, h1, rfl⟩ := Option.map_eq_some_iff.mp hc
    exact cis_ok (.inr rfl) I rx ry ra rb h1 q
  | mem => exact cin_ok (.inl rfl) hu I rx ry S ra rb hc q
  | nmem =>
    obtain ⟨e, h1, rfl⟩ := Option.map_eq_some_iff.mp hc
    exact cin_ok (.inr rfl) hu I rx ry S ra rb h1 q
/-! ### isinstance -/
def tyN : Ty → String
  | .int => "int" | .str => "str" | .bool => "bool" | .list => "list" | .tuple => "tuple"
theorem isi_ok {t : Ty} {pins : List (Addr × PySem.Obj)} {s : Shared} {σ : L2.St} {H : Hp} {x : V} {us : List Value} {Q : VK} {β ρ : List Addr} {st : Sto} {d : D} {c : Bool} (I : Inv X pins σ H s) (S : RS X.K fa β ρ st H)
    (ra : RD X.K fa H (Mu ρ st) β ρ st.length d x) (rv : Vals [x, .ty (tyN t)] us) (h : isInst t d = some c) (q : Q (.bl c) H) : wpAny (model X.prog X.w) X.A (PySem.call (.builtin "isinstance") us) (EP X pins σ Q) X.xe s := by
  have go : ∀ (T : String), TyX X.K H x (.type T) → kitB T (tyN t) = some c → wpAny (model X.prog X.w) X.A (PySem.call (.builtin "isinstance") us) (EP X pins σ Q) X.xe s := fun T hT hk =>
    call_isi pins s σ H _ us Q I rv ⟨x, _, _, _, c, rfl, .ty _, hT, kit_ty hk, q⟩
  cases ra with
  | non => cases t <;> cases h <;> exact go "NoneType" (.base .non) (by decide +kernel)
  | bl b => cases t <;> cases h <;> exact go "bool" (.base (.bl b)) (by decide +kernel)
  | int i => cases t <;> cases h <;> exact go "int" (.base (.int i)) (by decide +kernel)
  | str z => cases t <;> cases h <;> exact go "str" (.base (.str _)) (by decide +kernel)
  | tupH h1 _ _ _ =>
    rcases h1 with h1 | ⟨o, h1⟩
    · cases t <;> cases h <;> exact go "tuple" (.base (.tup h1)) (by decide +kernel)
    · cases t <;> cases h <;> exact go "tuple" (.fTuple h1) (by decide +kernel)
  | tupK h1 _ =>
    obtain ⟨o, its, n, h2, h3, _⟩ := h1
    cases t <;> cases h <;> exact go "tuple" (.kTuple h2 h3) (by decide +kernel)
  | frz h1 _ _ _ => cases t <;> cases h <;> exact go "list" (.base (.lst h1)) (by decide +kernel)
  | scrH _ _ _ _ => cases h
  | scrK _ _ => cases h
  | lst h1 h2 =>
    obtain ⟨a, vs, e1, e2, e3⟩ := rs_at S (List.getElem?_eq_getElem h1)
    rw [h2] at e1
    cases e1
    cases t <;> cases h <;> exact go "list" (.base (.lst e2)) (by decide +kernel)
  | fn k => cases h
end
end PL

set_option Elab.async false
set_option linter.all false
set_option maxRecDepth 100000
set_option maxHeartbeats 1000000
/-! Built-in functions and methods. -/
namespace PL
open PySem PySem.Spec PyProof.Rows L2
section
variable {X : Cx} {fa : Nat → Addr}
/-! ### sum of a tuple -/
theorem preSum_take (ns : List Int) : ∀ n, preSum (fun i => ns.getD i 0) n = (ns.take n).sum
  | 0 => by simp [preSum]
  | n + 1 => by
    have e : preSum (fun i => ns.getD i 0) (n + 1) = preSum (fun i => ns.getD i 0) n + ns.getD n 0 := rfl
    rw [e, preSum_take ns n]
    by_cases h : n < ns.length
    · rw [List.take_succ_eq_append_getElem h, List.sum_append]
      simp [List.getD_eq_getElem?_getD, List.getElem?_eq_getElem h]
    · rw [List.take_of_length_le (by omega), List.take_of_length_le (by omega)]
      simp [List.getD_eq_getElem?_getD, List.getElem?_eq_none (show ns.length ≤ n by omega)]
theorem ints_at : ∀ {us : List Value} {ns : List Int} {i : Nat} {v : Value}, IntsAre us ns → us[i]? = some v → ∃ t, v = .int (ns.getD i 0) t
  | _, _, _, _, .nil, h => by simp at h
  | _, _, 0, v, .cons a t _, h => by
    simp at h
    exact ⟨_, by rw [← h]; rfl⟩
  | _, _, i + 1, v, .cons a t r, h => by
    obtain ⟨u, e⟩ := ints_at (i := i) (v := v) r (by simpa using h)
    exact ⟨u, by rw [e]; rfl⟩
theorem cr_sumT (hc : X.calm = true) : CallR X (.builtin "sum") (fun vs H Q => ∃ (a : Addr) (ns : List Int), vs = [V.ref a] ∧ SqT X.K H a (ns.map V.int) ∧ Q (.int ns.sum) H) := by
  intro pins s σ H vs us Q I r h
  obtain ⟨a, ns, rfl, hs, q⟩ := h
  obtain ⟨its, rv, ht, _⟩ := I.tuple hs
  rw [Vals.ref1 r]
  have hi := rv.ints
  have hT : s.heap.IsTuple a its.toArray := ht
  have hlt : a < s.heap.objs.size := ht.lt
  refine call_sum_walkG (wpAny_pyIter_tuple hT ?_)
  have I1 : Inv X pins σ H { s with heap := s.heap.push { cls := .type "tuple_iterator", data := .fields #[.ref a, .int 0 0] } } := I.kept (t' := s.toks) fun b o e => Heap.get?_push_of_some _ e
  refine ⟨_, _, _, _, _, _, fun i => ns.getD i 0, rfl, Walks.tuple (A := X.A.in1) (I.ok.hd hc) s.heap.objs.size a (Nat.ne_of_lt hlt) its.toArray, ⟨⟨_, Heap.get?_push_size _ rfl, rfl, rfl⟩, ?_⟩, fun b hb => ?_, fun i v hv => ints_at hi (by simpa using hv), fun h' tk t' hk => ?_⟩
  · obtain ⟨o, e, r⟩ := hT
    exact ⟨o, Heap.get?_push_of_some _ e, r⟩
  · rw [Heap.size_push]
    rcases List.mem_cons.mp hb with e | hb
    · rw [e]; exact Nat.lt_succ_self _
    · rcases List.mem_cons.mp hb with e | hb
      · rw [e]; exact Nat.lt_succ_of_lt hlt
      · cases hb
  · have e : preSum (fun i => ns.getD i 0) its.toArray.size = ns.sum := by
      rw [preSum_take, List.size_toArray, hi.length, List.take_length]
    rw [e]
    refine ⟨.int ns.sum, H, I.kept (h' := h') (t' := tk) fun b o eo => hk b o (fun hm => ?_) (Heap.get?_push_of_some _ eo), ⟨_, rfl⟩, q⟩
    rcases List.mem_cons.mp hm with e1 | hm
    · rw [e1] at eo
      exact absurd (Heap.lt_size eo) (Nat.lt_irrefl _)
    · cases hm
/-! ### built-in functions by values -/
def blV : Bl → Value
  | .len => .builtin "len" | .sum => .builtin "sum" | .all => .builtin "all" | .any => .builtin "any" | .int => .type "int" | .abs => .builtin "abs" | .min2 => .builtin "min" | .max2 => .builtin "max"
  | .divmod => .builtin "divmod" | .tuple => .type "tuple" | .list => .type "list" | .sorted => .builtin "sorted"
def rBl (K : PySem.W.Frag) (fa : Nat → Addr) (b : Bl) : List V → Hp → VK → Prop := fun vs H Q => ∃ β ρ st ds d, RS K fa β ρ st H ∧ RDs K fa H (Mu ρ st) β ρ st.length ds vs ∧ bcall st b ds = some d ∧ Post K fa β ρ st H d st Q
theorem sorted_eq (ns ns' : List Int) (h1 : ns'.Perm ns) (h2 : ns'.Pairwise (· ≤ ·)) : ns' = isort ns := by
  have p : (isort ns).Perm ns := List.mergeSort_perm _ _
  have s : (isort ns).Pairwise (· ≤ ·) := by
    have q := List.pairwise_mergeSort (le := fun (a b : Int) => decide (a ≤ b)) (fun a b c h1 h2 => by simp at *; omega) (fun a b => by simp; omega) ns
    exact q.imp fun h => by simpa using h
  exact PySem.W.ksm_same (h1.trans p.symm) h2 s
theorem call_bl (hc : X.calm = true) (b : Bl) : CallR X (blV b) (rBl X.K fa b) := by
  intro pins s σ H xs us Q I r h
  obtain ⟨β, ρ, st, ds, d, S, rs, hd, q⟩ := h
  unfold bcall at hd
  split at hd
  · -- len
    obtain ⟨k, hk, rfl⟩ := Option.map_eq_some_iff.mp hd
    cases rs with
    | cons r1 r2 =>
      cases r2
      rename_i x
      unfold lenD at hk
      split at hk
      · split at hk
        · rename_i c
          cases hk
          cases r1
          exact call_len_str pins s σ H _ us Q I r ⟨_, rfl, by rw [str_len]; exact szOk_le c, by rw [str_len]; exact q.here S (.int _)⟩
        · cases hk
      · obtain ⟨es, he, rfl⟩ := Option.map_eq_some_iff.mp hk
        obtain ⟨a, vs, rfl, hq, hr⟩ := rd_sv S r1 he
        refine call_len_seq pins s σ H _ us Q I r ⟨a, vs, rfl, hq, ?_⟩
        rw [← hr.length]
        exact q.here S (.int _)
  · -- sum
    obtain ⟨ns, hk, rfl⟩ := Option.map_eq_some_iff.mp hd
    obtain ⟨es, he, hi⟩ := Option.bind_eq_some_iff.mp hk
    cases rs with
    | cons r1 r2 =>
      cases r2
      obtain ⟨a, vs, rfl, hq, hr⟩ := rd_sv S r1 he
      have e := hr.ints hi
      subst e
      rcases hq with hq | hq
      · exact cr_sum hc pins s σ H _ us Q I r ⟨a, ns, rfl, hq, q.here S (.int _)⟩
      · exact cr_sumT hc pins s σ H _ us Q I r ⟨a, ns, rfl, hq, q.here S (.int _)⟩
  · -- all
    obtain ⟨ns, hk, rfl⟩ := Option.map_eq_some_iff.mp hd
    obtain ⟨es, he, hi⟩ := Option.bind_eq_some_iff.mp hk
    cases rs with
    | cons r1 r2 =>
      cases r2
      obtain ⟨a, vs, rfl, hq, hr⟩ := rd_lv S r1 he
      have e := hr.bls hi
      subst e
      exact cr_all hc pins s σ H _ us Q I r ⟨a, ns, rfl, hq, q.here S (.bl _)⟩
  · -- any
    obtain ⟨ns, hk, rfl⟩ := Option.map_eq_some_iff.mp hd
    obtain ⟨es, he, hi⟩ := Option.bind_eq_some_iff.mp hk
    cases rs with
    | cons r1 r2 =>
      cases r2
      obtain ⟨a, vs, rfl, hq, hr⟩ := rd_lv S r1 he
      have e := hr.bls hi
      subst e
      exact cr_any hc pins s σ H _ us Q I r ⟨a, ns, rfl, hq, q.here S (.bl _)⟩
  · -- int of an int
    cases hd
    cases rs with
    | cons r1 r2 =>
      cases r2
      cases r1
      exact call_int1 pins s σ H _ us Q I r (.inl ⟨_, rfl, q.here S (.int _)⟩)
  · cases hd
    cases rs with
    | cons r1 r2 =>
      cases r2
      cases r1
      exact call_int1 pins s σ H _ us Q I r (.inr ⟨_, rfl, q.here S (.int _)⟩)
  · -- abs
    cases hd
    cases rs with
    | cons r1 r2 =>
      cases r2
      cases r1
      exact call_abs pins s σ H _ us Q I r ⟨_, rfl, q.here S (.int _)⟩
  · cases hd
    cases rs with
    | cons r1 r2 =>
      cases r2 with
      | cons r2 r3 =>
        cases r3
        cases r1
        cases r2
        exact call_min2 hc pins s σ H _ us Q I r ⟨_, _, rfl, q.here S (.int _)⟩
  · cases hd
    cases rs with
    | cons r1 r2 =>
      cases r2 with
      | cons r2 r3 =>
        cases r3
        cases r1
        cases r2
        exact call_max2 hc pins s σ H _ us Q I r ⟨_, _, rfl, q.here S (.int _)⟩
  · -- divmod
    split at hd
    · rename_i c
      simp only [Bool.and_eq_true, decide_eq_true_eq] at c
      cases hd
      cases rs with
      | cons r1 r2 =>
        cases r2 with
        | cons r2 r3 =>
          cases r3
          cases r1
          cases r2
          exact call_divmod pins s σ H _ us Q I r ⟨_, _, rfl, c, fun p hp => q.tup S (.cons (.int _) (.cons (.int _) .nil)) hp⟩
    · cases hd
  · -- tuple
    obtain ⟨es, he, rfl⟩ := Option.map_eq_some_iff.mp hd
    cases rs with
    | cons r1 r2 =>
      cases r2
      obtain ⟨a, vs, rfl, hq, hr⟩ := rd_sv S r1 he
      rcases hq with hq | hq
      · exact call_tuple_of pins s σ H _ us Q I r ⟨a, vs, rfl, .inl ⟨hq, fun p hp => q.tup S hr hp⟩⟩
      · refine call_tuple_of pins s σ H _ us Q I r ⟨a, vs, rfl, .inr ⟨hq, ?_⟩⟩
        rename_i x
        by_cases ht : ∃ es', x = D.tup es'
        · obtain ⟨es', rfl⟩ := ht
          cases he
          exact q.here S r1
        · -- a list is no tuple
          have h' : lv st x = some es := by
            cases x with
            | tup es => exact absurd ⟨es, rfl⟩ ht
            | _ => exact he
          obtain ⟨a2, vs2, e2, hq2, hr2⟩ := rd_lv S r1 h'
          cases e2
          obtain ⟨its, rv, ⟨o, n, ho, hcl, _⟩, _⟩ := I.list hq2
          obtain ⟨its', rv', ⟨o', ho', hcl', _⟩, _⟩ := I.tuple hq
          rw [ho] at ho'
          cases ho'
          rw [hcl] at hcl'
          exact absurd hcl' (by decide)
  · -- list
    obtain ⟨es, he, rfl⟩ := Option.map_eq_some_iff.mp hd
    cases rs with
    | cons r1 r2 =>
      cases r2
      obtain ⟨a, vs, rfl, hq, hr⟩ := rd_sv S r1 he
      exact call_list_of pins s σ H _ us Q I r ⟨a, vs, rfl, hq, fun p hp => q.frz S hr hp⟩
  · -- sorted
    obtain ⟨ns, hk, hd⟩ := Option.bind_eq_some_iff.mp hd
    obtain ⟨es, he, hi⟩ := Option.bind_eq_some_iff.mp hk
    split at hd
    · rename_i c
      cases hd
      cases rs with
      | cons r1 r2 =>
        cases r2
        obtain ⟨a, vs, rfl, hq, hr⟩ := rd_lv S r1 he
        have e := hr.ints hi
        subst e
        refine cr_sorted pins s σ H _ us Q I r ⟨a, ns, rfl, hq, by simpa using c, fun ns' p h1 h2 hp => ?_⟩
        rw [sorted_eq ns ns' h1 h2]
        exact q.frz S (rds_ints _) hp
    · cases hd
  · cases hd
end
end PL

set_option Elab.async false
set_option linter.all false
set_option maxRecDepth 100000
set_option maxHeartbeats 1000000
/-! Expressions: each construct, over its parts. -/
namespace PL
open PySem PySem.Spec PyProof.Rows L2

/-- a result: a value, or something raised -/
def RP {α : Type} (r : R α) (P : α → Sto → Prop) (X : Nat → D → Sto → Prop) : Prop := match r with
  | .ok a s => P a s
  | .exn c d s => X c d s
  | .bad => False
theorem RP.bind {α β : Type} {r : R α} {f : α → Sto → R β} {P : β → Sto → Prop} {X : Nat → D → Sto → Prop} (h : RP (r.bind f) P X) : RP r (fun a s => RP (f a s) P X) X := by
  cases r <;> exact h
theorem RP.imp {α : Type} {r : R α} {P P' : α → Sto → Prop} {X X' : Nat → D → Sto → Prop} (h : RP r P X) (k : ∀ a s, P a s → P' a s) (kx : ∀ c d s, X c d s → X' c d s) : RP r P' X' := by
  cases r with
  | ok a s => exact k a s h
  | exn c d s => exact kx c d s h
  | bad => exact h
theorem RP.oD {α : Type} {o : Option α} {st : Sto} {P : α → Sto → Prop} {X : Nat → D → Sto → Prop} (h : RP (oD o st) P X) : ∃ a, o = some a ∧ P a st := by
  cases o with
  | none => exact h.elim
  | some a => exact ⟨a, rfl, h⟩
theorem RP.tru {d : D} {st : Sto} {P : Bool → Sto → Prop} {X : Nat → D → Sto → Prop} (h : RP (tru d st) P X) : ∃ b, d = .bl b ∧ P b st := by
  cases d with
  | bl x => exact ⟨x, rfl, h⟩
  | _ => exact h.elim
theorem RP.toI {d : D} {st : Sto} {P : Int → Sto → Prop} {X : Nat → D → Sto → Prop} (h : RP (toI d st) P X) : ∃ b, d = .int b ∧ P b st := by
  cases d with
  | int x => exact ⟨x, rfl, h⟩
  | _ => exact h.elim

structure RE (K : PySem.W.Frag) (fa : Nat → Addr) (β ρ : List Addr) (env : PL.Env) (st : Sto) (σ : L2.St) (H : Hp) : Prop where
  len : env.length = σ.length
  get : ∀ (i : Nat) (d : D), env[i]? = some (some d) → ∃ v, σ[i]? = some (some v) ∧ RD K fa H (Mu ρ st) β ρ st.length d v
section
variable {K : PySem.W.Frag} {fa : Nat → Addr} {H H1 : Hp} {β ρ ρ1 : List Addr} {env : PL.Env} {st s1 : Sto} {σ : L2.St}
theorem RE.stp (e : RE K fa β ρ env st σ H) (a : Stp ρ st H ρ1 s1 H1) : RE K fa β ρ1 env s1 σ H1 := ⟨e.len, fun i d h => by
  obtain ⟨v, h1, r⟩ := e.get i d h
  exact ⟨v, h1, r.stp a⟩⟩
theorem RE.set (e : RE K fa β ρ env st σ H) {i : Nat} {d : D} {v : V} (r : RD K fa H (Mu ρ st) β ρ st.length d v) : RE K fa β ρ (env.set i (some d)) st (σ.set i (some v)) H := by
  refine ⟨by simpa using e.len, fun j c h => ?_⟩
  by_cases hj : i = j
  · subst hj
    have hi : i < env.length := by
      have := (List.getElem?_eq_some_iff.mp h).1
      simpa using this
    rw [List.getElem?_set_self hi] at h
    cases h
    exact ⟨v, by rw [List.getElem?_set_self (by rw [← e.len]; exact hi)], r⟩
  · rw [List.getElem?_set_ne hj] at h
    obtain ⟨w, h1, r1⟩ := e.get j c h
    exact ⟨w, by rw [List.getElem?_set_ne hj]; exact h1, r1⟩
theorem wipe_get : ∀ {vs : List Nat} {env : PL.Env} {i : Nat} {d : D}, (PL.wipe env vs)[i]? = some (some d) → env[i]? = some (some d) ∧ i ∉ vs
  | [], _, _, _, h => ⟨h, by simp⟩
  | v :: vs, env, i, d, h => by
    unfold PL.wipe at h
    by_cases hi : v = i
    · subst hi
      by_cases hv : v < (PL.wipe env vs).length
      · rw [List.getElem?_set_self hv] at h; cases h
      · rw [List.getElem?_eq_none (by simpa using hv)] at h; cases h
    · rw [List.getElem?_set_ne hi] at h
      obtain ⟨h1, h2⟩ := wipe_get h
      exact ⟨h1, by simp only [List.mem_cons, not_or]; exact ⟨fun e => hi e.symm, h2⟩⟩
theorem wipe_len : ∀ (vs : List Nat) (env : PL.Env), (PL.wipe env vs).length = env.length
  | [], _ => rfl
  | v :: vs, env => by unfold PL.wipe; rw [List.length_set, wipe_len vs]
theorem wipe_keep : ∀ {vs : List Nat} {σ : L2.St} {i : Nat}, i ∉ vs → (L2.wipe σ vs)[i]? = σ[i]?
  | [], _, _, _ => rfl
  | v :: vs, σ, i, h => by
    unfold L2.wipe
    rw [List.getElem?_set_ne (fun e => h (by simp [e]))]
    exact wipe_keep fun q => h (List.mem_cons_of_mem _ q)
theorem RE.wipe (e : RE K fa β ρ env st σ H) (vs : List Nat) : RE K fa β ρ (PL.wipe env vs) st (L2.wipe σ vs) H := by
  refine ⟨by rw [wipe_len, wipe_length]; exact e.len, fun i d h => ?_⟩
  obtain ⟨h1, h2⟩ := wipe_get h
  obtain ⟨v, q, r⟩ := e.get i d h1
  exact ⟨v, by rw [wipe_keep h2]; exact q, r⟩
/-- a list of the store written -/
theorem RS.put (S : RS K fa β ρ st H) {i : Nat} {a : Addr} {ds ds' : List D} {vs' : List V} (hi : st[i]? = some (.lst ds)) (ha : ρ[i]? = some a) (r : RDs K fa H (Mu ρ st) β ρ i ds' vs') :
    RS K fa β ρ (st.set i (.lst ds')) (upd H a (.lst vs')) ∧ Stp ρ st H ρ (st.set i (.lst ds')) (upd H a (.lst vs')) := by
  have hlt : i < st.length := its_get hi
  have mu : ∀ b, Mu ρ (st.set i (.lst ds')) b → Mu ρ st b := fun b ⟨j, o, h1, h2, h3⟩ => by
    by_cases hj : i = j
    · subst hj
      exact ⟨i, _, h1, hi, rfl⟩
    · rw [List.getElem?_set_ne hj] at h2
      exact ⟨j, o, h1, h2, h3⟩
  have k : ∀ b o, H b = some o → ¬ Mu ρ st b → upd H a (.lst vs') b = some o ∧ ¬ Mu ρ (st.set i (.lst ds')) b := fun b o h m => by
    refine ⟨?_, fun q => m (mu b q)⟩
    have ne : b ≠ a := fun e => m (by rw [e]; exact ⟨i, _, ha, hi, rfl⟩)
    rw [upd_ne ne]
    exact h
  refine ⟨⟨S.nd, by rw [List.length_set]; exact S.len, fun j o h => ?_, fun b hb => ?_⟩, ⟨⟨[], by simp⟩, by rw [List.length_set]; exact Nat.le_refl _, k, fun j es h => ?_⟩⟩
  · by_cases hj : i = j
    · subst hj
      rw [List.getElem?_set_self hlt] at h
      cases h
      exact ⟨a, vs', ha, upd_same, r.mono k (fun _ _ x => x) (fun _ x => .inl x) (Nat.le_refl _)⟩
    · rw [List.getElem?_set_ne hj] at h
      obtain ⟨b, vs, e1, e2, e3⟩ := S.obj j o h
      have ne : b ≠ a := fun e => hj (S.nd i j a ha (by rw [← e]; exact e1))
      exact ⟨b, vs, e1, by rw [upd_ne ne]; exact e2, e3.mono k (fun _ _ x => x) (fun _ x => .inl x) (Nat.le_refl _)⟩
  · obtain ⟨⟨o, e⟩, nb⟩ := S.busy b hb
    have ne : b ≠ a := fun q => nb (by rw [q]; exact List.mem_iff_getElem?.mpr ⟨i, ha⟩)
    exact ⟨⟨o, by rw [upd_ne ne]; exact e⟩, nb⟩
  · have ne : i ≠ j := fun e => by
      subst e
      rw [hi] at h
      cases h
    rw [List.getElem?_set_ne ne]
    exact h
/-- a new list into the store -/
theorem RS.push (S : RS K fa β ρ st H) {p : Addr} {ds : List D} {vs : List V} (hp : H p = none) (r : RDs K fa H (Mu ρ st) β ρ st.length ds vs) :
    RS K fa β (ρ ++ [p]) (st ++ [.lst ds]) (upd H p (.lst vs)) ∧ Stp ρ st H (ρ ++ [p]) (st ++ [.lst ds]) (upd H p (.lst vs)) := by
  obtain ⟨f1, f2, f3⟩ := S.fresh hp
  have old : ∀ (j : Nat) (b : Addr), ρ[j]? = some b → (ρ ++ [p])[j]? = some b := fun j b h => by
    rw [List.getElem?_append_left (List.getElem?_eq_some_iff.mp h).1]
    exact h
  have back : ∀ (j : Nat) (b : Addr), (ρ ++ [p])[j]? = some b → ρ[j]? = some b ∨ (j = ρ.length ∧ b = p) := fun j b h => by
    by_cases hj : j < ρ.length
    · rw [List.getElem?_append_left hj] at h
      exact .inl h
    · rw [List.getElem?_append_right (by omega)] at h
      have hj2 : j - ρ.length = 0 := by
        have := (List.getElem?_eq_some_iff.mp h).1
        simp at this
        omega
      rw [hj2] at h
      simp at h
      exact .inr ⟨by omega, h.symm⟩
  have mu : ∀ b, Mu (ρ ++ [p]) (st ++ [.lst ds]) b → Mu ρ st b ∨ b = p := fun b ⟨j, o, h1, h2, h3⟩ => by
    rcases back j b h1 with q | ⟨_, q⟩
    · left
      have hl : j < st.length := by rw [← S.len]; exact (List.getElem?_eq_some_iff.mp q).1
      rw [List.getElem?_append_left hl] at h2
      exact ⟨j, o, q, h2, h3⟩
    · exact .inr q
  have k : ∀ b o, H b = some o → ¬ Mu ρ st b → upd H p (.lst vs) b = some o ∧ ¬ Mu (ρ ++ [p]) (st ++ [.lst ds]) b := fun b o h m => by
    have ne : b ≠ p := ne_of_none h hp
    refine ⟨by rw [upd_ne ne]; exact h, fun q => ?_⟩
    rcases mu b q with q | q
    · exact m q
    · exact ne q
  refine ⟨⟨fun i j b h1 h2 => ?_, by simp [S.len], fun j o h => ?_, fun b hb => ?_⟩, ⟨⟨[p], rfl⟩, by simp, k, fun j es h => ?_⟩⟩
  · rcases back i b h1 with q1 | ⟨q1, e1⟩
    · rcases back j b h2 with q2 | ⟨q2, e2⟩
      · exact S.nd i j b q1 q2
      · exact absurd (List.mem_iff_getElem?.mpr ⟨i, by rw [← e2]; exact q1⟩) f1
    · rcases back j b h2 with q2 | ⟨q2, e2⟩
      · exact absurd (List.mem_iff_getElem?.mpr ⟨j, by rw [← e1]; exact q2⟩) f1
      · omega
  · by_cases hj : j < st.length
    · rw [List.getElem?_append_left hj] at h
      obtain ⟨b, ws, e1, e2, e3⟩ := S.obj j o h
      exact ⟨b, ws, old j b e1, by rw [upd_ne (ne_of_none e2 hp)]; exact e2, e3.mono k old (fun _ x => .inl x) (Nat.le_refl _)⟩
    · rw [List.getElem?_append_right (by omega)] at h
      have hj2 : j - st.length = 0 := by
        have := (List.getElem?_eq_some_iff.mp h).1
        simp at this
        omega
      rw [hj2] at h
      simp at h
      subst h
      have ej : j = st.length := by omega
      subst ej
      exact ⟨p, vs, by rw [← S.len]; simp, upd_same, r.mono k old (fun _ x => .inl x) (Nat.le_refl _)⟩
  · obtain ⟨⟨o, e⟩, nb⟩ := S.busy b hb
    refine ⟨⟨o, by rw [upd_ne (ne_of_none e hp)]; exact e⟩, fun q => ?_⟩
    rcases List.mem_append.mp q with q | q
    · exact nb q
    · rw [List.mem_singleton.mp q, hp] at e
      cases e
  · rw [List.getElem?_append_left (its_get h)]
    exact h
/-- a list of the store that is no longer changed -/
theorem RS.freeze (S : RS K fa β ρ st H) {i : Nat} {ds : List D} (hi : st[i]? = some (.lst ds)) : RS K fa β ρ (st.set i (.fz ds)) H ∧ Stp ρ st H ρ (st.set i (.fz ds)) H := by
  have hlt : i < st.length := its_get hi
  have mu : ∀ b, Mu ρ (st.set i (.fz ds)) b → Mu ρ st b := fun b ⟨j, o, h1, h2, h3⟩ => by
    by_cases hj : i = j
    · subst hj
      exact ⟨i, _, h1, hi, rfl⟩
    · rw [List.getElem?_set_ne hj] at h2
      exact ⟨j, o, h1, h2, h3⟩
  have k : ∀ b o, H b = some o → ¬ Mu ρ st b → H b = some o ∧ ¬ Mu ρ (st.set i (.fz ds)) b := fun b o h m => ⟨h, fun q => m (mu b q)⟩
  refine ⟨⟨S.nd, by rw [List.length_set]; exact S.len, fun j o h => ?_, S.busy⟩, ⟨⟨[], by simp⟩, by rw [List.length_set]; exact Nat.le_refl _, k, fun j es h => ?_⟩⟩
  · by_cases hj : i = j
    · subst hj
      rw [List.getElem?_set_self hlt] at h
      cases h
      obtain ⟨b, vs, e1, e2, e3⟩ := S.obj i _ hi
      exact ⟨b, vs, e1, e2, e3.mono k (fun _ _ x => x) (fun _ x => .inl x) (Nat.le_refl _)⟩
    · rw [List.getElem?_set_ne hj] at h
      obtain ⟨b, vs, e1, e2, e3⟩ := S.obj j o h
      exact ⟨b, vs, e1, e2, e3.mono k (fun _ _ x => x) (fun _ x => .inl x) (Nat.le_refl _)⟩
  · have ne : i ≠ j := fun e => by
      subst e
      rw [hi] at h
      cases h
    rw [List.getElem?_set_ne ne]
    exact h
end

/-! ### readings -/
theorem _root_.L2.PE.w {X : Cx} {e : Expr} {t t' : TE} (h : PE X e t) (k : ∀ σ H Q, t' σ H Q → t σ H Q) : PE X e t' := ⟨fun pins s σ H Q I q => h.run pins s σ H Q I (k σ H Q q)⟩
theorem _root_.L2.PT.w {X : Cx} {e : Expr} {t t' : TT} (h : PT X e t) (k : ∀ σ H Q, t' σ H Q → t σ H Q) : PT X e t' := ⟨fun pins s σ H Q I q => h.run pins s σ H Q I (k σ H Q q)⟩
theorem _root_.L2.PW.w {X : Cx} {e : Expr} {t t' : TT} (h : PW X e t) (k : ∀ σ H Q, t' σ H Q → t σ H Q) : PW X e t' := ⟨fun wh pins s σ H Q I q => h.run wh pins s σ H Q I (k σ H Q q)⟩
theorem _root_.L2.PA.w {X : Cx} {e : List Expr} {t t' : TA} (h : PA X e t) (k : ∀ σ H Q, t' σ H Q → t σ H Q) : PA X e t' := ⟨fun p pins s σ H Q I q => h.run p pins s σ H Q I (k σ H Q q)⟩
theorem _root_.L2.PK.w {X : Cx} {e : List Keyword} {t t' : TA} (h : PK X e t) (k : ∀ σ H Q, t' σ H Q → t σ H Q) : PK X e t' := ⟨fun p pins s σ H Q I q => h.run p pins s σ H Q I (k σ H Q q)⟩
theorem _root_.L2.PO.w {X : Cx} {e : Option Expr} {t t' : TO} (h : PO X e t) (k : ∀ σ H Q, t' σ H Q → t σ H Q) : PO X e t' := by
  refine ⟨?_⟩
  intros
  exact h.run _ _ _ _ _ (by assumption) (k _ _ _ (by assumption))
theorem _root_.L2.PE.or {X : Cx} {e : Expr} {t t' : TE} (h : PE X e t) (h' : PE X e t') : PE X e (fun σ H Q => t σ H Q ∨ t' σ H Q) := ⟨fun pins s σ H Q I q => q.elim (h.run pins s σ H Q I) (h'.run pins s σ H Q I)⟩
theorem _root_.L2.PI.w {X : Cx} {tg e : Expr} {t t' : TI} (h : PI X tg e t) (k : ∀ σ H Q, t' σ H Q → t σ H Q) : PI X tg e t' := ⟨fun pins s σ H Q I q => h.run pins s σ H Q I (k σ H Q q)⟩
theorem _root_.L2.PS.w {X : Cx} {e : Stmt} {t t' : TS} (h : PS X e t) (k : ∀ D σ H, t' D σ H → t D σ H) : PS X e t' := ⟨fun pins s σ H D I q => h.run pins s σ H D I (k D σ H q)⟩
theorem _root_.L2.PSs.w {X : Cx} {e : List Stmt} {t t' : TS} (h : PSs X e t) (k : ∀ D σ H, t' D σ H → t D σ H) : PSs X e t' := ⟨fun pins s σ H D I q => h.run pins s σ H D I (k D σ H q)⟩
theorem _root_.L2.PG.w {X : Cx} {e : Expr} {t t' : TG} (h : PG X e t) (k : ∀ v σ H Q, t' v σ H Q → t v σ H Q) : PG X e t' := ⟨fun pins s σ H v u Q I r q => h.run pins s σ H v u Q I r (k v σ H Q q)⟩
/-- what a reading leans on: where the defs and own exceptions' classes stand, the exceptions' field, the calls, the constants, what is wished of an exception -/
structure Qm where
  fa : Nat → Addr
  ca : Nat → Addr
  xn : Nat → Str
  C : Nat → List D → Sto → R D
  G : Nat → D
  W : Nat
  XE : XK
section
variable (K : PySem.W.Frag) (q : Qm)
def PostX (β ρ : List Addr) (st : Sto) (H : Hp) : Nat → D → Sto → Prop := fun c d st' =>
  ∀ v H' ρ' dx, Stp ρ st H ρ' st' H' → RS K q.fa β ρ' st' H' → RD K q.fa H' (Mu ρ' st') β ρ' st'.length d v → H' dx = some (.xd [(q.xn c, v)]) → q.XE (.ref (q.ca c)) (some dx) H'
def tW (e : E) : TE := fun σ H Q => ∃ β ρ env st, RE K q.fa β ρ env st σ H ∧ RS K q.fa β ρ st H ∧ RP (ev q.C q.G e env st) (fun d st' => Post K q.fa β ρ st H d st' Q) (PostX K q β ρ st H)
def tWs (es : Es) : TA := fun σ H Q => ∃ β ρ env st, RE K q.fa β ρ env st σ H ∧ RS K q.fa β ρ st H ∧ RP (evs q.C q.G es env st) (fun ds st' => PostS K q.fa β ρ st H ds st' Q) (PostX K q β ρ st H)
/-- as a test -/
def tWT (e : E) : TT := fun σ H Q => ∃ β ρ env st, RE K q.fa β ρ env st σ H ∧ RS K q.fa β ρ st H ∧ RP ((ev q.C q.G e env st).bind fun x s1 => tru x s1) (fun b st' => PostB K q.fa β ρ st H b st' Q) (PostX K q β ρ st H)
def tWo (e : Oe) : TO := fun σ H Q => ∃ β ρ env st, RE K q.fa β ρ env st σ H ∧ RS K q.fa β ρ st H ∧ RP (evo q.C q.G e env st) (fun o st' => ∀ H' ρ', Stp ρ st H ρ' st' H' → RS K q.fa β ρ' st' H' → Q o H') (PostX K q β ρ st H)
def tWc (e : Oe) : TT := fun σ H Q => ∃ β ρ env st, RE K q.fa β ρ env st σ H ∧ RS K q.fa β ρ st H ∧ RP (evc q.C q.G e env st) (fun b st' => PostB K q.fa β ρ st H b st' Q) (PostX K q β ρ st H)
end
section
variable {K : PySem.W.Frag} {fa : Nat → Addr} {H H1 : Hp} {β ρ ρ1 : List Addr} {st s1 : Sto} {q : Qm}
theorem PostX.after {c : Nat} {d : D} {st' : Sto} (h : PostX K q β ρ st H c d st') (a : Stp ρ st H ρ1 s1 H1) : PostX K q β ρ1 s1 H1 c d st' := fun v H' ρ' dx b S r e => h v H' ρ' dx (a.trans b) S r e
theorem PostS.after {ds : List D} {s2 : Sto} {Q : List V → Hp → Prop} (h : PostS K fa β ρ st H ds s2 Q) (a : Stp ρ st H ρ1 s1 H1) : PostS K fa β ρ1 s1 H1 ds s2 Q := fun v H' ρ' b S r => h v H' ρ' (a.trans b) S r
theorem PostB.after {b : Bool} {s2 : Sto} {Q : Bool → Hp → Prop} (h : PostB K fa β ρ st H b s2 Q) (a : Stp ρ st H ρ1 s1 H1) : PostB K fa β ρ1 s1 H1 b s2 Q := fun H' ρ' c S => h H' ρ' (a.trans c) S
theorem PostB.here {b : Bool} {Q : Bool → Hp → Prop} (h : PostB K fa β ρ st H b st Q) (S : RS K fa β ρ st H) : Q b H := h H ρ .refl S
/-- a result wished for from here on -/
theorem RP.aft {r : R D} {Q : VK} (h : RP r (fun d st' => Post K q.fa β ρ st H d st' Q) (PostX K q β ρ st H)) (a : Stp ρ st H ρ1 s1 H1) : RP r (fun d st' => Post K q.fa β ρ1 s1 H1 d st' Q) (PostX K q β ρ1 s1 H1) :=
  h.imp (fun _ _ g => g.after a) fun _ _ _ g => g.after a
theorem RP.aftB {r : R Bool} {Q : Bool → Hp → Prop} (h : RP r (fun d st' => PostB K q.fa β ρ st H d st' Q) (PostX K q β ρ st H)) (a : Stp ρ st H ρ1 s1 H1) : RP r (fun d st' => PostB K q.fa β ρ1 s1 H1 d st' Q) (PostX K q β ρ1 s1 H1) :=
  h.imp (fun _ _ g => g.after a) fun _ _ _ g => g.after a
theorem RP.aftX {α : Type} {r : R α} {P : α → Sto → Prop} (h : RP r P (PostX K q β ρ st H)) (a : Stp ρ st H ρ1 s1 H1) : RP r P (PostX K q β ρ1 s1 H1) := h.imp (fun _ _ g => g) fun _ _ _ g => g.after a
end
section
variable {X : Cx} {q : Qm} {a b c : E} {pa pb pc pe : Expr} {pos : Pos}

/-! ### names, constants -/
theorem s_non {j} : PE X (.Constant .none j pos) (tW X.K q .non) := pe_non.w fun σ H Q ⟨β, ρ, env, st, e, S, h⟩ => Post.here h S .non
theorem s_bl {j v} : PE X (.Constant (.bool v) j pos) (tW X.K q (.bl v)) := pe_bl.w fun σ H Q ⟨β, ρ, env, st, e, S, h⟩ => Post.here h S (.bl v)
theorem s_int {j i} : PE X (.Constant (.int i) j pos) (tW X.K q (.int i)) := pe_int.w fun σ H Q ⟨β, ρ, env, st, e, S, h⟩ => Post.here h S (.int i)
theorem s_str {j} {x : Str} {z : List Nat} (hz : x = ⟨z.toArray⟩) : PE X (.Constant (.str x) j pos) (tW X.K q (.str z)) := pe_str.w fun σ H Q ⟨β, ρ, env, st, e, S, h⟩ => by
  subst hz
  exact Post.here h S (.str z)
theorem s_var {i : Nat} {x : Str} (hN : X.N[i]? = some x) (hv : Vis X.env.scope x) (hd : (x == ("__debug__" : Str)) = false) (hcd : (x == ("__classdict__" : Str)) = false) : PE X (.Name x pos) (tW X.K q (.var i)) :=
  (pe_var hN hv hd hcd).w fun σ H Q ⟨β, ρ, env, st, e, S, h⟩ => by
    simp only [ev] at h
    split at h
    · rename_i d' hd'
      obtain ⟨v, h1, r⟩ := e.get i _ hd'
      exact ⟨v, h1, Post.here h S r⟩
    · exact h.elim
theorem s_glb {k : Nat} {x : Str} {u : Value} {v : V} (hg : Gl X x) (hm : X.mg x = some u) (hr : RelV v u) (hd : (x == ("__debug__" : Str)) = false) (hv : ∀ H m β ρ n, RD X.K q.fa H m β ρ n (q.G k) v) : PE X (.Name x pos) (tW X.K q (.glb k)) :=
  (pe_glob hg hm hr hd).w fun σ H Q ⟨β, ρ, env, st, e, S, h⟩ => Post.here h S (hv _ _ _ _ _)
theorem s_fnv {k : Nat} {x : Str} (hg : Gl X x) (hm : X.mg x = some (.ref (q.fa k))) (hd : (x == ("__debug__" : Str)) = false) : PE X (.Name x pos) (tW X.K q (.fnv k)) :=
  (pe_glob (v := .ref (q.fa k)) hg hm rfl hd).w fun σ H Q ⟨β, ρ, env, st, e, S, h⟩ => Post.here h S (.fn k)

/-! ### operators -/
theorem s_bin (o : Op) (ha : PE X pa (tW X.K q a)) (hb : PE X pb (tW X.K q b)) : PE X (.BinOp pa (opOf o) pb pos) (tW X.K q (.bin o a b)) :=
  (pe_op (op_bop (fa := q.fa) o) ha hb).w fun σ H Q ⟨β, ρ, env, st, e, S, h⟩ => by
    simp only [ev] at h
    refine ⟨β, ρ, env, st, e, S, h.bind.imp (fun x s1 h1 v1 H1 ρ1 a1 S1 r1 => ?_) fun _ _ _ g => g⟩
    refine ⟨β, ρ1, env, s1, e.stp a1, S1, (h1.bind.aftX a1).imp (fun y s2 h2 v2 H2 ρ2 a2 S2 r2 => ?_) fun _ _ _ g => g⟩
    obtain ⟨d, h3, h4⟩ := h2.oD
    exact ⟨β, ρ2, s2, x, y, d, S2, r1.stp a2, r2, h3, Post.after h4 (a1.trans a2)⟩
theorem s_neg (ha : PE X pa (tW X.K q a)) : PE X (.UnaryOp .USub pa pos) (tW X.K q (.neg a)) :=
  (pe_un un_neg ha).w fun σ H Q ⟨β, ρ, env, st, e, S, h⟩ => by
    simp only [ev] at h
    refine ⟨β, ρ, env, st, e, S, h.bind.imp (fun x s1 h1 v1 H1 ρ1 a1 S1 r1 => ?_) fun _ _ _ g => g⟩
    obtain ⟨i, rfl, h2⟩ := h1.bind.toI
    cases r1
    exact ⟨i, rfl, (Post.after h2 a1).here S1 (.int _)⟩
theorem rd_bl {K : PySem.W.Frag} {fa : Nat → Addr} {H : Hp} {m : Addr → Prop} {β ρ : List Addr} {n : Nat} {k : Bool} {v : V} (r : RD K fa H m β ρ n (.bl k) v) : v = .bl k := by
  cases r
  rfl
/-- a value as a test -/
theorem t_val (ha : PE X pe (tW X.K q a)) (hp : ∀ whole, isTrue pe X.env whole = (do let v ← whole; standAt pe.pos; holding [v] (truthy v))) : PT X pe (tWT X.K q a) :=
  (pt_val ha hp).w fun σ H Q ⟨β, ρ, env, st, e, S, h⟩ => ⟨β, ρ, env, st, e, S, h.bind.imp (fun x s1 h1 v1 H1 ρ1 a1 S1 r1 => by
    obtain ⟨k, rfl, h2⟩ := h1.tru
    exact ⟨k, rd_bl r1, h2 H1 ρ1 a1 S1⟩) fun _ _ _ g => g⟩
theorem s_not (ha : PT X pa (tWT X.K q a)) (ha' : PE X pa (tW X.K q a)) : PE X (.UnaryOp .Not pa pos) (tW X.K q (.not a)) ∧ PT X (.UnaryOp .Not pa pos) (tWT X.K q (.not a)) := by
  refine ⟨(pe_not ha').w fun σ H Q ⟨β, ρ, env, st, e, S, h⟩ => ?_, (pt_not ha).w fun σ H Q ⟨β, ρ, env, st, e, S, h⟩ => ?_⟩
  · simp only [ev] at h
    refine ⟨β, ρ, env, st, e, S, h.bind.imp (fun x s1 h1 v1 H1 ρ1 a1 S1 r1 => ?_) fun _ _ _ g => g⟩
    obtain ⟨k, rfl, h2⟩ := h1.bind.tru
    exact ⟨k, rd_bl r1, (Post.after h2 a1).here S1 (.bl _)⟩
  · simp only [ev] at h
    have h' : RP (ev q.C q.G a env st) (fun x s1 => RP (tru x s1) (fun b st' => PostB X.K q.fa β ρ st H (!b) st' Q) (PostX X.K q β ρ st H)) (PostX X.K q β ρ st H) := h.bind.bind.imp (fun x s1 h1 => by
      obtain ⟨k, rfl, h2⟩ := h1.bind.tru
      exact h2) fun _ _ _ g => g
    refine ⟨β, ρ, env, st, e, S, ?_⟩
    cases hv : ev q.C q.G a env st with
    | ok x s1 =>
      rw [hv] at h'
      exact h'
    | exn c d s1 =>
      rw [hv] at h'
      exact h'
    | bad =>
      rw [hv] at h'
      exact h'
theorem cm_mark (o : Cm) (h : ∀ es k p, pb ≠ .Set es k p) : behindInMarks (cmOf o) pb = false := by
  cases pb <;> first
    | rfl
    | exact absurd rfl (h _ _ _)
theorem s_cmp (o : Cm) (hu : X.A.units + 65 < cLine) (hs : ∀ es k p, pb ≠ .Set es k p) (ha : PE X pa (tW X.K q a)) (hb : PE X pb (tW X.K q b)) :
    PE X (.Compare pa [cmOf o] [pb] pos) (tW X.K q (.cmp o a b)) ∧ PT X (.Compare pa [cmOf o] [pb] pos) (tWT X.K q (.cmp o a b)) := by
  refine ⟨(pe_cmpR (op_cop (fa := q.fa) o hu) ha hb (cm_mark o hs)).w fun σ H Q ⟨β, ρ, env, st, e, S, h⟩ => ?_, (pt_cmpR (op_cop (fa := q.fa) o hu) ha hb (cm_mark o hs)).w fun σ H Q ⟨β, ρ, env, st, e, S, h⟩ => ?_⟩
  · simp only [ev] at h
    refine ⟨β, ρ, env, st, e, S, h.bind.imp (fun x s1 h1 v1 H1 ρ1 a1 S1 r1 => ?_) fun _ _ _ g => g⟩
    refine ⟨β, ρ1, env, s1, e.stp a1, S1, (h1.bind.aftX a1).imp (fun y s2 h2 v2 H2 ρ2 a2 S2 r2 => ?_) fun _ _ _ g => g⟩
    obtain ⟨k, h3, h4⟩ := h2.bind.oD
    exact ⟨β, ρ2, s2, x, y, k, S2, r1.stp a2, r2, h3, (Post.after h4 (a1.trans a2)).here S2 (.bl _)⟩
  · simp only [ev] at h
    refine ⟨β, ρ, env, st, e, S, h.bind.bind.imp (fun x s1 h1 v1 H1 ρ1 a1 S1 r1 => ?_) fun _ _ _ g => g⟩
    refine ⟨β, ρ1, env, s1, e.stp a1, S1, (h1.bind.aftX a1).imp (fun y s2 h2 v2 H2 ρ2 a2 S2 r2 => ?_) fun _ _ _ g => g⟩
    obtain ⟨k, h3, h4⟩ := h2.bind.oD
    exact ⟨β, ρ2, s2, x, y, k, S2, r1.stp a2, r2, h3, k, rfl, (PostB.after h4 (a1.trans a2)).here S2⟩
theorem cm_marks (o p : Cm) (h : ∀ es k p, pc ≠ .Set es k p) : lastMarks [cmOf o, cmOf p] [pb, pc] = false := by
  show lastMarks [cmOf p] [pc] = false
  exact cm_mark p h
theorem s_chn (o p : Cm) (hu : X.A.units + 65 < cLine) (hs : ∀ es k p, pc ≠ .Set es k p) (ha : PE X pa (tW X.K q a)) (hb : PE X pb (tW X.K q b)) (hc : PE X pc (tW X.K q c)) :
    PE X (.Compare pa [cmOf o, cmOf p] [pb, pc] pos) (tW X.K q (.chn o p a b c)) ∧ PT X (.Compare pa [cmOf o, cmOf p] [pb, pc] pos) (tWT X.K q (.chn o p a b c)) := by
  refine ⟨(pe_chain (op_cop (fa := q.fa) o hu) (op_cop (fa := q.fa) p hu) ha hb hc (cm_marks o p hs)).w fun σ H Q ⟨β, ρ, env, st, e, S, h⟩ => ?_, (pt_chain (op_cop (fa := q.fa) o hu) (op_cop (fa := q.fa) p hu) ha hb hc (cm_marks o p hs)).w fun σ H Q ⟨β, ρ, env, st, e, S, h⟩ => ?_⟩
  · simp only [ev] at h
    refine ⟨β, ρ, env, st, e, S, h.bind.imp (fun x s1 h1 v1 H1 ρ1 a1 S1 r1 => ?_) fun _ _ _ g => g⟩
    refine ⟨β, ρ1, env, s1, e.stp a1, S1, (h1.bind.aftX a1).imp (fun y s2 h2 v2 H2 ρ2 a2 S2 r2 => ?_) fun _ _ _ g => g⟩
    obtain ⟨k, h3, h4⟩ := h2.bind.oD
    refine ⟨β, ρ2, s2, x, y, k, S2, r1.stp a2, r2, h3, k, rfl, ?_⟩
    cases k with
    | true =>
      rw [if_pos rfl] at h4 ⊢
      refine ⟨β, ρ2, env, s2, (e.stp a1).stp a2, S2, (h4.bind.aftX (a1.trans a2)).imp (fun z s3 h5 v3 H3 ρ3 a3 S3 r3 => ?_) fun _ _ _ g => g⟩
      obtain ⟨k2, h6, h7⟩ := h5.bind.oD
      exact ⟨β, ρ3, s3, y, z, k2, S3, r2.stp a3, r3, h6, (Post.after h7 ((a1.trans a2).trans a3)).here S3 (.bl _)⟩
    | false =>
      rw [if_neg Bool.false_ne_true] at h4 ⊢
      exact (Post.after h4 (a1.trans a2)).here S2 (.bl _)
  · simp only [ev] at h
    refine ⟨β, ρ, env, st, e, S, h.bind.bind.imp (fun x s1 h1 v1 H1 ρ1 a1 S1 r1 => ?_) fun _ _ _ g => g⟩
    refine ⟨β, ρ1, env, s1, e.stp a1, S1, (h1.bind.aftX a1).imp (fun y s2 h2 v2 H2 ρ2 a2 S2 r2 => ?_) fun _ _ _ g => g⟩
    obtain ⟨k, h3, h4⟩ := h2.bind.oD
    refine ⟨β, ρ2, s2, x, y, k, S2, r1.stp a2, r2, h3, k, rfl, ?_⟩
    cases k with
    | true =>
      rw [if_pos rfl] at h4 ⊢
      refine ⟨β, ρ2, env, s2, (e.stp a1).stp a2, S2, (h4.bind.aftX (a1.trans a2)).imp (fun z s3 h5 v3 H3 ρ3 a3 S3 r3 => ?_) fun _ _ _ g => g⟩
      obtain ⟨k2, h6, h7⟩ := h5.bind.oD
      exact ⟨β, ρ3, s3, y, z, k2, S3, r2.stp a3, r3, h6, k2, rfl, (PostB.after h7 ((a1.trans a2).trans a3)).here S3⟩
    | false =>
      rw [if_neg Bool.false_ne_true] at h4 ⊢
      exact ⟨false, rfl, (PostB.after h4 (a1.trans a2)).here S2⟩
theorem s_ife (hc : PT X pc (tWT X.K q c)) (ha : PE X pa (tW X.K q a)) (hb : PE X pb (tW X.K q b)) : PE X (.IfExp pc pa pb pos) (tW X.K q (.ife c a b)) :=
  (pe_ifExp hc ha hb).w fun σ H Q ⟨β, ρ, env, st, e, S, h⟩ => by
    simp only [ev] at h
    have h' : RP ((ev q.C q.G c env st).bind fun x s1 => tru x s1) (fun k s1 => RP (if k = true then ev q.C q.G a env s1 else ev q.C q.G b env s1) (fun d st' => Post X.K q.fa β ρ st H d st' Q) (PostX X.K q β ρ st H)) (PostX X.K q β ρ st H) := by
      cases hv : ev q.C q.G c env st with
      | ok x s1 =>
        rw [hv] at h
        have h2 : RP ((tru x s1).bind _) _ _ := h
        exact h2.bind
      | exn c d s1 =>
        rw [hv] at h
        exact h
      | bad =>
        rw [hv] at h
        exact h
    refine ⟨β, ρ, env, st, e, S, h'.imp (fun k s1 h1 H1 ρ1 a1 S1 => ?_) fun _ _ _ g => g⟩
    cases k with
    | true =>
      rw [if_pos rfl] at h1 ⊢
      exact ⟨β, ρ1, env, s1, e.stp a1, S1, h1.aft a1⟩
    | false =>
      rw [if_neg Bool.false_ne_true] at h1 ⊢
      exact ⟨β, ρ1, env, s1, e.stp a1, S1, h1.aft a1⟩
/-! and, or -/
theorem w_and {σ H Q} (h : tW X.K q (.and a b) σ H Q) : tAndV (tW X.K q a) (tW X.K q b) σ H Q := by
  obtain ⟨β, ρ, env, st, e, S, h⟩ := h
  simp only [ev] at h
  refine ⟨β, ρ, env, st, e, S, h.bind.imp (fun x s1 h1 v1 H1 ρ1 a1 S1 r1 => ?_) fun _ _ _ g => g⟩
  obtain ⟨k, rfl, h2⟩ := h1.bind.tru
  refine ⟨k, rd_bl r1, ?_⟩
  cases k with
  | true =>
    rw [if_pos rfl] at h2 ⊢
    exact ⟨β, ρ1, env, s1, e.stp a1, S1, h2.aft a1⟩
  | false =>
    rw [if_neg Bool.false_ne_true] at h2 ⊢
    exact (Post.after h2 a1).here S1 (.bl _)
theorem w_or {σ H Q} (h : tW X.K q (.or a b) σ H Q) : tOrV (tW X.K q a) (tW X.K q b) σ H Q := by
  obtain ⟨β, ρ, env, st, e, S, h⟩ := h
  simp only [ev] at h
  refine ⟨β, ρ, env, st, e, S, h.bind.imp (fun x s1 h1 v1 H1 ρ1 a1 S1 r1 => ?_) fun _ _ _ g => g⟩
  obtain ⟨k, rfl, h2⟩ := h1.bind.tru
  refine ⟨k, rd_bl r1, ?_⟩
  cases k with
  | true =>
    rw [if_pos rfl] at h2 ⊢
    exact (Post.after h2 a1).here S1 (.bl _)
  | false =>
    rw [if_neg Bool.false_ne_true] at h2 ⊢
    exact ⟨β, ρ1, env, s1, e.stp a1, S1, h2.aft a1⟩
theorem test_split {env : PL.Env} {st : Sto} {f : Bool → Sto → R D} {P : Bool → Sto → Prop} {Z : Nat → D → Sto → Prop} (h : RP (((ev q.C q.G a env st).bind fun x s1 => (tru x s1).bind f).bind fun x s1 => tru x s1) P Z) :
    RP ((ev q.C q.G a env st).bind fun x s1 => tru x s1) (fun k s1 => RP ((f k s1).bind fun x s1 => tru x s1) P Z) Z := by
  cases hv : ev q.C q.G a env st with
  | ok x s1 =>
    rw [hv] at h
    have h2 : RP (((tru x s1).bind f).bind fun x s1 => tru x s1) P Z := h
    show RP (tru x s1) (fun k s1 => RP ((f k s1).bind fun x s1 => tru x s1) P Z) Z
    cases x with
    | bl k => exact h2
    | _ => exact h2.elim
  | exn c d s1 =>
    rw [hv] at h
    exact h
  | bad =>
    rw [hv] at h
    exact h
theorem wt_and {σ H Q} (h : tWT X.K q (.and a b) σ H Q) : tAnd (tWT X.K q a) (tWT X.K q b) σ H Q := by
  obtain ⟨β, ρ, env, st, e, S, h⟩ := h
  simp only [ev] at h
  refine ⟨β, ρ, env, st, e, S, (test_split h).imp (fun k s1 h1 H1 ρ1 a1 S1 => ?_) fun _ _ _ g => g⟩
  cases k with
  | true =>
    rw [if_pos rfl] at h1 ⊢
    exact ⟨β, ρ1, env, s1, e.stp a1, S1, h1.aftB a1⟩
  | false =>
    rw [if_neg Bool.false_ne_true] at h1 ⊢
    exact (PostB.after h1 a1).here S1
theorem wt_or {σ H Q} (h : tWT X.K q (.or a b) σ H Q) : tOr (tWT X.K q a) (tWT X.K q b) σ H Q := by
  obtain ⟨β, ρ, env, st, e, S, h⟩ := h
  simp only [ev] at h
  refine ⟨β, ρ, env, st, e, S, (test_split h).imp (fun k s1 h1 H1 ρ1 a1 S1 => ?_) fun _ _ _ g => g⟩
  cases k with
  | true =>
    rw [if_pos rfl] at h1 ⊢
    exact (PostB.after h1 a1).here S1
  | false =>
    rw [if_neg Bool.false_ne_true] at h1 ⊢
    exact ⟨β, ρ1, env, s1, e.stp a1, S1, h1.aftB a1⟩
/-! ### rows of expressions -/
variable {es : Es} {pes : List Expr}
theorem s_nil : PA X [] (tWs X.K q .nil) := pa_nil.w fun σ H Q ⟨β, ρ, env, st, e, S, h⟩ => h [] H ρ .refl S .nil
theorem w_cons {σ H Q} (h : tWs X.K q (.cons a es) σ H Q) : tCons (tW X.K q a) (tWs X.K q es) σ H Q := by
  obtain ⟨β, ρ, env, st, e, S, h⟩ := h
  simp only [evs] at h
  refine ⟨β, ρ, env, st, e, S, h.bind.imp (fun x s1 h1 v1 H1 ρ1 a1 S1 r1 => ?_) fun _ _ _ g => g⟩
  refine ⟨β, ρ1, env, s1, e.stp a1, S1, (h1.bind.aftX a1).imp (fun xs s2 h2 vs H2 ρ2 a2 S2 r2 => ?_) fun _ _ _ g => g⟩
  exact h2 _ H2 ρ2 (a1.trans a2) S2 (.cons (r1.stp a2) r2)
theorem s_cons (ha : PE X pa (tW X.K q a)) (hr : PA X pes (tWs X.K q es)) (hs : starEach (pa :: pes) X.env = (false, eval pa X.env) :: starEach pes X.env) : PA X (pa :: pes) (tWs X.K q (.cons a es)) :=
  (pa_cons ha hr hs).w fun σ H Q h => w_cons h
theorem s_knil : PK X [] (tWs X.K q .nil) := pk_nil.w fun σ H Q ⟨β, ρ, env, st, e, S, h⟩ => h [] H ρ .refl S .nil
theorem s_kcons {nm : Option Str} {kpos : Pos} {kws : List Keyword} (ha : PE X pa (tW X.K q a)) (hr : PK X kws (tWs X.K q es)) : PK X (⟨nm, pa, kpos⟩ :: kws) (tWs X.K q (.cons a es)) :=
  (pk_cons ha hr).w fun σ H Q h => w_cons h
theorem s_tup {x1} (h : PA X pes (tWs X.K q es)) : PE X (.Tuple pes x1 pos) (tW X.K q (.tup es)) :=
  (pe_tup h).w fun σ H Q ⟨β, ρ, env, st, e, S, h⟩ => by
    simp only [ev] at h
    refine ⟨β, ρ, env, st, e, S, h.bind.imp (fun ds s1 h1 vs H1 ρ1 a1 S1 r1 => ?_) fun _ _ _ g => g⟩
    split at h1
    · rename_i c
      exact ⟨by rw [← r1.length]; exact szOk_le c, fun p hp => (Post.after h1 a1).tup S1 r1 hp⟩
    · exact h1.elim
/-- a list that is new: as a value, as a list of the store -/
def tNew (K : PySem.W.Frag) (q : Qm) (f : PL.Env → Sto → R (List D)) : TE := fun σ H Q => ∃ β ρ env st, RE K q.fa β ρ env st σ H ∧ RS K q.fa β ρ st H ∧
  RP (f env st) (fun ds st' => ∀ p vs H' ρ' b', Stp ρ st H ρ' st' H' → b' = p :: β → RS K q.fa b' ρ' st' H' → RDs K q.fa H' (Mu ρ' st') b' ρ' st'.length ds vs → H' p = some (.lst vs) → H p = none → Q (.ref p) H') (PostX K q β ρ st H)
theorem new_frz {K : PySem.W.Frag} {σ : L2.St} {H : Hp} {Q : VK} {f : PL.Env → Sto → R (List D)} (h : ∃ β ρ env st, RE K q.fa β ρ env st σ H ∧ RS K q.fa β ρ st H ∧ RP ((f env st).bind fun ds s => R.ok (D.frz ds) s) (fun d st' => Post K q.fa β ρ st H d st' Q) (PostX K q β ρ st H)) : tNew K q f σ H Q := by
  obtain ⟨β, ρ, env, st, e, S, h⟩ := h
  refine ⟨β, ρ, env, st, e, S, h.bind.imp (fun ds s1 h1 p vs H1 ρ1 b' a1 hb S1 r1 hp hn => ?_) fun _ _ _ g => g⟩
  subst hb
  have S1' : RS K q.fa β ρ1 s1 H1 := ⟨S1.nd, S1.len, fun i o ho => by
    obtain ⟨a, ws, e1, e2, e3⟩ := S1.obj i o ho
    exact ⟨a, ws, e1, e2, e3.mono (fun _ _ x y => ⟨x, y⟩) (fun _ _ x => x) (fun b hb => .inl (List.mem_cons_of_mem _ hb)) (Nat.le_refl _)⟩, fun b hb => S1.busy b (List.mem_cons_of_mem _ hb)⟩
  have np : p ∉ ρ1 := (S1.busy p List.mem_cons_self).2
  have nm : ¬ Mu ρ1 s1 p := fun ⟨i, o, h1, _, _⟩ => np (List.mem_iff_getElem?.mpr ⟨i, h1⟩)
  have nb : p ∉ β := (S.fresh hn).2.1
  exact h1 (.ref p) H1 ρ1 a1 S1' (.frz hp nm nb (r1.mono (fun _ _ x y => ⟨x, y⟩) (fun _ _ x => x) (fun b hb => .inl (List.mem_cons_of_mem _ hb)) (Nat.le_refl _)))
theorem new_thaw {K : PySem.W.Frag} {σ : L2.St} {H : Hp} {Q : VK} {f : PL.Env → Sto → R (List D)} (h : ∃ β ρ env st, RE K q.fa β ρ env st σ H ∧ RS K q.fa β ρ st H ∧ RP ((f env st).bind fun ds s => R.ok (D.lst s.length) (s ++ [.lst ds])) (fun d st' => Post K q.fa β ρ st H d st' Q) (PostX K q β ρ st H)) : tNew K q f σ H Q := by
  obtain ⟨β, ρ, env, st, e, S, h⟩ := h
  refine ⟨β, ρ, env, st, e, S, h.bind.imp (fun ds s1 h1 p vs H1 ρ1 b' a1 hb S1 r1 hp hn => ?_) fun _ _ _ g => g⟩
  subst hb
  have h1 : Post K q.fa β ρ st H (D.lst s1.length) (s1 ++ [.lst ds]) Q := h1
  have np : p ∉ ρ1 := (S1.busy p List.mem_cons_self).2
  have nb : p ∉ β := (S.fresh hn).2.1
  have old : ∀ (j : Nat) (b : Addr), ρ1[j]? = some b → (ρ1 ++ [p])[j]? = some b := fun j b h => by
    rw [List.getElem?_append_left (List.getElem?_eq_some_iff.mp h).1]
    exact h
  have back : ∀ (j : Nat) (b : Addr), (ρ1 ++ [p])[j]? = some b → ρ1[j]? = some b ∨ (j = ρ1.length ∧ b = p) := fun j b h => by
    by_cases hj : j < ρ1.length
    · rw [List.getElem?_append_left hj] at h
      exact .inl h
    · rw [List.getElem?_append_right (by omega)] at h
      have hj2 : j - ρ1.length = 0 := by
        have := (List.getElem?_eq_some_iff.mp h).1
        simp at this
        omega
      rw [hj2] at h
      simp at h
      exact .inr ⟨by omega, h.symm⟩
  have mu : ∀ b, Mu (ρ1 ++ [p]) (s1 ++ [.lst ds]) b → Mu ρ1 s1 b ∨ b = p := fun b ⟨j, o, h1, h2, h3⟩ => by
    rcases back j b h1 with z | ⟨_, z⟩
    · left
      have hl : j < s1.length := by rw [← S1.len]; exact (List.getElem?_eq_some_iff.mp z).1
      rw [List.getElem?_append_left hl] at h2
      exact ⟨j, o, z, h2, h3⟩
    · exact .inr z
  -- what a value that was read while p was busy names, is not p
  have conv : ∀ (n : Nat) {es : List D} {ws : List V}, RDs K q.fa H1 (Mu ρ1 s1) (p :: β) ρ1 n es ws → RDs K q.fa H1 (fun b => Mu ρ1 s1 b ∨ b = p) β ρ1 n es ws := fun n es ws r => r.busyMu
  have S2 : RS K q.fa β (ρ1 ++ [p]) (s1 ++ [.lst ds]) H1 := by
    refine ⟨fun i j b h1 h2 => ?_, by simp [S1.len], fun j o h => ?_, fun b hb => ?_⟩
    · rcases back i b h1 with q1 | ⟨q1, e1⟩
      · rcases back j b h2 with q2 | ⟨q2, e2⟩
        · exact S1.nd i j b q1 q2
        · exact absurd (List.mem_iff_getElem?.mpr ⟨i, by rw [← e2]; exact q1⟩) np
      · rcases back j b h2 with q2 | ⟨q2, e2⟩
        · exact absurd (List.mem_iff_getElem?.mpr ⟨j, by rw [← e1]; exact q2⟩) np
        · omega
    · by_cases hj : j < s1.length
      · rw [List.getElem?_append_left hj] at h
        obtain ⟨b, ws, e1, e2, e3⟩ := S1.obj j o h
        exact ⟨b, ws, old j b e1, e2, (conv j e3).mono (fun a o x y => ⟨x, fun z => y (mu a z)⟩) old (fun _ x => .inl x) (Nat.le_refl _)⟩
      · rw [List.getElem?_append_right (by omega)] at h
        have hj2 : j - s1.length = 0 := by
          have := (List.getElem?_eq_some_iff.mp h).1
          simp at this
          omega
        rw [hj2] at h
        simp at h
        subst h
        have ej : j = s1.length := by omega
        subst ej
        exact ⟨p, vs, by rw [← S1.len]; simp, hp, (conv _ r1).mono (fun a o x y => ⟨x, fun z => y (mu a z)⟩) old (fun _ x => .inl x) (Nat.le_refl _)⟩
    · obtain ⟨⟨o, e⟩, nb'⟩ := S1.busy b (List.mem_cons_of_mem _ hb)
      refine ⟨⟨o, e⟩, fun z => ?_⟩
      rcases List.mem_append.mp z with z | z
      · exact nb' z
      · rw [List.mem_singleton.mp z] at hb
        exact nb hb
  have a2 : Stp ρ st H (ρ1 ++ [p]) (s1 ++ [.lst ds]) H1 := by
    refine ⟨?_, Nat.le_trans a1.le (by simp), fun b o h m => ?_, fun j es h => ?_⟩
    · obtain ⟨t, rfl⟩ := a1.pre
      exact ⟨t ++ [p], by simp⟩
    · obtain ⟨k1, k2⟩ := a1.keep b o h m
      refine ⟨k1, fun z => ?_⟩
      rcases mu b z with z | z
      · exact k2 z
      · exact ne_of_none h hn z
    · have := a1.lck j es h
      rw [List.getElem?_append_left (its_get this)]
      exact this
  exact h1 (.ref p) H1 (ρ1 ++ [p]) a2 S2 (.lst (by simp) (by rw [← S1.len]; simp))
theorem w_list {σ H Q} (h : tNew X.K q (fun env st => (evs q.C q.G es env st).bind fun ds s => if szOk ds.length then .ok ds s else .bad) σ H Q) : tLst (tWs X.K q es) σ H Q := by
  obtain ⟨β, ρ, env, st, e, S, h⟩ := h
  refine ⟨β, ρ, env, st, e, S, h.bind.imp (fun ds s1 h1 vs H1 ρ1 a1 S1 r1 => ?_) fun _ _ _ g => g⟩
  split at h1
  · rename_i c
    refine ⟨by rw [← r1.length]; exact szOk_le c, fun p hp => ?_⟩
    have hpH : H p = none := by
      cases hh : H p with
      | none => rfl
      | some o =>
        by_cases hm : Mu ρ st p
        · obtain ⟨i, o', e1, e2, e3⟩ := hm
          obtain ⟨a, ws, f1, f2, f3⟩ := S1.obj i _ (List.getElem?_eq_getElem (show i < s1.length from Nat.lt_of_lt_of_le (its_get e2) a1.le))
          rw [a1.at i p e1] at f1
          cases f1
          rw [hp] at f2
          cases f2
        · have := (a1.keep p o hh hm).1
          rw [hp] at this
          cases this
    have L := S1.lay (o := .lst vs) hp
    obtain ⟨f1, f2, f3⟩ := S1.fresh hp
    have Sb : RS X.K q.fa (p :: β) ρ1 s1 (upd H1 p (.lst vs)) := by
      refine ⟨S1.nd, S1.len, fun i u e => ?_, fun b hb => ?_⟩
      · obtain ⟨a, ws, e1, e2, e3⟩ := S1.obj i u e
        refine ⟨a, ws, e1, by rw [upd_ne (ne_of_none e2 hp)]; exact e2, e3.mono L.2.keep (fun _ _ x => x) (fun b hb => ?_) (Nat.le_refl _)⟩
        rcases List.mem_cons.mp hb with z | z
        · exact .inr (by rw [z]; exact hp)
        · exact .inl z
      · rcases List.mem_cons.mp hb with z | z
        · rw [z]
          exact ⟨⟨_, upd_same⟩, f1⟩
        · exact L.1.busy b z
    exact h1 p vs _ ρ1 _ (a1.trans L.2) rfl Sb (r1.mono L.2.keep (fun _ _ x => x) (fun b hb => by
      rcases List.mem_cons.mp hb with z | z
      · exact .inr (by rw [z]; exact hp)
      · exact .inl z) (Nat.le_refl _)) upd_same hpH
  · exact h1.elim
end
end PL

set_option Elab.async false
set_option linter.all false
set_option maxRecDepth 100000
set_option maxHeartbeats 1000000
/-! Subscripts, slices, calls, methods. -/
namespace PL
open PySem PySem.Spec PyProof.Rows L2
section
variable {X : Cx} {q : Qm} {a b c : E} {pa pb pc pe : Expr} {pos : Pos} {es : Es} {pes : List Expr} {fa : Nat → Addr}
/-! ### lists -/
theorem s_list (h : PA X pes (tWs X.K q es)) : PE X (.List pes pos) (tW X.K q (.list es)) :=
  (pe_lst h).w fun σ H Q ⟨β, ρ, env, st, e, S, h⟩ => w_list (new_frz ⟨β, ρ, env, st, e, S, by
    simp only [ev] at h
    cases hv : evs q.C q.G es env st with
    | ok ds s1 =>
      rw [hv] at h
      have h : RP (if szOk ds.length = true then R.ok (D.frz ds) s1 else .bad) _ _ := h
      show RP ((if szOk ds.length = true then R.ok ds s1 else .bad).bind fun ds s => R.ok (D.frz ds) s) _ _
      split at h
      · rename_i c
        rw [if_pos c]
        exact h
      · exact h.elim
    | exn c d s1 =>
      rw [hv] at h
      exact h
    | bad =>
      rw [hv] at h
      exact h⟩)
theorem s_listT (h : PA X pes (tWs X.K q es)) : PE X (.List pes pos) (tW X.K q (.thaw (.list es))) :=
  (pe_lst h).w fun σ H Q ⟨β, ρ, env, st, e, S, h⟩ => w_list (new_thaw ⟨β, ρ, env, st, e, S, by
    simp only [ev] at h
    cases hv : evs q.C q.G es env st with
    | ok ds s1 =>
      rw [hv] at h
      have h : RP ((if szOk ds.length = true then R.ok (D.frz ds) s1 else .bad).bind fun x s1 => thawD x s1) _ _ := h
      show RP ((if szOk ds.length = true then R.ok ds s1 else .bad).bind fun ds s => R.ok (D.lst s.length) (s ++ [.lst ds])) _ _
      split at h
      · rename_i c
        rw [if_pos c]
        exact h
      · exact h.elim
    | exn c d s1 =>
      rw [hv] at h
      exact h
    | bad =>
      rw [hv] at h
      exact h⟩)
/-! ### a subscript -/
def rIxD (K : PySem.W.Frag) (fa : Nat → Addr) : R2 := fun x y H Q => ∃ β ρ st dx i d, RS K fa β ρ st H ∧ RD K fa H (Mu ρ st) β ρ st.length dx x ∧ y = .int i ∧ ixD st dx i = some d ∧ Post K fa β ρ st H d st Q
theorem atI_eq {α : Type} (xs : List α) (i : Int) : PL.atI xs i = L2.atI xs i := rfl
theorem atI_at {α : Type} {xs : List α} {i : Int} {x : α} (h : PL.atI xs i = some x) : ∃ j, PL.ixN xs.length i = some j ∧ xs[j]? = some x := by
  unfold PL.atI at h
  obtain ⟨j, h1, h2⟩ := Option.bind_eq_some_iff.mp h
  exact ⟨j, h1, h2⟩
theorem ix_D : IxR X (rIxD X.K fa) := by
  intro value slice pins s σ H x y v u Q I rx ry h hs
  obtain ⟨β, ρ, st, dx, i, d, S, ra, rfl, hd, q⟩ := h
  unfold ixD at hd
  split at hd
  · split at hd
    · rename_i z c
      obtain ⟨k, hk, rfl⟩ := Option.map_eq_some_iff.mp hd
      cases ra
      exact ix_str value slice pins s σ H _ _ v u Q I rx ry ⟨_, i, k, rfl, rfl, by rw [str_len]; exact szOk_le c, hk, q.here S (.str [k])⟩ hs
    · cases hd
  · obtain ⟨ds, hds, hi⟩ := Option.bind_eq_some_iff.mp hd
    obtain ⟨p, vs, rfl, hq, hr⟩ := rd_sv S ra hds
    obtain ⟨j, h1, h2⟩ := atI_at hi
    obtain ⟨w, h3, r3⟩ := hr.get h2
    have hw : L2.atI vs i = some w := by
      unfold L2.atI
      have h1' : L2.ixN vs.length i = some j := by rw [← hr.length]; exact h1
      rw [h1']
      exact h3
    rcases hq with hq | hq
    · exact ix_list value slice pins s σ H _ _ v u Q I rx ry ⟨p, vs, i, w, rfl, rfl, hq, hw, q.here S r3⟩ hs
    · exact ix_tup value slice pins s σ H _ _ v u Q I rx ry ⟨p, vs, i, w, rfl, rfl, hq, hw, q.here S r3⟩ hs
theorem s_idx (ha : PE X pa (tW X.K q a)) (hb : PE X pb (tW X.K q b)) (hs : PlainIx pb) : PE X (.Subscript pa pb pos) (tW X.K q (.idx a b)) :=
  (pe_ix (ix_D (fa := q.fa)) ha hb hs).w fun σ H Q ⟨β, ρ, env, st, e, S, h⟩ => by
    simp only [ev] at h
    refine ⟨β, ρ, env, st, e, S, h.bind.imp (fun x s1 h1 v1 H1 ρ1 a1 S1 r1 => ?_) fun _ _ _ g => g⟩
    refine ⟨β, ρ1, env, s1, e.stp a1, S1, (h1.bind.aftX a1).imp (fun y s2 h2 v2 H2 ρ2 a2 S2 r2 => ?_) fun _ _ _ g => g⟩
    obtain ⟨i, rfl, h3⟩ := h2.bind.toI
    obtain ⟨d, h4, h5⟩ := h3.oD
    exact ⟨β, ρ2, s2, x, i, d, S2, r1.stp a2, rd_int r2, h4, Post.after h5 (a1.trans a2)⟩
/-! ### slices -/
def rSlD (K : PySem.W.Frag) (fa : Nat → Addr) : V → Option Int → Option Int → Hp → VK → Prop := fun x lo hi H Q => ∃ β ρ st dx d, RS K fa β ρ st H ∧ RD K fa H (Mu ρ st) β ρ st.length dx x ∧ slD st dx lo hi = some d ∧ Post K fa β ρ st H d st Q
theorem cut_whole {α : Type} (xs : List α) (lo hi : Option Int) (h : PL.sIx xs.length 0 lo = 0 ∧ PL.sIx xs.length xs.length hi = xs.length) : cut xs lo hi = xs := by
  unfold cut
  rw [h.1, h.2, List.drop_zero, Nat.sub_zero, List.take_length]
theorem RDs.cut {K : PySem.W.Frag} {fa : Nat → Addr} {H : Hp} {m : Addr → Prop} {β ρ : List Addr} {n : Nat} {ds : List D} {vs : List V} (r : RDs K fa H m β ρ n ds vs) (lo hi : Option Int) : RDs K fa H m β ρ n (PL.cut ds lo hi) (cutV vs lo hi) := by
  unfold PL.cut cutV
  rw [r.length]
  exact (r.drop _).take _
theorem sl_D : SlR X (rSlD X.K fa) := by
  intro pins s σ H x v vl vu lo hi sl Q I rx hs pl pu h
  obtain ⟨β, ρ, st, dx, d, S, ra, hd, q⟩ := h
  unfold slD at hd
  split at hd
  · split at hd
    · rename_i z c
      cases hd
      cases ra
      refine sl_str pins s σ H _ v vl vu lo hi sl Q I rx hs pl pu ⟨_, rfl, by rw [str_len]; exact szOk_le c, ?_⟩
      have e : cutS ⟨z.toArray⟩ lo hi = ⟨(PL.cut z lo hi).toArray⟩ := by
        unfold cutS PL.cut
        rw [str_len]
        rfl
      rw [e]
      exact q.here S (.str _)
    · cases hd
  · rename_i ds
    cases hd
    obtain ⟨p, vs, rfl, hq, hr⟩ := rd_tup ra
    refine sl_tupA pins s σ H _ v vl vu lo hi sl Q I rx hs pl pu ⟨p, vs, rfl, hq, fun hw => ?_, fun _ p hp => q.tup S (hr.cut lo hi) hp⟩
    have e : PL.cut ds lo hi = ds := cut_whole ds lo hi (by rw [hr.length]; exact hw)
    rw [e] at q
    exact q.here S ra
  · obtain ⟨ds, hds, rfl⟩ := Option.map_eq_some_iff.mp hd
    obtain ⟨p, vs, rfl, hq, hr⟩ := rd_lv S ra hds
    exact sl_list pins s σ H _ v vl vu lo hi sl Q I rx hs pl pu ⟨p, vs, rfl, hq, fun p hp => q.frz S (hr.cut lo hi) hp⟩
theorem s_onone : PO X none (tWo X.K q .none) := po_none.w fun σ H Q ⟨β, ρ, env, st, e, S, h⟩ => h H ρ .refl S
theorem s_osome (ha : PE X pa (tW X.K q a)) : PO X (some pa) (tWo X.K q (.some a)) := (po_some ha).w fun σ H Q ⟨β, ρ, env, st, e, S, h⟩ => by
  simp only [evo] at h
  refine ⟨β, ρ, env, st, e, S, h.bind.imp (fun x s1 h1 v1 H1 ρ1 a1 S1 r1 => ?_) fun _ _ _ g => g⟩
  obtain ⟨i, rfl, h2⟩ := h1.bind.toI
  exact ⟨i, rd_int r1, h2 H1 ρ1 a1 S1⟩
theorem w_slc {lo hi : Oe} {d : Bool} {σ H Q} (h : tW X.K q (.slc a lo hi) σ H Q) : tSl (rSlD X.K q.fa) (tW X.K q a) (tWo X.K q lo) (tWo X.K q hi) σ H Q := by
  obtain ⟨β, ρ, env, st, e, S, h⟩ := h
  simp only [ev] at h
  refine ⟨β, ρ, env, st, e, S, h.bind.imp (fun x s1 h1 v1 H1 ρ1 a1 S1 r1 => ?_) fun _ _ _ g => g⟩
  refine ⟨β, ρ1, env, s1, e.stp a1, S1, (h1.bind.aftX a1).imp (fun l s2 h2 H2 ρ2 a2 S2 => ?_) fun _ _ _ g => g⟩
  refine ⟨β, ρ2, env, s2, (e.stp a1).stp a2, S2, (h2.bind.aftX (a1.trans a2)).imp (fun u s3 h3 H3 ρ3 a3 S3 => ?_) fun _ _ _ g => g⟩
  obtain ⟨d, h4, h5⟩ := h3.oD
  exact ⟨β, ρ3, s3, x, d, S3, (r1.stp a2).stp a3, h4, Post.after h5 ((a1.trans a2).trans a3)⟩
theorem s_slc {lo hi : Oe} {plo phi : Option Expr} {p2 : Pos} (ha : PE X pa (tW X.K q a)) (hl : PO X plo (tWo X.K q lo)) (hh : PO X phi (tWo X.K q hi)) : PE X (.Subscript pa (.Slice plo phi none p2) pos) (tW X.K q (.slc a lo hi)) :=
  (pe_slice (sl_D (fa := q.fa)) ha hl hh).w fun σ H Q h => w_slc (d := true) h
/-! ### built-in functions, isinstance -/
theorem s_blB {i : String} {x : Str} {p : Pos} {bl : Bl} (hc : X.calm = true) (hi : blV bl = .builtin i) (hg : Gl X x) (hm : X.mg x = none) (hv : bootBuiltins x = some (.builtin i)) (hn : x ≠ "__name__") (hdb : (x == ("__debug__" : Str)) = false)
    (ha : PA X (pe :: pes) (tWs X.K q es)) (he : starEach (pe :: pes) X.env = (false, eval pe X.env) :: starEach pes X.env) (hpl : (backTo pos (starEach pes X.env)).any (·.1) = false) : PE X (.Call (.Name x p) (pe :: pes) [] pos) (tW X.K q (.blt bl es)) :=
  (pe_callB (r := rBl X.K q.fa bl) (hi ▸ call_bl hc bl) hg hm hv ha hn hdb he hpl).w fun σ H Q ⟨β, ρ, env, st, e, S, h⟩ => by
    simp only [ev] at h
    refine ⟨β, ρ, env, st, e, S, h.bind.imp (fun ds s1 h1 vs H1 ρ1 a1 S1 r1 => ?_) fun _ _ _ g => g⟩
    obtain ⟨d, h4, h5⟩ := h1.oD
    exact ⟨β, ρ1, s1, ds, d, S1, r1, h4, Post.after h5 a1⟩
theorem s_blT {i : String} {x : Str} {p : Pos} {bl : Bl} (hc : X.calm = true) (hi : blV bl = .type i) (hg : Gl X x) (hm : X.mg x = none) (hv : bootBuiltins x = some (.type i)) (hn : x ≠ "__name__") (hdb : (x == ("__debug__" : Str)) = false)
    (ha : PA X (pe :: pes) (tWs X.K q es)) (he : starEach (pe :: pes) X.env = (false, eval pe X.env) :: starEach pes X.env) (hpl : (backTo pos (starEach pes X.env)).any (·.1) = false) : PE X (.Call (.Name x p) (pe :: pes) [] pos) (tW X.K q (.blt bl es)) :=
  (pe_callTy (r := rBl X.K q.fa bl) (hi ▸ call_bl hc bl) hg hm hv ha hn hdb he hpl).w fun σ H Q ⟨β, ρ, env, st, e, S, h⟩ => by
    simp only [ev] at h
    refine ⟨β, ρ, env, st, e, S, h.bind.imp (fun ds s1 h1 vs H1 ρ1 a1 S1 r1 => ?_) fun _ _ _ g => g⟩
    obtain ⟨d, h4, h5⟩ := h1.oD
    exact ⟨β, ρ1, s1, ds, d, S1, r1, h4, Post.after h5 a1⟩
def rIsD (K : PySem.W.Frag) (fa : Nat → Addr) (t : Ty) : List V → Hp → VK → Prop := fun vs H Q => ∃ β ρ st d x k, vs = [x, .ty (tyN t)] ∧ RS K fa β ρ st H ∧ RD K fa H (Mu ρ st) β ρ st.length d x ∧ isInst t d = some k ∧ Q (.bl k) H
theorem call_isD (t : Ty) : CallR X (.builtin "isinstance") (rIsD X.K fa t) := by
  intro pins s σ H xs us Q I r h
  obtain ⟨β, ρ, st, d, x, k, rfl, S, ra, hk, q⟩ := h
  exact isi_ok I S ra r hk q
theorem s_isi {t : Ty} {x y : Str} {p p2 : Pos} (hg : Gl X x) (hm : X.mg x = none) (hv : bootBuiltins x = some (.builtin "isinstance")) (hn : x ≠ "__name__") (hdb : (x == ("__debug__" : Str)) = false)
    (hg2 : Gl X y) (hm2 : X.mg y = none) (hv2 : bootBuiltins y = some (.type (tyN t))) (hn2 : y ≠ "__name__") (hdb2 : (y == ("__debug__" : Str)) = false)
    (ha : PE X pa (tW X.K q a)) (he : starEach [pa, .Name y p2] X.env = (false, eval pa X.env) :: starEach [.Name y p2] X.env) : PE X (.Call (.Name x p) [pa, .Name y p2] [] pos) (tW X.K q (.isi a t)) :=
  (pe_callB (r := rIsD X.K q.fa t) (call_isD t) hg hm hv (pa_cons ha (pa_cons (pe_bltn (v := .ty (tyN t)) hg2 hm2 hv2 rfl hn2 hdb2) pa_nil) he) hn hdb he rfl).w fun σ H Q ⟨β, ρ, env, st, e, S, h⟩ => by
    simp only [ev] at h
    refine ⟨β, ρ, env, st, e, S, h.bind.imp (fun x s1 h1 v H1 ρ1 a1 S1 r1 => ?_) fun _ _ _ g => g⟩
    obtain ⟨d, h4, h5⟩ := h1.oD
    obtain ⟨k, hk, rfl⟩ := Option.map_eq_some_iff.mp h4
    exact ⟨β, ρ1, s1, x, v, k, rfl, S1, r1, hk, (Post.after h5 a1).here S1 (.bl _)⟩
/-! ### calls of defs -/
/-- a def's promise -/
def spC (K : PySem.W.Frag) (q : Qm) (C : Nat → List D → Sto → R D) (f np : Nat) : Sp := fun vs H Q E => ∃ β ρ st ds, RS K q.fa β ρ st H ∧ RDs K q.fa H (Mu ρ st) β ρ st.length ds vs ∧ ds.length = np ∧
  RP (C f ds st) (fun d st' => Post K q.fa β ρ st H d st' Q) (PostX K { q with XE := E } β ρ st H)
theorem w_call {f np : Nat} {σ H Q} (hlen : ∀ ds st, RP (q.C f ds st) (fun _ _ => True) (fun _ _ _ => True) → ds.length = np) (h : tW X.K q (.call f es) σ H Q) : tCall (spC X.K q q.C f np) [] q.XE (tWs X.K q es) σ H Q := by
  obtain ⟨β, ρ, env, st, e, S, h⟩ := h
  simp only [ev] at h
  refine ⟨β, ρ, env, st, e, S, h.bind.imp (fun ds s1 h1 vs H1 ρ1 a1 S1 r1 => ?_) fun _ _ _ g => g⟩
  show spC X.K q q.C f np (vs ++ []) H1 Q q.XE
  rw [List.append_nil]
  exact ⟨β, ρ1, s1, ds, S1, r1, hlen ds s1 (h1.imp (fun _ _ _ => trivial) fun _ _ _ _ => trivial), h1.aft a1⟩
theorem s_call {CX : CXT} {k f np : Nat} {fd : FuncData} {ps : List Str} {x : Str} {p : Pos} (hlen : ∀ ds st, RP (q.C f ds st) (fun _ _ => True) (fun _ _ _ => True) → ds.length = np) (F : FnOk X.prog X.w X.K X.mg X.base CX k (q.fa f) fd ps (spC X.K q q.C f np)) (hr : Room k X.A) (hg : Gl X x) (hm : X.mg x = some (.ref (q.fa f)))
    (hk : PySem.W.keepIn X.K (.ref (q.fa f)) = true) (hb : Binds X.K fd ps []) (hx : Passes CX X q.XE) (hdb : (x == ("__debug__" : Str)) = false)
    (ha : PA X (pe :: pes) (tWs X.K q es)) (he : starEach (pe :: pes) X.env = (false, eval pe X.env) :: starEach pes X.env) (hpl : (backTo pos (starEach pes X.env)).any (·.1) = false) : PE X (.Call (.Name x p) (pe :: pes) [] pos) (tW X.K q (.call f es)) :=
  (pe_call F hr hg hm hk hb .nil hx ha hdb he hpl).w fun σ H Q h => w_call hlen h
theorem s_call0 {CX : CXT} {k f np : Nat} {fd : FuncData} {ps : List Str} {x : Str} {p : Pos} (hlen : ∀ ds st, RP (q.C f ds st) (fun _ _ => True) (fun _ _ _ => True) → ds.length = np) (F : FnOk X.prog X.w X.K X.mg X.base CX k (q.fa f) fd ps (spC X.K q q.C f np)) (hr : Room k X.A) (hg : Gl X x) (hm : X.mg x = some (.ref (q.fa f)))
    (hk : PySem.W.keepIn X.K (.ref (q.fa f)) = true) (hb : Binds X.K fd ps []) (hx : Passes CX X q.XE) (hdb : (x == ("__debug__" : Str)) = false) : PE X (.Call (.Name x p) [] [] pos) (tW X.K q (.call f .nil)) :=
  (pe_call0 F hr hg hm hk hb .nil hx hdb).w fun σ H Q h => by
    obtain ⟨β, ρ, env, st, e, S, h⟩ := w_call (X := X) (es := .nil) hlen h
    exact h [] H ρ .refl S .nil
/-- keywords: the values in the parameters' order -/
def gK {α : Type} (dflt : α) (pm : List Nat) (us ws : List α) : List α := pm.map fun j => (us ++ ws).getD j dflt
theorem vals_getD : ∀ {vs : List V} {us : List Value}, Vals vs us → ∀ j, RelV (vs.getD j .non) (us.getD j .none)
  | _, _, .nil, _ => rfl
  | _, _, .cons r _, 0 => r
  | _, _, .cons _ t, j + 1 => vals_getD t j
theorem gK_rel (pm : List Nat) {vs : List V} {us : List Value} {zs : List V} {ws : List Value} (h : Vals vs us) (h2 : Vals zs ws) : Vals (gK V.non pm vs zs) (gK Value.none pm us ws) := by
  unfold gK
  induction pm with
  | nil => exact .nil
  | cons j r ih => exact .cons (vals_getD (h.append h2) j) ih
theorem rds_getD {K : PySem.W.Frag} {fa : Nat → Addr} {H : Hp} {m : Addr → Prop} {β ρ : List Addr} {n : Nat} : ∀ {ds : List D} {vs : List V}, RDs K fa H m β ρ n ds vs → ∀ j, RD K fa H m β ρ n (ds.getD j .non) (vs.getD j .non)
  | _, _, .nil, _ => .non
  | _, _, .cons r _, 0 => r
  | _, _, .cons _ t, j + 1 => rds_getD t j
theorem rds_gK {K : PySem.W.Frag} {fa : Nat → Addr} {H : Hp} {m : Addr → Prop} {β ρ : List Addr} {n : Nat} {ds es : List D} {vs zs : List V} (pm : List Nat) (r : RDs K fa H m β ρ n ds vs) (r2 : RDs K fa H m β ρ n es zs) :
    RDs K fa H m β ρ n (pm.map fun j => (ds ++ es).getD j .non) (gK V.non pm vs zs) := by
  unfold gK
  induction pm with
  | nil => exact .nil
  | cons j t ih => exact .cons (rds_getD (r.append r2) j) ih
theorem w_callk {f np : Nat} {pm : List Nat} {ks : Es} {n m : Nat} {σ H Q} (hlen : ∀ ds st, RP (q.C f ds st) (fun _ _ => True) (fun _ _ _ => True) → ds.length = np) (hn : ∀ env st, RP (evs q.C q.G es env st) (fun ds _ => ds.length = n) (fun _ _ _ => True) ∨ evs q.C q.G es env st = .bad)
    (hm : ∀ env st, RP (evs q.C q.G ks env st) (fun ds _ => ds.length = m) (fun _ _ _ => True) ∨ evs q.C q.G ks env st = .bad) (h : tW X.K q (.callk f es ks pm) σ H Q) :
    tCallN n m (spC X.K q q.C f np) (gK V.non pm) q.XE (tWs X.K q es) (tWs X.K q ks) σ H Q := by
  obtain ⟨β, ρ, env, st, e, S, h⟩ := h
  simp only [ev] at h
  refine ⟨β, ρ, env, st, e, S, ?_⟩
  have h' := h.bind
  have l1 := hn env st
  cases hv : evs q.C q.G es env st with
  | bad =>
    rw [hv] at h'
    exact h'
  | exn c d s1 =>
    rw [hv] at h'
    exact h'
  | ok ds s1 =>
    rw [hv] at h' l1
    have hl : ds.length = n := l1.elim id fun z => nomatch z
    intro vs H1 ρ1 a1 S1 r1
    refine ⟨β, ρ1, env, s1, e.stp a1, S1, ?_⟩
    have h2 := RP.aftX (RP.bind h') a1
    have l2 := hm env s1
    cases hw : evs q.C q.G ks env s1 with
    | bad =>
      rw [hw] at h2
      exact h2
    | exn c d s2 =>
      rw [hw] at h2
      exact h2
    | ok ws s2 =>
      rw [hw] at h2 l2
      have hl2 : ws.length = m := l2.elim id fun z => nomatch z
      intro zs H2 ρ2 a2 S2 r2
      refine ⟨by rw [← r1.length]; exact hl, by rw [← r2.length]; exact hl2, β, ρ2, s2, _, S2, rds_gK pm (r1.stp a2) r2, ?_, ?_⟩
      · exact hlen _ s2 (RP.imp h2 (fun _ _ _ => trivial) fun _ _ _ _ => trivial)
      · have h3 : RP (q.C f (pm.map fun j => (ds ++ ws).getD j .non) s2) (fun d st' => Post X.K q.fa β ρ st H d st' Q) (PostX X.K q β ρ st H) := h2
        exact h3.imp (fun _ _ g => Post.after g (a1.trans a2)) fun _ _ _ g => PostX.after g (a1.trans a2)
theorem evs_len : ∀ (es : Es) (C : Nat → List D → Sto → R D) (G : Nat → D), ∃ n, ∀ env st, RP (evs C G es env st) (fun ds _ => ds.length = n) (fun _ _ _ => True) ∨ evs C G es env st = .bad
  | .nil, C, G => ⟨0, fun env st => .inl rfl⟩
  | .cons e es, C, G => by
    obtain ⟨n, h⟩ := evs_len es C G
    refine ⟨n + 1, fun env st => ?_⟩
    simp only [evs]
    cases hv : ev C G e env st with
    | ok x s1 =>
      show RP ((evs C G es env s1).bind fun xs s2 => R.ok (x :: xs) s2) _ _ ∨ ((evs C G es env s1).bind fun xs s2 => R.ok (x :: xs) s2) = .bad
      have q := h env s1
      cases hw : evs C G es env s1 with
      | ok xs s2 =>
        rw [hw] at q
        left
        have q2 : xs.length = n := q.elim id fun z => nomatch z
        show xs.length + 1 = n + 1
        rw [q2]
      | exn c d s2 => exact .inl trivial
      | bad => exact .inr rfl
    | exn c d s1 => exact .inl trivial
    | bad => exact .inr rfl
end
end PL

set_option Elab.async false
set_option linter.all false
set_option maxRecDepth 100000
set_option maxHeartbeats 1000000
/-! Methods; a call through a name; lists into the store. -/
namespace PL
open PySem PySem.Spec PyProof.Rows L2
def mId : Mt → String
  | .append => "list.append" | .pop => "list.pop" | .popAt => "list.pop" | .index => "str.index" | .count => "list.count" | .join => "str.join" | .bitlen => "int.bit_length"
def mT : Mt → String
  | .append => "list" | .pop => "list" | .popAt => "list" | .index => "str" | .count => "list" | .join => "str" | .bitlen => "int"
def mN : Mt → Str
  | .append => "append" | .pop => "pop" | .popAt => "pop" | .index => "index" | .count => "count" | .join => "join" | .bitlen => "bit_length"
def rM (K : PySem.W.Frag) (fa : Nat → Addr) (m : Mt) : V → List V → Hp → VK → Prop := fun x vs H Q => ∃ β ρ st dx ds d st', RS K fa β ρ st H ∧ RD K fa H (Mu ρ st) β ρ st.length dx x ∧ RDs K fa H (Mu ρ st) β ρ st.length ds vs ∧ mcall st m dx ds = .ok d st' ∧ Post K fa β ρ st H d st' Q
section
variable {X : Cx} {q : Qm} {a b c : E} {pa pb pc pe : Expr} {pos : Pos} {es : Es} {pes : List Expr} {fa : Nat → Addr}
theorem idx_at {z : List Nat} {k : Nat} : ∀ {j : Nat}, idxOf k z = some j → z[j]? = some k ∧ ∀ i, i < j → z[i]? ≠ some k := by
  induction z with
  | nil => intro j h; cases h
  | cons y ys ih =>
    intro j h
    simp only [idxOf] at h
    split at h
    · rename_i e
      cases h
      exact ⟨by rw [e]; rfl, fun i hi => absurd hi (Nat.not_lt_zero _)⟩
    · rename_i ne
      obtain ⟨j', h1, rfl⟩ := Option.map_eq_some_iff.mp h
      obtain ⟨h2, h3⟩ := ih h1
      refine ⟨by simpa using h2, fun i hi => ?_⟩
      cases i with
      | zero => simpa using ne
      | succ i => simpa using h3 i (by omega)
theorem pre_one (k : Nat) (z : List Nat) (i : Nat) : StrLaws.At ⟨z.toArray⟩ ⟨#[k]⟩ (⟨z.toArray⟩ : Str).length i ↔ z[i]? = some k := by
  have h1 : (⟨#[k]⟩ : Str).length = 1 := rfl
  have h2 : (⟨z.toArray⟩ : Str).length = z.length := str_len z
  unfold StrLaws.At
  rw [StrLaws.subAt_eq, h1, h2]
  show (i + 1 ≤ z.length ∧ ((z.drop i).take 1 == [k]) = true) ↔ _
  constructor
  · rintro ⟨h3, h4⟩
    have e : (z.drop i).take 1 = [k] := by simpa using h4
    have h5 : i < z.length := h3
    rw [List.drop_eq_getElem_cons h5, List.take_succ_cons, List.take_zero] at e
    rw [List.getElem?_eq_getElem h5, (List.cons.inj e).1]
  · intro h
    obtain ⟨h3, h4⟩ := List.getElem?_eq_some_iff.mp h
    refine ⟨h3, ?_⟩
    rw [List.drop_eq_getElem_cons h3, h4]
    simp
theorem occ_idx {z : List Nat} {k j : Nat} (h : idxOf k z = some j) : ∃ r, Builtin.Str.occurrences ⟨z.toArray⟩ ⟨#[k]⟩ 0 (⟨z.toArray⟩ : Str).length 1 = j :: r := by
  obtain ⟨h1, h2⟩ := idx_at h
  rcases StrLaws.occ_head ⟨z.toArray⟩ ⟨#[k]⟩ 1 (Nat.le_refl _) with ⟨_, hn⟩ | ⟨i, r, e, hi, hk⟩
  · exact absurd ((pre_one k z j).mpr h1) (hn j)
  · have e1 := (pre_one k z i).mp hi
    have hij : i = j := by
      rcases Nat.lt_trichotomy i j with l | l | l
      · exact absurd e1 (h2 i l)
      · exact l
      · exact absurd ((pre_one k z j).mpr h1) (hk j l)
    subst hij
    exact ⟨r, e⟩
theorem ixN_seqI {n : Nat} {i : Int} {j : Nat} (h : PL.ixN n i = some j) : seqIndex? i n = some j := (L2.ixN_seq (show L2.ixN n i = some j from h)).1
theorem mt_D (m : Mt) : MtR X (mId m) (rM X.K fa m) := by
  intro pins s σ H x xs v us Q I rx rs h
  obtain ⟨β, ρ, st, dx, ds, d, st', S, ra, rds, hm, q⟩ := h
  unfold mcall at hm
  split at hm
  · -- append
    split at hm
    · rename_i i d0 _ es hi
      split at hm
      · rename_i ok
        rw [Bool.and_eq_true] at ok
        cases hm
        cases ra with
        | lst h1 h2 =>
          cases rds with
          | cons r1 r2 =>
            cases r2
            obtain ⟨a, vs, e1, e2, e3⟩ := S.obj i _ hi
            rw [h2] at e1
            cases e1
            have P := S.put (ds' := es ++ [d0]) (vs' := vs ++ [_]) hi h2 (e3.append (.cons (r1.older ok.2) .nil))
            exact mt_append pins s σ H _ _ v us Q I rx rs ⟨_, vs, _, rfl, rfl, e2, by rw [← e3.length]; exact szLt_lt ok.1, q _ _ ρ P.2 P.1 .non⟩
      · cases hm
    · cases hm
  · -- pop
    split at hm
    · rename_i i _ es hi
      split at hm
      · rename_i d0 hd
        cases hm
        cases ra with
        | lst h1 h2 =>
          cases rds
          obtain ⟨a, vs, e1, e2, e3⟩ := S.obj i _ hi
          rw [h2] at e1
          cases e1
          obtain ⟨w, hw, rw'⟩ := e3.get hd
          have P := S.put (ds' := es.dropLast) (vs' := vs.dropLast) hi h2 e3.dropLast
          refine mt_pop pins s σ H _ _ v us Q I rx rs ⟨_, vs, w, rfl, rfl, e2, by rw [← e3.length]; exact hw, q _ _ ρ P.2 P.1 ?_⟩
          exact (rw'.mono (fun _ _ x y => ⟨x, y⟩) (fun _ _ x => x) (fun _ x => .inl x) (Nat.le_of_lt h1)).stp P.2
      · cases hm
    · cases hm
  · -- pop(i)
    split at hm
    · rename_i i k _ es hi
      split at hm
      · rename_i ok
        simp only [Bool.and_eq_true, decide_eq_true_eq] at ok
        split at hm
        · rename_i j hj
          split at hm
          · rename_i d0 hd
            cases hm
            cases ra with
            | lst h1 h2 =>
              cases rds with
              | cons r1 r2 =>
                cases r2
                cases r1
                obtain ⟨a, vs, e1, e2, e3⟩ := S.obj i _ hi
                rw [h2] at e1
                cases e1
                obtain ⟨w, hw, rw'⟩ := e3.get hd
                have P := S.put (ds' := es.eraseIdx j) (vs' := vs.eraseIdx j) hi h2 (e3.erase j)
                refine mt_popAt pins s σ H _ _ v us Q I rx rs ⟨_, vs, k, j, w, rfl, rfl, e2, ok.1, ok.2, by rw [← e3.length]; exact ixN_seqI hj, hw, q _ _ ρ P.2 P.1 ?_⟩
                exact (rw'.mono (fun _ _ x y => ⟨x, y⟩) (fun _ _ x => x) (fun _ x => .inl x) (Nat.le_of_lt h1)).stp P.2
          · cases hm
        · cases hm
      · cases hm
    · cases hm
  · -- str.index
    split at hm
    · rename_i z k _ j hj
      cases hm
      cases ra
      cases rds with
      | cons r1 r2 =>
        cases r2
        cases r1
        obtain ⟨r, e⟩ := occ_idx hj
        exact mt_sindex pins s σ H _ _ v us Q I rx rs ⟨_, _, j, r, rfl, rfl, e, q.here S (.int _)⟩
    · cases hm
  · -- list.count
    split at hm
    · rename_i o k _ ns hns
      cases hm
      obtain ⟨es, he, hi⟩ := Option.bind_eq_some_iff.mp hns
      cases rds with
      | cons r1 r2 =>
        cases r2
        cases r1
        obtain ⟨a, vs, rfl, hq, hr⟩ := rd_lv S ra he
        have e := hr.ints hi
        subst e
        exact mt_lcount pins s σ H _ _ v us Q I rx rs ⟨a, ns, k, rfl, rfl, hq, q.here S (.int _)⟩
    · cases hm
  · -- join
    split at hm
    · rename_i z d0 _ ps hps
      split at hm
      · rename_i ok
        cases hm
        obtain ⟨es, he, hi⟩ := Option.bind_eq_some_iff.mp hps
        cases ra
        cases rds with
        | cons r1 r2 =>
          cases r2
          obtain ⟨a, vs, rfl, hq, hr⟩ := rd_sv S r1 he
          have e := hr.strs hi
          subst e
          refine mt_join pins s σ H _ _ v us Q I rx rs ⟨_, a, ps.map fun s => (⟨s.toArray⟩ : Str), rfl, rfl, hq, ?_, ?_⟩
          · rw [show (List.map (fun s => (⟨s.toArray⟩ : Str)) ps).map (·.length) = ps.map List.length by
              rw [List.map_map]
              exact List.map_congr_left fun y _ => str_len y, List.length_map, str_len]
            have := szOk_le ok
            rw [sizeLine_eq] at this
            exact this
          · have e : Txt.join ⟨z.toArray⟩ (ps.map fun s => (⟨s.toArray⟩ : Str)) = ⟨(joinL z ps).toArray⟩ := by
              have j := SX.join_S z ps
              have jl : ∀ l : List (List Nat), TL.joinL z l = joinL z l := by
                intro l
                induction l with
                | nil => rfl
                | cons x r ih =>
                  cases r with
                  | nil => rfl
                  | cons y r => simp only [TL.joinL, joinL, ih]
              rw [jl] at j
              exact j
            rw [e]
            exact q.here S (.str _)
      · cases hm
    · cases hm
  · -- bit_length
    rename_i i
    cases hm
    cases ra
    cases rds
    obtain ⟨t, rfl⟩ := rx
    cases rs
    refine PyProof.Rows.call_int_bit_length ⟨.int (Builtin.Int.intBits i : Nat), H, I.tok _, ⟨_, rfl⟩, ?_⟩
    have e : ((Builtin.Int.intBits i : Nat) : Int) = bitLen i := by
      unfold Builtin.Int.intBits bitLen
      by_cases h : i = 0
      · subst h
        rfl
      · rw [if_neg h, if_neg (by simpa using h)]
    rw [e]
    exact q.here S (.int _)
  · cases hm
theorem mOk_ty (m : Mt) {K : PySem.W.Frag} {H : Hp} {β ρ : List Addr} {st : Sto} {d : D} {x : V} (S : RS K fa β ρ st H) (r : RD K fa H (Mu ρ st) β ρ st.length d x) (h : mOk m d = true) : tyV K (mT m) x H := by
  have hl : ∀ {d : D} {es : List D}, RD K fa H (Mu ρ st) β ρ st.length d x → lv st d = some es → (∃ p, x = .ref p ∧ ∃ xs, SqL K H p xs) := fun r e => by
    obtain ⟨a, vs, e1, e2, _⟩ := rd_lv S r e
    exact ⟨a, e1, vs, e2⟩
  have hlst : ∀ {i : Nat}, RD K fa H (Mu ρ st) β ρ st.length (.lst i) x → ∃ p, x = .ref p ∧ ∃ xs, SqL K H p xs := fun {i} r => by
    cases r with
    | lst h1 h2 =>
      obtain ⟨a, vs, e1, e2, _⟩ := S.obj i _ (List.getElem?_eq_getElem h1)
      rw [h2] at e1
      cases e1
      exact ⟨_, rfl, vs, .inl (.inl e2)⟩
  cases m <;> cases d <;> first
    | exact absurd h Bool.false_ne_true
    | (refine (fun (h0 : ∃ p, x = .ref p ∧ ∃ xs, SqL K H p xs) => ?_) (hlst r); obtain ⟨p, rfl, z⟩ := h0; exact .inl ⟨rfl, z⟩)
    | (refine (fun (h0 : ∃ p, x = .ref p ∧ ∃ xs, SqL K H p xs) => ?_) (hl r rfl); obtain ⟨p, rfl, z⟩ := h0; exact .inl ⟨rfl, z⟩)
    | (cases r; rfl)
theorem w_mth {m : Mt} {σ H Q} (h : tW X.K q (.mth m a es) σ H Q) : tBM X.K (mT m) (rM X.K q.fa m) (tW X.K q a) (tWs X.K q es) σ H Q := by
  obtain ⟨β, ρ, env, st, e, S, h⟩ := h
  simp only [ev] at h
  refine ⟨β, ρ, env, st, e, S, h.bind.imp (fun x s1 h1 v1 H1 ρ1 a1 S1 r1 => ?_) fun _ _ _ g => g⟩
  split at h1
  · rename_i ok
    refine ⟨mOk_ty m S1 r1 ok, β, ρ1, env, s1, e.stp a1, S1, (h1.bind.aftX a1).imp (fun ds s2 h2 vs H2 ρ2 a2 S2 r2 => ?_) fun _ _ _ g => g⟩
    cases hm : mcall s2 m x ds with
    | ok d s3 =>
      rw [hm] at h2
      exact ⟨β, ρ2, s2, x, ds, d, s3, S2, r1.stp a2, r2, hm, Post.after h2 (a1.trans a2)⟩
    | exn c d s3 =>
      exfalso
      revert hm
      unfold mcall
      repeat' split
      all_goals (intro z; cases z)
    | bad =>
      rw [hm] at h2
      exact h2.elim
  · exact h1.elim
theorem slot_m (m : Mt) : PlainAttrs (mT m) ∧ Slot (mT m) (mN m) (mId m) ∧ typeOf (.builtin (mId m)) = pure (.type "method_descriptor") := by
  cases m with
  | append => exact ⟨F.plainAttrs_list, F.slot_list_append, F.type_list_append⟩
  | pop => exact ⟨F.plainAttrs_list, F.slot_list_pop, F.type_list_pop⟩
  | popAt => exact ⟨F.plainAttrs_list, F.slot_list_pop, F.type_list_pop⟩
  | index => exact ⟨F.plainAttrs_str, F.slot_str_index, F.type_str_index⟩
  | count => exact ⟨F.plainAttrs_list, F.slot_list_count, F.type_list_count⟩
  | join => exact ⟨F.plainAttrs_str, F.slot_str_join, F.type_str_join⟩
  | bitlen => exact ⟨F.plainAttrs_int, F.slot_int_bit_length, F.type_int_bit_length⟩
theorem s_mth {m : Mt} {apos cpos : Pos} (ho : PE X pa (tW X.K q a)) (ha : PA X (pe :: pes) (tWs X.K q es)) (hbase : attributeBase pa (mN m) X.env (eval pa X.env) = eval pa X.env)
    (hfew : ((backTo cpos (starEach (pe :: pes) X.env)).all (fun x => !x.1) && (backToKw cpos (keywordEach [] X.env)).all (fun x => x.1.isSome)
      && decide ((pe :: pes).length + ([] : List Keyword).length + (if ([] : List Keyword).isEmpty then 0 else 1) < 30)) = true)
    (hline : (apos.endLine == cpos.line) = true) (hs : starEach (pe :: pes) X.env = (false, eval pe X.env) :: starEach pes X.env) (hplain : (backTo cpos (starEach pes X.env)).any (·.1) = false) :
    PE X (.Call (.Attribute pa (mN m) apos) (pe :: pes) [] cpos) (tW X.K q (.mth m a es)) :=
  (pe_bm (slot_m m).1 (slot_m m).2.1 (slot_m m).2.2 (mt_D (fa := q.fa) m) ho ha hbase hfew hline hs hplain).w fun σ H Q h => w_mth h
theorem s_mth0 {m : Mt} {apos cpos : Pos} (ho : PE X pa (tW X.K q a)) (hbase : attributeBase pa (mN m) X.env (eval pa X.env) = eval pa X.env) (hline : (apos.endLine == cpos.line) = true) :
    PE X (.Call (.Attribute pa (mN m) apos) [] [] cpos) (tW X.K q (.mth m a .nil)) :=
  (pe_bm0 (slot_m m).1 (slot_m m).2.1 (slot_m m).2.2 (mt_D (fa := q.fa) m) ho hbase hline).w fun σ H Q h => by
    obtain ⟨β, ρ, env, st, e, S, h⟩ := w_mth (X := X) h
    refine ⟨β, ρ, env, st, e, S, h.imp (fun x s1 h1 v1 H1 ρ1 a1 S1 r1 => ?_) fun _ _ _ g => g⟩
    obtain ⟨ty, β', ρ', env', st', e', S', h'⟩ := h1 v1 H1 ρ1 a1 S1 r1
    exact ⟨ty, h' [] H1 ρ' .refl S' .nil⟩
/-! ### a call through a name -/
theorem s_callv {CX : CXT} {k i : Nat} {x : Str} {p : Pos} (F : ∀ f ds st, RP (q.C f ds st) (fun _ _ => True) (fun _ _ _ => True) → ∃ fd ps, FnOk X.prog X.w X.K X.mg X.base CX k (q.fa f) fd ps (spC X.K q q.C f ds.length) ∧ PySem.W.keepIn X.K (.ref (q.fa f)) = true ∧ Binds X.K fd ps [])
    (hr : Room k X.A) (hN : X.N[i]? = some x) (hv : Vis X.env.scope x) (hx : Passes CX X q.XE) (hdb : (x == ("__debug__" : Str)) = false) (hcd : (x == ("__classdict__" : Str)) = false)
    (ha : PA X (pe :: pes) (tWs X.K q es)) (he : starEach (pe :: pes) X.env = (false, eval pe X.env) :: starEach pes X.env) (hpl : (backTo pos (starEach pes X.env)).any (·.1) = false) : PE X (.Call (.Name x p) (pe :: pes) [] pos) (tW X.K q (.callv i es)) := by
  refine ⟨fun pins s σ H Q I h => ?_⟩
  obtain ⟨β, ρ, env, st, e, S, h⟩ := h
  simp only [ev] at h
  split at h
  · rename_i f hf
    obtain ⟨v0, h1, r0⟩ := e.get i _ hf
    cases r0
    cases hds : evs q.C q.G es env st with
    | ok ds st1 =>
      rw [hds] at h
      have h : RP (q.C f ds st1) _ _ := h
      obtain ⟨fd, ps, FF, hk, hb⟩ := F f ds st1 (h.imp (fun _ _ _ => trivial) fun _ _ _ _ => trivial)
      refine (pe_callL (i := i) (f := q.fa f) (dvs := []) (E := q.XE) FF hr hN hv hk hb .nil hx ha hdb hcd he hpl).run pins s σ H Q I ⟨h1, β, ρ, env, st, e, S, ?_⟩
      rw [hds]
      intro vs H1 ρ1 a1 S1 r1
      show spC X.K q q.C f ds.length (vs ++ []) H1 Q q.XE
      rw [List.append_nil]
      exact ⟨β, ρ1, st1, ds, S1, r1, rfl, h.aft a1⟩
    | bad =>
      rw [hds] at h
      exact h.elim
    | exn c d st1 =>
      rw [hds] at h
      exact h.elim
  · exact h.elim
end
end PL

set_option Elab.async false
set_option linter.all false
set_option maxRecDepth 100000
set_option maxHeartbeats 1000000
/-! Loops over what a value gives: enumerate and zip over lists, tuples, texts. -/
namespace PL
open PySem PySem.Spec PyProof.Rows L2
theorem meets_enum1 {v : Value} {o : PySem.Obj} {H : Heap → Prop} (B : Begins v o H) :
    Meets (Builtin.«enumerate.__new__» ⟨[.type "enumerate", v], []⟩) (fun _ R s => H s.heap ∧
      R (.ok (.ret (.ref (s.heap.push o).objs.size))) { s with heap := (s.heap.push o).push { cls := .type "enumerate", data := .fields #[.none, .bool false, .ref s.heap.objs.size, rawInt 0, .none, .none] } }) :=
  .of_wp fun prog w A R s h => by
    obtain ⟨hp, g, d, tk, os⟩ := s
    obtain ⟨h1, h⟩ := h
    have hsub := sub_enumerate
    have q1 : ∀ {A' : Around} {E : Value → Shared → Prop} {Q : Value → Shared → Prop}, Q (.ref hp.objs.size) ⟨hp.push o, g, d, tk, os⟩ → wpAny (model prog w) A' (pyIter v) Q E ⟨hp, g, d, tk, os⟩ :=
      fun q => B.iter prog w _ _ ⟨hp, g, d, tk, os⟩ _ h1 q
    wp_walk using q1
    refine wpAny_stack_any fun st => wpAny_pure ?_
    split
    · rename_i c _ _ _ _ _
      cases (c == Value.type "enumerate")
      · wp_walk using q1
        exact ⟨_, rfl, h⟩
      · wp_walk using q1
        exact ⟨_, rfl, h⟩
    · wp_walk using q1
      exact ⟨_, rfl, h⟩
section
variable {prog : Program} {w : World} {A : Around} {E : Value → Shared → Prop} {s : Shared}
theorem enum1_begins {v : Value} {o : PySem.Obj} {H : Heap → Prop} {Q : Value → Shared → Prop} (B : Begins v o H) (h1 : H s.heap)
    (h : ∀ h', IsEnum h' (s.heap.objs.size + 1) s.heap.objs.size 0 .none → h'.get? s.heap.objs.size = some o → h'.objs.size = s.heap.objs.size + 2 →
      (∀ b o, s.heap.get? b = some o → h'.get? b = some o) → Q (.ref (s.heap.objs.size + 1)) { s with heap := h' }) :
    wpAny (model prog w) A (PySem.call (.type "enumerate") [v]) Q E s := by
  refine callType_new F.called_enumerate (by decide) (F.typeCall_enumerate_1 _) (F.newCall_enumerate_1 _) (fun obj => F.args_object_init_2 obj _) F.entry_enumerate_new
    (meets_enum1 B) ⟨h1, ?_⟩
  have hz : (s.heap.push o).objs.size = s.heap.objs.size + 1 := Heap.size_push ..
  show _ ∧ _
  rw [hz]
  have he : IsEnum ((s.heap.push o).push { cls := .type "enumerate", data := .fields #[.none, .bool false, .ref s.heap.objs.size, rawInt 0, .none, .none] }) (s.heap.objs.size + 1) s.heap.objs.size 0 .none := by
    have := Heap.get?_push_size (s.heap.push o) (o := { cls := .type "enumerate", data := .fields #[.none, .bool false, .ref s.heap.objs.size, rawInt 0, .none, .none] }) rfl
    rw [hz] at this
    exact this
  exact ⟨⟨_, he, rfl⟩, h _ he (Heap.get?_push_of_some _ (Heap.get?_push_size _ B.free)) (by rw [Heap.size_push, hz]) fun b o x => Heap.get?_push_of_some _ (Heap.get?_push_of_some _ x)⟩
end
/-- what is walked: a list, a tuple, a text -/
inductive Sk where
  | l (a : Addr) | t (a : Addr) | s (x : Str) (k : Tok)
def Sk.val : Sk → Value
  | .l a => .ref a
  | .t a => .ref a
  | .s x k => .str x k
def Sk.obj : Sk → PySem.Obj
  | .l a => { cls := .type "list_iterator", data := .fields #[.ref a, .int 0 0] }
  | .t a => { cls := .type "tuple_iterator", data := .fields #[.ref a, .int 0 0] }
  | .s x k => { cls := .type (strIterType x), data := .fields #[.str x k, .int 0 0] }
def Sk.tn (k : Sk) (it : Addr) (i : Nat) (h : Heap) : Prop := match k with
  | .l a => h.IsListIter it a i
  | .t a => h.IsTupleIter it a i
  | .s x tk => h.IsStrIter it (strIterType x) x tk i
def Sk.ok (k : Sk) (K : PySem.W.Frag) (H : Hp) (xs : List V) : Prop := match k with
  | .l a => SqL K H a xs
  | .t a => SqT K H a xs
  | .s x _ => xs = x.cps.toList.map fun c => V.str ⟨#[c]⟩
def Sk.apart (k : Sk) (b : Addr) : Prop := ∀ a, k.val = .ref a → a ≠ b
theorem Sk.obj_at {k : Sk} {it : Addr} {i : Nat} {h : Heap} (st : k.tn it i h) : ∃ o, h.get? it = some o ∧ ∀ v, o.data ≠ .cell v := by
  cases k with
  | l a =>
    obtain ⟨o, e, c, d⟩ := st
    exact ⟨o, e, fun v z => by rw [d] at z; cases z⟩
  | t a =>
    obtain ⟨o, e, c, d⟩ := st
    exact ⟨o, e, fun v z => by rw [d] at z; cases z⟩
  | s x t =>
    obtain ⟨o, e, c, d⟩ := st
    exact ⟨o, e, fun v z => by rw [d] at z; cases z⟩
theorem Sk.keep {k : Sk} {it : Addr} {i : Nat} {h h' : Heap} (st : k.tn it i h) (hk : ∀ o, h.get? it = some o → h'.get? it = some o) : k.tn it i h' := by
  cases k with
  | l a =>
    obtain ⟨o, e, r⟩ := st
    exact ⟨o, hk o e, r⟩
  | t a =>
    obtain ⟨o, e, r⟩ := st
    exact ⟨o, hk o e, r⟩
  | s x t =>
    obtain ⟨o, e, r⟩ := st
    exact ⟨o, hk o e, r⟩
theorem Sk.start {k : Sk} {it : Addr} {h : Heap} (e : h.get? it = some k.obj) : k.tn it 0 h := by
  cases k <;> exact ⟨_, e, rfl, rfl⟩
section
variable {X : Cx} {pins : List (Addr × PySem.Obj)} {s : Shared} {σ : L2.St} {H : Hp}
theorem Sk.inj {k : Sk} {xs ys : List V} (I : Inv X pins σ H s) (h : k.ok X.K H xs) (h' : k.ok X.K H ys) : xs = ys := by
  cases k with
  | l a => exact I.list_inj h h'
  | t a => exact I.tuple_inj h h'
  | s x t => exact h.trans (Eq.symm h')
theorem Sk.begins {k : Sk} {xs : List V} (I : Inv X pins σ H s) (h : k.ok X.K H xs) : ∃ Hb, Begins k.val k.obj Hb ∧ Hb s.heap := by
  cases k with
  | l a =>
    obtain ⟨its, rv, p, hz⟩ := I.list h
    exact ⟨_, begins_list a its.toArray, p.isList⟩
  | t a =>
    obtain ⟨its, rv, p, hz⟩ := I.tuple h
    exact ⟨_, begins_tuple a its.toArray, p⟩
  | s x t => exact ⟨_, begins_text x t, trivial⟩
theorem Sk.lt {k : Sk} {xs : List V} (I : Inv X pins σ H s) (h : k.ok X.K H xs) {a : Addr} (e : k.val = .ref a) : a < s.heap.objs.size := by
  cases k with
  | l b =>
    cases e
    obtain ⟨its, rv, p, hz⟩ := I.list h
    exact p.lt
  | t b =>
    cases e
    obtain ⟨its, rv, ⟨o, e, _⟩, hz⟩ := I.tuple h
    exact Heap.lt_size e
  | s x t => cases e
theorem Sk.draws {A : Around} {k : Sk} {it : Addr} {i : Nat} {xs : List V} (hh : A.handled = none) (I : Inv X pins σ H s) (h : k.ok X.K H xs) (st : k.tn it i s.heap) (ap : k.apart it) :
    ∃ (fp : List Addr) (St : Nat → Heap → Prop) (Pv : Nat → Value → Prop), Draws X.prog X.w A it fp xs.length Pv St ∧ St i s.heap ∧ (∀ j h, St j h → k.tn it j h) ∧ (∀ j v, Pv j v → ∃ y, xs[j]? = some y ∧ RelV y v) ∧ it ∈ fp ∧ ∀ b ∈ fp, b = it ∨ k.val = .ref b := by
  cases k with
  | l a =>
    obtain ⟨its, rv, p, hz⟩ := I.list h
    have D := Draws.list (prog := X.prog) (w := X.w) hh it a (ap a rfl) its.toArray
    have el : its.toArray.size = xs.length := by rw [rv.length]; simp
    rw [el] at D
    refine ⟨_, _, _, D, ⟨st, p.isList⟩, fun j h z => z.1, fun j v z => ?_, by simp, fun b hb => ?_⟩
    · have z : its[j]? = some v := by simpa using z
      have hj : j < xs.length := by rw [rv.length]; exact (List.getElem?_eq_some_iff.mp z).1
      obtain ⟨u, hu, ru⟩ := rv.get (List.getElem?_eq_getElem hj)
      rw [z] at hu
      cases hu
      exact ⟨_, List.getElem?_eq_getElem hj, ru⟩
    · have e : b = it ∨ b = a := by simpa using hb
      rcases e with e | e
      · exact .inl e
      · exact .inr (by rw [e]; rfl)
  | t a =>
    obtain ⟨its, rv, p, hz⟩ := I.tuple h
    have D := Draws.tuple (prog := X.prog) (w := X.w) hh it a (ap a rfl) its.toArray
    have el : its.toArray.size = xs.length := by rw [rv.length]; simp
    rw [el] at D
    refine ⟨_, _, _, D, ⟨st, p⟩, fun j h z => z.1, fun j v z => ?_, by simp, fun b hb => ?_⟩
    · have z : its[j]? = some v := by simpa using z
      have hj : j < xs.length := by rw [rv.length]; exact (List.getElem?_eq_some_iff.mp z).1
      obtain ⟨u, hu, ru⟩ := rv.get (List.getElem?_eq_getElem hj)
      rw [z] at hu
      cases hu
      exact ⟨_, List.getElem?_eq_getElem hj, ru⟩
    · have e : b = it ∨ b = a := by simpa using hb
      rcases e with e | e
      · exact .inl e
      · exact .inr (by rw [e]; rfl)
  | s x t =>
    subst h
    have D := Draws.text (prog := X.prog) (w := X.w) hh it x t
    have hl : x.cps.size = (x.cps.toList.map fun c => V.str ⟨#[c]⟩).length := by simp
    rw [hl] at D
    refine ⟨_, _, _, D, st, fun j h z => z, fun j v z => ?_, by simp, fun b hb => ?_⟩
    · obtain ⟨c, u, hc, rfl⟩ := z
      have hc' : x.cps.toList[j]? = some c := by simpa using hc
      exact ⟨V.str ⟨#[c]⟩, by rw [List.getElem?_map, hc']; rfl, ⟨u, rfl⟩⟩
    · left
      simpa using hb
end

/-! ### enumerate -/
def IteG (K : PySem.W.Frag) (k : Sk) : L2.It :=
  ⟨fun i H => ∃ (xs : List V) (x : V), k.ok K H xs ∧ xs[i]? = some x, fun i H v H' => ∃ T x, v = .ref T ∧ H T = none ∧ H' = upd H T (.tup [.int (i : Nat), x]) ∧ ∀ xs, k.ok K H xs → xs[i]? = some x, fun i H => ∃ xs : List V, k.ok K H xs ∧ i = xs.length⟩
theorem turn_enumG {P : Program} {w : World} {K : PySem.W.Frag} {elts : List Expr} {kk : Nat} {tpos : Pos} (k : Sk) (e it : Addr) :
    Turn P w K (.Tuple elts kk tpos) (IteG K k) [e, it] e (fun i h => (∃ old, IsEnum h e it ((i : Nat) : Int) old) ∧ k.tn it i h ∧ e ≠ it ∧ k.apart it ∧ k.apart e) where
  mem := by simp
  obj := fun i h st b hb => by
    obtain ⟨⟨old, he⟩, hi, _⟩ := st
    have e' : b = e ∨ b = it := by simpa using hb
    rcases e' with z | z
    · rw [z]; exact ⟨_, he, fun v q => nomatch q⟩
    · rw [z]; exact Sk.obj_at hi
  keep := fun i h h' st kp => let ⟨⟨old, he⟩, hi, hne⟩ := st; ⟨⟨old, kp e (by simp) _ he⟩, Sk.keep hi fun o q => kp it (by simp) o q, hne⟩
  item := by
    intro X hP hw hK hc i pins s σ H E I hf st hg
    subst hP hw hK
    obtain ⟨⟨old, he⟩, hit, hne, ap1, ap2⟩ := st
    obtain ⟨xs, x, hq, hx⟩ := hg
    obtain ⟨fp, St, Pv, D, hst, hSt, hPv, hm, hfp⟩ := Sk.draws (A := X.A.in1) (show X.A.in1.handled = none from I.ok.hd hc) I hq hit ap1
    have hef : e ∉ fp := fun z => (hfp e z).elim (fun q => hne q) fun q => ap2 e q rfl
    have hel : e < s.heap.objs.size := Heap.lt_size he
    obtain ⟨oi, ei, _⟩ := Sk.obj_at hit
    have hil : it < s.heap.objs.size := Heap.lt_size ei
    have hlt : i < xs.length := (List.getElem?_eq_some_iff.mp hx).1
    refine wpAny_pyNext_enum_itemD D he hst hlt hne hef fun u h' tk hP ho hit' hT hsz hk => ?_
    obtain ⟨y, hy, ry⟩ := hPv _ _ hP
    rw [hx] at hy
    cases hy
    refine ⟨_, rfl, wpAny_letOwnedTupleGo_enum (s := { s with heap := h', toks := tk + 1 }) ho fun h'' he' sb => ?_⟩
    have hT2 : h''.get? s.heap.objs.size = some { cls := .type "tuple", data := .seq #[.int i tk, u] } := (sb.2 _ (Nat.ne_of_gt hel)).trans hT
    have new : ObjOk X.prog X.w (upd H s.heap.objs.size (.tup [.int (i : Nat), x])) h'' s.heap.objs.size (.tup [.int (i : Nat), x]) :=
      ⟨by show 2 ≤ sizeLine; decide, [.int i tk, u], .cons ⟨_, rfl⟩ (.cons ry .nil), ⟨_, hT2, rfl, _, rfl⟩⟩
    have I1 : Inv X pins σ (upd H s.heap.objs.size (.tup [.int (i : Nat), x])) { s with heap := h'', toks := tk + 1 } :=
      I.turnedNew (ch := [e, it]) (fun b ob hb q => (sb.2 b (fun z => hb (by simp [z]))).trans (hk b ob (fun z => hb (by simp [z])) (fun z => hb (by simp [z])) q)) hf (Nat.le_refl _) new
    refine ⟨.ref s.heap.objs.size, _, I1, rfl, ⟨_, x, rfl, I.hok.fresh (Nat.le_refl _), rfl, fun ys hy => by rw [Sk.inj I hy hq]; exact hx⟩, ⟨⟨u, ?_⟩, Sk.keep (hSt _ _ hit') fun o q => (sb.2 it (Ne.symm hne)).trans q, hne, ap1, ap2⟩, fun b hb => ?_⟩
    · have e1 : ((i + 1 : Nat) : Int) = (i : Int) + 1 := by omega
      rw [e1]; exact he'
    · have hb' : b < s.heap.objs.size := by
        have e' : b = e ∨ b = it := by simpa using hb
        rcases e' with z | z
        · rw [z]; exact hel
        · rw [z]; exact hil
      rw [upd_ne (Nat.ne_of_lt hb')]
      exact (hf b hb).1
  done := by
    intro X hP hw hK hc i pins s σ H E I hf st hg
    subst hP hw hK
    obtain ⟨⟨old, he⟩, hit, hne, ap1, ap2⟩ := st
    obtain ⟨xs, hq, hx⟩ := hg
    subst hx
    obtain ⟨fp, St, Pv, D, hst, hSt, hPv, hm, hfp⟩ := Sk.draws (A := X.A.in1) (show X.A.in1.handled = none from I.ok.hd hc) I hq hit ap1
    obtain ⟨f0, f1, f2, f3, f4, f5⟩ := hf it (by simp)
    exact wpAny_pyNext_enum_endD D he hst fun h' eb => ⟨rfl, I.turned (t' := s.toks) (fun b o hb q => eb b o hb q) f0 f1 f3 f4 f5⟩
  self := fun A i s Q E st h => let ⟨⟨_, he⟩, _⟩ := st; wpAny_pyIter_enum he h
/-- a value that can be walked -/
def iEnumG (K : PySem.W.Frag) (ta : TA) : TI := fun σ H R => ta σ H fun vs H1 => ∃ x, vs = [x] ∧ ∀ u, RelV x u → ∃ k : Sk, k.val = u ∧ (∃ xs, k.ok K H1 xs) ∧ R (IteG K k) H1
theorem pi_enumG {X : Cx} {e : Expr} {ta : TA} {p pos tpos : Pos} {elts : List Expr} {kk : Nat} (hg : Gl X "enumerate") (hm : X.mg "enumerate" = none) (ha : PA X [e] ta) (hs : starEach [e] X.env = (false, eval e X.env) :: starEach [] X.env) :
    PI X (.Tuple elts kk tpos) (.Call (.Name "enumerate" p) [e] [] pos) (iEnumG X.K ta) := by
  refine ⟨fun pins s σ H R I h => ?_⟩
  refine Call_ (ld_blt I hg hm boot_enumerate (PyProof.Rows.callWith_type1 (thn (ha.run pos pins s σ H _ I h) fun us s1 ⟨vs, H1, I1, r1, q1⟩ => ?_) hs rfl))
  obtain ⟨x, ex, hq⟩ := q1
  subst ex
  cases r1 with
  | cons r rr =>
    cases rr
    obtain ⟨k, rfl, ⟨xs, hx⟩, q⟩ := hq _ r
    obtain ⟨Hb, B, hb⟩ := Sk.begins I1 hx
    refine enum1_begins B hb fun h' he ho hsz hk => wpAny_pyIter_enum he ?_
    have I2 : Inv X pins σ H1 { s1 with heap := h' } := I1.kept (t' := s1.toks) hk
    refine ⟨s1.heap.objs.size + 1, [s1.heap.objs.size + 1, s1.heap.objs.size], _, _, H1, rfl, I2, turn_enumG k (s1.heap.objs.size + 1) s1.heap.objs.size, ⟨⟨.none, he⟩, Sk.start ho, Nat.succ_ne_self _, fun a e z => ?_, fun a e z => ?_⟩, fun b hb => ?_, q⟩
    · have := Sk.lt I1 hx e
      rw [z] at this
      exact Nat.lt_irrefl _ this
    · have := Sk.lt I1 hx e
      rw [z] at this
      exact Nat.lt_irrefl _ (Nat.lt_of_succ_lt this)
    · have e' : b = s1.heap.objs.size + 1 ∨ b = s1.heap.objs.size := by simpa using hb
      have hle : s1.heap.objs.size ≤ b := by
        rcases e' with z | z
        · rw [z]; exact Nat.le_add_right _ _
        · rw [z]; exact Nat.le_refl _
      exact I1.fpOk hle (I1.hok.fresh hle)

/-! ### zip -/
def ItzG (K : PySem.W.Frag) (k1 k2 : Sk) : L2.It :=
  ⟨fun i H => ∃ (xs ys : List V) (x y : V), k1.ok K H xs ∧ k2.ok K H ys ∧ xs[i]? = some x ∧ ys[i]? = some y,
    fun i H v H' => ∃ T x y, v = .ref T ∧ H T = none ∧ H' = upd H T (.tup [x, y]) ∧ (∀ xs, k1.ok K H xs → xs[i]? = some x) ∧ ∀ ys, k2.ok K H ys → ys[i]? = some y,
    fun i H => ∃ xs ys : List V, k1.ok K H xs ∧ k2.ok K H ys ∧ i ≤ xs.length ∧ i ≤ ys.length ∧ (i = xs.length ∨ i = ys.length)⟩
theorem Sk.sep {k1 k2 : Sk} {z TI TO i1 i2 : Addr} {fp1 fp2 : List Addr} (h : TI ≠ z ∧ TO ≠ z ∧ TI ≠ TO ∧ TI ≠ i1 ∧ TI ≠ i2 ∧ z ≠ i1 ∧ z ≠ i2 ∧ TO ≠ i1 ∧ TO ≠ i2 ∧ i1 ≠ i2)
    (a1 : ∀ b ∈ [z, TI, TO, i1, i2], k1.apart b) (a2 : ∀ b ∈ [z, TI, TO, i1, i2], k2.apart b) (m1 : i1 ∈ fp1) (m2 : i2 ∈ fp2) (f1 : ∀ b ∈ fp1, b = i1 ∨ k1.val = .ref b) (f2 : ∀ b ∈ fp2, b = i2 ∨ k2.val = .ref b) : ZipSep2 z TI TO i1 i2 fp1 fp2 := by
  obtain ⟨h1, h2, h3, h4, h5, h6, h7, h8, h9, h10⟩ := h
  have o1 : ∀ b ∈ [z, TI, TO, i1, i2], b ≠ i1 → b ∉ fp1 := fun b hb hne z => (f1 b z).elim hne fun q => a1 b hb b q rfl
  have o2 : ∀ b ∈ [z, TI, TO, i1, i2], b ≠ i2 → b ∉ fp2 := fun b hb hne z => (f2 b z).elim hne fun q => a2 b hb b q rfl
  exact ⟨h1, h2, h3, h4, m1, o1 z (by simp) h6, o1 TO (by simp) h8, h5, m2, o2 z (by simp) h7, o2 TO (by simp) h9, o2 i1 (by simp) h10, o1 i2 (by simp) (Ne.symm h10)⟩
theorem turn_zipG {P : Program} {w : World} {K : PySem.W.Frag} {elts : List Expr} {kk : Nat} {tpos : Pos} {k1 k2 : Sk} {z TI TO i1 i2 : Addr} (hd : TI ≠ z ∧ TO ≠ z ∧ TI ≠ TO ∧ TI ≠ i1 ∧ TI ≠ i2 ∧ z ≠ i1 ∧ z ≠ i2 ∧ TO ≠ i1 ∧ TO ≠ i2 ∧ i1 ≠ i2)
    (ap1 : ∀ b ∈ [z, TI, TO, i1, i2], k1.apart b) (ap2 : ∀ b ∈ [z, TI, TO, i1, i2], k2.apart b) :
    Turn P w K (.Tuple elts kk tpos) (ItzG K k1 k2) [z, TI, TO, i1, i2] z (fun i h => IsZip h z TI TO .none ∧ IsTupOf2 h TI (.ref i1) (.ref i2) ∧ (∃ x y, IsTupOf2 h TO x y) ∧ k1.tn i1 i h ∧ k2.tn i2 i h) where
  mem := by simp
  obj := fun i h st c hc => by
    obtain ⟨hz, hTI, ⟨x, y, hTO⟩, h1, h2⟩ := st
    have e' : c = z ∨ c = TI ∨ c = TO ∨ c = i1 ∨ c = i2 := by simpa using hc
    rcases e' with q | q | q | q | q
    · rw [q]; exact ⟨_, hz, fun v q => nomatch q⟩
    · rw [q]; exact ⟨_, hTI, fun v q => nomatch q⟩
    · rw [q]; exact ⟨_, hTO, fun v q => nomatch q⟩
    · rw [q]; exact Sk.obj_at h1
    · rw [q]; exact Sk.obj_at h2
  keep := fun i h h' st k => by
    obtain ⟨hz, hTI, ⟨x, y, hTO⟩, h1, h2⟩ := st
    exact ⟨k z (by simp) _ hz, k TI (by simp) _ hTI, ⟨x, y, k TO (by simp) _ hTO⟩, Sk.keep h1 fun o q => k i1 (by simp) o q, Sk.keep h2 fun o q => k i2 (by simp) o q⟩
  item := by
    intro X hP hw hK hc i pins s σ H E I hf st hg
    subst hP hw hK
    obtain ⟨hz, hTI, ⟨x0, y0, hTO⟩, h1, h2⟩ := st
    obtain ⟨xs, ys, x, y, hqx, hqy, hx, hy⟩ := hg
    obtain ⟨fp1, St1, P1, D1, st1, hS1, hP1, m1, f1⟩ := Sk.draws (A := X.A.in1) (show X.A.in1.handled = none from I.ok.hd hc) I hqx h1 (ap1 i1 (by simp))
    obtain ⟨fp2, St2, P2, D2, st2, hS2, hP2, m2, f2⟩ := Sk.draws (A := X.A.in1) (show X.A.in1.handled = none from I.ok.hd hc) I hqy h2 (ap2 i2 (by simp))
    have S := Sk.sep hd ap1 ap2 m1 m2 f1 f2
    have hzl : z < s.heap.objs.size := Heap.lt_size hz
    refine wpAny_pyNext_zipD2_item S D1 D2 hz hTI hTO st1 st2 (List.getElem?_eq_some_iff.mp hx).1 (List.getElem?_eq_some_iff.mp hy).1 fun u u2 h' tk q1 q2 z' TO' t1' t2' hT hsz hk => ?_
    obtain ⟨x', ex, ru⟩ := hP1 _ _ q1
    rw [hx] at ex
    cases ex
    obtain ⟨y', ey, ru2⟩ := hP2 _ _ q2
    rw [hy] at ey
    cases ey
    refine ⟨_, rfl, wpAny_letOwnedTupleGo_zip (s := { s with heap := h', toks := tk }) z' fun h'' z'' sb => ?_⟩
    have hT2 : h''.get? s.heap.objs.size = some { cls := .type "tuple", data := .seq #[u, u2] } := (sb.2 _ (Nat.ne_of_gt hzl)).trans hT
    have new : ObjOk X.prog X.w (upd H s.heap.objs.size (.tup [x, y])) h'' s.heap.objs.size (.tup [x, y]) :=
      ⟨by show 2 ≤ sizeLine; decide, [u, u2], .cons ru (.cons ru2 .nil), ⟨_, hT2, rfl, _, rfl⟩⟩
    have I1 : Inv X pins σ (upd H s.heap.objs.size (.tup [x, y])) { s with heap := h'', toks := tk } :=
      I.turnedNew (t' := tk) (ch := [z, TI, TO, i1, i2]) (fun c o hb q => (sb.2 c (fun q' => hb (by simp [q']))).trans (hk c o (fun q' => hb (by simp [q'])) (fun q' => hb (by simp [q'])) (fun q' => hb (by simp [q'])) (fun q' => hb (by simp [q'])) q)) hf (Nat.le_refl _) new
    refine ⟨.ref s.heap.objs.size, _, I1, rfl, ⟨_, x, y, rfl, I.hok.fresh (Nat.le_refl _), rfl, fun l hl => by rw [Sk.inj I hl hqx]; exact hx, fun l hl => by rw [Sk.inj I hl hqy]; exact hy⟩, ⟨z'', ?_, ⟨u, u2, ?_⟩, ?_, ?_⟩, fun c hcm => ?_⟩
    · exact (sb.2 _ S.TIz).trans (hk _ _ S.TIz S.TITO S.TIi1 S.TIi2 hTI)
    · exact (sb.2 _ S.TOz).trans TO'
    · exact Sk.keep (hS1 _ _ t1') fun o q => (sb.2 _ (Ne.symm S.zi1)).trans q
    · exact Sk.keep (hS2 _ _ t2') fun o q => (sb.2 _ (Ne.symm S.zi2)).trans q
    · have hlt : c < s.heap.objs.size := by
        have e' : c = z ∨ c = TI ∨ c = TO ∨ c = i1 ∨ c = i2 := by simpa using hcm
        rcases e' with q | q | q | q | q
        · rw [q]; exact hzl
        · rw [q]; exact Heap.lt_size hTI
        · rw [q]; exact Heap.lt_size hTO
        · rw [q]; obtain ⟨_, e1, _⟩ := Sk.obj_at h1; exact Heap.lt_size e1
        · rw [q]; obtain ⟨_, e2, _⟩ := Sk.obj_at h2; exact Heap.lt_size e2
      rw [upd_ne (Nat.ne_of_lt hlt)]
      exact (hf c hcm).1
  done := by
    intro X hP hw hK hc i pins s σ H E I hf st hg
    subst hP hw hK
    obtain ⟨hz, hTI, ⟨x0, y0, hTO⟩, h1, h2⟩ := st
    obtain ⟨xs, ys, hqx, hqy, l1, l2, hend⟩ := hg
    obtain ⟨fp1, St1, P1, D1, st1, hS1, hP1, m1, f1⟩ := Sk.draws (A := X.A.in1) (show X.A.in1.handled = none from I.ok.hd hc) I hqx h1 (ap1 i1 (by simp))
    obtain ⟨fp2, St2, P2, D2, st2, hS2, hP2, m2, f2⟩ := Sk.draws (A := X.A.in1) (show X.A.in1.handled = none from I.ok.hd hc) I hqy h2 (ap2 i2 (by simp))
    have S := Sk.sep hd ap1 ap2 m1 m2 f1 f2
    exact wpAny_pyNext_zipD2_end S D1 D2 hz hTI hTO st1 st2 l1 l2 hend fun h' tk hk => ⟨rfl, I.turnedL (t' := tk) (ch := [z, TI, TO, i1, i2]) (fun c o hb q =>
      hk c o (fun q' => hb (by simp [q'])) (fun q' => hb (by simp [q'])) (fun q' => hb (by simp [q'])) (fun q' => hb (by simp [q'])) q) hf⟩
  self := fun A i s Q E st h => wpAny_pyIter_zip st.1 h
def iZipG (K : PySem.W.Frag) (ta : TA) : TI := fun σ H R => ta σ H fun vs H1 => ∃ x y, vs = [x, y] ∧ ∀ u w, RelV x u → RelV y w → ∃ k1 k2 : Sk, k1.val = u ∧ k2.val = w ∧ (∃ xs, k1.ok K H1 xs) ∧ (∃ ys, k2.ok K H1 ys) ∧ R (ItzG K k1 k2) H1
theorem pi_zipG {X : Cx} {e e2 : Expr} {ta : TA} {p pos tpos : Pos} {elts : List Expr} {kk : Nat} (hg : Gl X "zip") (hm : X.mg "zip" = none) (ha : PA X [e, e2] ta)
    (hs : starEach [e, e2] X.env = (false, eval e X.env) :: starEach [e2] X.env) (hpl : (backTo pos (starEach [e2] X.env)).any (·.1) = false) :
    PI X (.Tuple elts kk tpos) (.Call (.Name "zip" p) [e, e2] [] pos) (iZipG X.K ta) := by
  refine ⟨fun pins s σ H R I h => ?_⟩
  refine Call_ (ld_blt I hg hm PyProof.Rows.boot_zip (PyProof.Rows.callWith_type1 (thn (ha.run pos pins s σ H _ I h) fun us s1 ⟨vs, H1, I1, r1, q1⟩ => ?_) hs hpl))
  obtain ⟨x, y, ex, hq⟩ := q1
  subst ex
  cases r1 with
  | cons r rr =>
    cases rr with
    | cons r' rr =>
      cases rr
      obtain ⟨k1, k2, rfl, rfl, ⟨xs, hx⟩, ⟨ys, hy⟩, q⟩ := hq _ _ r r'
      obtain ⟨Hb1, B1, hb1⟩ := Sk.begins I1 hx
      obtain ⟨Hb2, B2, hb2⟩ := Sk.begins I1 hy
      refine zip_begins2 B1 B2 hb1 hb2 fun h' hz hTI hTO h1 h2 hsz hk => wpAny_pyIter_zip hz ?_
      have I2 : Inv X pins σ H1 { s1 with heap := h' } := I1.kept (t' := s1.toks) hk
      have hle : ∀ c ∈ [s1.heap.objs.size + 4, s1.heap.objs.size + 2, s1.heap.objs.size + 3, s1.heap.objs.size, s1.heap.objs.size + 1], s1.heap.objs.size ≤ c := fun c hcm => by
        have e' : c = s1.heap.objs.size + 4 ∨ c = s1.heap.objs.size + 2 ∨ c = s1.heap.objs.size + 3 ∨ c = s1.heap.objs.size ∨ c = s1.heap.objs.size + 1 := by simpa using hcm
        rcases e' with z | z | z | z | z
        · rw [z]; exact Nat.le_add_right _ _
        · rw [z]; exact Nat.le_add_right _ _
        · rw [z]; exact Nat.le_add_right _ _
        · rw [z]; exact Nat.le_refl _
        · rw [z]; exact Nat.le_add_right _ _
      have nq : ∀ i j : Nat, i ≠ j → s1.heap.objs.size + i ≠ s1.heap.objs.size + j := fun i j h z => h (Nat.add_left_cancel z)
      have n0 : ∀ i : Nat, i ≠ 0 → s1.heap.objs.size + i ≠ s1.heap.objs.size := fun i h z => h (Nat.add_left_cancel (k := 0) z)
      refine ⟨s1.heap.objs.size + 4, [s1.heap.objs.size + 4, s1.heap.objs.size + 2, s1.heap.objs.size + 3, s1.heap.objs.size, s1.heap.objs.size + 1], _, _, H1, rfl, I2,
        turn_zipG (k1 := k1) (k2 := k2) ⟨nq 2 4 (by decide), nq 3 4 (by decide), nq 2 3 (by decide), n0 2 (by decide), nq 2 1 (by decide), n0 4 (by decide), nq 4 1 (by decide), n0 3 (by decide), nq 3 1 (by decide), Ne.symm (n0 1 (by decide))⟩
          (fun b hb a e z => ?_) (fun b hb a e z => ?_), ⟨hz, hTI, ⟨_, _, hTO⟩, Sk.start h1, Sk.start h2⟩, fun c hcm => I1.fpOk (hle c hcm) (I1.hok.fresh (hle c hcm)), q⟩
      · exact Nat.not_lt.mpr (hle b hb) (z ▸ Sk.lt I1 hx e)
      · exact Nat.not_lt.mpr (hle b hb) (z ▸ Sk.lt I1 hy e)
end PL

set_option Elab.async false
set_option linter.all false
set_option maxRecDepth 100000
set_option maxHeartbeats 1000000
/-! What a loop is fed; targets. -/
namespace PL
open PySem PySem.Spec PyProof.Rows L2
theorem R.bind_ok {α β : Type} {r : R α} {f : α → Sto → R β} {b : β} {s : Sto} (h : r.bind f = .ok b s) : ∃ a s1, r = .ok a s1 ∧ f a s1 = .ok b s := by
  cases r with
  | ok a s1 => exact ⟨a, s1, rfl, h⟩
  | exn c d s1 => cases h
  | bad => cases h
theorem oD_ok {α : Type} {o : Option α} {st s : Sto} {a : α} (h : oD o st = .ok a s) : o = some a ∧ s = st := by
  cases o with
  | none => cases h
  | some b =>
    cases h
    exact ⟨rfl, rfl⟩
theorem RP.eq {α : Type} {r : R α} {P : α → Sto → Prop} {X : Nat → D → Sto → Prop} (h : RP r P X) : RP r (fun a s => r = .ok a s ∧ P a s) X := by
  cases r with
  | ok a s => exact ⟨rfl, h⟩
  | exn c d s => exact h
  | bad => exact h

/-! ### locks -/
def tag (o : Obj) : List D × Bool := (o.its, o.isFz)
def Sim (st st' : Sto) : Prop := st.map tag = st'.map tag
section
variable {K : PySem.W.Frag} {fa : Nat → Addr} {H H1 H2 : Hp} {β ρ ρ1 ρ2 : List Addr} {st s1 s2 : Sto} {n : Nat}
theorem Sim.refl : Sim st st := rfl
theorem Sim.symm (h : Sim st s1) : Sim s1 st := Eq.symm h
theorem Sim.trans (h : Sim st s1) (g : Sim s1 s2) : Sim st s2 := Eq.trans h g
theorem Sim.len (h : Sim st s1) : st.length = s1.length := by
  have := congrArg List.length h
  simpa using this
theorem Sim.get (h : Sim st s1) {i : Nat} {o : Obj} (e : s1[i]? = some o) : ∃ o', st[i]? = some o' ∧ o'.its = o.its ∧ o'.isFz = o.isFz := by
  have q : (st.map tag)[i]? = (s1.map tag)[i]? := by rw [show st.map tag = s1.map tag from h]
  rw [List.getElem?_map, List.getElem?_map, e] at q
  obtain ⟨o', e', q'⟩ := Option.map_eq_some_iff.mp q
  exact ⟨o', e', congrArg Prod.fst q', congrArg Prod.snd q'⟩
theorem Sim.mu (h : Sim st s1) : Mu ρ st = Mu ρ s1 := by
  funext a
  apply propext
  constructor
  · rintro ⟨i, o, h1, h2, h3⟩
    obtain ⟨o', e, _, q⟩ := h.symm.get h2
    exact ⟨i, o', h1, e, by rw [q]; exact h3⟩
  · rintro ⟨i, o, h1, h2, h3⟩
    obtain ⟨o', e, _, q⟩ := h.get h2
    exact ⟨i, o', h1, e, by rw [q]; exact h3⟩
theorem RS.sim (S : RS K fa β ρ st H) (h : Sim st s1) : RS K fa β ρ s1 H := by
  refine ⟨S.nd, by rw [← h.len]; exact S.len, fun i o e => ?_, S.busy⟩
  obtain ⟨o', e', q, _⟩ := h.get e
  obtain ⟨a, vs, h1, h2, h3⟩ := S.obj i o' e'
  refine ⟨a, vs, h1, h2, ?_⟩
  rw [← h.mu, ← q]
  exact h3
theorem RE.sim {env : PL.Env} {σ : L2.St} (e : RE K fa β ρ env st σ H) (h : Sim st s1) : RE K fa β ρ env s1 σ H := by
  refine ⟨e.len, fun i d q => ?_⟩
  obtain ⟨v, h1, r⟩ := e.get i d q
  refine ⟨v, h1, ?_⟩
  rw [← h.mu, ← h.len]
  exact r
theorem RD.sim {d : D} {v : V} (r : RD K fa H (Mu ρ st) β ρ st.length d v) (h : Sim st s1) : RD K fa H (Mu ρ s1) β ρ s1.length d v := by
  rw [← h.mu, ← h.len]
  exact r
theorem tag_lockO (o : Obj) : tag (lockO o) = tag o := by cases o <;> rfl
theorem tag_unlockO (o : Obj) : tag (unlockO o) = tag o := by cases o <;> rfl
theorem sim_mod {f : Obj → Obj} (hf : ∀ o, tag (f o) = tag o) (i : Nat) : Sim st (st.modify i f) := by
  unfold Sim
  apply List.ext_getElem?
  intro j
  rw [List.getElem?_map, List.getElem?_map, List.getElem?_modify]
  cases st[j]? with
  | none => rfl
  | some o =>
    by_cases hj : i = j
    · simp [hj, hf]
    · simp [hj]
theorem sim_lock : ∀ {ids : List Nat} {st : Sto}, Sim st (lock st ids)
  | [], _ => rfl
  | i :: r, st => (sim_mod tag_lockO i).trans sim_lock
theorem sim_unlock : ∀ {ids : List Nat} {st : Sto}, Sim st (unlock st ids)
  | [], _ => rfl
  | i :: r, st => (sim_mod tag_unlockO i).trans sim_unlock
theorem lock_lck : ∀ {ids : List Nat} {st : Sto} {i : Nat} {ds : List D}, st[i]? = some (.lck ds) → (lock st ids)[i]? = some (.lck ds)
  | [], _, _, _, h => h
  | j :: r, st, i, ds, h => lock_lck (ids := r) (st := st.modify j lockO) (by
      rw [List.getElem?_modify, h]
      by_cases hj : j = i
      · simp [hj, lockO]
      · simp [hj])
theorem lock_at : ∀ {ids : List Nat} {st : Sto} {i : Nat} {ds : List D}, i ∈ ids → st[i]? = some (.lst ds) → (lock st ids)[i]? = some (.lck ds)
  | j :: r, st, i, ds, hm, h => by
    by_cases hj : j = i
    · refine lock_lck (ids := r) (st := st.modify j lockO) ?_
      rw [List.getElem?_modify, h]
      simp [hj, lockO]
    · refine lock_at (ids := r) (st := st.modify j lockO) ?_ ?_
      · rcases List.mem_cons.mp hm with e | e
        · exact absurd e.symm hj
        · exact e
      · rw [List.getElem?_modify, h]
        simp [hj]
theorem lock_lst : ∀ {ids : List Nat} {st : Sto} {i : Nat} {ds : List D}, (lock st ids)[i]? = some (.lst ds) → st[i]? = some (.lst ds)
  | [], _, _, _, h => h
  | j :: r, st, i, ds, h => by
    have q := lock_lst (ids := r) h
    rw [List.getElem?_modify] at q
    cases ho : st[i]? with
    | none => rw [ho] at q; cases q
    | some o =>
      rw [ho] at q
      by_cases hj : j = i
      · simp [hj] at q
        cases o <;> simp [lockO] at q
      · simpa [hj] using q
theorem lock_app : ∀ {a b : List Nat} {st : Sto}, lock st (a ++ b) = lock (lock st a) b
  | [], _, _ => rfl
  | i :: r, b, st => lock_app (a := r)
theorem unlock_ne : ∀ {ids : List Nat} {st : Sto} {i : Nat}, i ∉ ids → (unlock st ids)[i]? = st[i]?
  | [], _, _, _ => rfl
  | j :: r, st, i, h => by
    have h1 : j ≠ i := fun e => h (by simp [e])
    have h2 : i ∉ r := fun e => h (List.mem_cons_of_mem _ e)
    show (unlock (st.modify j unlockO) r)[i]? = _
    rw [unlock_ne h2, List.getElem?_modify]
    simp [h1]
/-- lists that a loop may lock -/
def Can (st : Sto) (ids : List Nat) : Prop := ∀ i ∈ ids, ∃ ds, st[i]? = some (.lst ds)
theorem stp_lock {ids : List Nat} : Stp ρ st H ρ (lock st ids) H :=
  ⟨⟨[], by simp⟩, Nat.le_of_eq (sim_lock (ids := ids)).len, fun a o h m => ⟨h, by rw [← (sim_lock (ids := ids) (st := st)).mu]; exact m⟩, fun i ds h => lock_lck h⟩
theorem stp_unlock {ids : List Nat} (c : Can st ids) (a : Stp ρ (lock st ids) H ρ1 s1 H1) : Stp ρ st H ρ1 (unlock s1 ids) H1 := by
  refine ⟨a.pre, ?_, fun p o h m => ?_, fun i ds h => ?_⟩
  · rw [(sim_lock (ids := ids) (st := st)).len, ← (sim_unlock (ids := ids) (st := s1)).len]
    exact a.le
  · rw [(sim_lock (ids := ids) (st := st)).mu] at m
    rw [← (sim_unlock (ids := ids) (st := s1)).mu]
    exact a.keep p o h m
  · have hi : i ∉ ids := fun q => by
      obtain ⟨es, e⟩ := c i q
      rw [h] at e
      cases e
    rw [unlock_ne hi]
    exact a.lck i ds (lock_lck h)

/-! ### what is walked -/
def BetaOk (β β' : List Addr) (H : Hp) : Prop := ∀ b ∈ β', b ∈ β ∨ H b = none
def Src (K : PySem.W.Frag) (fa : Nat → Addr) (β ρ : List Addr) (st : Sto) (H : Hp) (k : Sk) (ds : List D) : Prop :=
  ∀ β' ρ' st' H', BetaOk β β' H → Stp ρ st H ρ' st' H' → RS K fa β' ρ' st' H' → ∃ xs, k.ok K H' xs ∧ RDs K fa H' (Mu ρ' st') β' ρ' st'.length ds xs
theorem Src.stp {k : Sk} {ds : List D} (h : Src K fa β ρ st H k ds) (a : Stp ρ st H ρ s1 H) : Src K fa β ρ s1 H k ds := fun β' ρ' st' H' b c d => h β' ρ' st' H' b (a.trans c) d
theorem RD.go {m : Addr → Prop} {β' : List Addr} {d : D} {v : V} (a : Stp ρ st H ρ1 s1 H1) (b : BetaOk β β' H) (r : RD K fa H (Mu ρ st) β ρ st.length d v) : RD K fa H1 (Mu ρ1 s1) β' ρ1 s1.length d v := r.mono a.keep a.at b a.le
theorem RDs.go {β' : List Addr} {ds : List D} {vs : List V} (a : Stp ρ st H ρ1 s1 H1) (b : BetaOk β β' H) (r : RDs K fa H (Mu ρ st) β ρ st.length ds vs) : RDs K fa H1 (Mu ρ1 s1) β' ρ1 s1.length ds vs := r.mono a.keep a.at b a.le
theorem Rd.go {m : Addr → Prop} {a : Addr} {u : HO} (c : Stp ρ st H ρ1 s1 H1) (h : Rd H a u) (hm : ¬ Mu ρ st a) : Rd H1 a u := (Rd.keepP c.keep h hm).1
theorem chars_rd {m : Addr → Prop} : ∀ s : List Nat, RDs K fa H m β ρ n (s.map fun c => .str [c]) (s.map fun c => V.str ⟨#[c]⟩)
  | [] => .nil
  | c :: r => .cons (.str [c]) (chars_rd r)
def skOf (x : D) (u : Value) : Sk := match u with
  | .ref a => (match x with | .tup _ => .t a | _ => .l a)
  | .str x t => .s x t
  | _ => .l 0
theorem walk_src {x : D} {v : V} {u : Value} {ds : List D} {ids : List Nat} (S : RS K fa β ρ st H) (r : RD K fa H (Mu ρ st) β ρ st.length x v) (hw : walk st x = some (ds, ids)) (hu : RelV v u) :
    (skOf x u).val = u ∧ Src K fa β ρ (lock st ids) H (skOf x u) ds ∧ Can st ids := by
  cases r with
  | tupH h1 h2 h3 h4 =>
    cases hw
    cases hu
    exact ⟨rfl, fun β' ρ' st' H' b c d => ⟨_, .inl (Rd.go (m := fun _ => False) c h1 h2), h4.go c b⟩, fun i h => nomatch h⟩
  | tupK h1 h4 =>
    cases hw
    cases hu
    exact ⟨rfl, fun β' ρ' st' H' b c d => ⟨_, .inr h1, h4.go c b⟩, fun i h => nomatch h⟩
  | frz h1 h2 h3 h4 =>
    cases hw
    cases hu
    exact ⟨rfl, fun β' ρ' st' H' b c d => ⟨_, .inl (Rd.go (m := fun _ => False) c (.inl h1) h2), h4.go c b⟩, fun i h => nomatch h⟩
  | scrH h1 h2 h3 h4 =>
    cases hw
    cases hu
    exact ⟨rfl, fun β' ρ' st' H' b c d => ⟨_, .inl (Rd.go (m := fun _ => False) c h1 h2), h4.go c b⟩, fun i h => nomatch h⟩
  | scrK h1 h4 =>
    cases hw
    cases hu
    exact ⟨rfl, fun β' ρ' st' H' b c d => ⟨_, .inr h1, h4.go c b⟩, fun i h => nomatch h⟩
  | str s =>
    cases hw
    obtain ⟨t, rfl⟩ := hu
    exact ⟨rfl, fun β' ρ' st' H' b c d => ⟨_, rfl, by
      show RDs _ _ _ _ _ _ _ _ ((⟨s.toArray⟩ : Str).cps.toList.map _)
      simpa using chars_rd s⟩, fun i h => nomatch h⟩
  | @lst i a h1 h2 =>
    cases hu
    have go : ∀ {o : Obj} {ids : List Nat}, st[i]? = some o → ((∃ ds, (lock st ids)[i]? = some (.lck ds)) ∨ o.isFz = true) → Src K fa β ρ (lock st ids) H (.l a) o.its := by
      intro o ids ho hk β' ρ' st' H' b c d
      rcases hk with ⟨ds', hk⟩ | hk
      · obtain ⟨o', e', q1, q2⟩ := (sim_lock (ids := ids) (st := st)).get hk
        rw [ho] at e'
        cases e'
        have hk' := c.lck i _ hk
        obtain ⟨p, vs, e1, e2, e3⟩ := rs_at d hk'
        have e4 := c.at i a h2
        rw [e1] at e4
        cases e4
        refine ⟨vs, .inl (.inl e2), ?_⟩
        rw [q1]
        exact e3
      · obtain ⟨p, vs, e1, e2, e3⟩ := rs_at S ho
        rw [h2] at e1
        cases e1
        have nm : ¬ Mu ρ st a := fun ⟨j, oj, g1, g2, g3⟩ => by
          have := S.nd i j a h2 g1
          subst this
          rw [ho] at g2
          cases g2
          rw [hk] at g3
          cases g3
        have nm' : ¬ Mu ρ (lock st ids) a := by rw [← (sim_lock (ids := ids) (st := st)).mu]; exact nm
        refine ⟨vs, .inl (.inl (c.keep a _ e2 nm').1), RDs.go c b ?_⟩
        rw [← (sim_lock (ids := ids) (st := st)).mu, ← (sim_lock (ids := ids) (st := st)).len]
        exact e3
    refine ⟨rfl, ?_⟩
    show Src K fa β ρ (lock st ids) H (.l a) ds ∧ Can st ids
    simp only [walk] at hw
    split at hw
    · rename_i es ho
      cases hw
      exact ⟨go (o := .lst ds) ho (.inl ⟨_, lock_at (by simp) ho⟩), fun j hj => ⟨ds, by rw [List.mem_singleton.mp hj]; exact ho⟩⟩
    · rename_i es ho
      cases hw
      exact ⟨go (o := .lck ds) ho (.inl ⟨_, ho⟩), fun j hj => nomatch hj⟩
    · rename_i es ho
      cases hw
      exact ⟨go (o := .fz ds) ho (.inr rfl), fun j hj => nomatch hj⟩
    · cases hw
  | _ => cases hw

/-- what each turn brings -/
def Feeds (K : PySem.W.Frag) (fa : Nat → Addr) (β ρ : List Addr) (st : Sto) (H : Hp) (J : L2.It) (ds : List D) : Prop :=
  ∀ β' ρ' st' H', BetaOk β β' H → Stp ρ st H ρ' st' H' → RS K fa β' ρ' st' H' →
    (∀ i d, ds[i]? = some d → J.go i H' ∧ ∀ x H2, J.yld i H' x H2 → Stp ρ' st' H' ρ' st' H2 ∧ RS K fa β' ρ' st' H2 ∧ RD K fa H2 (Mu ρ' st') β' ρ' st'.length d x) ∧ J.stop ds.length H'
theorem feeds_range {lo : Int} {n : Nat} : Feeds K fa β ρ st H (Itr lo n) (rngD lo n) := fun β' ρ' st' H' b c d => by
  refine ⟨fun i x h => ?_, by show n ≤ (rngD lo n).length; simp [rngD]⟩
  have hi : i < n := by
    have := (List.getElem?_eq_some_iff.mp h).1
    simpa [rngD] using this
  refine ⟨hi, fun v H2 y => ?_⟩
  obtain ⟨rfl, rfl⟩ := y
  have e : x = .int (lo + (i : Nat)) := by
    unfold rngD at h
    rw [List.getElem?_map, List.getElem?_range hi] at h
    exact (Option.some.inj h).symm
  subst e
  exact ⟨.refl, d, .int _⟩
theorem feeds_rangeC {lo c : Int} {n : Nat} : Feeds K fa β ρ st H (Itc lo c n) (rngC lo c n) := fun β' ρ' st' H' b cc d => by
  refine ⟨fun i x h => ?_, by show n ≤ (rngC lo c n).length; simp [rngC]⟩
  have hi : i < n := by
    have := (List.getElem?_eq_some_iff.mp h).1
    simpa [rngC] using this
  refine ⟨hi, fun v H2 y => ?_⟩
  obtain ⟨rfl, rfl⟩ := y
  have e : x = .int (lo + (i : Nat) * c) := by
    unfold rngC at h
    rw [List.getElem?_map, List.getElem?_range hi] at h
    exact (Option.some.inj h).symm
  subst e
  exact ⟨.refl, d, .int _⟩
/-- the bare walk of a source -/
def itOf (K : PySem.W.Frag) : Sk → L2.It
  | .l a => Itl K a
  | .t a => Itt K a
  | .s x _ => Its x
theorem feeds_src {k : Sk} {ds : List D} (h : Src K fa β ρ st H k ds) : Feeds K fa β ρ st H (itOf K k) ds := fun β' ρ' st' H' b c d => by
  obtain ⟨xs, hk, rs⟩ := h β' ρ' st' H' b c d
  have get : ∀ {i : Nat} {x : D}, ds[i]? = some x → ∃ v, xs[i]? = some v ∧ RD K fa H' (Mu ρ' st') β' ρ' st'.length x v := fun e => rs.get e
  cases k with
  | l a =>
    refine ⟨fun i x e => ?_, ⟨xs, hk, Nat.le_of_eq rs.length.symm⟩⟩
    obtain ⟨v, hv, r⟩ := get e
    refine ⟨⟨xs, v, hk, hv⟩, fun y H2 z => ?_⟩
    obtain ⟨rfl, z⟩ := z
    have := z xs hk
    rw [hv] at this
    cases this
    exact ⟨.refl, d, r⟩
  | t a =>
    refine ⟨fun i x e => ?_, ⟨xs, hk, Nat.le_of_eq rs.length.symm⟩⟩
    obtain ⟨v, hv, r⟩ := get e
    refine ⟨⟨xs, v, hk, hv⟩, fun y H2 z => ?_⟩
    obtain ⟨rfl, z⟩ := z
    have := z xs hk
    rw [hv] at this
    cases this
    exact ⟨.refl, d, r⟩
  | s x t =>
    have hk : xs = x.cps.toList.map fun c => V.str ⟨#[c]⟩ := hk
    have hl : x.cps.size = ds.length := by rw [rs.length, hk]; simp
    refine ⟨fun i y e => ?_, show x.cps.size ≤ ds.length from Nat.le_of_eq hl⟩
    obtain ⟨v, hv, r⟩ := get e
    have hi : i < x.cps.size := by rw [hl]; exact (List.getElem?_eq_some_iff.mp e).1
    refine ⟨hi, fun w H2 z => ?_⟩
    obtain ⟨rfl, ch, hc, rfl⟩ := z
    have hc' : x.cps.toList[i]? = some ch := by simpa using hc
    rw [hk, List.getElem?_map, hc'] at hv
    cases hv
    exact ⟨.refl, d, r⟩
theorem feeds_enum {k : Sk} {ds : List D} (h : Src K fa β ρ st H k ds) : Feeds K fa β ρ st H (IteG K k) (enumD ds) := fun β' ρ' st' H' b c d => by
  obtain ⟨xs, hk, rs⟩ := h β' ρ' st' H' b c d
  refine ⟨fun i x e => ?_, ⟨xs, hk, by rw [← rs.length]; simp [enumD]⟩⟩
  unfold enumD at e
  rw [List.getElem?_map] at e
  obtain ⟨⟨y, j⟩, e1, e2⟩ := Option.map_eq_some_iff.mp e
  rw [List.getElem?_zipIdx] at e1
  obtain ⟨y', e3, e4⟩ := Option.map_eq_some_iff.mp e1
  have e4 : y' = y ∧ i = j := by simpa using e4
  obtain ⟨rfl, rfl⟩ := e4
  subst e2
  obtain ⟨v, hv, r⟩ := rs.get e3
  refine ⟨⟨xs, v, hk, hv⟩, fun w H2 z => ?_⟩
  obtain ⟨T, v', rfl, hT, rfl, z⟩ := z
  have := z xs hk
  rw [hv] at this
  cases this
  exact ⟨(d.lay hT).2, (d.lay hT).1, lay_tup d hT (.cons (.int _) (.cons r .nil))⟩
theorem feeds_zip {k1 k2 : Sk} {ds es : List D} (h : Src K fa β ρ st H k1 ds) (h2 : Src K fa β ρ st H k2 es) : Feeds K fa β ρ st H (ItzG K k1 k2) (zipD ds es) := fun β' ρ' st' H' b c d => by
  obtain ⟨xs, hk, rs⟩ := h β' ρ' st' H' b c d
  obtain ⟨ys, hk2, rs2⟩ := h2 β' ρ' st' H' b c d
  have hl : (zipD ds es).length = min xs.length ys.length := by
    rw [← rs.length, ← rs2.length]
    simp [zipD]
  refine ⟨fun i x e => ?_, ⟨xs, ys, hk, hk2, by rw [hl]; exact Nat.min_le_left _ _, by rw [hl]; exact Nat.min_le_right _ _, by rw [hl]; omega⟩⟩
  unfold zipD at e
  rw [List.getElem?_map] at e
  obtain ⟨⟨y, y2⟩, e1, e2⟩ := Option.map_eq_some_iff.mp e
  rw [List.getElem?_zip_eq_some] at e1
  subst e2
  obtain ⟨v, hv, r⟩ := rs.get e1.1
  obtain ⟨v2, hv2, r2⟩ := rs2.get e1.2
  refine ⟨⟨xs, ys, v, v2, hk, hk2, hv, hv2⟩, fun w H2 z => ?_⟩
  obtain ⟨T, w1, w2, rfl, hT, rfl, z1, z2⟩ := z
  have q1 := z1 xs hk
  rw [hv] at q1
  cases q1
  have q2 := z2 ys hk2
  rw [hv2] at q2
  cases q2
  exact ⟨(d.lay hT).2, (d.lay hT).1, lay_tup d hT (.cons r (.cons r2 .nil))⟩
end
/-! a target changes only its own names -/
mutual
def tgv : Tg → List Nat
  | .var i => [i]
  | .idx _ _ => []
  | .tup ts => tgvs ts
def tgvs : Tgs → List Nat
  | .nil => []
  | .cons t ts => tgv t ++ tgvs ts
end
def Kp (l : List Nat) (σ σ' : L2.St) : Prop := σ'.length = σ.length ∧ ∀ k, k ∉ l → σ'[k]? = σ[k]?
section
variable (K : PySem.W.Frag) (q : Qm)
def tWi (it : It) : TI := fun σ H Rr => ∃ β ρ env st, RE K q.fa β ρ env st σ H ∧ RS K q.fa β ρ st H ∧ RP (evi q.C q.G it env st) (fun p st' => Can st' p.2 → ∀ J H' ρ', Stp ρ st H ρ' st' H' → RS K q.fa β ρ' st' H' → Feeds K q.fa β ρ' (lock st' p.2) H' J p.1 → Rr J H') (PostX K q β ρ st H)
def tWg (t : Tg) : TG := fun v σ H Q => ∃ β ρ env st d, RE K q.fa β ρ env st σ H ∧ RS K q.fa β ρ st H ∧ RD K q.fa H (Mu ρ st) β ρ st.length d v ∧
  RP (evt q.C q.G t d env st) (fun env' st' => ∀ σ' H' ρ', Kp (tgv t) σ σ' → Stp ρ st H ρ' st' H' → RS K q.fa β ρ' st' H' → RE K q.fa β ρ' env' st' σ' H' → Q σ' H') (PostX K q β ρ st H)
def tWgs (ts : Tgs) : TGs := fun vs σ H Q => ∃ β ρ env st ds, RE K q.fa β ρ env st σ H ∧ RS K q.fa β ρ st H ∧ RDs K q.fa H (Mu ρ st) β ρ st.length ds vs ∧
  RP (evts q.C q.G ts ds env st) (fun env' st' => ∀ σ' H' ρ', Kp (tgvs ts) σ σ' → Stp ρ st H ρ' st' H' → RS K q.fa β ρ' st' H' → RE K q.fa β ρ' env' st' σ' H' → Q σ' H') (PostX K q β ρ st H)
end
section
variable {X : Cx} {q : Qm} {a b c : E} {pa pb pc pe tg : Expr} {pos : Pos} {es : Es} {pes : List Expr}
theorem _root_.L2.PI.or {X : Cx} {tg e : Expr} {t t' : TI} (h : PI X tg e t) (h' : PI X tg e t') : PI X tg e (fun σ H Q => t σ H Q ∨ t' σ H Q) := ⟨fun pins s σ H Q I q => q.elim (h.run pins s σ H Q I) (h'.run pins s σ H Q I)⟩
/-- by the value that comes -/
theorem i_val (ha : PE X pa (tW X.K q a)) : PI X tg pa (tWi X.K q (.val a)) :=
  (((pi_list ha).or (pi_tup ha)).or (pi_str ha)).w fun σ H Rr ⟨β, ρ, env, st, e, S, h⟩ => by
    simp only [evi] at h
    have h' := h.bind
    cases hv : ev q.C q.G a env st with
    | bad =>
      rw [hv] at h'
      exact h'.elim
    | exn c d s1 =>
      rw [hv] at h'
      exact .inr ⟨β, ρ, env, st, e, S, by rw [hv]; exact h'⟩
    | ok x s1 =>
      rw [hv] at h'
      obtain ⟨p, hp, h2⟩ := RP.oD h'
      have key : ∀ v H1 ρ1, Stp ρ st H ρ1 s1 H1 → RS X.K q.fa β ρ1 s1 H1 → RD X.K q.fa H1 (Mu ρ1 s1) β ρ1 s1.length x v → ∀ u, RelV v u → (skOf x u).val = u ∧ (∃ xs, (skOf x u).ok X.K H1 xs) ∧ Rr (itOf X.K (skOf x u)) H1 := fun v H1 ρ1 a1 S1 r1 u hu => by
        obtain ⟨hk, src, can⟩ := walk_src S1 r1 (ds := p.1) (ids := p.2) hp hu
        obtain ⟨xs, ok, _⟩ := src β ρ1 _ H1 (fun _ z => .inl z) .refl (S1.sim sim_lock)
        exact ⟨hk, ⟨xs, ok⟩, h2 can _ H1 ρ1 a1 S1 (feeds_src src)⟩
      have lists : (∀ ds, x ≠ .tup ds) → (∀ v H1 ρ1, RS X.K q.fa β ρ1 s1 H1 → RD X.K q.fa H1 (Mu ρ1 s1) β ρ1 s1.length x v → ∃ p1, v = .ref p1) → tWi X.K q (.val a) σ H Rr → iList X.K (tW X.K q a) σ H Rr := fun nt hl _ => by
        refine ⟨β, ρ, env, st, e, S, ?_⟩
        rw [hv]
        intro v H1 ρ1 a1 S1 r1
        obtain ⟨p1, rfl⟩ := hl v H1 ρ1 S1 r1
        obtain ⟨_, hs, hR⟩ := key _ H1 ρ1 a1 S1 r1 _ rfl
        have hk : skOf x (.ref p1) = .l p1 := by
          cases x with
          | tup ds => exact absurd rfl (nt ds)
          | _ => rfl
        rw [hk] at hs hR
        exact ⟨p1, rfl, hs, hR⟩
      have me : tWi X.K q (.val a) σ H Rr := ⟨β, ρ, env, st, e, S, by
        simp only [evi]
        exact h⟩
      cases x with
      | tup ds =>
        refine .inl (.inr ⟨β, ρ, env, st, e, S, ?_⟩)
        rw [hv]
        intro v H1 ρ1 a1 S1 r1
        obtain ⟨p1, vs, rfl, hq, _⟩ := rd_tup r1
        obtain ⟨_, hs, hR⟩ := key _ H1 ρ1 a1 S1 r1 _ rfl
        exact ⟨p1, rfl, hs, hR⟩
      | str z =>
        refine .inr ⟨β, ρ, env, st, e, S, ?_⟩
        rw [hv]
        intro v H1 ρ1 a1 S1 r1
        obtain ⟨_, hs, hR⟩ := key _ H1 ρ1 a1 S1 r1 (.str ⟨z.toArray⟩ 0) (by cases r1; exact ⟨0, rfl⟩)
        cases r1
        exact ⟨_, rfl, hR⟩
      | frz ds => exact .inl (.inl (lists (fun ds z => by cases z) (fun v H1 ρ1 S1 r1 => by cases r1; exact ⟨_, rfl⟩) me))
      | scr ds => exact .inl (.inl (lists (fun ds z => by cases z) (fun v H1 ρ1 S1 r1 => by cases r1 <;> exact ⟨_, rfl⟩) me))
      | lst i => exact .inl (.inl (lists (fun ds z => by cases z) (fun v H1 ρ1 S1 r1 => by cases r1; exact ⟨_, rfl⟩) me))
      | _ => cases hp
/-! ranges -/
theorem rng_ok {i : Int} (h : rngOk i = true) : -(2 ^ 62) ≤ i ∧ i < 2 ^ 62 := by
  simpa [rngOk] using h
theorem i_rng1 {p : Pos} (hg : Gl X "range") (hm : X.mg "range" = none) (ha : PA X [pa] (tWs X.K q (.cons a .nil))) (hs : starEach [pa] X.env = [(false, eval pa X.env)]) : PI X tg (.Call (.Name "range" p) [pa] [] pos) (tWi X.K q (.rng1 a)) :=
  (pi_range1 hg hm ha hs).w fun σ H Rr ⟨β, ρ, env, st, e, S, h⟩ => by
    simp only [evi] at h
    refine ⟨β, ρ, env, st, e, S, ?_⟩
    simp only [evs]
    cases hv : ev q.C q.G a env st with
    | bad => rw [hv] at h; exact h.elim
    | exn c d s1 => rw [hv] at h; exact h
    | ok x s1 =>
      rw [hv] at h
      have h : RP ((toI x s1).bind _) _ _ := h
      obtain ⟨i, rfl, h2⟩ := h.bind.toI
      intro vs H1 ρ1 a1 S1 r1
      split at h2
      · rename_i ok
        cases r1 with
        | cons r r' =>
          cases r
          cases r'
          refine ⟨i, rfl, (rng_ok ok).1, (rng_ok ok).2, ?_⟩
          exact h2 (fun i h => nomatch h) _ H1 ρ1 a1 S1 feeds_range
      · exact h2.elim
theorem rp_two {α γ : Type} {r1 : R D} {r2 : Sto → R D} {f : D → D → Sto → R α} {g : D → D → Sto → R γ} {P : α → Sto → Prop} {P' : γ → Sto → Prop} {Xx : Nat → D → Sto → Prop}
    (h : RP (r1.bind fun x s1 => (r2 s1).bind fun y s2 => f x y s2) P Xx) (k : ∀ x y s2, RP (f x y s2) P Xx → RP (g x y s2) P' Xx) : RP (r1.bind fun x s1 => (r2 s1).bind fun y s2 => g x y s2) P' Xx := by
  cases r1 with
  | bad => exact h
  | exn c d s => exact h
  | ok x s1 =>
    have h : RP ((r2 s1).bind fun y s2 => f x y s2) P Xx := h
    show RP ((r2 s1).bind fun y s2 => g x y s2) P' Xx
    cases hw : r2 s1 with
    | bad => rw [hw] at h; exact h
    | exn c d s => rw [hw] at h; exact h
    | ok y s2 =>
      rw [hw] at h
      exact k x y s2 h
theorem rp_evs2 {env : PL.Env} {st : Sto} {P : List D → Sto → Prop} {Xx : Nat → D → Sto → Prop} (h : RP ((ev q.C q.G a env st).bind fun x s1 => (ev q.C q.G b env s1).bind fun y s2 => R.ok [x, y] s2) P Xx) : RP (evs q.C q.G (.cons a (.cons b .nil)) env st) P Xx := by
  simp only [evs]
  cases hv : ev q.C q.G a env st with
  | bad => rw [hv] at h; exact h.elim
  | exn c d s1 => rw [hv] at h; exact h
  | ok x s1 =>
    rw [hv] at h
    have h : RP ((ev q.C q.G b env s1).bind fun y s2 => R.ok [x, y] s2) P Xx := h
    show RP (((ev q.C q.G b env s1).bind fun x s1 => R.ok [x] s1).bind fun xs s2 => R.ok (x :: xs) s2) P Xx
    cases hw : ev q.C q.G b env s1 with
    | bad => rw [hw] at h; exact h.elim
    | exn c d s2 => rw [hw] at h; exact h
    | ok y s2 => rw [hw] at h; exact h
theorem i_rng2 {p : Pos} (hg : Gl X "range") (hm : X.mg "range" = none) (ha : PA X [pa, pb] (tWs X.K q (.cons a (.cons b .nil)))) (hs : starEach [pa, pb] X.env = [(false, eval pa X.env), (false, eval pb X.env)]) (hs2 : starEach [pb] X.env = [(false, eval pb X.env)]) :
    PI X tg (.Call (.Name "range" p) [pa, pb] [] pos) (tWi X.K q (.rng2 a b)) :=
  (pi_range2 hg hm ha hs hs2).w fun σ H Rr ⟨β, ρ, env, st, e, S, h⟩ => by
    simp only [evi] at h
    refine ⟨β, ρ, env, st, e, S, rp_evs2 ?_⟩
    refine rp_two h fun x y s2 h1 => ?_
    · · 
        have h1 : RP ((toI x s2).bind _) _ _ := h1
        obtain ⟨i, rfl, h2⟩ := h1.bind.toI
        obtain ⟨j, rfl, h3⟩ := h2.bind.toI
        intro vs H1 ρ1 a1 S1 r1
        split at h3
        · rename_i ok
          rw [Bool.and_eq_true] at ok
          cases r1 with
          | cons r r' =>
            cases r
            cases r' with
            | cons r r' =>
              cases r
              cases r'
              exact ⟨i, j, rfl, ⟨(rng_ok ok.1).1, (rng_ok ok.1).2, (rng_ok ok.2).1, (rng_ok ok.2).2⟩, h3 (fun i h => nomatch h) _ H1 ρ1 a1 S1 feeds_range⟩
        · exact h3.elim
theorem i_rng3 {p : Pos} {k : Int} {pk : Expr} (hg : Gl X "range") (hm : X.mg "range" = none) (ha : PA X [pa, pb, pk] (tWs X.K q (.cons a (.cons b (.cons (.int k) .nil))))) (hs : starEach [pa, pb, pk] X.env = (false, eval pa X.env) :: starEach [pb, pk] X.env) (hpl : (backTo pos (starEach [pb, pk] X.env)).any (·.1) = false) :
    PI X tg (.Call (.Name "range" p) [pa, pb, pk] [] pos) (tWi X.K q (.rng3 a b k)) :=
  (pi_range3 hg hm ha hs hpl).w fun σ H Rr ⟨β, ρ, env, st, e, S, h⟩ => by
    simp only [evi] at h
    refine ⟨β, ρ, env, st, e, S, ?_⟩
    have e3 : evs q.C q.G (.cons a (.cons b (.cons (.int k) .nil))) env st = (ev q.C q.G a env st).bind fun x s1 => (ev q.C q.G b env s1).bind fun y s2 => R.ok [x, y, .int k] s2 := by
      simp only [evs, ev]
      congr 1
      funext x s1
      cases ev q.C q.G b env s1 <;> rfl
    rw [e3]
    refine rp_two h fun x y s2 h1 => ?_
    · · 
        have h1 : RP ((toI x s2).bind _) _ _ := h1
        obtain ⟨i, rfl, h2⟩ := h1.bind.toI
        obtain ⟨j, rfl, h3⟩ := h2.bind.toI
        intro vs H1 ρ1 a1 S1 r1
        split at h3
        · rename_i ok
          simp only [Bool.and_eq_true, decide_eq_true_eq] at ok
          obtain ⟨o1, o2, rfl⟩ := ok
          cases r1 with
          | cons r r' =>
            cases r
            cases r' with
            | cons r r' =>
              cases r
              cases r' with
              | cons r r' =>
                cases r
                cases r'
                exact ⟨i, j, -1, _, rfl, RgC.neg (rng_ok o1).1 (rng_ok o1).2 (rng_ok o2).1 (rng_ok o2).2, h3 (fun i h => nomatch h) _ H1 ρ1 a1 S1 feeds_rangeC⟩
        · exact h3.elim
/-! enumerate, zip -/
theorem i_enum {p tpos : Pos} {elts : List Expr} {kk : Nat} (hg : Gl X "enumerate") (hm : X.mg "enumerate" = none) (ha : PA X [pa] (tWs X.K q (.cons a .nil))) (hs : starEach [pa] X.env = (false, eval pa X.env) :: starEach [] X.env) :
    PI X (.Tuple elts kk tpos) (.Call (.Name "enumerate" p) [pa] [] pos) (tWi X.K q (.enum a)) :=
  (pi_enumG hg hm ha hs).w fun σ H Rr ⟨β, ρ, env, st, e, S, h⟩ => by
    simp only [evi] at h
    refine ⟨β, ρ, env, st, e, S, ?_⟩
    simp only [evs]
    cases hv : ev q.C q.G a env st with
    | bad => rw [hv] at h; exact h.elim
    | exn c d s1 => rw [hv] at h; exact h
    | ok x s1 =>
      rw [hv] at h
      have h : RP ((oD (walk s1 x) s1).bind _) _ _ := h
      obtain ⟨p, hp, h2⟩ := h.bind.oD
      intro vs H1 ρ1 a1 S1 r1
      cases r1 with
      | cons r r' =>
        cases r'
        refine ⟨_, rfl, fun u hu => ?_⟩
        obtain ⟨hk, src, can⟩ := walk_src S1 r (ds := p.1) (ids := p.2) hp hu
        obtain ⟨xs, ok, _⟩ := src β ρ1 _ H1 (fun _ z => .inl z) .refl (S1.sim sim_lock)
        exact ⟨_, hk, ⟨xs, ok⟩, h2 can _ H1 ρ1 a1 S1 (feeds_enum src)⟩
theorem i_zip {p tpos : Pos} {elts : List Expr} {kk : Nat} (hg : Gl X "zip") (hm : X.mg "zip" = none) (ha : PA X [pa, pb] (tWs X.K q (.cons a (.cons b .nil)))) (hs : starEach [pa, pb] X.env = (false, eval pa X.env) :: starEach [pb] X.env) (hpl : (backTo pos (starEach [pb] X.env)).any (·.1) = false) :
    PI X (.Tuple elts kk tpos) (.Call (.Name "zip" p) [pa, pb] [] pos) (tWi X.K q (.zip a b)) :=
  (pi_zipG hg hm ha hs hpl).w fun σ H Rr ⟨β, ρ, env, st, e, S, h⟩ => by
    simp only [evi] at h
    refine ⟨β, ρ, env, st, e, S, rp_evs2 ?_⟩
    refine rp_two h fun x y s2 h1 => ?_
    · · 
        have h1 : RP ((oD (walk s2 x) s2).bind _) _ _ := h1
        obtain ⟨p, hp, h2⟩ := h1.bind.oD
        obtain ⟨p2, hp2, h3⟩ := h2.bind.oD
        intro vs H1 ρ1 a1 S1 r1
        cases r1 with
        | cons r r' =>
          cases r' with
          | cons r2 r' =>
            cases r'
            refine ⟨_, _, rfl, fun u w hu hw => ?_⟩
            obtain ⟨hk, src, can⟩ := walk_src S1 r (ds := p.1) (ids := p.2) hp hu
            obtain ⟨hk2, src2, can2⟩ := walk_src (S1.sim (sim_lock (ids := p.2))) (r2.sim sim_lock) (ds := p2.1) (ids := p2.2) hp2 hw
            have src' := src.stp (stp_lock (ids := p2.2))
            obtain ⟨xs, ok, _⟩ := src β ρ1 _ H1 (fun _ z => .inl z) .refl (S1.sim sim_lock)
            obtain ⟨ys, ok2, _⟩ := src2 β ρ1 _ H1 (fun _ z => .inl z) .refl ((S1.sim sim_lock).sim sim_lock)
            refine ⟨_, _, hk, hk2, ⟨xs, ok⟩, ⟨ys, ok2⟩, h3 (fun i hi => ?_) _ H1 ρ1 a1 S1 ?_⟩
            · rcases List.mem_append.mp hi with z | z
              · exact can i z
              · obtain ⟨ds, e⟩ := can2 i z
                exact ⟨ds, lock_lst e⟩
            · show Feeds X.K q.fa β ρ1 (lock s2 (p.2 ++ p2.2)) H1 _ _
              rw [lock_app]
              exact feeds_zip src' src2
/-! ### targets -/
theorem g_var {i : Nat} {x : Str} (hN : X.N.Nodup) (hi : X.N[i]? = some x) (hx : Loc X.env.scope x) (hf : X.fn x = true ∨ X.env.scope.names.lookup x = some .local) : PG X (.Name x pos) (tWg X.K q (.var i)) :=
  (pg_name hN hi hx hf).w fun v σ H Q ⟨β, ρ, env, st, d, e, S, r, h⟩ => by
    simp only [evt] at h
    split at h
    · exact h _ H ρ ⟨by simp, fun k hk => List.getElem?_set_ne (fun z => hk (by simp [tgv, z]))⟩ .refl S (e.set r)
    · exact h.elim
theorem g_nil : PGs X [] (tWgs X.K q .nil) := ⟨fun pins s σ H vs us Q I r ⟨β, ρ, env, st, ds, e, S, rs, h⟩ => by
  refine pgs_nil.run pins s σ H vs us Q I r ?_
  cases rs with
  | nil =>
    simp only [evts] at h
    exact ⟨rfl, h σ H ρ ⟨rfl, fun _ _ => rfl⟩ .refl S e⟩
  | cons r1 r2 =>
    simp only [evts] at h
    exact h.elim⟩
theorem g_cons {t : Tg} {ts : Tgs} {pt : Expr} {pts : List Expr} (h1 : PG X pt (tWg X.K q t)) (h2 : PGs X pts (tWgs X.K q ts))
    (hs : (assignEach (pt :: pts) X.env).map (·.2) = assign pt X.env :: (assignEach pts X.env).map (·.2)) : PGs X (pt :: pts) (tWgs X.K q (.cons t ts)) := ⟨fun pins s σ H vs us Q I r ⟨β, ρ, env, st, ds, e, S, rs, h⟩ => by
  refine (pgs_cons h1 h2 hs).run pins s σ H vs us Q I r ?_
  cases rs with
  | nil =>
    simp only [evts] at h
    exact h.elim
  | cons r1 r2 =>
    simp only [evts] at h
    refine ⟨_, _, rfl, β, ρ, env, st, _, e, S, r1, h.bind.imp (fun env1 s1 g σ1 H1 ρ1 k1 a1 S1 e1 => ?_) fun _ _ _ g => g⟩
    refine ⟨β, ρ1, env1, s1, _, e1, S1, r2.stp a1, g.imp (fun env2 s2 g2 σ2 H2 ρ2 k2 a2 S2 e2 => g2 σ2 H2 ρ2 ⟨k2.1.trans k1.1, fun k hk => ?_⟩ (a1.trans a2) S2 e2) fun _ _ _ g2 => g2.after a1⟩
    rw [k2.2 k fun z => hk (List.mem_append_right _ z), k1.2 k fun z => hk (List.mem_append_left _ z)]⟩
theorem g_tup {ts : Tgs} {pts : List Expr} {k : Nat} (hc : X.calm = true) (h : PGs X pts (tWgs X.K q ts)) (hn : (assignEach pts X.env).length = tgLen ts) (hst : (assignEach pts X.env).findIdx? (·.1) = none) : PG X (.Tuple pts k pos) (tWg X.K q (.tup ts)) :=
  (pg_tup hc h hn hst).w fun v σ H Q ⟨β, ρ, env, st, d, e, S, r, h⟩ => by
    simp only [evt] at h
    split at h
    · split at h
      · rename_i ds hl
        obtain ⟨a, vs, rfl, hq, rs⟩ := rd_tup r
        exact ⟨a, vs, rfl, hq, by rw [← rs.length]; exact hl, β, ρ, env, st, _, e, S, rs, h⟩
      · exact h.elim
    · exact h.elim
theorem g_idx (ha : PE X pa (tW X.K q a)) (hb : PE X pb (tW X.K q b))
    (hs : ∀ v, PySem.assign (.Subscript pa pb pos) X.env v = (do
      let ov ← holding [v] (eval pa X.env)
      let iv ← holding [v, ov] (eval pb X.env)
      standAt pos
      holding [v, ov, iv] (setItem ov iv v)
      release [v, ov, iv] [])) : PG X (.Subscript pa pb pos) (tWg X.K q (.idx a b)) :=
  (pg_sub ha hb set_list hs).w fun v σ H Q ⟨β, ρ, env, st, d, e, S, r, h⟩ => by
    simp only [evt] at h
    refine ⟨β, ρ, env, st, e, S, h.bind.imp (fun x s1 h1 v1 H1 ρ1 a1 S1 r1 => ?_) fun _ _ _ g => g⟩
    refine ⟨β, ρ1, env, s1, e.stp a1, S1, (h1.bind.aftX a1).imp (fun y s2 h2 v2 H2 ρ2 a2 S2 r2 => ?_) fun _ _ _ g => g⟩
    obtain ⟨k, rfl, h3⟩ := h2.bind.toI
    split at h3
    · rename_i i
      split at h3
      · rename_i ds hi
        split at h3
        · rename_i hr
          split at h3
          · rename_i j hj
            cases r2
            have r1' := r1.stp a2
            cases r1' with
            | lst g1 g2 =>
              obtain ⟨p, vs, e1, e2, e3⟩ := S2.obj i _ hi
              rw [g2] at e1
              cases e1
              have rd := ((r.stp a1).stp a2).older hr
              have P := S2.put (ds' := ds.set j d) (vs' := vs.set j v) hi g2 (e3.set rd j)
              refine ⟨_, vs, k, j, rfl, rfl, e2, ?_, ?_⟩
              · have : PL.ixN vs.length k = some j := by rw [← e3.length]; exact hj
                exact this
              · have z := h3 σ _ ρ2 ⟨rfl, fun _ _ => rfl⟩ ((a1.trans a2).trans P.2) P.1 (((e.stp a1).stp a2).stp P.2)
                exact z
          · exact h3.elim
        · exact h3.elim
      · exact h3.elim
    · exact h3.elim
end
end PL

set_option Elab.async false
set_option linter.all false
set_option maxRecDepth 100000
set_option maxHeartbeats 1000000
/-! Comprehensions, statements. -/
namespace PL
open PySem PySem.Spec PyProof.Rows L2
theorem rd_offU {H : Hp} {a p : Addr} {u o : HO} (h : Rd H a u) (ne : a ≠ p) : Rd (upd H p o) a u := by
  rcases h with h | ⟨x, h⟩
  · exact .inl (by rw [upd_ne ne]; exact h)
  · exact .inr ⟨x, by rw [upd_ne ne]; exact h⟩
section
variable {K : PySem.W.Frag} {fa : Nat → Addr} {H H1 H2 : Hp} {β β' ρ ρ1 ρ2 : List Addr} {st s1 s2 : Sto} {n : Nat} {m : Addr → Prop}
mutual
/-- a busy object is written -/
theorem RD.off {p : Addr} {o : HO} (hp : p ∈ β) : ∀ {d : D} {v : V}, RD K fa H m β ρ n d v → RD K fa (upd H p o) m β ρ n d v
  | _, _, .non => .non
  | _, _, .bl b => .bl b
  | _, _, .int i => .int i
  | _, _, .str s => .str s
  | _, _, .tupH h1 h2 h3 h4 => .tupH (rd_offU h1 (fun e => h3 (by rw [e]; exact hp))) h2 h3 (RDs.off hp h4)
  | _, _, .tupK h1 h4 => .tupK h1 (RDs.off hp h4)
  | _, _, .frz h1 h2 h3 h4 => .frz (by rw [upd_ne (fun e => h3 (by rw [e]; exact hp))]; exact h1) h2 h3 (RDs.off hp h4)
  | _, _, .scrH h1 h2 h3 h4 => .scrH (rd_offU h1 (fun e => h3 (by rw [e]; exact hp))) h2 h3 (RDs.off hp h4)
  | _, _, .scrK h1 h4 => .scrK h1 (RDs.off hp h4)
  | _, _, .lst h1 h2 => .lst h1 h2
  | _, _, .fn k => .fn k
theorem RDs.off {p : Addr} {o : HO} (hp : p ∈ β) : ∀ {ds : List D} {vs : List V}, RDs K fa H m β ρ n ds vs → RDs K fa (upd H p o) m β ρ n ds vs
  | _, _, .nil => .nil
  | _, _, .cons h t => .cons (RD.off hp h) (RDs.off hp t)
end
theorem RS.off {p : Addr} {o : HO} (S : RS K fa β ρ st H) (hp : p ∈ β) : RS K fa β ρ st (upd H p o) := by
  obtain ⟨_, np⟩ := S.busy p hp
  refine ⟨S.nd, S.len, fun i u h => ?_, fun b hb => ?_⟩
  · obtain ⟨a, vs, h1, h2, h3⟩ := S.obj i u h
    have ne : a ≠ p := fun e => np (by rw [← e]; exact List.mem_iff_getElem?.mpr ⟨i, h1⟩)
    exact ⟨a, vs, h1, by rw [upd_ne ne]; exact h2, h3.off hp⟩
  · obtain ⟨⟨u, e⟩, nb⟩ := S.busy b hb
    refine ⟨?_, nb⟩
    by_cases hb : b = p
    · exact ⟨o, by rw [hb, upd_same]⟩
    · exact ⟨u, by rw [upd_ne hb]; exact e⟩
theorem Stp.off {p : Addr} {o : HO} (a : Stp ρ st H ρ1 s1 H1) (hp : H p = none) : Stp ρ st H ρ1 s1 (upd H1 p o) :=
  ⟨a.pre, a.le, fun b u h mm => ⟨by rw [upd_ne (ne_of_none h hp)]; exact (a.keep b u h mm).1, (a.keep b u h mm).2⟩, a.lck⟩
/-- a new busy object -/
theorem RS.busyNew {p : Addr} {o : HO} (S : RS K fa β ρ st H) (hp : H p = none) : RS K fa (p :: β) ρ st (upd H p o) ∧ BetaOk β (p :: β) H := by
  have S1 := (S.lay (o := o) hp).1
  have bo : BetaOk β (p :: β) H := fun b hb => by
    rcases List.mem_cons.mp hb with e | e
    · exact .inr (by rw [e]; exact hp)
    · exact .inl e
  refine ⟨⟨S.nd, S.len, fun i u h => ?_, fun b hb => ?_⟩, bo⟩
  · obtain ⟨a, vs, h1, h2, h3⟩ := S.obj i u h
    exact ⟨a, vs, h1, by rw [upd_ne (ne_of_none h2 hp)]; exact h2, h3.mono (S.lay hp).2.keep (fun _ _ x => x) bo (Nat.le_refl _)⟩
  · rcases List.mem_cons.mp hb with e | e
    · exact ⟨⟨o, by rw [e, upd_same]⟩, by rw [e]; exact (S.fresh hp).1⟩
    · exact S1.busy b e
theorem RS.less (S : RS K fa β ρ st H) (h : ∀ b ∈ β', b ∈ β) : RS K fa β' ρ st H :=
  ⟨S.nd, S.len, fun i u e => by
    obtain ⟨a, vs, h1, h2, h3⟩ := S.obj i u e
    exact ⟨a, vs, h1, h2, h3.mono (fun _ _ x y => ⟨x, y⟩) (fun _ _ x => x) (fun b hb => .inl (h b hb)) (Nat.le_refl _)⟩, fun b hb => S.busy b (h b hb)⟩
theorem RE.go {env : PL.Env} {σ : L2.St} (e : RE K fa β ρ env st σ H) (a : Stp ρ st H ρ1 s1 H1) (b : BetaOk β β' H) : RE K fa β' ρ1 env s1 σ H1 := ⟨e.len, fun i d h => by
  obtain ⟨v, h1, r⟩ := e.get i d h
  exact ⟨v, h1, r.go (m := fun _ => False) a b⟩⟩
end
/-- what is free behind was free ahead -/
theorem none_back {K : PySem.W.Frag} {fa : Nat → Addr} {H H1 : Hp} {β ρ ρ1 : List Addr} {st s1 : Sto} {p : Addr} (S : RS K fa β ρ st H) (a1 : Stp ρ st H ρ1 s1 H1) (S1 : RS K fa β ρ1 s1 H1) (hp : H1 p = none) : H p = none := by
  cases hh : H p with
  | none => rfl
  | some o =>
    by_cases hm : Mu ρ st p
    · obtain ⟨i, o', e1, e2, e3⟩ := hm
      obtain ⟨a, ws, f1, f2, f3⟩ := S1.obj i _ (List.getElem?_eq_getElem (show i < s1.length from Nat.lt_of_lt_of_le (its_get e2) a1.le))
      rw [a1.at i p e1] at f1
      cases f1
      rw [hp] at f2
      cases f2
    · have := (a1.keep p o hh hm).1
      rw [hp] at this
      cases this
theorem wipe_none : ∀ {vs : List Nat} {σ : L2.St} {k : Nat}, k ∈ vs → (L2.wipe σ vs)[k]? = if k < σ.length then some none else none
  | v :: vs, σ, k, h => by
    unfold L2.wipe
    by_cases hk : v = k
    · subst hk
      by_cases hl : v < σ.length
      · rw [if_pos hl, List.getElem?_set_self (by rw [wipe_length]; exact hl)]
      · rw [if_neg hl, List.getElem?_eq_none (by rw [List.length_set, wipe_length]; omega)]
    · rw [List.getElem?_set_ne hk]
      exact wipe_none (by
        rcases List.mem_cons.mp h with e | e
        · exact absurd e.symm hk
        · exact e)
theorem kp_wipe {l vs : List Nat} {σ σ' : L2.St} (h : Kp l (L2.wipe σ vs) σ') (hl : ∀ k ∈ l, k ∈ vs) : L2.wipe σ' vs = L2.wipe σ vs := by
  have len : σ'.length = σ.length := by rw [h.1, wipe_length]
  apply List.ext_getElem?
  intro k
  by_cases hk : k ∈ vs
  · rw [wipe_none hk, wipe_none hk, len]
  · rw [wipe_keep hk, h.2 k fun z => hk (hl k z)]
section
variable {X : Cx} {q : Qm} {a b c : E} {pa pb pc pe tg : Expr} {pos : Pos} {es : Es} {pes : List Expr}
def qF (q : Qm) : Qm := { q with XE := fun _ _ _ => False }
theorem noX_ok {α : Type} {r : R α} {P : α → Sto → Prop} {Xx : Nat → D → Sto → Prop} (h : RP r.noX P Xx) : ∃ a s, r = .ok a s ∧ P a s := by
  cases r with
  | ok a s => exact ⟨a, s, rfl, h⟩
  | exn c d s => exact h.elim
  | bad => exact h.elim
theorem RP.unl {α : Type} {r : R α} {ids : List Nat} {P : α → Sto → Prop} {Xx : Nat → D → Sto → Prop} (h : RP (r.unl ids) P Xx) : RP r (fun a s => P a (unlock s ids)) (fun c d s => Xx c d (unlock s ids)) := by
  cases r <;> exact h
/-- a list comprehension: its parts, in the block's context -/
structure LcOk (X : Cx) (q : Qm) (own : List (Str × Nat)) (elt : E) (tg : Tg) (it : It) (c : Oe) (pelt ptg pit : Expr) (pifs : List Expr) (scope : Scope) : Prop where
  calm : X.calm = true
  nd : X.N.Nodup
  it : PI X ptg pit (tWi X.K q it)
  blk : BlkOk X.N X.env.scope scope own
  tgt : ∀ (s : Shared) (H : Hp) (C : Addr) (cl : List (Str × Addr)) (fp : List Addr), PG (X.blk s H scope (compEnvC scope cl C X.env) fp) ptg (tWg X.K (qF q) tg)
  ifs : ∀ (s : Shared) (H : Hp) (C : Addr) (cl : List (Str × Addr)) (fp : List Addr), PTs (X.blk s H scope (compEnvC scope cl C X.env) fp) pifs (tWc X.K (qF q) c)
  elt : ∀ (s : Shared) (H : Hp) (C : Addr) (cl : List (Str × Addr)) (fp : List Addr), PE (X.blk s H scope (compEnvC scope cl C X.env) fp) pelt (tW X.K (qF q) elt)
  fold : ∀ x, foldedSetIterable pit X.env x = pure x
  own : ∀ k ∈ tgv tg, k ∈ own.map (·.2)
def fComp (C : Nat → List D → Sto → R D) (G : Nat → D) (own : List Nat) (elt : E) (tg : Tg) (it : It) (c : Oe) (env : PL.Env) (st : Sto) : R (List D) := (evi C G it env st).bind fun p s1 =>
  if szOk p.1.length then ((compL (fun x s2 => (evt C G tg x (PL.wipe env own) s2).bind fun env2 s3 => (evc C G c env2 s3).bind fun b s4 =>
    if b then (ev C G elt env2 s4).bind fun y s5 => .ok (some y) s5 else .ok none s4) p.1 (lock s1 p.2)).noX.unl p.2) else .bad
theorem R.assoc {α β γ : Type} (r : R α) (f : α → Sto → R β) (g : β → Sto → R γ) : (r.bind f).bind g = r.bind fun a s => (f a s).bind g := by cases r <;> rfl
theorem ev_comp {own : List Nat} {elt : E} {tg : Tg} {it : It} {c : Oe} {env : PL.Env} {st : Sto} : ev q.C q.G (.comp own elt tg it c) env st = (fComp q.C q.G own elt tg it c env st).bind fun ds s => R.ok (D.frz ds) s := by
  simp only [ev, fComp]
  rw [R.assoc]
  congr 1
  funext p s1
  split <;> rfl
theorem w_comp {own : List (Str × Nat)} {elt : E} {tg : Tg} {it : It} {c : Oe} {σ H Q} (hown : ∀ k ∈ tgv tg, k ∈ own.map (·.2)) (h : tNew X.K q (fComp q.C q.G (own.map (·.2)) elt tg it c) σ H Q) :
    tLc (tWi X.K q it) (tWg X.K (qF q) tg) (tWc X.K (qF q) c) (tW X.K (qF q) elt) (own.map (·.2)) σ H Q := by
  generalize own.map (·.2) = vs at hown h ⊢
  obtain ⟨β, ρ, env, st, e, S, h⟩ := h
  simp only [fComp] at h
  refine ⟨β, ρ, env, st, e, S, h.bind.imp (fun p s1 h1 can J H1 ρ1 a1 S1 F1 P hP => ?_) fun _ _ _ g => g⟩
  split at h1
  · rename_i hz
    obtain ⟨ds, s6, hc, hQ⟩ := noX_ok (RP.unl h1)
    have BN := S1.busyNew (o := .lst []) hP
    generalize hf : (fun (x : D) (s2 : Sto) => (evt q.C q.G tg x (PL.wipe env vs) s2).bind fun env2 s3 => (evc q.C q.G c env2 s3).bind fun b s4 =>
      if b = true then (ev q.C q.G elt env2 s4).bind fun y s5 => R.ok (some y) s5 else R.ok none s4) = f at hc
    refine ⟨fun i m H' => m = p.1.length - i ∧ i ≤ p.1.length ∧ ∃ ρ2 st2 acc accD, Stp ρ1 (lock s1 p.2) H1 ρ2 st2 H' ∧ RS X.K q.fa (P :: β) ρ2 st2 H' ∧ H' P = some (.lst acc) ∧ RDs X.K q.fa H' (Mu ρ2 st2) (P :: β) ρ2 st2.length accD acc ∧
      acc.length ≤ i ∧ ∃ rest, compL f (p.1.drop i) st2 = .ok rest s6 ∧ accD ++ rest = ds, ⟨_, rfl, Nat.zero_le _, ρ1, lock s1 p.2, [], [], Stp.off .refl hP, BN.1.sim sim_lock, upd_same, .nil, Nat.le_refl _, ds, hc, rfl⟩, ?_⟩
    rintro i m H' ⟨rfl, hi, ρ2, st2, acc, accD, a2, S2, hacc, rs, hlen, rest, hrest, hds⟩
    obtain ⟨F2, F3⟩ := F1 (P :: β) ρ2 st2 H' BN.2 a2 S2
    by_cases hlt : i < p.1.length
    · right
      obtain ⟨go, yl⟩ := F2 i p.1[i] (List.getElem?_eq_getElem hlt)
      refine ⟨go, fun H'' => ∃ m', m' < p.1.length - i ∧ (m' = p.1.length - (i + 1) ∧ i + 1 ≤ p.1.length ∧ ∃ ρ2 st2 acc accD, Stp ρ1 (lock s1 p.2) H1 ρ2 st2 H'' ∧ RS X.K q.fa (P :: β) ρ2 st2 H'' ∧ H'' P = some (.lst acc) ∧ RDs X.K q.fa H'' (Mu ρ2 st2) (P :: β) ρ2 st2.length accD acc ∧
        acc.length ≤ i + 1 ∧ ∃ rest, compL f (p.1.drop (i + 1)) st2 = .ok rest s6 ∧ accD ++ rest = ds), fun _ z => z, fun x H2 hy => ?_⟩
      obtain ⟨y1, y2, y3⟩ := yl x H2 hy
      have e2 : RE X.K q.fa (P :: β) ρ2 (PL.wipe env vs) st2 (L2.wipe σ vs) H2 := (((e.stp a1).stp stp_lock).go (a2.trans y1) BN.2).wipe vs
      rw [List.drop_eq_getElem_cons hlt] at hrest
      simp only [compL] at hrest
      obtain ⟨o, s3, hfx, hrest⟩ := R.bind_ok hrest
      rw [← hf] at hfx
      obtain ⟨env2, t1, hv1, hfx⟩ := R.bind_ok hfx
      refine ⟨P :: β, ρ2, _, st2, _, e2, y2, y3, ?_⟩
      rw [show (qF q).C = q.C from rfl, show (qF q).G = q.G from rfl, hv1]
      intro σ3 H3 ρ3 k3 a3 S3 e3
      refine ⟨kp_wipe k3 hown, ?_⟩
      obtain ⟨cb, t2, hv2, hfx⟩ := R.bind_ok hfx
      refine ⟨P :: β, ρ3, env2, t1, e3, S3, ?_⟩
      rw [show (qF q).C = q.C from rfl, show (qF q).G = q.G from rfl, hv2]
      intro H4 ρ4 a4 S4
      have hP2 : ∀ {ρ' : List Addr} {st' : Sto} {H' H'' : Hp} {ρ'' : List Addr} {st'' : Sto} {u : HO}, RS X.K q.fa (P :: β) ρ' st' H' → Stp ρ' st' H' ρ'' st'' H'' → H' P = some u → H'' P = some u := fun SS aa hh => by
        refine (aa.keep P _ hh fun ⟨j, _, hj, _⟩ => ?_).1
        exact (SS.busy P (by simp)).2 (List.mem_iff_getElem?.mpr ⟨j, hj⟩)
      have a34 := (y1.trans a3).trans a4
      have step : ∀ {H5 : Hp} {ρ5 : List Addr} {t5 : Sto} {acc5 : List V} {accD5 : List D}, Stp ρ1 (lock s1 p.2) H1 ρ5 t5 H5 → RS X.K q.fa (P :: β) ρ5 t5 H5 → H5 P = some (.lst acc5) → RDs X.K q.fa H5 (Mu ρ5 t5) (P :: β) ρ5 t5.length accD5 acc5 → acc5.length ≤ i + 1 →
          (∃ rest, compL f (p.1.drop (i + 1)) t5 = .ok rest s6 ∧ accD5 ++ rest = ds) → ∃ m', m' < p.1.length - i ∧ (m' = p.1.length - (i + 1) ∧ i + 1 ≤ p.1.length ∧ ∃ ρ2 st2 acc accD, Stp ρ1 (lock s1 p.2) H1 ρ2 st2 H5 ∧ RS X.K q.fa (P :: β) ρ2 st2 H5 ∧ H5 P = some (.lst acc) ∧ RDs X.K q.fa H5 (Mu ρ2 st2) (P :: β) ρ2 st2.length accD acc ∧
        acc.length ≤ i + 1 ∧ ∃ rest, compL f (p.1.drop (i + 1)) st2 = .ok rest s6 ∧ accD ++ rest = ds) := fun z1 z2 z3 z4 z5 z6 => ⟨_, by omega, rfl, hlt, _, _, _, _, z1, z2, z3, z4, z5, z6⟩
      cases cb with
      | false =>
        rw [if_neg Bool.false_ne_true] at hfx ⊢
        cases hfx
        exact step (a2.trans a34) S4 (hP2 S2 a34 hacc) (rs.stp a34) (by omega) ⟨rest, hrest, hds⟩
      | true =>
        rw [if_pos rfl] at hfx ⊢
        obtain ⟨y, t3, hv3, hfx⟩ := R.bind_ok hfx
        cases hfx
        refine ⟨P :: β, ρ4, env2, t2, e3.stp a4, S4, ?_⟩
        rw [show (qF q).C = q.C from rfl, show (qF q).G = q.G from rfl, hv3]
        intro v H5 ρ5 a5 S5 r5
        have a35 := a34.trans a5
        refine ⟨acc, hP2 S2 a35 hacc, ?_, ?_⟩
        · have := szOk_le hz
          omega
        · obtain ⟨rest', s7, hr7⟩ := R.bind_ok hrest
          obtain ⟨hr8, hr9⟩ := hr7
          cases hr9
          refine step ((a2.trans a35).off hP) (S5.off (by simp)) upd_same (((rs.stp a35).append (.cons r5 .nil)).off (by simp)) (by simp; omega) ⟨rest', hr8, by rw [← hds]; simp⟩
    · left
      have ei : i = p.1.length := by omega
      subst ei
      refine ⟨F3, ?_⟩
      rw [List.drop_length] at hrest
      cases hrest
      rw [List.append_nil] at hds
      subst hds
      have aF := a1.trans (stp_unlock can a2)
      have SF : RS X.K q.fa (P :: β) ρ2 (unlock s6 p.2) H' := S2.sim sim_unlock
      have hPH : H P = none := none_back S a1 S1 hP
      refine hQ P _ H' ρ2 _ aF rfl SF ?_ hacc hPH
      rw [← (sim_unlock (ids := p.2) (st := s6)).mu, ← (sim_unlock (ids := p.2) (st := s6)).len]
      exact rs
  · exact h1.elim
theorem s_comp {own : List (Str × Nat)} {elt : E} {tg : Tg} {it : It} {c : Oe} {pelt ptg pit : Expr} {pifs : List Expr} {scope : Scope} (L : LcOk X q own elt tg it c pelt ptg pit pifs scope) :
    PE X (.ListComp pelt [⟨ptg, pit, pifs, 0⟩] scope pos) (tNew X.K q (fComp q.C q.G (own.map (·.2)) elt tg it c)) :=
  (pe_lc L.calm L.nd L.it L.blk L.tgt L.ifs L.elt L.fold).w fun σ H Q h => w_comp L.own h

/-! ### statements -/
def PostF (K : PySem.W.Frag) (fa : Nat → Addr) (β ρ : List Addr) (st : Sto) (H : Hp) (En : Ends) (fl : Fl) (st' : Sto) : Prop := match fl with
  | .nx env' => ∀ σ' H' ρ', Stp ρ st H ρ' st' H' → RS K fa β ρ' st' H' → RE K fa β ρ' env' st' σ' H' → En.nx σ' H'
  | .bk env' => ∀ σ' H' ρ', Stp ρ st H ρ' st' H' → RS K fa β ρ' st' H' → RE K fa β ρ' env' st' σ' H' → En.bk σ' H'
  | .ct env' => ∀ σ' H' ρ', Stp ρ st H ρ' st' H' → RS K fa β ρ' st' H' → RE K fa β ρ' env' st' σ' H' → En.ct σ' H'
  | .rt d => ∀ v H' ρ', Stp ρ st H ρ' st' H' → RS K fa β ρ' st' H' → RD K fa H' (Mu ρ' st') β ρ' st'.length d v → En.rt v H'
theorem PostF.after {K : PySem.W.Frag} {fa : Nat → Addr} {β ρ ρ1 : List Addr} {st s1 st' : Sto} {H H1 : Hp} {En : Ends} {fl : Fl} (h : PostF K fa β ρ st H En fl st') (a : Stp ρ st H ρ1 s1 H1) : PostF K fa β ρ1 s1 H1 En fl st' := by
  cases fl with
  | nx env => exact fun σ' H' ρ' b S e => h σ' H' ρ' (a.trans b) S e
  | bk env => exact fun σ' H' ρ' b S e => h σ' H' ρ' (a.trans b) S e
  | ct env => exact fun σ' H' ρ' b S e => h σ' H' ρ' (a.trans b) S e
  | rt d => exact fun v H' ρ' b S r => h v H' ρ' (a.trans b) S r
section
variable (K : PySem.W.Frag) (q : Qm)
def tS (s : S) : TS := fun En σ H => ∃ β ρ env st, RE K q.fa β ρ env st σ H ∧ RS K q.fa β ρ st H ∧ RP (ex q.C q.G q.W s env st) (PostF K q.fa β ρ st H En) (PostX K q β ρ st H)
def tSs (s : Ss) : TS := fun En σ H => ∃ β ρ env st, RE K q.fa β ρ env st σ H ∧ RS K q.fa β ρ st H ∧ RP (exs q.C q.G q.W s env st) (PostF K q.fa β ρ st H En) (PostX K q β ρ st H)
end
theorem RP.aftF {K : PySem.W.Frag} {β ρ ρ1 : List Addr} {st s1 : Sto} {H H1 : Hp} {En : Ends} {r : R Fl} (h : RP r (PostF K q.fa β ρ st H En) (PostX K q β ρ st H)) (a : Stp ρ st H ρ1 s1 H1) : RP r (PostF K q.fa β ρ1 s1 H1 En) (PostX K q β ρ1 s1 H1) :=
  h.imp (fun _ _ g => g.after a) fun _ _ _ g => g.after a
theorem rp_tru {α : Type} {r : R D} {f : Bool → Sto → R α} {P : α → Sto → Prop} {Xx : Nat → D → Sto → Prop} (h : RP (r.bind fun x s1 => (tru x s1).bind f) P Xx) : RP (r.bind fun x s1 => tru x s1) (fun b s => RP (f b s) P Xx) Xx := by
  cases r with
  | ok x s1 =>
    have h : RP ((tru x s1).bind f) P Xx := h
    exact h.bind
  | exn c d s1 => exact h
  | bad => exact h
section
variable {s : S} {ss ss2 : Ss} {ps : Stmt} {pss pss2 : List Stmt}
theorem z_nil : PSs X [] (tSs X.K q .nil) := ⟨fun pins s σ H En I ⟨β, ρ, env, st, e, S, h⟩ => by
  simp only [exs] at h
  exact pss_nil.run pins s σ H En I (h σ H ρ .refl S e)⟩
theorem z_cons (h1 : PS X ps (tS X.K q s)) (h2 : PSs X pss (tSs X.K q ss)) : PSs X (ps :: pss) (tSs X.K q (.cons s ss)) :=
  (pss_cons h1 h2).w fun En σ H ⟨β, ρ, env, st, e, S, h⟩ => by
    simp only [exs] at h
    refine ⟨β, ρ, env, st, e, S, h.bind.imp (fun fl s1 g => ?_) fun _ _ _ g => g⟩
    cases fl with
    | nx env1 => exact fun σ' H' ρ' a1 S1 e1 => ⟨β, ρ', env1, s1, e1, S1, RP.aftF g a1⟩
    | bk env1 => exact g
    | ct env1 => exact g
    | rt d => exact g
theorem z_pas : PS X (.Pass pos) (tS X.K q .pas) := ps_pass.w fun En σ H ⟨β, ρ, env, st, e, S, h⟩ => by
  simp only [ex] at h
  exact h σ H ρ .refl S e
theorem z_brk : PS X (.Break pos) (tS X.K q .brk) := ps_break.w fun En σ H ⟨β, ρ, env, st, e, S, h⟩ => by
  simp only [ex] at h
  exact h σ H ρ .refl S e
theorem z_cnt : PS X (.Continue pos) (tS X.K q .cnt) := ps_continue.w fun En σ H ⟨β, ρ, env, st, e, S, h⟩ => by
  simp only [ex] at h
  exact h σ H ρ .refl S e
theorem z_retn : PS X (.Return none pos) (tS X.K q .retn) := ps_retN.w fun En σ H ⟨β, ρ, env, st, e, S, h⟩ => by
  simp only [ex] at h
  exact h .non H ρ .refl S .non
theorem z_ret (ha : PE X pa (tW X.K q a)) : PS X (.Return (some pa) pos) (tS X.K q (.ret a)) := (ps_ret ha).w fun En σ H ⟨β, ρ, env, st, e, S, h⟩ => by
  simp only [ex] at h
  exact ⟨β, ρ, env, st, e, S, h.bind.imp (fun x s1 g v H1 ρ1 a1 S1 r1 => g v H1 ρ1 a1 S1 r1) fun _ _ _ g => g⟩
theorem z_exp (ha : PE X pa (tW X.K q a)) (hs : swapsWith pa none pos.line X.env = pure false) : PS X (.Expr pa pos) (tS X.K q (.exp a)) := (ps_expr ha hs).w fun En σ H ⟨β, ρ, env, st, e, S, h⟩ => by
  simp only [ex] at h
  exact ⟨β, ρ, env, st, e, S, h.bind.imp (fun x s1 g v H1 ρ1 a1 S1 r1 => g σ H1 ρ1 a1 S1 (e.stp a1)) fun _ _ _ g => g⟩
theorem z_if (hc : PT X pc (tWT X.K q c)) (h1 : PSs X pss (tSs X.K q ss)) (h2 : PSs X pss2 (tSs X.K q ss2)) : PS X (.If pc pss pss2 pos) (tS X.K q (.ifs c ss ss2)) := (ps_if hc h1 h2).w fun En σ H ⟨β, ρ, env, st, e, S, h⟩ => by
  simp only [ex] at h
  refine ⟨β, ρ, env, st, e, S, (rp_tru h).imp (fun k s1 g H1 ρ1 a1 S1 => ?_) fun _ _ _ g => g⟩
  cases k with
  | true =>
    rw [if_pos rfl] at g ⊢
    exact ⟨β, ρ1, env, s1, e.stp a1, S1, RP.aftF g a1⟩
  | false =>
    rw [if_neg Bool.false_ne_true] at g ⊢
    exact ⟨β, ρ1, env, s1, e.stp a1, S1, RP.aftF g a1⟩
theorem w_asg {t : Tg} {En : Ends} {σ H} (h : tS X.K q (.asg t a) En σ H) : tAsg (tW X.K q a) (tWg X.K q t) En σ H := by
  obtain ⟨β, ρ, env, st, e, S, h⟩ := h
  simp only [ex] at h
  refine ⟨β, ρ, env, st, e, S, h.bind.imp (fun x s1 g v H1 ρ1 a1 S1 r1 => ?_) fun _ _ _ g => g⟩
  exact ⟨β, ρ1, env, s1, x, e.stp a1, S1, r1, (g.bind.aftX a1).imp (fun env1 s2 g2 σ2 H2 ρ2 _ a2 S2 e2 => g2 σ2 H2 ρ2 (a1.trans a2) S2 e2) fun _ _ _ g2 => g2⟩
theorem z_asg {t : Tg} {pt : Expr} (ha : PE X pa (tW X.K q a)) (hg : PG X pt (tWg X.K q t)) (hs : swapsWithSole [pt] pa pos.line X.env = pure false) (hw : swappedStores [pt] pa X.env = pure none) (h1 : (assignEach [pt] X.env).map (·.2) = [PySem.assign pt X.env]) :
    PS X (.Assign [pt] pa pos) (tS X.K q (.asg t a)) := (ps_asg ha hg hs hw h1).w fun En σ H h => w_asg h
/-- a list into a place of the store, or as a value -/
def evF (C : Nat → List D → Sto → R D) (G : Nat → D) (e : E) (env : PL.Env) (st : Sto) : R (List D) := (ev C G e env st).bind fun d s => match d with
  | .frz ds => .ok ds s
  | _ => .bad
theorem s_thaw (h : PE X pe (tNew X.K q (evF q.C q.G a))) : PE X pe (tW X.K q (.thaw a)) := h.w fun σ H Q ⟨β, ρ, env, st, e, S, h⟩ => new_thaw ⟨β, ρ, env, st, e, S, by
  simp only [ev] at h
  unfold evF
  rw [R.assoc]
  cases hv : ev q.C q.G a env st with
  | bad => rw [hv] at h; exact h.elim
  | exn c d s1 => rw [hv] at h; exact h
  | ok d s1 =>
    rw [hv] at h
    cases d with
    | frz ds => exact h
    | _ => exact h.elim⟩
theorem f_comp {own : List Nat} {elt : E} {tg : Tg} {it : It} {c : Oe} (h : PE X pe (tNew X.K q (fComp q.C q.G own elt tg it c))) : PE X pe (tW X.K q (.comp own elt tg it c)) ∧ PE X pe (tNew X.K q (evF q.C q.G (.comp own elt tg it c))) := by
  refine ⟨h.w fun σ H Q ⟨β, ρ, env, st, e, S, h⟩ => new_frz ⟨β, ρ, env, st, e, S, by rw [← ev_comp]; exact h⟩, h.w fun σ H Q ⟨β, ρ, env, st, e, S, h⟩ => ⟨β, ρ, env, st, e, S, ?_⟩⟩
  unfold evF at h
  rw [ev_comp, R.assoc] at h
  cases hv : fComp q.C q.G own elt tg it c env st with
  | bad => rw [hv] at h; exact h.elim
  | exn c d s1 => rw [hv] at h; exact h
  | ok d s1 => rw [hv] at h; exact h
/-- name = a comprehension on the same line -/
theorem z_asgLc {i : Nat} {y : Str} {py cpos : Pos} {own : List (Str × Nat)} {elt : E} {tg : Tg} {it : It} {c : Oe} {pelt ptg pit : Expr} {pifs : List Expr} {scope : Scope} (th : Bool) (L : LcOk X q own elt tg it c pelt ptg pit pifs scope) (hy : X.N[i]? = some y) (hyl : X.env.scope.names.lookup y = some .local)
    (hsw : swapsWith (.ListComp pelt [⟨ptg, pit, pifs, 0⟩] scope cpos) (some (.Name y py)) pos.line X.env = pure true) :
    PS X (.Assign [.Name y py] (.ListComp pelt [⟨ptg, pit, pifs, 0⟩] scope cpos) pos) (tS X.K q (.asg (.var i) (if th then .thaw (.comp (own.map (·.2)) elt tg it c) else .comp (own.map (·.2)) elt tg it c))) :=
  (ps_setLc L.calm L.nd hy hyl hsw L.it L.blk L.tgt L.ifs L.elt L.fold).w fun En σ H h => by
    have g := w_asg h
    refine w_comp L.own ?_
    have g : tW X.K q (if th then .thaw (.comp (own.map (·.2)) elt tg it c) else .comp (own.map (·.2)) elt tg it c) σ H (fun x H1 => gName i x σ H1 En.nx) := by
      obtain ⟨β, ρ, env, st, e, S, g⟩ := g
      refine ⟨β, ρ, env, st, e, S, g.imp (fun x s1 g v H1 ρ1 a1 S1 r1 => ?_) fun _ _ _ g => g⟩
      obtain ⟨β', ρ', env', st', d, e', S', r', g'⟩ := g v H1 ρ1 a1 S1 r1
      simp only [evt] at g'
      split at g'
      · exact g' _ H1 ρ' ⟨by simp, fun k hk => List.getElem?_set_ne (fun z => hk (by simp [tgv, z]))⟩ .refl S' (e'.set r')
      · exact g'.elim
    cases th with
    | false =>
      obtain ⟨β, ρ, env, st, e, S, g⟩ := g
      exact new_frz ⟨β, ρ, env, st, e, S, by rw [← ev_comp]; exact g⟩
    | true =>
      obtain ⟨β, ρ, env, st, e, S, g⟩ := g
      refine new_thaw ⟨β, ρ, env, st, e, S, ?_⟩
      rw [if_pos rfl] at g
      simp only [ev] at g
      rw [show ((evi q.C q.G it env st).bind fun p s1 => _) = _ from ev_comp (q := q) (own := own.map (·.2)) (elt := elt) (tg := tg) (it := it) (c := c) (env := env) (st := st), R.assoc] at g
      exact g
/-- a, b = x, y -/
theorem z_par2 {i j : Nat} {x y : Str} {px py pt : Pos} {kt k2 pt2} (hc : X.calm = true) (hN : X.N.Nodup) (hi : X.N[i]? = some x) (hj : X.N[j]? = some y) (hij : i ≠ j)
    (hx : X.env.scope.names.lookup x = some .local) (hy : X.env.scope.names.lookup y = some .local) (ha : PA X [pa, pb] (tWs X.K q es))
    (hw : swappedStores [.Tuple [.Name x px, .Name y py] kt pt] (.Tuple [pa, pb] k2 pt2) X.env = pure (some [x, y]))
    (hs : swapsWithSole [.Tuple [.Name x px, .Name y py] kt pt] (.Tuple [pa, pb] k2 pt2) pos.line X.env = pure false) :
    PS X (.Assign [.Tuple [.Name x px, .Name y py] kt pt] (.Tuple [pa, pb] k2 pt2) pos) (tS X.K q (.par [i, j] es)) :=
  (ps_par hc hN hi hj hij hx hy ha hw hs).w fun En σ H ⟨β, ρ, env, st, e, S, h⟩ => by
    simp only [ex] at h
    refine ⟨β, ρ, env, st, e, S, h.bind.imp (fun ds s1 g vs H1 ρ1 a1 S1 r1 => ?_) fun _ _ _ g => g⟩
    split at g
    · rename_i hl
      cases r1 with
      | nil => simp at hl
      | cons r1 r2 =>
        cases r2 with
        | nil => simp at hl
        | cons r2 r3 =>
          cases r3 with
          | nil => exact ⟨_, _, rfl, g _ H1 ρ1 a1 S1 (((e.stp a1).set r1).set r2)⟩
          | cons r3 r4 => simp at hl
    · exact g.elim
theorem z_par3 {i j l : Nat} {x y z : Str} {px py pz pt : Pos} {kt k2 pt2} (hc : X.calm = true) (hN : X.N.Nodup) (hi : X.N[i]? = some x) (hj : X.N[j]? = some y) (hl : X.N[l]? = some z) (hij : i ≠ j) (hil : i ≠ l) (hjl : j ≠ l)
    (hx : X.env.scope.names.lookup x = some .local) (hy : X.env.scope.names.lookup y = some .local) (hz : X.env.scope.names.lookup z = some .local) (ha : PA X [pa, pb, pc] (tWs X.K q es))
    (hw : swappedStores [.Tuple [.Name x px, .Name y py, .Name z pz] kt pt] (.Tuple [pa, pb, pc] k2 pt2) X.env = pure (some [x, y, z]))
    (hs : swapsWithSole [.Tuple [.Name x px, .Name y py, .Name z pz] kt pt] (.Tuple [pa, pb, pc] k2 pt2) pos.line X.env = pure false) :
    PS X (.Assign [.Tuple [.Name x px, .Name y py, .Name z pz] kt pt] (.Tuple [pa, pb, pc] k2 pt2) pos) (tS X.K q (.par [i, j, l] es)) :=
  (ps_par3 hc hN hi hj hl hij hil hjl hx hy hz ha hw hs).w fun En σ H ⟨β, ρ, env, st, e, S, h⟩ => by
    simp only [ex] at h
    refine ⟨β, ρ, env, st, e, S, h.bind.imp (fun ds s1 g vs H1 ρ1 a1 S1 r1 => ?_) fun _ _ _ g => g⟩
    split at g
    · rename_i hl
      cases r1 with
      | nil => simp at hl
      | cons r1 r2 =>
        cases r2 with
        | nil => simp at hl
        | cons r2 r3 =>
          cases r3 with
          | nil => simp at hl
          | cons r3 r4 =>
            cases r4 with
            | nil => exact ⟨_, _, _, rfl, g _ H1 ρ1 a1 S1 ((((e.stp a1).set r1).set r2).set r3)⟩
            | cons r4 r5 => simp at hl
    · exact g.elim
/-! loops -/
theorem PostF.unl {K : PySem.W.Frag} {fa : Nat → Addr} {β ρ : List Addr} {st st' : Sto} {H : Hp} {En : Ends} {fl : Fl} {ids : List Nat} (can : Can st ids) (h : PostF K fa β ρ st H En fl (unlock st' ids)) : PostF K fa β ρ (lock st ids) H En fl st' := by
  cases fl with
  | nx env => exact fun σ' H' ρ' b S e => h σ' H' ρ' (stp_unlock can b) (S.sim sim_unlock) (e.sim sim_unlock)
  | bk env => exact fun σ' H' ρ' b S e => h σ' H' ρ' (stp_unlock can b) (S.sim sim_unlock) (e.sim sim_unlock)
  | ct env => exact fun σ' H' ρ' b S e => h σ' H' ρ' (stp_unlock can b) (S.sim sim_unlock) (e.sim sim_unlock)
  | rt d => exact fun v H' ρ' b S r => h v H' ρ' (stp_unlock can b) (S.sim sim_unlock) (r.sim sim_unlock)
theorem PostX.unl {K : PySem.W.Frag} {β ρ : List Addr} {st st' : Sto} {H : Hp} {c : Nat} {d : D} {ids : List Nat} (can : Can st ids) (h : PostX K q β ρ st H c d (unlock st' ids)) : PostX K q β ρ (lock st ids) H c d st' :=
  fun v H' ρ' dx b S r e => h v H' ρ' dx (stp_unlock can b) (S.sim sim_unlock) (r.sim sim_unlock) e
theorem w_for {t : Tg} {it : It} {En : Ends} {σ H} (h : tS X.K q (.fr t it ss) En σ H) : tFor (tWi X.K q it) (tWg X.K q t) (tSs X.K q ss) En σ H := by
  obtain ⟨β, ρ, env, st, e, S, h⟩ := h
  simp only [ex] at h
  refine ⟨β, ρ, env, st, e, S, h.bind.imp (fun p s1 h1 can J H1 ρ1 a1 S1 F1 => ?_) fun _ _ _ g => g⟩
  have h2 := (RP.aftF h1 a1).unl.imp (fun _ _ g => PostF.unl can g) fun _ _ _ g => PostX.unl can g
  clear h1
  generalize hf : (fun (x : D) (env : PL.Env) (s2 : Sto) => (evt q.C q.G t x env s2).bind fun env2 s3 => exs q.C q.G q.W ss env2 s3) = f at h2
  have e1 := (e.stp a1).stp (stp_lock (ids := p.2))
  have S1' := S1.sim (sim_lock (ids := p.2))
  generalize lock s1 p.2 = sl at h2 e1 S1' F1
  refine ⟨fun i m σ' H' => m = p.1.length - i ∧ i ≤ p.1.length ∧ ∃ ρ2 st2 env2, Stp ρ1 sl H1 ρ2 st2 H' ∧ RS X.K q.fa β ρ2 st2 H' ∧ RE X.K q.fa β ρ2 env2 st2 σ' H' ∧
    RP (forL f (p.1.drop i) env2 st2) (PostF X.K q.fa β ρ2 st2 H' En) (PostX X.K q β ρ2 st2 H'), ⟨_, rfl, Nat.zero_le _, ρ1, sl, env, .refl, S1', e1, h2⟩, ?_⟩
  rintro i m σ' H' ⟨rfl, hi, ρ2, st2, env2, a2, S2, e2, g⟩
  obtain ⟨F2, F3⟩ := F1 β ρ2 st2 H' (fun _ z => .inl z) a2 S2
  by_cases hlt : i < p.1.length
  · right
    obtain ⟨go, yl⟩ := F2 i p.1[i] (List.getElem?_eq_getElem hlt)
    refine ⟨go, fun σ'' H'' => ∃ m', m' < p.1.length - i ∧ (m' = p.1.length - (i + 1) ∧ i + 1 ≤ p.1.length ∧ ∃ ρ2 st2 env2, Stp ρ1 sl H1 ρ2 st2 H'' ∧ RS X.K q.fa β ρ2 st2 H'' ∧ RE X.K q.fa β ρ2 env2 st2 σ'' H'' ∧
      RP (forL f (p.1.drop (i + 1)) env2 st2) (PostF X.K q.fa β ρ2 st2 H'' En) (PostX X.K q β ρ2 st2 H'')), fun _ _ z => z, fun x H2 hy => ?_⟩
    obtain ⟨y1, y2, y3⟩ := yl x H2 hy
    rw [List.drop_eq_getElem_cons hlt] at g
    simp only [forL] at g
    have g := RP.aftF g y1
    have g2 : RP (f p.1[i] env2 st2) _ _ := g.bind
    rw [← hf] at g2
    refine ⟨β, ρ2, env2, st2, _, e2.stp y1, y2, y3, g2.bind.imp (fun env3 s3 g3 σ3 H3 ρ3 _ a3 S3 e3 => ?_) fun _ _ _ g => g⟩
    refine ⟨β, ρ3, env3, s3, e3, S3, g3.imp (fun fl s4 g4 => ?_) fun _ _ _ g => g.after a3⟩
    have step : ∀ env4, RP (forL f (p.1.drop (i + 1)) env4 s4) (PostF X.K q.fa β ρ2 st2 H2 En) (PostX X.K q β ρ2 st2 H2) → ∀ σ4 H4 ρ4, Stp ρ3 s3 H3 ρ4 s4 H4 → RS X.K q.fa β ρ4 s4 H4 → RE X.K q.fa β ρ4 env4 s4 σ4 H4 →
        ∃ m', m' < p.1.length - i ∧ (m' = p.1.length - (i + 1) ∧ i + 1 ≤ p.1.length ∧ ∃ ρ2 st2 env2, Stp ρ1 sl H1 ρ2 st2 H4 ∧ RS X.K q.fa β ρ2 st2 H4 ∧ RE X.K q.fa β ρ2 env2 st2 σ4 H4 ∧
      RP (forL f (p.1.drop (i + 1)) env2 st2) (PostF X.K q.fa β ρ2 st2 H4 En) (PostX X.K q β ρ2 st2 H4)) := fun env4 g5 σ4 H4 ρ4 a4 S4 e4 =>
      ⟨_, by omega, rfl, hlt, ρ4, s4, env4, (a2.trans y1).trans (a3.trans a4), S4, e4, RP.aftF g5 (a3.trans a4)⟩
    cases fl with
    | nx env4 => exact step env4 (by rw [← hf]; exact g4)
    | ct env4 => exact step env4 (by rw [← hf]; exact g4)
    | bk env4 => exact PostF.after (fl := .nx env4) g4 a3
    | rt d => exact PostF.after (fl := .rt d) g4 a3
  · left
    have ei : i = p.1.length := by omega
    subst ei
    rw [List.drop_length] at g
    exact ⟨F3, g σ' H' ρ2 .refl S2 e2⟩
theorem z_for {t : Tg} {it : It} {ptg pit : Expr} (hp : PassesOwn (model X.prog X.w) X.A X.env X.xe) (hc : X.calm = true) (hi : PI X ptg pit (tWi X.K q it)) (hg : PG X ptg (tWg X.K q t)) (hb : PSs X pss (tSs X.K q ss)) (hs : ∀ x, foldedSetIterable pit X.env x = pure x) :
    PS X (.For ptg pit pss [] pos) (tS X.K q (.fr t it ss)) := (ps_for hp hc hi hg hb hs).w fun En σ H h => w_for h
theorem w_while {En : Ends} {σ H} (h : tS X.K q (.whl c ss) En σ H) : tWhile (tWT X.K q c) (tSs X.K q ss) En σ H := by
  obtain ⟨β, ρ, env, st, e, S, h⟩ := h
  simp only [ex] at h
  generalize hf : (fun (env : PL.Env) (st : Sto) => exs q.C q.G q.W ss env st) = f at h
  generalize hcc : (fun (env : PL.Env) (st : Sto) => (ev q.C q.G c env st).bind fun x s1 => tru x s1) = cc at h
  refine ⟨fun m σ' H' => ∃ ρ2 st2 env2, RS X.K q.fa β ρ2 st2 H' ∧ RE X.K q.fa β ρ2 env2 st2 σ' H' ∧
    RP (whlL cc f m env2 st2) (PostF X.K q.fa β ρ2 st2 H' En) (PostX X.K q β ρ2 st2 H'), ⟨_, ρ, st, env, S, e, h⟩, ?_⟩
  rintro m σ' H' ⟨ρ2, st2, env2, S2, e2, g⟩
  cases m with
  | zero => exact g.elim
  | succ m =>
    simp only [whlL] at g
    have g2 : RP (cc env2 st2) _ _ := g.bind
    rw [← hcc] at g2
    refine ⟨β, ρ2, env2, st2, e2, S2, g2.imp (fun k s3 g3 H3 ρ3 a3 S3 => ?_) fun _ _ _ g => g⟩
    cases k with
    | false =>
      rw [if_neg Bool.false_ne_true] at g3 ⊢
      exact g3 σ' H3 ρ3 a3 S3 (e2.stp a3)
    | true =>
      rw [if_pos rfl] at g3 ⊢
      have g4 : RP (f env2 s3) _ _ := g3.bind
      rw [← hf] at g4
      refine ⟨fun σ'' H'' => ∃ m', m' < m + 1 ∧ ∃ ρ2 st2 env2, RS X.K q.fa β ρ2 st2 H'' ∧ RE X.K q.fa β ρ2 env2 st2 σ'' H'' ∧
        RP (whlL cc f m' env2 st2) (PostF X.K q.fa β ρ2 st2 H'' En) (PostX X.K q β ρ2 st2 H''), fun _ _ z => z, β, ρ3, env2, s3, e2.stp a3, S3, g4.imp (fun fl s4 g5 => ?_) fun _ _ _ g => g.after a3⟩
      have step : ∀ env4, RP (whlL cc f m env4 s4) (PostF X.K q.fa β ρ2 st2 H' En) (PostX X.K q β ρ2 st2 H') → ∀ σ4 H4 ρ4, Stp ρ3 s3 H3 ρ4 s4 H4 → RS X.K q.fa β ρ4 s4 H4 → RE X.K q.fa β ρ4 env4 s4 σ4 H4 →
          ∃ m', m' < m + 1 ∧ ∃ ρ2 st2 env2, RS X.K q.fa β ρ2 st2 H4 ∧ RE X.K q.fa β ρ2 env2 st2 σ4 H4 ∧ RP (whlL cc f m' env2 st2) (PostF X.K q.fa β ρ2 st2 H4 En) (PostX X.K q β ρ2 st2 H4) := fun env4 g5 σ4 H4 ρ4 a4 S4 e4 =>
        ⟨m, Nat.lt_succ_self m, ρ4, s4, env4, S4, e4, RP.aftF g5 (a3.trans a4)⟩
      cases fl with
      | nx env4 => exact step env4 (by rw [← hf, ← hcc]; exact g5)
      | ct env4 => exact step env4 (by rw [← hf, ← hcc]; exact g5)
      | bk env4 => exact PostF.after (fl := .nx env4) g5 a3
      | rt d => exact PostF.after (fl := .rt d) g5 a3
theorem z_while (hp : PassesOwn (model X.prog X.w) X.A X.env X.xe) (hc : PT X pc (tWT X.K q c)) (hb : PSs X pss (tSs X.K q ss)) : PS X (.While pc pss [] pos) (tS X.K q (.whl c ss)) := (ps_while hp hc hb).w fun En σ H h => w_while h
end
end
end PL

set_option Elab.async false
set_option linter.all false
set_option maxRecDepth 100000
set_option maxHeartbeats 1000000
/-! New lists, ranges as values, keyword calls. -/
namespace PL
open PySem PySem.Spec PyProof.Rows L2
section
variable {X : Cx} {q : Qm} {a b c : E} {pa pb pc pe tg : Expr} {pos : Pos} {es : Es} {pes : List Expr} {fa : Nat → Addr}
/-- what is wanted of a new list -/
def PostN (K : PySem.W.Frag) (fa : Nat → Addr) (β ρ : List Addr) (st : Sto) (H : Hp) (ds : List D) (st' : Sto) (Q : VK) : Prop :=
  ∀ p vs H' ρ' b', Stp ρ st H ρ' st' H' → b' = p :: β → RS K fa b' ρ' st' H' → RDs K fa H' (Mu ρ' st') b' ρ' st'.length ds vs → H' p = some (.lst vs) → H p = none → Q (.ref p) H'
theorem PostN.lay {K : PySem.W.Frag} {fa : Nat → Addr} {β ρ ρ1 : List Addr} {st s1 : Sto} {H H1 : Hp} {ds : List D} {vs : List V} {p : Addr} {Q : VK} (h : PostN K fa β ρ st H ds s1 Q) (S : RS K fa β ρ st H) (a1 : Stp ρ st H ρ1 s1 H1) (S1 : RS K fa β ρ1 s1 H1)
    (r1 : RDs K fa H1 (Mu ρ1 s1) β ρ1 s1.length ds vs) (hp : H1 p = none) : Q (.ref p) (upd H1 p (.lst vs)) := by
  have B := S1.busyNew (o := .lst vs) hp
  exact h p vs _ ρ1 _ (a1.trans (S1.lay hp).2) rfl B.1 (r1.mono (S1.lay hp).2.keep (fun _ _ x => x) B.2 (Nat.le_refl _)) upd_same (none_back S a1 S1 hp)
theorem evF_ok {e : E} {env : PL.Env} {st : Sto} {P : List D → Sto → Prop} {Xx : Nat → D → Sto → Prop} (h : RP (evF q.C q.G e env st) P Xx) : RP (ev q.C q.G e env st) (fun d s => ∃ ds, d = .frz ds ∧ P ds s) Xx := by
  unfold evF at h
  exact h.bind.imp (fun d s g => by
    cases d with
    | frz ds => exact ⟨ds, rfl, g⟩
    | _ => exact g.elim) fun _ _ _ g => g
theorem f_list (h : PA X pes (tWs X.K q es)) : PE X (.List pes pos) (tNew X.K q (evF q.C q.G (.list es))) :=
  (pe_lst h).w fun σ H Q ⟨β, ρ, env, st, e, S, h⟩ => by
    have h := evF_ok h
    simp only [ev] at h
    refine ⟨β, ρ, env, st, e, S, h.bind.imp (fun ds s1 h1 vs H1 ρ1 a1 S1 r1 => ?_) fun _ _ _ g => g⟩
    split at h1
    · rename_i c
      obtain ⟨ds', e1, h2⟩ := h1
      cases e1
      exact ⟨by rw [← r1.length]; exact szOk_le c, fun p hp => PostN.lay h2 S a1 S1 r1 hp⟩
    · exact h1.elim
/-! operators -/
def rBopF (K : PySem.W.Frag) (fa : Nat → Addr) (o : Op) : R2 := fun x y H Q => ∃ β ρ st dx dy ds, RS K fa β ρ st H ∧ RD K fa H (Mu ρ st) β ρ st.length dx x ∧ RD K fa H (Mu ρ st) β ρ st.length dy y ∧ bop st o dx dy = some (.frz ds) ∧
  ∀ vs p, RDs K fa H (Mu ρ st) β ρ st.length ds vs → H p = none → Q (.ref p) (upd H p (.lst vs))
theorem op_bopF (o : Op) : OpR X (binaryOp (opOf o)) (rBopF X.K fa o) := by
  intro pins s σ H x y v u Q I rx ry h
  obtain ⟨β, ρ, st, dx, dy, ds, S, ra, rb, hd, q⟩ := h
  have cat : ∀ {xs ys : List D}, lv st dx = some xs → lv st dy = some ys → (∀ ds, dx ≠ .scr ds) → (∀ ds, dy ≠ .scr ds) → szOk (xs.length + ys.length) = true → ds = xs ++ ys → wpAny (model X.prog X.w) X.A (binaryOp .Add v u) (EP X pins σ Q) X.xe s := fun ha hb na nb hz e => by
    obtain ⟨p1, vs, rfl, h1, r1⟩ := rd_lh S ra ha na
    obtain ⟨p2, ws, rfl, h2, r2⟩ := rd_lh S rb hb nb
    subst e
    exact op_cat pins s σ H _ _ v u Q I rx ry ⟨p1, p2, vs, ws, rfl, rfl, h1, h2, by rw [← r1.length, ← r2.length]; exact szOk_le hz, fun p hp => q _ p (r1.append r2) hp⟩
  have rp : ∀ {xs : List D} {k : Int}, dy = .int k → lv st dx = some xs → (∀ ds, dx ≠ .scr ds) → rep xs k = some (.frz ds) → wpAny (model X.prog X.w) X.A (binaryOp .Mult v u) (EP X pins σ Q) X.xe s := fun ey ha na hr => by
    obtain ⟨p1, vs, rfl, h1, r1⟩ := rd_lh S ra ha na
    subst ey
    cases rb
    unfold rep at hr
    split at hr
    · rename_i c
      simp only [Bool.and_eq_true, decide_eq_true_eq] at c
      cases hr
      exact op_rep pins s σ H _ _ v u Q I rx ry ⟨p1, _, vs, rfl, rfl, h1, c.1, c.2.1, by rw [← r1.length]; exact szOk_le c.2.2, fun p hp => q _ p (r1.rep _) hp⟩
    · cases hr
  unfold bop at hd
  split at hd
  · obtain ⟨k, hk, e⟩ := Option.map_eq_some_iff.mp hd
    cases e
  · split at hd
    · split at hd
      · cases hd
      · cases hd
    · cases hd
  · split at hd
    · split at hd
      · cases hd
      · cases hd
    · cases hd
  · split at hd
    · split at hd
      · cases hd
        exact cat rfl rfl (by intro ds z; cases z) (by intro ds z; cases z) (by assumption) rfl
      · cases hd
    · cases hd
  · split at hd
    · split at hd
      · cases hd
        exact cat rfl (by assumption) (by intro ds z; cases z) (by intro ds z; cases z) (by assumption) rfl
      · cases hd
    · cases hd
  · split at hd
    · split at hd
      · cases hd
        exact cat (by assumption) rfl (by intro ds z; cases z) (by intro ds z; cases z) (by assumption) rfl
      · cases hd
    · cases hd
  · split at hd
    · split at hd
      · cases hd
        exact cat (by assumption) (by assumption) (by intro ds z; cases z) (by intro ds z; cases z) (by assumption) rfl
      · cases hd
    · cases hd
  · split at hd
    · exact rp rfl rfl (by intro ds z; cases z) hd
    · cases hd
  · split at hd
    · exact rp rfl (by assumption) (by intro ds z; cases z) hd
    · cases hd
  · cases hd
theorem f_bin (o : Op) (ha : PE X pa (tW X.K q a)) (hb : PE X pb (tW X.K q b)) : PE X (.BinOp pa (opOf o) pb pos) (tNew X.K q (evF q.C q.G (.bin o a b))) :=
  (pe_op (op_bopF (fa := q.fa) o) ha hb).w fun σ H Q ⟨β, ρ, env, st, e, S, h⟩ => by
    have h := evF_ok h
    simp only [ev] at h
    refine ⟨β, ρ, env, st, e, S, h.bind.imp (fun x s1 h1 v1 H1 ρ1 a1 S1 r1 => ?_) fun _ _ _ g => g⟩
    refine ⟨β, ρ1, env, s1, e.stp a1, S1, (h1.bind.aftX a1).imp (fun y s2 h2 v2 H2 ρ2 a2 S2 r2 => ?_) fun _ _ _ g => g⟩
    obtain ⟨d, h3, ds, h4, h5⟩ := h2.oD
    subst h4
    exact ⟨β, ρ2, s2, x, y, ds, S2, r1.stp a2, r2, h3, fun vs p rs hp => PostN.lay h5 S (a1.trans a2) S2 rs hp⟩
/-! list(..), sorted(..) -/
def rBlF (K : PySem.W.Frag) (fa : Nat → Addr) (b : Bl) : List V → Hp → VK → Prop := fun vs H Q => ∃ β ρ st ds es, RS K fa β ρ st H ∧ RDs K fa H (Mu ρ st) β ρ st.length ds vs ∧ bcall st b ds = some (.frz es) ∧
  ∀ vs p, RDs K fa H (Mu ρ st) β ρ st.length es vs → H p = none → Q (.ref p) (upd H p (.lst vs))
theorem call_blF (hc : X.calm = true) (b : Bl) : CallR X (blV b) (rBlF X.K fa b) := by
  intro pins s σ H xs us Q I r h
  obtain ⟨β, ρ, st, ds, d, S, rs, hd, q⟩ := h
  unfold bcall at hd
  split at hd
  case h_11 =>
    obtain ⟨es, he, e⟩ := Option.map_eq_some_iff.mp hd
    cases e
  case h_12 =>
    obtain ⟨es, he, e⟩ := Option.map_eq_some_iff.mp hd
    cases e
    cases rs with
    | cons r1 r2 =>
      cases r2
      obtain ⟨a, vs, rfl, hq, hr⟩ := rd_sv S r1 he
      exact call_list_of pins s σ H _ us Q I r ⟨a, vs, rfl, hq, fun p hp => q _ p hr hp⟩
  case h_13 =>
    obtain ⟨ns, hk, hd⟩ := Option.bind_eq_some_iff.mp hd
    obtain ⟨es, he, hi⟩ := Option.bind_eq_some_iff.mp hk
    split at hd
    · rename_i c
      cases hd
      cases rs with
      | cons r1 r2 =>
        cases r2
        obtain ⟨a, vs, rfl, hq, hr⟩ := rd_lv S r1 he
        have e := hr.ints hi
        subst e
        refine cr_sorted pins s σ H _ us Q I r ⟨a, ns, rfl, hq, by simpa using c, fun ns' p h1 h2 hp => ?_⟩
        rw [sorted_eq ns ns' h1 h2]
        exact q _ p (rds_ints _) hp
    · cases hd
  all_goals first
    | cases hd
    | (split at hd <;> cases hd)
    | (obtain ⟨es, he, e⟩ := Option.map_eq_some_iff.mp hd; cases e)
theorem f_blB {i : String} {x : Str} {p : Pos} {bl : Bl} (hc : X.calm = true) (hi : blV bl = .builtin i) (hg : Gl X x) (hm : X.mg x = none) (hv : bootBuiltins x = some (.builtin i)) (hn : x ≠ "__name__") (hdb : (x == ("__debug__" : Str)) = false)
    (ha : PA X (pe :: pes) (tWs X.K q es)) (he : starEach (pe :: pes) X.env = (false, eval pe X.env) :: starEach pes X.env) (hpl : (backTo pos (starEach pes X.env)).any (·.1) = false) : PE X (.Call (.Name x p) (pe :: pes) [] pos) (tNew X.K q (evF q.C q.G (.blt bl es))) :=
  (pe_callB (r := rBlF X.K q.fa bl) (hi ▸ call_blF hc bl) hg hm hv ha hn hdb he hpl).w fun σ H Q ⟨β, ρ, env, st, e, S, h⟩ => by
    have h := evF_ok h
    simp only [ev] at h
    refine ⟨β, ρ, env, st, e, S, h.bind.imp (fun ds s1 h1 vs H1 ρ1 a1 S1 r1 => ?_) fun _ _ _ g => g⟩
    obtain ⟨d, h4, fs, h5, h6⟩ := h1.oD
    subst h5
    exact ⟨β, ρ1, s1, ds, fs, S1, r1, h4, fun vs p rs hp => PostN.lay h6 S a1 S1 rs hp⟩
theorem f_blT {i : String} {x : Str} {p : Pos} {bl : Bl} (hc : X.calm = true) (hi : blV bl = .type i) (hg : Gl X x) (hm : X.mg x = none) (hv : bootBuiltins x = some (.type i)) (hn : x ≠ "__name__") (hdb : (x == ("__debug__" : Str)) = false)
    (ha : PA X (pe :: pes) (tWs X.K q es)) (he : starEach (pe :: pes) X.env = (false, eval pe X.env) :: starEach pes X.env) (hpl : (backTo pos (starEach pes X.env)).any (·.1) = false) : PE X (.Call (.Name x p) (pe :: pes) [] pos) (tNew X.K q (evF q.C q.G (.blt bl es))) :=
  (pe_callTy (r := rBlF X.K q.fa bl) (hi ▸ call_blF hc bl) hg hm hv ha hn hdb he hpl).w fun σ H Q ⟨β, ρ, env, st, e, S, h⟩ => by
    have h := evF_ok h
    simp only [ev] at h
    refine ⟨β, ρ, env, st, e, S, h.bind.imp (fun ds s1 h1 vs H1 ρ1 a1 S1 r1 => ?_) fun _ _ _ g => g⟩
    obtain ⟨d, h4, fs, h5, h6⟩ := h1.oD
    subst h5
    exact ⟨β, ρ1, s1, ds, fs, S1, r1, h4, fun vs p rs hp => PostN.lay h6 S a1 S1 rs hp⟩
/-! list(range(..)), tuple(range(..)) -/
theorem rgV_rd {K : PySem.W.Frag} {H : Hp} {m : Addr → Prop} {β ρ : List Addr} {n : Nat} (i j : Int) : RDs K fa H m β ρ n (rngD i (j - i).toNat) (rgV i j) := by
  unfold rngD rgV
  generalize List.range (j - i).toNat = l
  induction l with
  | nil => exact .nil
  | cons k r ih => exact .cons (.int _) ih
theorem rg_ok {i j : Int} (h : (rngOk i && (rngOk j && szOk (j - i).toNat)) = true) : RgOk i j := by
  simp only [Bool.and_eq_true] at h
  exact ⟨(rng_ok h.1).1, (rng_ok h.1).2, (rng_ok h.2.1).1, (rng_ok h.2.1).2, Nat.le_of_ble_eq_true h.2.2⟩
/-- a range as an argument -/
def tRgW (K : PySem.W.Frag) (q : Qm) (lo : Oe) (b : E) : L2.St → Hp → (Int → Int → Hp → Prop) → Prop := fun σ H Q => ∃ β ρ env st, RE K q.fa β ρ env st σ H ∧ RS K q.fa β ρ st H ∧
  RP ((evo q.C q.G lo env st).bind fun l s1 => (ev q.C q.G b env s1).bind fun y s2 => (toI y s2).bind fun j s3 => R.ok (l.getD 0, j) s3) (fun p st' => ∀ H' ρ', Stp ρ st H ρ' st' H' → RS K q.fa β ρ' st' H' → Q p.1 p.2 H') (PostX K q β ρ st H)
theorem r_one {p : Pos} (hg : Gl X "range") (hm : X.mg "range" = none) (hb : PE X pb (tW X.K q b)) (na : starEach [pb] X.env = (false, eval pb X.env) :: starEach [] X.env) : PRg X (.Call (.Name "range" p) [pb] [] pos) (tRgW X.K q .none b) := fun pins s σ H Q I h => by
  refine prg_1 hg hm hb na pins s σ H Q I ?_
  obtain ⟨β, ρ, env, st, e, S, h⟩ := h
  simp only [evo] at h
  have h : RP ((ev q.C q.G b env st).bind fun y s2 => (toI y s2).bind fun j s3 => R.ok ((none : Option Int).getD 0, j) s3) _ _ := h
  refine ⟨β, ρ, env, st, e, S, h.bind.imp (fun x s1 h1 v1 H1 ρ1 a1 S1 r1 => ?_) fun _ _ _ g => g⟩
  obtain ⟨j, rfl, h2⟩ := h1.bind.toI
  exact ⟨j, rd_int r1, h2 H1 ρ1 a1 S1⟩
theorem r_two {p : Pos} (hg : Gl X "range") (hm : X.mg "range" = none) (ha : PE X pa (tW X.K q a)) (hb : PE X pb (tW X.K q b)) (na : starEach [pa, pb] X.env = (false, eval pa X.env) :: starEach [pb] X.env) (nb : starEach [pb] X.env = (false, eval pb X.env) :: starEach [] X.env)
    (hp : (backTo pos (starEach [pb] X.env)).any (·.1) = false) : PRg X (.Call (.Name "range" p) [pa, pb] [] pos) (tRgW X.K q (.some a) b) := fun pins s σ H Q I h => by
  refine prg_2 hg hm ha hb na nb hp pins s σ H Q I ?_
  obtain ⟨β, ρ, env, st, e, S, h⟩ := h
  simp only [evo] at h
  rw [R.assoc] at h
  refine ⟨β, ρ, env, st, e, S, h.bind.imp (fun x s1 h1 v1 H1 ρ1 a1 S1 r1 => ?_) fun _ _ _ g => g⟩
  rw [R.assoc] at h1
  obtain ⟨i, rfl, h2⟩ := h1.bind.toI
  have h2 : RP ((ev q.C q.G b env s1).bind fun y s2 => (toI y s2).bind fun j s3 => R.ok ((some i).getD 0, j) s3) _ _ := h2
  refine ⟨β, ρ1, env, s1, e.stp a1, S1, (h2.bind.aftX a1).imp (fun y s2 h3 v2 H2 ρ2 a2 S2 r2 => ?_) fun _ _ _ g => g⟩
  obtain ⟨j, rfl, h4⟩ := h3.bind.toI
  exact ⟨i, j, rd_int r1, rd_int r2, h4 H2 ρ2 (a1.trans a2) S2⟩
theorem rgv_split {tp : Bool} {lo : Oe} {env : PL.Env} {st : Sto} {P : D → Sto → Prop} {Xx : Nat → D → Sto → Prop} (h : RP (ev q.C q.G (.rgv tp lo b) env st) P Xx) :
    RP ((evo q.C q.G lo env st).bind fun l s1 => (ev q.C q.G b env s1).bind fun y s2 => (toI y s2).bind fun j s3 => R.ok (l.getD 0, j) s3) (fun p s => RgOk p.1 p.2 ∧ P (if tp then .tup (rngD p.1 (p.2 - p.1).toNat) else .frz (rngD p.1 (p.2 - p.1).toNat)) s) Xx := by
  simp only [ev] at h
  cases hl : evo q.C q.G lo env st with
  | bad => rw [hl] at h; exact h.elim
  | exn c d s1 => rw [hl] at h; exact h
  | ok l s1 =>
    rw [hl] at h
    show RP ((ev q.C q.G b env s1).bind fun y s2 => (toI y s2).bind fun j s3 => R.ok (l.getD 0, j) s3) _ _
    have h : RP ((ev q.C q.G b env s1).bind fun y s2 => _) P Xx := h
    cases hv : ev q.C q.G b env s1 with
    | bad => rw [hv] at h; exact h.elim
    | exn c d s2 => rw [hv] at h; exact h
    | ok y s2 =>
      rw [hv] at h
      have h : RP ((toI y s2).bind fun j s3 => _) P Xx := h
      obtain ⟨j, rfl, h2⟩ := h.bind.toI
      split at h2
      · rename_i ok
        exact ⟨rg_ok ok, h2⟩
      · exact h2.elim
theorem s_lrg {p : Pos} {lo : Oe} {pr : Expr} (hc : X.calm = true) (hg : Gl X "list") (hm : X.mg "list" = none) (hr : PRg X pr (tRgW X.K q lo b)) (na : starEach [pr] X.env = (false, eval pr X.env) :: starEach [] X.env) :
    PE X (.Call (.Name "list" p) [pr] [] pos) (tW X.K q (.rgv false lo b)) ∧ PE X (.Call (.Name "list" p) [pr] [] pos) (tNew X.K q (evF q.C q.G (.rgv false lo b))) := by
  refine ⟨(pe_listRg hc hg hm hr na).w fun σ H Q ⟨β, ρ, env, st, e, S, h⟩ => ?_, (pe_listRg hc hg hm hr na).w fun σ H Q ⟨β, ρ, env, st, e, S, h⟩ => ?_⟩
  · refine ⟨β, ρ, env, st, e, S, (rgv_split h).imp (fun p s1 ⟨ok, g⟩ H1 ρ1 a1 S1 => ⟨ok, fun x hx => ?_⟩) fun _ _ _ g => g⟩
    exact (Post.after g a1).frz S1 (rgV_rd _ _) hx
  · refine ⟨β, ρ, env, st, e, S, (rgv_split (evF_ok h)).imp (fun p s1 ⟨ok, ds, g0, g⟩ H1 ρ1 a1 S1 => ⟨ok, fun x hx => ?_⟩) fun _ _ _ g => g⟩
    cases g0
    exact PostN.lay g S a1 S1 (rgV_rd _ _) hx
theorem s_trg {p : Pos} {lo : Oe} {pr : Expr} (hc : X.calm = true) (hg : Gl X "tuple") (hm : X.mg "tuple" = none) (hr : PRg X pr (tRgW X.K q lo b)) (na : starEach [pr] X.env = (false, eval pr X.env) :: starEach [] X.env) :
    PE X (.Call (.Name "tuple" p) [pr] [] pos) (tW X.K q (.rgv true lo b)) := (pe_tupRg hc hg hm hr na).w fun σ H Q ⟨β, ρ, env, st, e, S, h⟩ => by
  refine ⟨β, ρ, env, st, e, S, (rgv_split h).imp (fun p s1 ⟨ok, g⟩ H1 ρ1 a1 S1 => ⟨ok, fun x hx => ?_⟩) fun _ _ _ g => g⟩
  exact (Post.after g a1).tup S1 (rgV_rd _ _) hx
/-! a list that is no longer changed -/
theorem s_frz (ha : PE X pa (tW X.K q a)) : PE X pa (tW X.K q (.frz a)) := ha.w fun σ H Q ⟨β, ρ, env, st, e, S, h⟩ => by
  simp only [ev] at h
  refine ⟨β, ρ, env, st, e, S, h.bind.imp (fun x s1 h1 v1 H1 ρ1 a1 S1 r1 => ?_) fun _ _ _ g => g⟩
  cases x with
  | frz ds => exact h1 v1 H1 ρ1 a1 S1 r1
  | lst i =>
    simp only [frzD] at h1
    split at h1
    · rename_i ds hi
      obtain ⟨S2, a2⟩ := S1.freeze hi
      cases r1 with
      | @lst _ p g1 g2 =>
        obtain ⟨a', vs, e1, e2, e3⟩ := rs_at S1 hi
        rw [g2] at e1
        cases e1
        refine h1 _ H1 ρ1 (a1.trans a2) S2 (.frz e2 (fun ⟨j, o, f1, f2, f3⟩ => ?_) (fun z => ?_) (e3.stp a2))
        · have := S1.nd i j p g2 f1
          subst this
          rw [List.getElem?_set_self (its_get hi)] at f2
          cases f2
          cases f3
        · exact (S1.busy p z).2 (List.mem_iff_getElem?.mpr ⟨i, g2⟩)
    · exact h1.elim
  | _ => exact h1.elim
/-! keyword calls -/
theorem pe_callN0 {CX : CXT} {k : Nat} {f : Addr} {fd : FuncData} {ps ks : List Str} {sp : Sp} {E : XK} {x : Str} {p : Pos} {kws : List Keyword} {tk : TA} {g : List Value → List Value → List Value} {gV : List V → List V → List V} (F : FnOk X.prog X.w X.K X.mg X.base CX k f fd ps sp) (hr : Room k X.A) (hg : Gl X x) (hm : X.mg x = some (.ref f)) (hk : PySem.W.keepIn X.K (.ref f) = true) (hb : KBn X.K fd ps 0 ks g gV) (hx : Passes CX X E)
    (hkw : PK X kws tk) (hall : (backToKw pos (keywordEach kws X.env)).all (·.1.isSome) = true) (hks : (backToKw pos (keywordEach kws X.env)).filterMap (·.1) = ks)
    (hdb : (x == ("__debug__" : Str)) = false) (hpl : ((backTo pos (starEach [] X.env)).any (·.1) || (backToKw pos (keywordEach kws X.env)).any (·.1.isNone)) = false) :
    PE X (.Call (.Name x p) [] kws pos) (tCallN 0 ks.length sp gV E (fun σ H Q => Q [] H) tk) := by
  refine ⟨fun pins s σ H Q I h => ?_⟩
  refine wpAny_Call_Name_kw (ld_glob I hg hm ?_ hdb)
  refine PySem.W.callWith_KW0 (h₀ := X.base) I.ok.mod.kin hk hall ?_ hpl
  refine thn (hkw.run pos pins s σ H _ I h) fun ws s2 ⟨zs, H2, I2, rz, l1, l2, q2⟩ => ⟨I2.kIn, ?_⟩
  rw [hks]
  exact run_fnN (us := []) (vs := []) F hr hb hx I2 .nil rz l1 l2 q2
def esLen : Es → Nat
  | .nil => 0
  | .cons _ es => esLen es + 1
theorem evs_length {C : Nat → List D → Sto → R D} {G : Nat → D} : ∀ (es : Es) {env : PL.Env} {st : Sto}, RP (evs C G es env st) (fun ds _ => ds.length = esLen es) (fun _ _ _ => True) ∨ evs C G es env st = .bad
  | .nil, _, _ => .inl rfl
  | .cons e es, env, st => by
    simp only [evs]
    cases hv : ev C G e env st with
    | ok x s1 =>
      show RP ((evs C G es env s1).bind fun xs s2 => R.ok (x :: xs) s2) _ _ ∨ ((evs C G es env s1).bind fun xs s2 => R.ok (x :: xs) s2) = .bad
      have q := evs_length (C := C) (G := G) es (env := env) (st := s1)
      cases hw : evs C G es env s1 with
      | ok xs s2 =>
        rw [hw] at q
        left
        have q2 : xs.length = esLen es := q.elim id fun z => nomatch z
        show xs.length + 1 = esLen es + 1
        rw [q2]
      | exn c d s2 => exact .inl trivial
      | bad => exact .inr rfl
    | exn c d s1 => exact .inl trivial
    | bad => exact .inr rfl
theorem s_callk {CX : CXT} {k f np : Nat} {fd : FuncData} {ps ks : List Str} {x : Str} {p : Pos} {pm : List Nat} {kes : Es} {kws : List Keyword} (hlen : ∀ ds st, RP (q.C f ds st) (fun _ _ => True) (fun _ _ _ => True) → ds.length = np) (F : FnOk X.prog X.w X.K X.mg X.base CX k (q.fa f) fd ps (spC X.K q q.C f np)) (hr : Room k X.A) (hg : Gl X x) (hm : X.mg x = some (.ref (q.fa f)))
    (hk : PySem.W.keepIn X.K (.ref (q.fa f)) = true) (hb : KBn X.K fd ps (esLen es) ks (gK Value.none pm) (gK V.non pm)) (hx : Passes CX X q.XE) (hdb : (x == ("__debug__" : Str)) = false) (hn : esLen kes = ks.length)
    (ha : PA X pes (tWs X.K q es)) (hkw : PK X kws (tWs X.K q kes)) (he : ∀ pe r, pes = pe :: r → starEach (pe :: r) X.env = (false, eval pe X.env) :: starEach r X.env) (hall : (backToKw pos (keywordEach kws X.env)).all (·.1.isSome) = true) (hks : (backToKw pos (keywordEach kws X.env)).filterMap (·.1) = ks)
    (hpl : ((backTo pos (starEach pes X.env)).any (·.1) || (backToKw pos (keywordEach kws X.env)).any (·.1.isNone)) = false) (hes : pes = [] → es = .nil) : PE X (.Call (.Name x p) pes kws pos) (tW X.K q (.callk f es kes pm)) := by
  have key : ∀ σ H Q, tW X.K q (.callk f es kes pm) σ H Q → tCallN (esLen es) ks.length (spC X.K q q.C f np) (gK V.non pm) q.XE (tWs X.K q es) (tWs X.K q kes) σ H Q := fun σ H Q h =>
    w_callk hlen (fun env st => evs_length es) (fun env st => hn ▸ evs_length kes) h
  cases pes with
  | cons pe r => exact (pe_callN F hr hg hm hk hb hx ha hkw hall hks hdb (he pe r rfl) hpl).w key
  | nil =>
    have := hes rfl
    subst this
    refine (pe_callN0 F hr hg hm hk hb hx hkw hall hks hdb hpl).w fun σ H Q h => ?_
    obtain ⟨β, ρ, env, st, e, S, h⟩ := key σ H Q h
    simp only [evs] at h
    exact h [] H ρ .refl S .nil
theorem z_nev {ps : Stmt} : PS X ps (tS X.K q .nev) := ⟨fun pins s σ H En I ⟨β, ρ, env, st, e, S, h⟩ => by
  simp only [ex] at h
  exact h.elim⟩
end
end PL

set_option Elab.async false
set_option linter.all false
set_option maxRecDepth 100000
set_option maxHeartbeats 1000000
/-! The check: an own term is the program's term (positions aside). -/
namespace PL
open PySem PySem.Spec PyProof.Rows L2
/-- names: the defs (number, how many parameters), the constants, the keyword calls (def, positional, names, order) -/
structure Ck where
  fns : List (Str × Nat × Nat)
  gls : List (Str × Nat)
  kws : List (Nat × Nat × List Str × List Nat)
def visB (sc : Scope) (x : Str) : Bool := match sc.names.lookup x with
  | some .local => true
  | some .cell => true
  | some .free => true
  | _ => false
def locB (sc : Scope) (x : Str) : Bool := match sc.names.lookup x with
  | some .local => true
  | some .cell => true
  | _ => false
def lclB (sc : Scope) (x : Str) : Bool := match sc.names.lookup x with
  | some .local => true
  | _ => false
def glB (sc : Scope) (x : Str) : Bool := match sc.names.lookup x with
  | some .globalImplicit => true
  | _ => false
def okN (x : Str) : Bool := !(x == ("__debug__" : Str)) && !(x == ("__classdict__" : Str)) && !(x == ("__name__" : Str))
def isStar : Expr → Bool
  | .Starred _ _ => true
  | _ => false
def isSet : Expr → Bool
  | .Set _ _ _ => true
  | _ => false
def isSl : Expr → Bool
  | .Slice _ _ _ _ => true
  | _ => false
/-- x(), which might be super() -/
def isCall : Expr → Bool
  | .Call (.Name _ _) [] [] _ => true
  | _ => false
def isLc : Expr → Bool
  | .ListComp _ _ _ _ => true
  | .SetComp _ _ _ _ => true
  | .DictComp _ _ _ _ _ => true
  | _ => false
def isSD : Expr → Bool
  | .SetComp _ _ _ _ => true
  | .DictComp _ _ _ _ _ => true
  | _ => false
def isTup : Expr → Bool
  | .Tuple _ _ _ => true
  | .List _ _ => true
  | _ => false
def blN : Bl → Str
  | .len => "len" | .sum => "sum" | .all => "all" | .any => "any" | .int => "int" | .abs => "abs" | .min2 => "min" | .max2 => "max"
  | .divmod => "divmod" | .tuple => "tuple" | .list => "list" | .sorted => "sorted"
def tyS : Ty → Str
  | .int => "int" | .str => "str" | .bool => "bool" | .list => "list" | .tuple => "tuple"
def blNames : List Str := ["len", "sum", "all", "any", "int", "abs", "min", "max", "divmod", "tuple", "list", "sorted", "isinstance", "str", "bool", "range", "enumerate", "zip"]
/-- the term can be read as a test -/
def canT : E → Bool
  | .ife _ _ _ => false
  | .thaw _ => false
  | .frz _ => false
  | _ => true
/-- the term makes a new list -/
def isFr : E → Bool
  | .list _ => true
  | .bin _ _ _ => true
  | .blt .list _ => true
  | .blt .sorted _ => true
  | .comp _ _ _ _ _ => true
  | .rgv false _ _ => true
  | _ => false
def fnI (c : Ck) (x : Str) (k : Nat) : Bool := match c.fns.lookup x with
  | some p => decide (p.1 = k)
  | none => false
theorem fnI_of {c : Ck} {x : Str} {k : Nat} (h : fnI c x k = true) : ∃ np, c.fns.lookup x = some (k, np) := by
  unfold fnI at h
  split at h
  · rename_i p e
    have := of_decide_eq_true h
    exact ⟨p.2, by rw [e, ← this]⟩
  · cases h
/-- the block's scope, seen from around -/
def relS (s2 sc : Scope) : Scope := { s2 with names := s2.names.map fun (n, k) => if (k == NameKind.free && sc.kind == .function && sc.names.lookup n == some .cell) then (n, NameKind.cell) else (n, k) }
def celB (sc : Scope) (x : Str) : Bool := match sc.names.lookup x with
  | some .cell => true
  | _ => false
section
variable (c : Ck) (N : List Str)
def ownN (own : List Nat) : List (Str × Nat) := own.map fun i => (N.getD i ⟨#[]⟩, i)
mutual
def kE : E → Scope → Expr → Bool
  | .non, sc, pe => (match pe with | .Constant .none _ _ => true | _ => false)
  | .bl b, sc, pe => (match pe with | .Constant (.bool v) _ _ => v == b | _ => false)
  | .int i, sc, pe => (match pe with | .Constant (.int j) _ _ => decide (i = j) | _ => false)
  | .str s, sc, pe => (match pe with | .Constant (.str x) _ _ => decide (x.cps.toList = s) | _ => false)
  | .var i, sc, pe => (match pe with | .Name x _ => decide (N[i]? = some x) && visB sc x && okN x | _ => false)
  | .glb k, sc, pe => (match pe with | .Name x _ => glB sc x && decide (c.gls.lookup x = some k) && okN x | _ => false)
  | .fnv k, sc, pe => (match pe with | .Name x _ => glB sc x && fnI c x k && okN x | _ => false)
  | .bin o a b, sc, pe => (match pe with | .BinOp pa op pb _ => decide (op = opOf o) && kE a sc pa && kE b sc pb | _ => false)
  | .neg a, sc, pe => (match pe with | .UnaryOp .USub pa _ => kE a sc pa | _ => false)
  | .not a, sc, pe => (match pe with | .UnaryOp .Not pa _ => canT a && kE a sc pa | _ => false)
  | .and a b, sc, pe => (match pe with
    | .BoolOp .And [pa, pb] _ => canT a && canT b && kE a sc pa && kE b sc pb
    | .BoolOp .And (pa :: pb :: pc :: r) p => canT a && canT b && kE a sc pa && kE b sc (.BoolOp .And (pb :: pc :: r) p)
    | _ => false)
  | .or a b, sc, pe => (match pe with
    | .BoolOp .Or [pa, pb] _ => canT a && canT b && kE a sc pa && kE b sc pb
    | .BoolOp .Or (pa :: pb :: pc :: r) p => canT a && canT b && kE a sc pa && kE b sc (.BoolOp .Or (pb :: pc :: r) p)
    | _ => false)
  | .cmp o a b, sc, pe => (match pe with | .Compare pa [op] [pb] _ => decide (op = cmOf o) && !isSet pb && kE a sc pa && kE b sc pb | _ => false)
  | .chn o p a b d, sc, pe => (match pe with | .Compare pa [op, oq] [pb, pc] _ => decide (op = cmOf o) && decide (oq = cmOf p) && !isSet pc && kE a sc pa && kE b sc pb && kE d sc pc | _ => false)
  | .ife d a b, sc, pe => (match pe with | .IfExp pc pa pb _ => canT d && kE d sc pc && kE a sc pa && kE b sc pb | _ => false)
  | .call f as, sc, pe => (match pe with | .Call (.Name x _) pes [] _ => glB sc x && okN x && decide (c.fns.lookup x = some (f, esLen as)) && kEs as sc pes | _ => false)
  | .callk f as ks pm, sc, pe => (match pe with
    | .Call (.Name x _) pes kws _ => glB sc x && okN x && fnI c x f && decide ((f, esLen as, kws.filterMap (·.arg), pm) ∈ c.kws) && kEs as sc pes && kKs ks sc kws
    | _ => false)
  | .callv i as, sc, pe => (match pe with | .Call (.Name x _) pes [] _ => decide (N[i]? = some x) && visB sc x && okN x && !pes.isEmpty && kEs as sc pes | _ => false)
  | .blt b as, sc, pe => (match pe with | .Call (.Name x _) pes [] _ => decide (x = blN b) && glB sc x && !pes.isEmpty && kEs as sc pes | _ => false)
  | .isi a t, sc, pe => (match pe with | .Call (.Name x _) [pa, .Name y _] [] _ => decide (x = "isinstance") && decide (y = tyS t) && glB sc x && glB sc y && !isStar pa && kE a sc pa | _ => false)
  | .mth m o as, sc, pe => (match pe with | .Call (.Attribute pa x apos) pes [] cpos => decide (x = mN m) && !isCall pa && (apos.endLine == cpos.line) && decide (pes.length < 20) && kE o sc pa && kEs as sc pes | _ => false)
  | .idx a b, sc, pe => (match pe with | .Subscript pa pb _ => !isSl pb && kE a sc pa && kE b sc pb | _ => false)
  | .slc a lo hi, sc, pe => (match pe with | .Subscript pa (.Slice plo phi none _) _ => kE a sc pa && kO lo sc plo && kO hi sc phi | _ => false)
  | .tup as, sc, pe => (match pe with | .Tuple pes _ _ => kEs as sc pes | _ => false)
  | .list as, sc, pe => (match pe with | .List pes _ => kEs as sc pes | _ => false)
  | .comp own elt tg it oc, sc, pe => (match pe with
    | .ListComp pelt [⟨ptg, pit, pifs, 0⟩] s2 _ => blkC N sc s2 (ownN N own) && (tgv tg).all (fun i => own.contains i) && !isSet pit && kI it sc ptg pit && kG tg s2 (relS s2 sc) ptg && kC oc (relS s2 sc) pifs && kE elt (relS s2 sc) pelt
    | _ => false)
  | .tidx as e, sc, pe => false
  | .thaw a, sc, pe => isFr a && kE a sc pe
  | .frz a, sc, pe => kE a sc pe
  | .rgv tp lo b, sc, pe => (match pe with
    | .Call (.Name x _) [.Call (.Name y _) pes [] _] [] _ => decide (x = if tp then "tuple" else "list") && glB sc x && decide (y = "range") && glB sc y && (match pes with
      | [pb] => (match lo with | .none => true | .some _ => false) && !isStar pb && kE b sc pb
      | [pa, pb] => !isStar pa && !isStar pb && kO lo sc (some pa) && kE b sc pb
      | _ => false)
    | _ => false)
def kEs : Es → Scope → List Expr → Bool
  | .nil, sc, pes => pes.isEmpty
  | .cons e es, sc, pes => (match pes with | pe :: r => !isStar pe && kE e sc pe && kEs es sc r | [] => false)
def kKs : Es → Scope → List Keyword → Bool
  | .nil, sc, kws => kws.isEmpty
  | .cons e es, sc, kws => (match kws with | ⟨some _, pe, _⟩ :: r => kE e sc pe && kKs es sc r | _ => false)
def kO : Oe → Scope → Option Expr → Bool
  | .none, sc, pe => pe.isNone
  | .some e, sc, pe => (match pe with | some pa => kE e sc pa | none => false)
def kC : Oe → Scope → List Expr → Bool
  | .none, sc, pes => pes.isEmpty
  | .some e, sc, pes => (match pes with | [pa] => canT e && kE e sc pa | _ => false)
def kI : It → Scope → Expr → Expr → Bool
  | .val e, sc, ptg, pit => kE e sc pit
  | .rng1 a, sc, ptg, pit => (match pit with | .Call (.Name x _) [pa] [] _ => decide (x = "range") && glB sc x && !isStar pa && kE a sc pa | _ => false)
  | .rng2 a b, sc, ptg, pit => (match pit with | .Call (.Name x _) [pa, pb] [] _ => decide (x = "range") && glB sc x && !isStar pa && !isStar pb && kE a sc pa && kE b sc pb | _ => false)
  | .rng3 a b k, sc, ptg, pit => (match pit with | .Call (.Name x _) [pa, pb, .UnaryOp .USub (.Constant (.int 1) _ _) _] [] _ => decide (k = -1) && decide (x = "range") && glB sc x && !isStar pa && !isStar pb && kE a sc pa && kE b sc pb | _ => false)
  | .enum a, sc, ptg, pit => (match pit with | .Call (.Name x _) [pa] [] _ => (match ptg with | .Tuple _ _ _ => true | _ => false) && decide (x = "enumerate") && glB sc x && !isStar pa && kE a sc pa | _ => false)
  | .zip a b, sc, ptg, pit => (match pit with | .Call (.Name x _) [pa, pb] [] _ => (match ptg with | .Tuple _ _ _ => true | _ => false) && decide (x = "zip") && glB sc x && !isStar pa && !isStar pb && kE a sc pa && kE b sc pb | _ => false)
def kG : Tg → Scope → Scope → Expr → Bool
  | .var i, fs, sc, pe => (match pe with | .Name x _ => decide (N[i]? = some x) && (lclB sc x || (celB sc x && celB fs x)) | _ => false)
  | .idx a b, fs, sc, pe => (match pe with | .Subscript pa pb _ => !isSl pb && kE a sc pa && kE b sc pb | _ => false)
  | .tup ts, fs, sc, pe => (match pe with | .Tuple pts _ _ => kGs ts fs sc pts | _ => false)
def kGs : Tgs → Scope → Scope → List Expr → Bool
  | .nil, fs, sc, pes => pes.isEmpty
  | .cons t ts, fs, sc, pes => (match pes with | pe :: r => !isStar pe && kG t fs sc pe && kGs ts fs sc r | [] => false)
end
/-- a comprehension stored at once under its name -/
def swB (sc : Scope) (pt pe : Expr) : Bool := match pt, pe with
  | .Name t p, .ListComp _ _ s2 p2 => lclB sc t && (p.line == p2.line) && !(s2.names.any fun y => y.1 == t && (y.2 == .local || y.2 == .cell))
  | _, _ => false
mutual
def kS : S → Scope → Stmt → Bool
  | .asg t e, sc, ps => (match ps with
    | .Assign [pt] pe _ => if swB sc pt pe then (match t with | .var i => true | _ => false) && (match e with | .comp _ _ _ _ _ => true | .thaw (.comp _ _ _ _ _) => true | _ => false) && kG c N t sc sc pt && kE c N e sc pe
      else !isStar pt && !isSD pe && (!isTup pt || (match pe with | .Tuple vs _ _ => vs.all (foldedForSure 8) | _ => true)) && kG c N t sc sc pt && kE c N e sc pe
    | _ => false)
  | .par is es, sc, ps => (match ps with
    | .Assign [.Tuple [.Name x p1, .Name y p2] _ _] (.Tuple [pa, pb] _ _) _ => (match is with
      | [i, j] => decide (N[i]? = some x) && decide (N[j]? = some y) && decide (i ≠ j) && decide (x ≠ y) && lclB sc x && lclB sc y && (p1.line == p2.line) && !([pa, pb].all (foldedForSure 8)) && !([pa, pb].all (constantsAlone 8)) && kEs c N es sc [pa, pb]
      | _ => false)
    | .Assign [.Tuple [.Name x p1, .Name y p2, .Name z p3] _ _] (.Tuple [pa, pb, pc] _ _) _ => (match is with
      | [i, j, l] => decide (N[i]? = some x) && decide (N[j]? = some y) && decide (N[l]? = some z) && decide (i ≠ j) && decide (i ≠ l) && decide (j ≠ l) && decide (x ≠ y) && decide (x ≠ z) && decide (y ≠ z) && lclB sc x && lclB sc y && lclB sc z && (p1.line == p2.line) && (p1.line == p3.line) && !([pa, pb, pc].all (foldedForSure 8)) && !([pa, pb, pc].all (constantsAlone 8)) && kEs c N es sc [pa, pb, pc]
      | _ => false)
    | _ => false)
  | .ifs d a b, sc, ps => (match ps with | .If pd pa pb _ => canT d && kE c N d sc pd && kSs a sc pa && kSs b sc pb | _ => false)
  | .whl d b, sc, ps => (match ps with | .While pd pb [] _ => canT d && kE c N d sc pd && kSs b sc pb | _ => false)
  | .fr t it b, sc, ps => (match ps with | .For pt pit pb [] _ => !isSet pit && kI c N it sc pt pit && kG c N t sc sc pt && kSs b sc pb | _ => false)
  | .ret e, sc, ps => (match ps with | .Return (some pe) _ => kE c N e sc pe | _ => false)
  | .retn, sc, ps => (match ps with | .Return none _ => true | _ => false)
  | .exp e, sc, ps => (match ps with | .Expr pe _ => !isLc pe && kE c N e sc pe | _ => false)
  | .pas, sc, ps => (match ps with | .Pass _ => true | _ => false)
  | .brk, sc, ps => (match ps with | .Break _ => true | _ => false)
  | .cnt, sc, ps => (match ps with | .Continue _ => true | _ => false)
  | .nev, sc, ps => true
def kSs : Ss → Scope → List Stmt → Bool
  | .nil, sc, ps => ps.isEmpty
  | .cons s ss, sc, ps => (match ps with | p :: r => kS s sc p && kSs ss sc r | [] => false)
end
end
end PL

set_option Elab.async false
set_option linter.all false
set_option maxRecDepth 100000
set_option maxHeartbeats 2000000
/-! The check is sound. -/
namespace PL
open PySem PySem.Spec PyProof.Rows L2
structure CxOk (c : Ck) (N : List Str) (k : Nat) (X : Cx) (q : Qm) : Prop where
  N : X.N = N
  nd : X.N.Nodup
  calm : X.calm = true
  units : X.A.units + 65 < cLine
  room : Room k X.A
  pas : PassesOwn (model X.prog X.w) X.A X.env X.xe
  cx : Passes (L2.CX X.prog X.w) X q.XE
  kind : X.env.scope.kind = .function
  fns : ∀ x f np, c.fns.lookup x = some (f, np) → X.mg x = some (.ref (q.fa f)) ∧ PySem.W.keepIn X.K (.ref (q.fa f)) = true ∧ (∀ ds st, RP (q.C f ds st) (fun _ _ => True) (fun _ _ _ => True) → ds.length = np) ∧
    ∃ fd ps, FnOk X.prog X.w X.K X.mg X.base (L2.CX X.prog X.w) k (q.fa f) fd ps (spC X.K q q.C f np) ∧ Binds X.K fd ps [] ∧ ∀ n ks pm, (f, n, ks, pm) ∈ c.kws → KBn X.K fd ps n ks (gK Value.none pm) (gK V.non pm)
  any : ∀ f ds st, RP (q.C f ds st) (fun _ _ => True) (fun _ _ _ => True) → ∃ x, c.fns.lookup x = some (f, ds.length)
  gls : ∀ x i, c.gls.lookup x = some i → ∃ u v, X.mg x = some u ∧ RelV v u ∧ ∀ H m β ρ n, RD X.K q.fa H m β ρ n (q.G i) v
  bln : ∀ x ∈ blNames, X.mg x = none
theorem cx_false {P : Program} {w : World} {l : List PySem.Env} {H : Hp} {s s' : Shared} {e : Value} (h : L2.CX P w l H s (fun _ _ _ => False) e s') : False := by
  obtain ⟨_, _, _, _, _, _, _, _, _, _, _, _, z⟩ := h
  exact z
section
variable {c : Ck} {N : List Str} {k : Nat} {X : Cx} {q : Qm}
theorem CxOk.blk (C : CxOk c N k X q) {s : Shared} {H : Hp} {scope : Scope} {C' : Addr} {cl : List (Str × Addr)} {fp : List Addr} (hk : scope.kind = .function) : CxOk c N k (X.blk s H scope (compEnvC scope cl C' X.env) fp) (qF q) :=
  ⟨C.N, C.nd, C.calm, C.units, C.room, PassesOwn.never, fun _ _ _ _ _ _ _ h => cx_false h, hk, C.fns, C.any, C.gls, C.bln⟩
theorem comp_scope {s2 : Scope} {env : PySem.Env} {cl : List (Str × Addr)} {C' : Addr} : (compEnvC s2 cl C' env).scope = relS s2 env.scope := rfl
structure SE (X : Cx) (q : Qm) (e : E) (pe : Expr) : Prop where
  v : PE X pe (tW X.K q e)
  t : canT e = true → PT X pe (tWT X.K q e)
  w : (∃ op l p, pe = .BoolOp op l p) → canT e = true → PW X pe (tWT X.K q e)
  f : isFr e = true → PE X pe (tNew X.K q (evF q.C q.G e))
theorem vis_of {sc : Scope} {x : Str} (h : visB sc x = true) : Vis sc x := by
  unfold visB at h
  split at h
  · exact .inl (by assumption)
  · exact .inr (.inl (by assumption))
  · exact .inr (.inr (by assumption))
  · cases h
theorem loc_of {sc : Scope} {x : Str} (h : locB sc x = true) : Loc sc x := by
  unfold locB at h
  split at h
  · exact .inl (by assumption)
  · exact .inr (by assumption)
  · cases h
theorem lcl_of {sc : Scope} {x : Str} (h : lclB sc x = true) : sc.names.lookup x = some .local := by
  unfold lclB at h
  split at h
  · assumption
  · cases h
theorem gl_of {x : Str} (h : glB X.env.scope x = true) : Gl X x := by
  unfold glB at h
  split at h
  · rename_i e
    exact e
  · cases h
theorem okN_of {x : Str} (h : okN x = true) : (x == ("__debug__" : Str)) = false ∧ (x == ("__classdict__" : Str)) = false ∧ x ≠ "__name__" := by
  simp only [okN, Bool.and_eq_true, Bool.not_eq_true', ] at h
  refine ⟨h.1.1, h.1.2, fun e => ?_⟩
  rw [e] at h
  exact absurd h.2 (by decide)
theorem star_cons {pe : Expr} {pes : List Expr} {env : PySem.Env} (h : isStar pe = false) : starEach (pe :: pes) env = (false, eval pe env) :: starEach pes env := by
  cases pe <;> first
    | rfl
    | cases h
theorem asg_cons {pe : Expr} {pes : List Expr} {env : PySem.Env} (h : isStar pe = false) : assignEach (pe :: pes) env = (false, PySem.assign pe env) :: assignEach pes env := by
  cases pe <;> first
    | rfl
    | cases h
theorem fold_of {pe : Expr} {env : PySem.Env} (h : isSet pe = false) : ∀ x, foldedSetIterable pe env x = pure x := by
  cases pe <;> first
    | (intro x; rfl)
    | cases h
theorem set_of {pe : Expr} (h : isSet pe = false) : ∀ es k p, pe ≠ .Set es k p := by
  intro es k p e
  subst e
  cases h
theorem plain_ix {pe : Expr} (h : isSl pe = false) : PlainIx pe := by
  intro o i
  cases pe <;> first
    | rfl
    | cases h
theorem attr_of {pa : Expr} {m : Str} {env : PySem.Env} {w : Sem Value} (h : isCall pa = false) : attributeBase pa m env w = w := by
  cases pa <;> first
    | rfl
    | skip
  rename_i f as ks p
  cases f <;> first
    | rfl
    | skip
  cases as with
  | cons a as => rfl
  | nil =>
    cases ks with
    | cons k ks => rfl
    | nil => cases h
theorem bl_mem (b : Bl) : blN b ∈ blNames := by cases b <;> decide
theorem bl_boot (b : Bl) : bootBuiltins (blN b) = some (blV b) := by cases b <;> kernel_rfl
theorem bl_ok (b : Bl) : okN (blN b) = true := by cases b <;> decide
theorem ty_mem (t : Ty) : tyS t ∈ blNames := by cases t <;> decide
theorem ty_boot (t : Ty) : bootBuiltins (tyS t) = some (.type (tyN t)) := by cases t <;> kernel_rfl
theorem ty_ok (t : Ty) : okN (tyS t) = true := by cases t <;> decide
theorem cps_of {x : Str} {s : List Nat} (h : x.cps.toList = s) : x = ⟨s.toArray⟩ := by
  subst h
  cases x
  simp
theorem SE.plain {e : E} {pe : Expr} (v : PE X pe (tW X.K q e)) (hp : ∀ whole, isTrue pe X.env whole = (do let v ← whole; standAt pe.pos; holding [v] (truthy v))) (hw : ∀ op l p, pe ≠ .BoolOp op l p) (f : isFr e = true → PE X pe (tNew X.K q (evF q.C q.G e))) : SE X q e pe :=
  ⟨v, fun _ => t_val v hp, fun ⟨op, l, p, z⟩ => absurd z (hw op l p), f⟩
theorem stars_none {env : PySem.Env} {pos : Pos} : ∀ {es : Es} {sc : Scope} {pes : List Expr}, kEs c N es sc pes = true → (backTo pos (starEach pes env)).any (·.1) = false ∧ (∀ x ∈ backTo pos (starEach pes env), x.1 = false)
  | .nil, sc, pes, h => by
    cases pes with
    | nil => exact ⟨rfl, fun x hx => nomatch hx⟩
    | cons p r => simp [kEs] at h
  | .cons e es, sc, pes, h => by
    cases pes with
    | nil => simp [kEs] at h
    | cons p r =>
      simp only [kEs, Bool.and_eq_true, Bool.not_eq_true'] at h
      obtain ⟨h1, h2⟩ := stars_none (env := env) (pos := pos) h.2
      rw [star_cons h.1.1]
      refine ⟨?_, fun x hx => ?_⟩
      · show (false || (backTo pos (starEach r env)).any (·.1)) = false
        rw [h1]
        rfl
      · rcases List.mem_cons.mp hx with e | e
        · rw [e]
        · exact h2 x e
theorem es_len : ∀ {es : Es} {sc : Scope} {pes : List Expr}, kEs c N es sc pes = true → pes.length = esLen es
  | .nil, sc, pes, h => by
    cases pes with
    | nil => rfl
    | cons p r => simp [kEs] at h
  | .cons e es, sc, pes, h => by
    cases pes with
    | nil => simp [kEs] at h
    | cons p r =>
      simp only [kEs, Bool.and_eq_true] at h
      show r.length + 1 = esLen es + 1
      rw [es_len h.2]
theorem kws_ok {env : PySem.Env} {pos : Pos} : ∀ {es : Es} {sc : Scope} {kws : List Keyword}, kKs c N es sc kws = true →
    (backToKw pos (keywordEach kws env)).all (·.1.isSome) = true ∧ (backToKw pos (keywordEach kws env)).filterMap (·.1) = kws.filterMap (·.arg) ∧ (backToKw pos (keywordEach kws env)).any (·.1.isNone) = false ∧ esLen es = (kws.filterMap (·.arg)).length
  | .nil, sc, kws, h => by
    cases kws with
    | nil => exact ⟨rfl, rfl, rfl, rfl⟩
    | cons p r => simp [kKs] at h
  | .cons e es, sc, kws, h => by
    cases kws with
    | nil => simp [kKs] at h
    | cons p r =>
      obtain ⟨nm, pe, p'⟩ := p
      cases nm with
      | none => simp [kKs] at h
      | some nm =>
        simp only [kKs, Bool.and_eq_true] at h
        obtain ⟨h1, h2, h3, h4⟩ := kws_ok (env := env) (pos := pos) h.2
        refine ⟨?_, ?_, ?_, ?_⟩
        · show (true && _) = true
          simpa [backToKw, keywordEach] using h1
        · show nm :: (backToKw pos (keywordEach r env)).filterMap (·.1) = nm :: r.filterMap (·.arg)
          rw [h2]
        · show (false || (backToKw pos (keywordEach r env)).any (·.1.isNone)) = false
          rw [h3]
          rfl
        · show esLen es + 1 = (r.filterMap (·.arg)).length + 1
          rw [h4]
theorem tgs_len {env : PySem.Env} : ∀ {ts : Tgs} {fs sc : Scope} {pts : List Expr}, kGs c N ts fs sc pts = true → (assignEach pts env).length = tgLen ts ∧ (assignEach pts env).findIdx? (·.1) = none
  | .nil, fs, sc, pts, h => by
    cases pts with
    | nil => exact ⟨rfl, rfl⟩
    | cons p r => simp [kGs] at h
  | .cons e es, fs, sc, pts, h => by
    cases pts with
    | nil => simp [kGs] at h
    | cons p r =>
      simp only [kGs, Bool.and_eq_true, Bool.not_eq_true'] at h
      obtain ⟨h1, h2⟩ := tgs_len (env := env) h.2
      rw [asg_cons h.1.1]
      refine ⟨congrArg (· + 1) h1, ?_⟩
      rw [List.findIdx?_cons]
      simp [h2]
end
end PL

set_option Elab.async false
set_option linter.all false
set_option maxRecDepth 100000
set_option maxHeartbeats 4000000
/-! The check is sound: by the term. -/
namespace PL
open PySem PySem.Spec PyProof.Rows L2
section
variable {c : Ck} {N : List Str} {k : Nat}
theorem ownN_snd : ∀ own : List Nat, (ownN N own).map (·.2) = own
  | [] => rfl
  | i :: r => congrArg (i :: ·) (ownN_snd r)
theorem isTrue_bool {op : BoolOp} {l : List Expr} {p : Pos} {X : Cx} {t : TT} (h : PW X (.BoolOp op l p) t) : PT X (.BoolOp op l p) t := h.pt
theorem s_m1 {X : Cx} {q : Qm} {j : Nat} {p1 p2 : Pos} : PE X (.UnaryOp .USub (.Constant (.int 1) j p1) p2) (tW X.K q (.int (-1))) := (s_neg (a := .int 1) (s_int (j := j) (pos := p1)) (pos := p2)).w fun σ H Q ⟨β, ρ, env, st, e, S, h⟩ => ⟨β, ρ, env, st, e, S, by
  simp only [ev] at h ⊢
  exact h⟩
theorem sRg {X : Cx} {q : Qm} {tp : Bool} {lo : Oe} {b : E} {x : Str} {p1 p4 : Pos} {pr : List Expr} {p2 p3 : Pos} (C : CxOk c N k X q) (h1 : x = if tp = true then "tuple" else "list") (h2 : glB X.env.scope x = true) (R : PRg X (.Call (.Name "range" p2) pr [] p3) (tRgW X.K q lo b)) :
    SE X q (.rgv tp lo b) (.Call (.Name x p1) [.Call (.Name "range" p2) pr [] p3] [] p4) := by
  cases tp with
  | false =>
    have h1 : x = "list" := h1
    subst h1
    have P := s_lrg (p := p1) (pos := p4) C.calm (gl_of h2) (C.bln _ (by decide)) R rfl
    exact .plain P.1 (fun _ => rfl) (fun _ _ _ z => by cases z) fun _ => P.2
  | true =>
    have h1 : x = "tuple" := h1
    subst h1
    exact .plain (s_trg C.calm (gl_of h2) (C.bln _ (by decide)) R rfl) (fun _ => rfl) (fun _ _ _ z => by cases z) (fun z => by cases z)
mutual
theorem sE : ∀ (e : E) {X : Cx} {q : Qm} {pe : Expr}, CxOk c N k X q → kE c N e X.env.scope pe = true → SE X q e pe
  | .non, X, q, pe, C, h => by
    simp only [kE] at h
    split at h
    · exact .plain s_non (fun _ => rfl) (fun _ _ _ z => by cases z) (fun z => by cases z)
    · cases h
  | .bl b, X, q, pe, C, h => by
    simp only [kE] at h
    split at h
    · rename_i v j p
      have e : v = b := by simpa using h
      subst e
      exact .plain s_bl (fun _ => rfl) (fun _ _ _ z => by cases z) (fun z => by cases z)
    · cases h
  | .int i, X, q, pe, C, h => by
    simp only [kE] at h
    split at h
    · rename_i v j p
      have e : i = v := by simpa using h
      subst e
      exact .plain s_int (fun _ => rfl) (fun _ _ _ z => by cases z) (fun z => by cases z)
    · cases h
  | .str s, X, q, pe, C, h => by
    simp only [kE] at h
    split at h
    · rename_i v j p
      exact .plain (s_str (cps_of (of_decide_eq_true h))) (fun _ => rfl) (fun _ _ _ z => by cases z) (fun z => by cases z)
    · cases h
  | .var i, X, q, pe, C, h => by
    simp only [kE] at h
    split at h
    · rename_i x p
      simp only [Bool.and_eq_true, decide_eq_true_eq] at h
      obtain ⟨⟨h1, h2⟩, h3⟩ := h
      exact .plain (s_var (by rw [C.N]; exact h1) (vis_of h2) (okN_of h3).1 (okN_of h3).2.1) (fun _ => rfl) (fun _ _ _ z => by cases z) (fun z => by cases z)
    · cases h
  | .glb i, X, q, pe, C, h => by
    simp only [kE] at h
    split at h
    · rename_i x p
      simp only [Bool.and_eq_true, decide_eq_true_eq] at h
      obtain ⟨⟨h1, h2⟩, h3⟩ := h
      obtain ⟨u, v, e1, e2, e3⟩ := C.gls x i h2
      exact .plain (s_glb (gl_of h1) e1 e2 (okN_of h3).1 e3) (fun _ => rfl) (fun _ _ _ z => by cases z) (fun z => by cases z)
    · cases h
  | .fnv i, X, q, pe, C, h => by
    simp only [kE] at h
    split at h
    · rename_i x p
      simp only [Bool.and_eq_true] at h
      obtain ⟨⟨h1, h2⟩, h3⟩ := h
      obtain ⟨np, e1⟩ := fnI_of h2
      exact .plain (s_fnv (gl_of h1) (C.fns x i np e1).1 (okN_of h3).1) (fun _ => rfl) (fun _ _ _ z => by cases z) (fun z => by cases z)
    · cases h
  | .bin o a b, X, q, pe, C, h => by
    simp only [kE] at h
    split at h
    · simp only [Bool.and_eq_true, decide_eq_true_eq] at h
      obtain ⟨⟨rfl, ha⟩, hb⟩ := h
      exact .plain (s_bin o (sE a C ha).v (sE b C hb).v) (fun _ => rfl) (fun _ _ _ z => by cases z) fun _ => f_bin o (sE a C ha).v (sE b C hb).v
    · cases h
  | .neg a, X, q, pe, C, h => by
    simp only [kE] at h
    split at h
    · exact .plain (s_neg (sE a C h).v) (fun _ => rfl) (fun _ _ _ z => by cases z) (fun z => by cases z)
    · cases h
  | .not a, X, q, pe, C, h => by
    simp only [kE] at h
    split at h
    · simp only [Bool.and_eq_true] at h
      have A := sE a C h.2
      rename_i pa pos
      have P := s_not (pos := pos) (A.t h.1) A.v
      exact ⟨P.1, fun _ => P.2, fun ⟨_, _, _, z⟩ => (by cases z), fun z => (by cases z)⟩
    · cases h
  | .and a b, X, q, pe, C, h => by
    simp only [kE] at h
    split at h
    · simp only [Bool.and_eq_true] at h
      obtain ⟨⟨⟨h1, h2⟩, h3⟩, h4⟩ := h
      have A := sE a C h3
      have B := sE b C h4
      rename_i pa pb pos
      have W := (pw_and (pos := pos) (A.t h1) (pw_and1 (B.t h2))).w fun σ H Q z => wt_and z
      exact ⟨(pe_and A.v (pe_one B.v)).w fun σ H Q z => w_and z, fun _ => W.pt, fun _ _ => W, fun z => by cases z⟩
    · simp only [Bool.and_eq_true] at h
      obtain ⟨⟨⟨h1, h2⟩, h3⟩, h4⟩ := h
      have A := sE a C h3
      have B := sE b C h4
      rename_i pa pb pc r pos
      have W := (pw_and (pos := pos) (A.t h1) (B.w ⟨_, _, _, rfl⟩ h2)).w fun σ H Q z => wt_and z
      exact ⟨(pe_and A.v B.v).w fun σ H Q z => w_and z, fun _ => W.pt, fun _ _ => W, fun z => by cases z⟩
    · cases h
  | .or a b, X, q, pe, C, h => by
    simp only [kE] at h
    split at h
    · simp only [Bool.and_eq_true] at h
      obtain ⟨⟨⟨h1, h2⟩, h3⟩, h4⟩ := h
      have A := sE a C h3
      have B := sE b C h4
      rename_i pa pb pos
      have W := (pw_or (pos := pos) (A.t h1) (pw_or1 (B.t h2))).w fun σ H Q z => wt_or z
      exact ⟨(pe_or A.v (pe_one B.v)).w fun σ H Q z => w_or z, fun _ => W.pt, fun _ _ => W, fun z => by cases z⟩
    · simp only [Bool.and_eq_true] at h
      obtain ⟨⟨⟨h1, h2⟩, h3⟩, h4⟩ := h
      have A := sE a C h3
      have B := sE b C h4
      rename_i pa pb pc r pos
      have W := (pw_or (pos := pos) (A.t h1) (B.w ⟨_, _, _, rfl⟩ h2)).w fun σ H Q z => wt_or z
      exact ⟨(pe_or A.v B.v).w fun σ H Q z => w_or z, fun _ => W.pt, fun _ _ => W, fun z => by cases z⟩
    · cases h
  | .cmp o a b, X, q, pe, C, h => by
    simp only [kE] at h
    split at h
    · simp only [Bool.and_eq_true, decide_eq_true_eq, Bool.not_eq_true'] at h
      obtain ⟨⟨⟨rfl, h2⟩, h3⟩, h4⟩ := h
      rename_i pa pb pos
      have P := s_cmp (pos := pos) o C.units (set_of h2) (sE a C h3).v (sE b C h4).v
      exact ⟨P.1, fun _ => P.2, fun ⟨_, _, _, z⟩ => (by cases z), fun z => (by cases z)⟩
    · cases h
  | .chn o p a b d, X, q, pe, C, h => by
    simp only [kE] at h
    split at h
    · simp only [Bool.and_eq_true, decide_eq_true_eq, Bool.not_eq_true'] at h
      obtain ⟨⟨⟨⟨⟨rfl, rfl⟩, h2⟩, h3⟩, h4⟩, h5⟩ := h
      rename_i pa pb pc pos
      have P := s_chn (pos := pos) o p C.units (set_of h2) (sE a C h3).v (sE b C h4).v (sE d C h5).v
      exact ⟨P.1, fun _ => P.2, fun ⟨_, _, _, z⟩ => (by cases z), fun z => (by cases z)⟩
    · cases h
  | .ife d a b, X, q, pe, C, h => by
    simp only [kE] at h
    split at h
    · simp only [Bool.and_eq_true] at h
      obtain ⟨⟨⟨h1, h2⟩, h3⟩, h4⟩ := h
      exact ⟨s_ife ((sE d C h2).t h1) (sE a C h3).v (sE b C h4).v, fun z => (by cases z), fun ⟨_, _, _, z⟩ => (by cases z), fun z => (by cases z)⟩
    · cases h
  | .call f as, X, q, pe, C, h => by
    simp only [kE] at h
    split at h
    · rename_i x p1 pes p2
      simp only [Bool.and_eq_true, decide_eq_true_eq] at h
      obtain ⟨⟨⟨h1, h2⟩, h3⟩, h4⟩ := h
      obtain ⟨e1, e2, e3, fd, ps, F, hb, _⟩ := C.fns x f _ h3
      refine .plain ?_ (fun _ => rfl) (fun _ _ _ z => by cases z) (fun z => by cases z)
      have A := sEs as C h4
      cases as with
      | nil =>
        cases pes with
        | nil => exact s_call0 e3 F C.room (gl_of h1) e1 e2 hb C.cx (okN_of h2).1
        | cons p r => simp [kEs] at h4
      | cons a as =>
        cases pes with
        | nil => simp [kEs] at h4
        | cons p r =>
          have h5 := h4
          simp only [kEs, Bool.and_eq_true, Bool.not_eq_true'] at h5
          exact s_call e3 F C.room (gl_of h1) e1 e2 hb C.cx (okN_of h2).1 A (star_cons h5.1.1) (stars_none h5.2).1
    · cases h
  | .callk f as ks pm, X, q, pe, C, h => by
    simp only [kE] at h
    split at h
    · rename_i x p1 pes kws p2
      simp only [Bool.and_eq_true, decide_eq_true_eq] at h
      obtain ⟨⟨⟨⟨⟨h1, h2⟩, h3⟩, h4⟩, h5⟩, h6⟩ := h
      obtain ⟨np, g1⟩ := fnI_of h3
      obtain ⟨e1, e2, e3, fd, ps, F, hb, hk⟩ := C.fns x f np g1
      have A := sEs as C h5
      have B := sKs ks C h6
      obtain ⟨k1, k2, k3, k4⟩ := kws_ok (env := X.env) (pos := p2) h6
      refine .plain (s_callk e3 F C.room (gl_of h1) e1 e2 (hk _ _ _ h4) C.cx (okN_of h2).1 k4 A B (fun pe r e => ?_) k1 k2 ?_ fun e => ?_) (fun _ => rfl) (fun _ _ _ z => by cases z) (fun z => by cases z)
      · subst e
        cases as with
        | nil => simp [kEs] at h5
        | cons a as =>
          simp only [kEs, Bool.and_eq_true, Bool.not_eq_true'] at h5
          exact star_cons h5.1.1
      · rw [(stars_none h5).1, k3]
        rfl
      · subst e
        cases as with
        | nil => rfl
        | cons a as => simp [kEs] at h5
    · cases h
  | .callv i as, X, q, pe, C, h => by
    simp only [kE] at h
    split at h
    · rename_i x p1 pes p2
      simp only [Bool.and_eq_true, decide_eq_true_eq] at h
      obtain ⟨⟨⟨⟨h1, h2⟩, h3⟩, h4⟩, h5⟩ := h
      have A := sEs as C h5
      refine .plain ?_ (fun _ => rfl) (fun _ _ _ z => by cases z) (fun z => by cases z)
      cases as with
      | nil =>
        cases pes with
        | nil => cases h4
        | cons p r => simp [kEs] at h5
      | cons a as =>
        cases pes with
        | nil => cases h4
        | cons p r =>
          simp only [kEs, Bool.and_eq_true, Bool.not_eq_true'] at h5
          refine s_callv (CX := L2.CX X.prog X.w) (k := k) (fun f ds st hr => ?_) C.room (by rw [C.N]; exact h1) (vis_of h2) C.cx (okN_of h3).1 (okN_of h3).2.1 A (star_cons h5.1.1) (stars_none h5.2).1
          obtain ⟨y, hy⟩ := C.any f ds st hr
          obtain ⟨e1, e2, e3, fd, ps, F, hb, _⟩ := C.fns y f _ hy
          exact ⟨fd, ps, F, e2, hb⟩
    · cases h
  | .blt b as, X, q, pe, C, h => by
    simp only [kE] at h
    split at h
    · rename_i x p1 pes p2
      simp only [Bool.and_eq_true, decide_eq_true_eq] at h
      obtain ⟨⟨⟨rfl, h2⟩, h3⟩, h4⟩ := h
      have A := sEs as C h4
      have hm := C.bln _ (bl_mem b)
      have ok := okN_of (bl_ok b)
      have hv := bl_boot b
      cases as with
      | nil =>
        cases pes with
        | nil => cases h3
        | cons p r => simp [kEs] at h4
      | cons a as =>
        cases pes with
        | nil => cases h3
        | cons p r =>
          simp only [kEs, Bool.and_eq_true, Bool.not_eq_true'] at h4
          have st := star_cons (pes := r) (env := X.env) h4.1.1
          have sn := (stars_none (env := X.env) (pos := p2) h4.2).1
          cases b <;> first
            | exact .plain (s_blB C.calm rfl (gl_of h2) hm hv ok.2.2 ok.1 A st sn) (fun _ => rfl) (fun _ _ _ z => by cases z) fun _ => f_blB C.calm rfl (gl_of h2) hm hv ok.2.2 ok.1 A st sn
            | exact .plain (s_blT C.calm rfl (gl_of h2) hm hv ok.2.2 ok.1 A st sn) (fun _ => rfl) (fun _ _ _ z => by cases z) fun _ => f_blT C.calm rfl (gl_of h2) hm hv ok.2.2 ok.1 A st sn
    · cases h
  | .isi a t, X, q, pe, C, h => by
    simp only [kE] at h
    split at h
    · rename_i x p1 pa y p2 p3
      simp only [Bool.and_eq_true, decide_eq_true_eq, Bool.not_eq_true'] at h
      obtain ⟨⟨⟨⟨⟨rfl, rfl⟩, h2⟩, h3⟩, h4⟩, h5⟩ := h
      have o1 := okN_of (x := "isinstance") (by decide)
      have o2 := okN_of (ty_ok t)
      exact .plain (s_isi (gl_of h2) (C.bln _ (by decide)) (by kernel_rfl) o1.2.2 o1.1 (gl_of h3) (C.bln _ (ty_mem t)) (ty_boot t) o2.2.2 o2.1 (sE a C h5).v (star_cons h4)) (fun _ => rfl) (fun _ _ _ z => by cases z) (fun z => by cases z)
    · cases h
  | .mth m o as, X, q, pe, C, h => by
    simp only [kE] at h
    split at h
    · rename_i pa x apos pes cpos
      simp only [Bool.and_eq_true, decide_eq_true_eq, Bool.not_eq_true'] at h
      obtain ⟨⟨⟨⟨⟨rfl, h2⟩, h3⟩, h4⟩, h5⟩, h6⟩ := h
      have O := sE o C h5
      have A := sEs as C h6
      refine .plain ?_ (fun _ => rfl) (fun _ _ _ z => by cases z) (fun z => by cases z)
      cases as with
      | nil =>
        cases pes with
        | nil => exact s_mth0 O.v (attr_of h2) h3
        | cons p r => simp [kEs] at h6
      | cons a as =>
        cases pes with
        | nil => simp [kEs] at h6
        | cons p r =>
          have h7 := h6
          simp only [kEs, Bool.and_eq_true, Bool.not_eq_true'] at h7
          refine s_mth O.v A (attr_of h2) ?_ h3 (star_cons h7.1.1) (stars_none h7.2).1
          have sn := (stars_none (env := X.env) (pos := cpos) h6).2
          simp only [Bool.and_eq_true, decide_eq_true_eq, List.all_eq_true]
          refine ⟨⟨fun x hx => by rw [sn x hx]; rfl, fun x hx => ?_⟩, ?_⟩
          · cases hx
          · simp
            simp at h4
            omega
    · cases h
  | .idx a b, X, q, pe, C, h => by
    simp only [kE] at h
    split at h
    · simp only [Bool.and_eq_true, Bool.not_eq_true'] at h
      obtain ⟨⟨h1, h2⟩, h3⟩ := h
      exact .plain (s_idx (sE a C h2).v (sE b C h3).v (plain_ix h1)) (fun _ => rfl) (fun _ _ _ z => by cases z) (fun z => by cases z)
    · cases h
  | .slc a lo hi, X, q, pe, C, h => by
    simp only [kE] at h
    split at h
    · simp only [Bool.and_eq_true] at h
      obtain ⟨⟨h1, h2⟩, h3⟩ := h
      exact .plain (s_slc (sE a C h1).v (sO lo C h2) (sO hi C h3)) (fun _ => rfl) (fun _ _ _ z => by cases z) (fun z => by cases z)
    · cases h
  | .tup as, X, q, pe, C, h => by
    simp only [kE] at h
    split at h
    · exact .plain (s_tup (sEs as C h)) (fun _ => rfl) (fun _ _ _ z => by cases z) (fun z => by cases z)
    · cases h
  | .list as, X, q, pe, C, h => by
    simp only [kE] at h
    split at h
    · exact .plain (s_list (sEs as C h)) (fun _ => rfl) (fun _ _ _ z => by cases z) fun _ => f_list (sEs as C h)
    · cases h
  | .comp own elt tg it oc, X, q, pe, C, h => by
    simp only [kE] at h
    split at h
    · rename_i pelt ptg pit pifs s2 pos
      simp only [Bool.and_eq_true, Bool.not_eq_true', List.all_eq_true] at h
      obtain ⟨⟨⟨⟨⟨⟨h1, h2⟩, h3⟩, h4⟩, h5⟩, h6⟩, h7⟩ := h
      have bk := blkOk_by h1
      have L : LcOk X q (ownN N own) elt tg it oc pelt ptg pit pifs s2 := {
        calm := C.calm
        nd := C.nd
        it := sI it C h4
        blk := by rw [C.N]; exact bk
        tgt := fun s H C' cl fp => sG tg (C.blk bk.kind) (fun x hx => by
          show (s2.names.lookup x == some NameKind.cell) = true
          rw [hx]
          rfl) h5
        ifs := fun s H C' cl fp => sC oc (C.blk bk.kind) h6
        elt := fun s H C' cl fp => (sE elt (C.blk bk.kind) h7).v
        fold := fold_of h3
        own := fun i hi => by
          rw [ownN_snd]
          simpa using h2 i hi }
      have P := f_comp (s_comp L (pos := pos))
      rw [ownN_snd] at P
      exact .plain P.1 (fun _ => rfl) (fun _ _ _ z => by cases z) fun _ => P.2
    · cases h
  | .tidx as e, X, q, pe, C, h => by
    simp only [kE] at h
    cases h
  | .thaw a, X, q, pe, C, h => by
    simp only [kE, Bool.and_eq_true] at h
    exact ⟨s_thaw ((sE a C h.2).f h.1), fun z => (by cases z), fun _ z => (by cases z), fun z => by cases z⟩
  | .frz a, X, q, pe, C, h => by
    simp only [kE] at h
    exact ⟨s_frz (sE a C h).v, fun z => (by cases z), fun _ z => (by cases z), fun z => by cases z⟩
  | .rgv tp lo b, X, q, pe, C, h => by
    simp only [kE] at h
    split at h
    · rename_i x p1 y p2 pes p3 p4
      simp only [Bool.and_eq_true, decide_eq_true_eq] at h
      obtain ⟨⟨⟨⟨h1, h2⟩, rfl⟩, h4⟩, h5⟩ := h
      have R : PRg X (.Call (.Name "range" p2) pes [] p3) (tRgW X.K q lo b) := by
        split at h5
        · rename_i pb
          simp only [Bool.and_eq_true, Bool.not_eq_true'] at h5
          obtain ⟨⟨g1, g2⟩, g3⟩ := h5
          split at g1
          · exact r_one (gl_of h4) (C.bln _ (by decide)) (sE b C g3).v (star_cons g2)
          · cases g1
        · rename_i pa pb
          simp only [Bool.and_eq_true, Bool.not_eq_true'] at h5
          obtain ⟨⟨⟨g1, g2⟩, g3⟩, g4⟩ := h5
          obtain ⟨a, rfl, ha⟩ := sOe lo C g3
          refine r_two (gl_of h4) (C.bln _ (by decide)) ha (sE b C g4).v (star_cons g1) (star_cons g2) ?_
          rw [star_cons g2]
          rfl
        · cases h5
      exact sRg C h1 h2 R
    · cases h
theorem sOe : ∀ (o : Oe) {X : Cx} {q : Qm} {pa : Expr}, CxOk c N k X q → kO c N o X.env.scope (some pa) = true → ∃ a, o = .some a ∧ PE X pa (tW X.K q a)
  | .none, X, q, pa, C, h => by
    simp [kO] at h
  | .some e, X, q, pa, C, h => by
    simp only [kO] at h
    exact ⟨e, rfl, (sE e C h).v⟩
theorem sEs : ∀ (es : Es) {X : Cx} {q : Qm} {pes : List Expr}, CxOk c N k X q → kEs c N es X.env.scope pes = true → PA X pes (tWs X.K q es)
  | .nil, X, q, pes, C, h => by
    cases pes with
    | nil => exact s_nil
    | cons p r => simp [kEs] at h
  | .cons e es, X, q, pes, C, h => by
    cases pes with
    | nil => simp [kEs] at h
    | cons p r =>
      simp only [kEs, Bool.and_eq_true, Bool.not_eq_true'] at h
      exact s_cons (sE e C h.1.2).v (sEs es C h.2) (star_cons h.1.1)
theorem sKs : ∀ (es : Es) {X : Cx} {q : Qm} {kws : List Keyword}, CxOk c N k X q → kKs c N es X.env.scope kws = true → PK X kws (tWs X.K q es)
  | .nil, X, q, kws, C, h => by
    cases kws with
    | nil => exact s_knil
    | cons p r => simp [kKs] at h
  | .cons e es, X, q, kws, C, h => by
    cases kws with
    | nil => simp [kKs] at h
    | cons p r =>
      obtain ⟨nm, pe, p'⟩ := p
      cases nm with
      | none => simp [kKs] at h
      | some nm =>
        simp only [kKs, Bool.and_eq_true] at h
        exact s_kcons (sE e C h.1).v (sKs es C h.2)
theorem sO : ∀ (o : Oe) {X : Cx} {q : Qm} {po : Option Expr}, CxOk c N k X q → kO c N o X.env.scope po = true → PO X po (tWo X.K q o)
  | .none, X, q, po, C, h => by
    cases po with
    | none => exact s_onone
    | some p => simp [kO] at h
  | .some e, X, q, po, C, h => by
    cases po with
    | none => simp [kO] at h
    | some p =>
      simp only [kO] at h
      exact s_osome (sE e C h).v
theorem sC : ∀ (o : Oe) {X : Cx} {q : Qm} {pes : List Expr}, CxOk c N k X q → kC c N o X.env.scope pes = true → PTs X pes (tWc X.K q o)
  | .none, X, q, pes, C, h => by
    cases pes with
    | nil =>
      refine ⟨fun pins s σ H Q I h => pts_nil.run pins s σ H Q I ?_⟩
      obtain ⟨β, ρ, env, st, e, S, h⟩ := h
      simp only [evc] at h
      exact PostB.here h S
    | cons p r => simp [kC] at h
  | .some e, X, q, pes, C, h => by
    simp only [kC] at h
    split at h
    · simp only [Bool.and_eq_true] at h
      have P := pts_one ((sE e C h.2).t h.1)
      refine ⟨fun pins s σ H Q I h => P.run pins s σ H Q I ?_⟩
      obtain ⟨β, ρ, env, st, e', S, h⟩ := h
      simp only [evc] at h
      exact ⟨β, ρ, env, st, e', S, h⟩
    · cases h
theorem sI : ∀ (it : It) {X : Cx} {q : Qm} {ptg pit : Expr}, CxOk c N k X q → kI c N it X.env.scope ptg pit = true → PI X ptg pit (tWi X.K q it)
  | .val e, X, q, ptg, pit, C, h => by
    simp only [kI] at h
    exact i_val (sE e C h).v
  | .rng1 a, X, q, ptg, pit, C, h => by
    simp only [kI] at h
    split at h
    · simp only [Bool.and_eq_true, decide_eq_true_eq, Bool.not_eq_true'] at h
      obtain ⟨⟨⟨rfl, h2⟩, h3⟩, h4⟩ := h
      exact i_rng1 (gl_of h2) (C.bln _ (by decide)) (s_cons (sE a C h4).v s_nil (star_cons h3)) (star_cons h3)
    · cases h
  | .rng2 a b, X, q, ptg, pit, C, h => by
    simp only [kI] at h
    split at h
    · simp only [Bool.and_eq_true, decide_eq_true_eq, Bool.not_eq_true'] at h
      obtain ⟨⟨⟨⟨⟨rfl, h2⟩, h3⟩, h4⟩, h5⟩, h6⟩ := h
      refine i_rng2 (gl_of h2) (C.bln _ (by decide)) (s_cons (sE a C h5).v (s_cons (sE b C h6).v s_nil (star_cons h4)) (star_cons h3)) ?_ (star_cons h4)
      rw [star_cons h3, star_cons h4]
      rfl
    · cases h
  | .rng3 a b k', X, q, ptg, pit, C, h => by
    simp only [kI] at h
    split at h
    · simp only [Bool.and_eq_true, decide_eq_true_eq, Bool.not_eq_true'] at h
      obtain ⟨⟨⟨⟨⟨⟨rfl, rfl⟩, h2⟩, h3⟩, h4⟩, h5⟩, h6⟩ := h
      refine i_rng3 (gl_of h2) (C.bln _ (by decide)) (s_cons (sE a C h5).v (s_cons (sE b C h6).v (s_cons s_m1 s_nil rfl) (star_cons h4)) (star_cons h3)) (star_cons h3) ?_
      rw [star_cons h4]
      rfl
    · cases h
  | .enum a, X, q, ptg, pit, C, h => by
    simp only [kI] at h
    split at h
    · simp only [Bool.and_eq_true, decide_eq_true_eq, Bool.not_eq_true'] at h
      obtain ⟨⟨⟨⟨h1, rfl⟩, h2⟩, h3⟩, h4⟩ := h
      split at h1
      · exact i_enum (gl_of h2) (C.bln _ (by decide)) (s_cons (sE a C h4).v s_nil (star_cons h3)) (star_cons h3)
      · cases h1
    · cases h
  | .zip a b, X, q, ptg, pit, C, h => by
    simp only [kI] at h
    split at h
    · simp only [Bool.and_eq_true, decide_eq_true_eq, Bool.not_eq_true'] at h
      obtain ⟨⟨⟨⟨⟨⟨h1, rfl⟩, h2⟩, h3⟩, h4⟩, h5⟩, h6⟩ := h
      split at h1
      · refine i_zip (gl_of h2) (C.bln _ (by decide)) (s_cons (sE a C h5).v (s_cons (sE b C h6).v s_nil (star_cons h4)) (star_cons h3)) (star_cons h3) ?_
        rw [star_cons h4]
        rfl
      · cases h1
    · cases h
theorem sG : ∀ (t : Tg) {X : Cx} {q : Qm} {fs : Scope} {pe : Expr}, CxOk c N k X q → (∀ x, fs.names.lookup x = some .cell → X.fn x = true) → kG c N t fs X.env.scope pe = true → PG X pe (tWg X.K q t)
  | .var i, X, q, fs, pe, C, hf, h => by
    simp only [kG] at h
    split at h
    · simp only [Bool.and_eq_true, decide_eq_true_eq, Bool.or_eq_true] at h
      obtain ⟨h1, h2⟩ := h
      rcases h2 with h2 | ⟨h2, h3⟩
      · exact g_var C.nd (by rw [C.N]; exact h1) (.inl (lcl_of h2)) (.inr (lcl_of h2))
      · refine g_var C.nd (by rw [C.N]; exact h1) (.inr ?_) (.inl (hf _ ?_))
        · unfold celB at h2
          split at h2
          · assumption
          · cases h2
        · unfold celB at h3
          split at h3
          · assumption
          · cases h3
    · cases h
  | .idx a b, X, q, fs, pe, C, hf, h => by
    simp only [kG] at h
    split at h
    · rename_i pa pb p
      simp only [Bool.and_eq_true, Bool.not_eq_true'] at h
      obtain ⟨⟨h1, h2⟩, h3⟩ := h
      refine g_idx (sE a C h2).v (sE b C h3).v ?_
      intro v
      cases pb <;> first
        | rfl
        | cases h1
    · cases h
  | .tup ts, X, q, fs, pe, C, hf, h => by
    simp only [kG] at h
    split at h
    · have L := tgs_len (env := X.env) h
      exact g_tup C.calm (sGs ts C hf h) L.1 L.2
    · cases h
theorem sGs : ∀ (ts : Tgs) {X : Cx} {q : Qm} {fs : Scope} {pes : List Expr}, CxOk c N k X q → (∀ x, fs.names.lookup x = some .cell → X.fn x = true) → kGs c N ts fs X.env.scope pes = true → PGs X pes (tWgs X.K q ts)
  | .nil, X, q, fs, pes, C, hf, h => by
    cases pes with
    | nil => exact g_nil
    | cons p r => simp [kGs] at h
  | .cons t ts, X, q, fs, pes, C, hf, h => by
    cases pes with
    | nil => simp [kGs] at h
    | cons p r =>
      simp only [kGs, Bool.and_eq_true, Bool.not_eq_true'] at h
      refine g_cons (sG t C hf h.1.2) (sGs ts C hf h.2) ?_
      rw [asg_cons h.1.1]
      rfl
end
theorem sLc : ∀ (own : List Nat) (elt : E) (tg : Tg) (it : It) (oc : Oe) {X : Cx} {q : Qm} {pelt ptg pit : Expr} {pifs : List Expr} {s2 : Scope}, CxOk c N k X q →
    (blkC N X.env.scope s2 (ownN N own) && (tgv tg).all (fun i => own.contains i) && !isSet pit && kI c N it X.env.scope ptg pit && kG c N tg s2 (relS s2 X.env.scope) ptg && kC c N oc (relS s2 X.env.scope) pifs && kE c N elt (relS s2 X.env.scope) pelt) = true → LcOk X q (ownN N own) elt tg it oc pelt ptg pit pifs s2
  | own, elt, tg, it, oc, X, q, pelt, ptg, pit, pifs, s2, C, h => by
    simp only [Bool.and_eq_true, Bool.not_eq_true', List.all_eq_true] at h
    obtain ⟨⟨⟨⟨⟨⟨h1, h2⟩, h3⟩, h4⟩, h5⟩, h6⟩, h7⟩ := h
    have bk := blkOk_by h1
    exact {
      calm := C.calm
      nd := C.nd
      it := sI it C h4
      blk := by rw [C.N]; exact bk
      tgt := fun s H C' cl fp => sG tg (C.blk bk.kind) (fun x hx => by
        show (s2.names.lookup x == some NameKind.cell) = true
        rw [hx]
        rfl) h5
      ifs := fun s H C' cl fp => sC oc (C.blk bk.kind) h6
      elt := fun s H C' cl fp => (sE elt (C.blk bk.kind) h7).v
      fold := fold_of h3
      own := fun i hi => by
        rw [ownN_snd]
        simpa using h2 i hi }
end
end PL

set_option Elab.async false
set_option linter.all false
set_option maxRecDepth 100000
set_option maxHeartbeats 4000000
/-! The check is sound: statements. -/
namespace PL
open PySem PySem.Spec PyProof.Rows L2
section
variable {c : Ck} {N : List Str} {k : Nat} {env : PySem.Env}
theorem blk_kind (h : env.scope.kind = .function) : env.blockKind = .function := by
  unfold PySem.Env.blockKind
  rw [h]
  rfl
theorem sw_drop {pe : Expr} {line : Nat} (h : isLc pe = false) : swapsWith pe none line env = pure false := by
  cases pe <;> first
    | rfl
    | cases h
theorem lcl_eq (x : Str) : (env.kindOf x == some NameKind.local) = lclB env.scope x := by
  unfold PySem.Env.kindOf lclB
  cases env.scope.names.lookup x with
  | none => rfl
  | some k => cases k <;> rfl
theorem sw_one {pt pe : Expr} {line : Nat} (hk : env.scope.kind = .function) (h : swB env.scope pt pe = false) (h2 : isSD pe = false) : swapsWithSole [pt] pe line env = pure false := by
  show swapsWith pe (some pt) line env = pure false
  cases pe <;> first
    | rfl
    | cases h2
    | skip
  rename_i elt gens s2 p2
  cases pt <;> first
    | rfl
    | skip
  rename_i t p
  show (pure (env.blockKind == .function && env.kindOf t == some .local && p.line == p2.line && !(s2.names.any fun (n, k) => n == t && (k == .local || k == .cell))) : Sem Bool) = pure false
  rw [blk_kind hk, lcl_eq]
  simp only [swB] at h
  have e : ((ScopeKind.function == ScopeKind.function) && lclB env.scope t && p.line == p2.line && !(s2.names.any fun (n, k) => n == t && (k == .local || k == .cell))) = false := by
    rw [show (ScopeKind.function == ScopeKind.function) = true from rfl, Bool.true_and]
    exact h
  rw [e]
theorem sw_lc {t : Str} {p p2 : Pos} {elt : Expr} {gens : List Comprehension} {s2 : Scope} {line : Nat} (hk : env.scope.kind = .function) (h : swB env.scope (.Name t p) (.ListComp elt gens s2 p2) = true) : swapsWith (.ListComp elt gens s2 p2) (some (.Name t p)) line env = pure true := by
  show (pure (env.blockKind == .function && env.kindOf t == some .local && p.line == p2.line && !(s2.names.any fun (n, k) => n == t && (k == .local || k == .cell))) : Sem Bool) = pure true
  rw [blk_kind hk, lcl_eq]
  simp only [swB] at h
  have e : ((ScopeKind.function == ScopeKind.function) && lclB env.scope t && p.line == p2.line && !(s2.names.any fun (n, k) => n == t && (k == .local || k == .cell))) = true := by
    rw [show (ScopeKind.function == ScopeKind.function) = true from rfl, Bool.true_and]
    exact h
  rw [e]
theorem st_none {pt pe : Expr} (h : isTup pt = false) : swappedStores [pt] pe env = pure none := by
  cases pt <;> first
    | rfl
    | cases h
theorem st_none2 {pt pe : Expr} (h : (match pe with | .Tuple vs _ _ => vs.all (foldedForSure 8) | _ => true) = true) : swappedStores [pt] pe env = pure none := by
  by_cases ht : isTup pt = true
  · have go : ∀ ts vs : List Expr, vs.all (foldedForSure 8) = true → (do
        if !(ts.length == 2 || ts.length == 3) || vs.length != ts.length || env.blockKind != .function then return none
        if vs.any fun | .Starred .. => true | _ => false then return none
        let line := (ts.head?.map (·.pos.line)).getD 0
        let names := ts.filterMap fun
          | .Name id pos => if env.kindOf id == some .local && pos.line == line then some id else none
          | _ => none
        if names.length != ts.length || names.eraseDups.length != names.length then return none
        if vs.all (foldedForSure 8) then return none
        if vs.all (constantsAlone 8) then unsupported "assign.tuple-of-constant-expressions:order-of-the-stores"
        return some names : Sem (Option (List Str))) = pure none := fun ts vs hv => by
      split
      · rfl
      · split
        · rfl
        · dsimp only
          split
          · rfl
          · first
              | rfl
              | (rw [if_pos hv]; rfl)
    cases pe <;> first
      | (cases pt <;> first
          | rfl
          | exact absurd ht Bool.false_ne_true)
      | skip
    rename_i vs k2 p2
    cases pt <;> first
      | exact absurd ht Bool.false_ne_true
      | exact go _ _ h
  · exact st_none (by simpa using ht)
theorem not_star {e : Expr} (he : isStar e = false) : (match e with | .Starred .. => true | _ => false) = false := by
  cases e <;> first
    | rfl
    | cases he
theorem star_no {e : Expr} (h : isStar e = false) (h2 : isStar e = true) : False := by
  rw [h] at h2
  cases h2
theorem beq_ne {x y : Str} (h : x ≠ y) : (x == y) = false := by
  cases e : x == y with
  | false => rfl
  | true => exact absurd (eq_of_beq e) h
theorem ed2 {x y : Str} (h : x ≠ y) : List.eraseDupsBy (fun a b => a == b) [x, y] = [x, y] := by
  unfold List.eraseDupsBy
  simp [List.eraseDupsBy.loop, beq_ne h, beq_ne (Ne.symm h)]
theorem ed3 {x y z : Str} (h : x ≠ y) (h2 : x ≠ z) (h3 : y ≠ z) : List.eraseDupsBy (fun a b => a == b) [x, y, z] = [x, y, z] := by
  unfold List.eraseDupsBy
  simp [List.eraseDupsBy.loop, beq_ne h, beq_ne (Ne.symm h), beq_ne h2, beq_ne (Ne.symm h2), beq_ne h3, beq_ne (Ne.symm h3)]
theorem st_two {x y : Str} {px py pt pt2 : Pos} {kt k2 : Nat} {pa pb : Expr} (hk : env.scope.kind = .function) (hx : env.scope.names.lookup x = some .local) (hy : env.scope.names.lookup y = some .local) (hxy : x ≠ y) (hl : (px.line == py.line) = true)
    (h1 : isStar pa = false) (h2 : isStar pb = false) (h3 : [pa, pb].all (foldedForSure 8) = false) (h4 : [pa, pb].all (constantsAlone 8) = false) : swappedStores [.Tuple [.Name x px, .Name y py] kt pt] (.Tuple [pa, pb] k2 pt2) env = pure (some [x, y]) := by
  have e1 : env.kindOf x = some .local := hx
  have e2 : env.kindOf y = some .local := hy
  have l : px.line = py.line := by simpa using hl
  unfold swappedStores
  simp only [blk_kind hk, List.length_cons, List.length_nil]
  simp [e1, e2, l, Expr.pos, h3, h4, List.eraseDups, ed2 hxy]
  intro z
  exfalso
  rcases z with z | z
  · exact star_no h1 (by cases pa <;> first | rfl | (exfalso; exact Bool.false_ne_true z))
  · exact star_no h2 (by cases pb <;> first | rfl | (exfalso; exact Bool.false_ne_true z))
theorem st_three {x y z : Str} {px py pz pt pt2 : Pos} {kt k2 : Nat} {pa pb pc : Expr} (hk : env.scope.kind = .function) (hx : env.scope.names.lookup x = some .local) (hy : env.scope.names.lookup y = some .local) (hz : env.scope.names.lookup z = some .local) (hxy : x ≠ y) (hxz : x ≠ z) (hyz : y ≠ z) (hl : (px.line == py.line) = true) (hl2 : (px.line == pz.line) = true)
    (h1 : isStar pa = false) (h2 : isStar pb = false) (h5 : isStar pc = false) (h3 : [pa, pb, pc].all (foldedForSure 8) = false) (h4 : [pa, pb, pc].all (constantsAlone 8) = false) : swappedStores [.Tuple [.Name x px, .Name y py, .Name z pz] kt pt] (.Tuple [pa, pb, pc] k2 pt2) env = pure (some [x, y, z]) := by
  have e1 : env.kindOf x = some .local := hx
  have e2 : env.kindOf y = some .local := hy
  have e3 : env.kindOf z = some .local := hz
  have l : py.line = px.line := by simpa using Eq.symm (of_decide_eq_true (by simpa using hl))
  have l2 : pz.line = px.line := by simpa using Eq.symm (of_decide_eq_true (by simpa using hl2))
  unfold swappedStores
  simp only [blk_kind hk, List.length_cons, List.length_nil]
  simp [e1, e2, e3, l, l2, Expr.pos, h3, h4, List.eraseDups, ed3 hxy hxz hyz]
  intro z
  exfalso
  rcases z with z | z | z
  · exact star_no h1 (by cases pa <;> first | rfl | (exfalso; exact Bool.false_ne_true z))
  · exact star_no h2 (by cases pb <;> first | rfl | (exfalso; exact Bool.false_ne_true z))
  · exact star_no h5 (by cases pc <;> first | rfl | (exfalso; exact Bool.false_ne_true z))
end
section
variable {c : Ck} {N : List Str} {k : Nat}
mutual
theorem sS : ∀ (s : S) {X : Cx} {q : Qm} {ps : Stmt}, CxOk c N k X q → (∀ x, X.env.scope.names.lookup x = some .cell → X.fn x = true) → kS c N s X.env.scope ps = true → PS X ps (tS X.K q s)
  | .asg t e, X, q, ps, C, hf, h => by
    simp only [kS] at h
    split at h
    · rename_i pt pe pos
      split at h
      · rename_i hsw
        simp only [Bool.and_eq_true] at h
        obtain ⟨⟨⟨h1, h2⟩, h3⟩, h4⟩ := h
        cases t with
        | idx _ _ => cases h1
        | tup _ => cases h1
        | var i =>
          -- the target's name, the comprehension
          cases pt <;> first
            | (simp [swB] at hsw; done)
            | skip
          rename_i y py
          cases pe <;> first
            | (simp [swB] at hsw; done)
            | skip
          rename_i elt gens s2 p2
          have hl := hsw
          simp only [swB, Bool.and_eq_true] at hl
          simp only [kG, Bool.and_eq_true, decide_eq_true_eq] at h3
          have hy : X.N[i]? = some y := by rw [C.N]; exact h3.1
          have hyl := lcl_of hl.1.1
          split at h2
          · rename_i own elt' tg it oc
            simp only [kE] at h4
            split at h4
            · rename_i pelt ptg pit pifs s2' pos' heq
              injection heq with g1 g2 g3 g4
              subst g1 g2 g3 g4
              have P := z_asgLc (q := q) false (sLc own elt' tg it oc C h4) hy hyl (sw_lc C.kind hsw) (pos := pos) (py := py)
              rw [ownN_snd] at P
              exact P
            · cases h4
          · rename_i own elt' tg it oc
            simp only [kE, Bool.and_eq_true] at h4
            obtain ⟨_, h4⟩ := h4
            split at h4
            · rename_i pelt ptg pit pifs s2' pos' heq
              injection heq with g1 g2 g3 g4
              subst g1 g2 g3 g4
              have P := z_asgLc (q := q) true (sLc own elt' tg it oc C h4) hy hyl (sw_lc C.kind hsw) (pos := pos) (py := py)
              rw [ownN_snd] at P
              exact P
            · cases h4
          · cases h2
      · rename_i hsw
        simp only [Bool.and_eq_true, Bool.not_eq_true', Bool.or_eq_true] at h
        obtain ⟨⟨⟨⟨h1, h2⟩, h3⟩, h4⟩, h5⟩ := h
        refine z_asg (sE e C h5).v (sG t C hf h4) (sw_one C.kind (by simpa using hsw) h2) ?_ ?_
        · rcases h3 with h3 | h3
          · exact st_none h3
          · exact st_none2 h3
        · rw [asg_cons h1]
          rfl
    · cases h
  | .par is es, X, q, ps, C, hf, h => by
    simp only [kS] at h
    split at h
    · rename_i x p1 y p2 kt pt pa pb k2 pt2 pos
      split at h
      · rename_i i j
        simp only [Bool.and_eq_true, decide_eq_true_eq, Bool.not_eq_true'] at h
        obtain ⟨⟨⟨⟨⟨⟨⟨⟨⟨h1, h2⟩, h3⟩, h4⟩, h5⟩, h6⟩, h7⟩, h8⟩, h9⟩, h10⟩ := h
        have A := sEs es C h10
        have st : isStar pa = false ∧ isStar pb = false := by
          cases es with
          | nil => simp [kEs] at h10
          | cons e es =>
            cases es with
            | nil => simp [kEs] at h10
            | cons e2 es =>
              simp only [kEs, Bool.and_eq_true, Bool.not_eq_true'] at h10
              exact ⟨h10.1.1, h10.2.1.1⟩
        exact z_par2 C.calm C.nd (by rw [C.N]; exact h1) (by rw [C.N]; exact h2) h3 (lcl_of h5) (lcl_of h6) A (st_two C.kind (lcl_of h5) (lcl_of h6) h4 h7 st.1 st.2 h8 h9) rfl
      · cases h
    · rename_i x p1 y p2 z p3 kt pt pa pb pc k2 pt2 pos
      split at h
      · rename_i i j l
        simp only [Bool.and_eq_true, decide_eq_true_eq, Bool.not_eq_true'] at h
        obtain ⟨⟨⟨⟨⟨⟨⟨⟨⟨⟨⟨⟨⟨⟨⟨⟨h1, h2⟩, h3⟩, h4⟩, h5⟩, h6⟩, h7⟩, h8⟩, h9⟩, h10⟩, h11⟩, h12⟩, h13⟩, h14⟩, h15⟩, h16⟩, h17⟩ := h
        have A := sEs es C h17
        have st : isStar pa = false ∧ isStar pb = false ∧ isStar pc = false := by
          cases es with
          | nil => simp [kEs] at h17
          | cons e es =>
            cases es with
            | nil => simp [kEs] at h17
            | cons e2 es =>
              cases es with
              | nil => simp [kEs] at h17
              | cons e3 es =>
                simp only [kEs, Bool.and_eq_true, Bool.not_eq_true'] at h17
                exact ⟨h17.1.1, h17.2.1.1, h17.2.2.1.1⟩
        exact z_par3 C.calm C.nd (by rw [C.N]; exact h1) (by rw [C.N]; exact h2) (by rw [C.N]; exact h3) h4 h5 h6 (lcl_of h10) (lcl_of h11) (lcl_of h12) A (st_three C.kind (lcl_of h10) (lcl_of h11) (lcl_of h12) h7 h8 h9 h13 h14 st.1 st.2.1 st.2.2 h15 h16) rfl
      · cases h
    · cases h
  | .ifs d a b, X, q, ps, C, hf, h => by
    simp only [kS] at h
    split at h
    · simp only [Bool.and_eq_true] at h
      obtain ⟨⟨⟨h1, h2⟩, h3⟩, h4⟩ := h
      exact z_if ((sE d C h2).t h1) (sSs a C hf h3) (sSs b C hf h4)
    · cases h
  | .whl d b, X, q, ps, C, hf, h => by
    simp only [kS] at h
    split at h
    · simp only [Bool.and_eq_true] at h
      obtain ⟨⟨h1, h2⟩, h3⟩ := h
      exact z_while C.pas ((sE d C h2).t h1) (sSs b C hf h3)
    · cases h
  | .fr t it b, X, q, ps, C, hf, h => by
    simp only [kS] at h
    split at h
    · simp only [Bool.and_eq_true, Bool.not_eq_true'] at h
      obtain ⟨⟨⟨h1, h2⟩, h3⟩, h4⟩ := h
      exact z_for C.pas C.calm (sI it C h2) (sG t C hf h3) (sSs b C hf h4) (fold_of h1)
    · cases h
  | .ret e, X, q, ps, C, hf, h => by
    simp only [kS] at h
    split at h
    · exact z_ret (sE e C h).v
    · cases h
  | .retn, X, q, ps, C, hf, h => by
    simp only [kS] at h
    split at h
    · exact z_retn
    · cases h
  | .exp e, X, q, ps, C, hf, h => by
    simp only [kS] at h
    split at h
    · simp only [Bool.and_eq_true, Bool.not_eq_true'] at h
      exact z_exp (sE e C h.2).v (sw_drop h.1)
    · cases h
  | .pas, X, q, ps, C, hf, h => by
    simp only [kS] at h
    split at h
    · exact z_pas
    · cases h
  | .brk, X, q, ps, C, hf, h => by
    simp only [kS] at h
    split at h
    · exact z_brk
    · cases h
  | .cnt, X, q, ps, C, hf, h => by
    simp only [kS] at h
    split at h
    · exact z_cnt
    · cases h
  | .nev, X, q, ps, C, hf, h => z_nev
theorem sSs : ∀ (ss : Ss) {X : Cx} {q : Qm} {pss : List Stmt}, CxOk c N k X q → (∀ x, X.env.scope.names.lookup x = some .cell → X.fn x = true) → kSs c N ss X.env.scope pss = true → PSs X pss (tSs X.K q ss)
  | .nil, X, q, pss, C, hf, h => by
    cases pss with
    | nil => exact z_nil
    | cons p r => simp [kSs] at h
  | .cons s ss, X, q, pss, C, hf, h => by
    cases pss with
    | nil => simp [kSs] at h
    | cons p r =>
      simp only [kSs, Bool.and_eq_true] at h
      exact z_cons (sS s C hf h.1) (sSs ss C hf h.2)
end
end
end PL

set_option Elab.async false
set_option linter.all false
set_option maxRecDepth 100000
set_option maxHeartbeats 4000000
/-! Every def of the table does what the interpreter says. -/
namespace PL
open PySem PySem.Spec PyProof.Rows L2
section
variable {K : PySem.W.Frag} {fa : Nat → Addr} {H H' : Hp} {m m' : Addr → Prop} {β ρ ρ' : List Addr} {n : Nat}
mutual
theorem RD.shrink (hρ : ∀ i, i < n → ∀ a, ρ'[i]? = some a → ρ[i]? = some a) (hm : ∀ a, m' a → m a) : ∀ {d : D} {v : V}, RD K fa H m β ρ' n d v → RD K fa H m' β ρ n d v
  | _, _, .non => .non
  | _, _, .bl b => .bl b
  | _, _, .int i => .int i
  | _, _, .str s => .str s
  | _, _, .tupH h1 h2 h3 h4 => .tupH h1 (fun z => h2 (hm _ z)) h3 (RDs.shrink hρ hm h4)
  | _, _, .tupK h1 h4 => .tupK h1 (RDs.shrink hρ hm h4)
  | _, _, .frz h1 h2 h3 h4 => .frz h1 (fun z => h2 (hm _ z)) h3 (RDs.shrink hρ hm h4)
  | _, _, .scrH h1 h2 h3 h4 => .scrH h1 (fun z => h2 (hm _ z)) h3 (RDs.shrink hρ hm h4)
  | _, _, .scrK h1 h4 => .scrK h1 (RDs.shrink hρ hm h4)
  | _, _, .lst h1 h2 => .lst h1 (hρ _ h1 _ h2)
  | _, _, .fn k => .fn k
theorem RDs.shrink (hρ : ∀ i, i < n → ∀ a, ρ'[i]? = some a → ρ[i]? = some a) (hm : ∀ a, m' a → m a) : ∀ {ds : List D} {vs : List V}, RDs K fa H m β ρ' n ds vs → RDs K fa H m' β ρ n ds vs
  | _, _, .nil => .nil
  | _, _, .cons h t => .cons (RD.shrink hρ hm h) (RDs.shrink hρ hm t)
end
end
/-- what a call leaves: the callee's lists forgotten -/
theorem back_ok {K : PySem.W.Frag} {fa : Nat → Addr} {H : Hp} {β ρ : List Addr} {st st' : Sto} {d : D} {Q : VK} {Xx : Nat → D → Sto → Prop} (S : RS K fa β ρ st H) (h : RP (back st.length d st') (fun d st' => Post K fa β ρ st H d st' Q) Xx) :
    Post K fa β ρ st H d st' Q := by
  unfold back at h
  split at h
  · exact h
  · split at h
    · rename_i hr
      intro v H' ρ' a S' r
      obtain ⟨t, rfl⟩ := a.pre
      have hl : ρ.length = st.length := S.len
      have le := a.le
      have at' : ∀ i, i < st.length → ∀ p, (ρ ++ t)[i]? = some p → ρ[i]? = some p := fun i hi p e => by
        rw [List.getElem?_append_left (by omega)] at e
        exact e
      have tk : ∀ i, i < st.length → (st'.take st.length)[i]? = st'[i]? := fun i hi => List.getElem?_take_of_lt hi
      have tl : (st'.take st.length).length = st.length := by rw [List.length_take]; omega
      have mu : ∀ p, Mu ρ (st'.take st.length) p → Mu (ρ ++ t) st' p := fun p ⟨i, o, h1, h2, h3⟩ => by
        have hi : i < st.length := by
          have := (List.getElem?_eq_some_iff.mp h2).1
          omega
        exact ⟨i, o, by rw [List.getElem?_append_left (by omega)]; exact h1, by rw [← tk i hi]; exact h2, h3⟩
      refine h v H' ρ ⟨⟨[], by simp⟩, by rw [tl]; exact Nat.le_refl _, fun p o e nm => ?_, fun i ds e => ?_⟩ ⟨S.nd, by rw [tl]; exact hl, fun i o e => ?_, fun b hb => ?_⟩ ?_
      · obtain ⟨k1, k2⟩ := a.keep p o e nm
        exact ⟨k1, fun z => k2 (mu p z)⟩
      · rw [tk i (its_get e)]
        exact a.lck i ds e
      · have hi : i < st.length := by
          have := (List.getElem?_eq_some_iff.mp e).1
          omega
        rw [tk i hi] at e
        obtain ⟨p, vs, e1, e2, e3⟩ := S'.obj i o e
        exact ⟨p, vs, at' i hi p e1, e2, e3.shrink (fun j hj q hq => at' j (by omega) q hq) mu⟩
      · obtain ⟨x1, x2⟩ := S'.busy b hb
        exact ⟨x1, fun z => x2 (List.mem_append_left _ z)⟩
      · rw [tl]
        exact (r.older hr).shrink at' mu
    · exact h
/-- a def of the program against its own term -/
def DefOk (c : Ck) (K : PySem.W.Frag) (fa : Nat → Addr) (f : Nat) (F : Fd) : Prop := ∃ (x qual : Str) (params : Arguments) (body : List Stmt) (scope : Scope) (fd : FuncData) (N ps : List Str),
  FunD K x qual params body scope [] [] (fa f) fd ∧ FnScope N ps scope ∧ ps.length = F.ps ∧ N.length = F.nl ∧ kSs c N F.body scope body = true ∧ Binds K fd ps [] ∧ ∀ n ks pm, (f, n, ks, pm) ∈ c.kws → KBn K fd ps n ks (gK Value.none pm) (gK V.non pm)
structure TabOk (c : Ck) (K : PySem.W.Frag) (mg : Str → Option Value) (fa : Nat → Addr) (T : Nat → Option Fd) (G : Nat → D) : Prop where
  defs : ∀ f F, T f = some F → DefOk c K fa f F
  fns : ∀ x f np, c.fns.lookup x = some (f, np) → mg x = some (.ref (fa f)) ∧ ∃ F, T f = some F ∧ F.ps = np
  nam : ∀ f F, T f = some F → ∃ x, c.fns.lookup x = some (f, F.ps)
  gls : ∀ x i, c.gls.lookup x = some i → ∃ u v, mg x = some u ∧ RelV v u ∧ ∀ H m β ρ n, RD K fa H m β ρ n (G i) v
  bln : ∀ x ∈ blNames, mg x = none
section
variable {P : Program} {w : World} {K : PySem.W.Frag} {mg : Str → Option Value} {base : Heap} {c : Ck} {fa : Nat → Addr} {T : Nat → Option Fd} {G : Nat → D} {W : Nat} {ca : Nat → Addr} {xn : Nat → Str}
theorem call_some {n f : Nat} {ds : List D} {st : Sto} {A : D → Sto → Prop} {B : Nat → D → Sto → Prop} (h : RP (PL.call T G W n f ds st) A B) : ∃ F, T f = some F ∧ ds.length = F.ps := by
  cases n with
  | zero => exact h.elim
  | succ n =>
    unfold PL.call at h
    cases hT : T f with
    | none => rw [hT] at h; exact h.elim
    | some F =>
      rw [hT] at h
      by_cases hl : ds.length = F.ps
      · exact ⟨F, rfl, hl⟩
      · have h : RP (if ds.length = F.ps then fin st.length (exs (PL.call T G W n) G W F.body (ds.map some ++ List.replicate (F.nl - F.ps) none) st) else .bad) A B := h
        rw [if_neg hl] at h
        exact h.elim
theorem start_re {N : List Str} {vs : List V} {ds : List D} {H : Hp} {β ρ : List Addr} {st : Sto} {F : Fd} (r : RDs K fa H (Mu ρ st) β ρ st.length ds vs) (hl : ds.length = F.ps) (hn : N.length = F.nl) (hle : F.ps ≤ F.nl) :
    RE K fa β ρ (ds.map some ++ List.replicate (F.nl - F.ps) none) st (L2.start N vs) H := by
  have e := r.length
  refine ⟨?_, fun i d h => ?_⟩
  · unfold L2.start
    simp only [List.length_append, List.length_map, List.length_replicate]
    omega
  · have hi : i < ds.length := by
      by_cases hi : i < ds.length
      · exact hi
      · rw [List.getElem?_append_right (by simpa using hi), List.getElem?_replicate] at h
        split at h <;> cases h
    rw [List.getElem?_append_left (by simpa using hi), List.getElem?_map] at h
    cases hd : ds[i]? with
    | none => rw [hd] at h; cases h
    | some d' =>
      rw [hd] at h
      cases h
      obtain ⟨v, hv, rv⟩ := r.get hd
      refine ⟨v, ?_, rv⟩
      unfold L2.start
      rw [List.getElem?_append_left (by rw [List.length_map, ← e]; exact hi), List.getElem?_map, hv]
      rfl
/-- what a def of the table promises, so many calls deep -/
def Keeps (P : Program) (w : World) (K : PySem.W.Frag) (mg : Str → Option Value) (base : Heap) (c : Ck) (fa : Nat → Addr) (T : Nat → Option Fd) (G : Nat → D) (W : Nat) (ca : Nat → Addr) (xn : Nat → Str) (n f np : Nat) (fd : FuncData) (ps : List Str) : Prop :=
  FnOk P w K mg base (L2.CX P w) n (fa f) fd ps (spC K ⟨fa, ca, xn, PL.call T G W n, G, W, fun _ _ _ => False⟩ (PL.call T G W n) f np)
theorem fn_one (hT : TabOk c K mg fa T G) {n f : Nat} {F : Fd} (hF : T f = some F)
    (ih : ∀ (f : Nat) (F : Fd), T f = some F → ∃ fd ps, Keeps P w K mg base c fa T G W ca xn n f F.ps fd ps ∧ PySem.W.keepIn K (.ref (fa f)) = true ∧ Binds K fd ps [] ∧ ∀ n ks pm, (f, n, ks, pm) ∈ c.kws → KBn K fd ps n ks (gK Value.none pm) (gK V.non pm))
    {x qual : Str} {params : Arguments} {body : List Stmt} {scope : Scope} {fd : FuncData} {N ps : List Str} (FD : FunD K x qual params body scope [] [] (fa f) fd) (S : FnScope N ps scope) (hp : ps.length = F.ps) (hn : N.length = F.nl) (hk : kSs c N F.body scope body = true) :
    Keeps P w K mg base c fa T G W ca xn (n + 1) f F.ps fd ps := by
  have hle : F.ps ≤ F.nl := by
    rw [← hp, ← hn]
    have := congrArg List.length S.pre
    rw [List.length_take] at this
    omega
  refine FD.ok S (fun vs H Q E h => ?_) fun cdv A outer s H vs Q E hr h => ?_
  · obtain ⟨β, ρ, st, ds, _, r, hl, _⟩ := h
    rw [← r.length, hl, hp]
  · obtain ⟨β, ρ, st, ds, Sr, r, hl, g⟩ := h
    let X := cxOf (L2.CX P w) P w K mg base N qual scope (fa f) cdv A outer s H E
    have C : CxOk c N n X ⟨fa, ca, xn, PL.call T G W n, G, W, E⟩ := by
      exact {
        N := rfl
        nd := S.nd
        calm := rfl
        units := by
          have := hr.un
          show (A.deeper _).units + 65 < cLine
          omega
        room := hr
        pas := passes_of rfl
        cx := passes_call (W := fun cls d _ H => E cls d H) (takes_of rfl rfl rfl rfl) fun _ _ _ _ z => z
        kind := S.kind
        fns := fun x f np hx => by
          obtain ⟨hm, F', hF', rfl⟩ := hT.fns x f np hx
          obtain ⟨fd', ps', h1, h2, h3, h4⟩ := ih f F' hF'
          refine ⟨hm, h2, fun ds st hc => ?_, fd', ps', h1, h3, h4⟩
          obtain ⟨F2, e2, e3⟩ := call_some hc
          rw [hF'] at e2
          cases e2
          exact e3
        any := fun f ds st hc => by
          obtain ⟨F2, e2, e3⟩ := call_some hc
          obtain ⟨x, hx⟩ := hT.nam f F2 e2
          exact ⟨x, by rw [e3]; exact hx⟩
        gls := hT.gls
        bln := hT.bln }
    refine ⟨tSs K ⟨fa, ca, xn, PL.call T G W n, G, W, E⟩ F.body, sSs F.body C (fun x hx => rfl) hk, β, ρ, _, st, start_re r hl hn hle, Sr, ?_⟩
    unfold PL.call at g
    rw [hF] at g
    have g : RP (if ds.length = F.ps then fin st.length (exs (PL.call T G W n) G W F.body (ds.map some ++ List.replicate (F.nl - F.ps) none) st) else .bad) _ _ := g
    rw [if_pos hl] at g
    unfold fin at g
    refine g.bind.imp (fun fl st' g2 => ?_) fun c d st' g2 => g2
    cases fl with
    | rt d => exact back_ok Sr g2
    | nx env' =>
      have g3 := back_ok Sr g2
      exact fun σ' H' ρ' a S' e' => g3 .non H' ρ' a S' .non
    | bk env' => exact g2.elim
    | ct env' => exact g2.elim
theorem fn_ok (hT : TabOk c K mg fa T G) : ∀ (n f : Nat) (F : Fd), T f = some F → ∃ fd ps, Keeps P w K mg base c fa T G W ca xn n f F.ps fd ps ∧ PySem.W.keepIn K (.ref (fa f)) = true ∧ Binds K fd ps [] ∧
    ∀ n ks pm, (f, n, ks, pm) ∈ c.kws → KBn K fd ps n ks (gK Value.none pm) (gK V.non pm)
  | 0, f, F, hF => by
    obtain ⟨x, qual, params, body, scope, fd, N, ps, FD, S, hp, hn, hk, hb, hkw⟩ := hT.defs f F hF
    refine ⟨fd, ps, ⟨fun vs H Q E h => ?_, fun A outer s H args us vs Q E hr e0 hb r h => ?_⟩, FD.kp, hb, hkw⟩
    · obtain ⟨_, _, _, _, _, _, _, z⟩ := h
      exact z.elim
    · obtain ⟨_, _, _, _, _, _, _, z⟩ := h
      exact z.elim
  | n + 1, f, F, hF => by
    obtain ⟨x, qual, params, body, scope, fd, N, ps, FD, S, hp, hn, hk, hb, hkw⟩ := hT.defs f F hF
    exact ⟨fd, ps, fn_one hT hF (fn_ok hT n) FD S hp hn hk, FD.kp, hb, hkw⟩
theorem keeps_cx {CX CX' : CXT} {k : Nat} {f : Addr} {fd : FuncData} {ps : List Str} {sp : Sp} (F : FnOk P w K mg base CX k f fd ps sp) (h : ∀ o H s E e s', CX o H s E e s' → CX' o H s E e s') : FnOk P w K mg base CX' k f fd ps sp :=
  ⟨F.len, fun A outer s H args us vs Q E a b d e g => codeAny_mono (F.run A outer s H args us vs Q E a b d e g) fun r s' q => by
    cases r with
    | error e => exact h _ _ _ _ _ _ q
    | ok fl => cases fl <;> exact q⟩
end
end PL

set_option Elab.async false
set_option linter.all false
set_option maxRecDepth 100000
set_option maxHeartbeats 1000000
/-! How the interpreter is reasoned about. -/
namespace PL
theorem back_self (d : D) (st : Sto) : back st.length d st = .ok d st := if_pos rfl
theorem back_len {d : D} {st st' : Sto} (h : st'.length = st.length) : back st.length d st' = .ok d st' := if_pos h
section
variable {T : Nat → Option Fd} {G : Nat → D} {W : Nat} {C : Nat → List D → Sto → R D}
/-- a call that leaves the store as it is -/
def Cl (T : Nat → Option Fd) (G : Nat → D) (W k f : Nat) (as : List D) (d : D) : Prop := ∀ n, k ≤ n → ∀ st, call T G W n f as st = .ok d st
theorem call_eq {n f : Nat} {as : List D} {st : Sto} {F : Fd} (hT : T f = some F) (hl : as.length = F.ps) : call T G W (n + 1) f as st = fin st.length (exs (call T G W n) G W F.body (as.map some ++ List.replicate (F.nl - F.ps) none) st) := by
  show (match T f with
    | none => R.bad
    | some F => if as.length = F.ps then fin st.length (exs (call T G W n) G W F.body (as.map some ++ List.replicate (F.nl - F.ps) none) st) else .bad) = _
  rw [hT]
  exact if_pos hl
theorem call_rt {n f : Nat} {as : List D} {st st' : Sto} {F : Fd} {d : D} (hT : T f = some F) (hl : as.length = F.ps) (hs : st'.length = st.length) (h : exs (call T G W n) G W F.body (as.map some ++ List.replicate (F.nl - F.ps) none) st = .ok (.rt d) st') : call T G W (n + 1) f as st = .ok d st' := by
  rw [call_eq hT hl, h]
  exact back_len hs
theorem call_nx {n f : Nat} {as : List D} {st st' : Sto} {F : Fd} {e : Env} (hT : T f = some F) (hl : as.length = F.ps) (hs : st'.length = st.length) (h : exs (call T G W n) G W F.body (as.map some ++ List.replicate (F.nl - F.ps) none) st = .ok (.nx e) st') : call T G W (n + 1) f as st = .ok .non st' := by
  rw [call_eq hT hl, h]
  exact back_len hs
theorem Cl.rt {k f : Nat} {as : List D} {F : Fd} {d : D} (hT : T f = some F) (hl : as.length = F.ps) (h : ∀ n, k ≤ n → ∀ st, exs (call T G W n) G W F.body (as.map some ++ List.replicate (F.nl - F.ps) none) st = .ok (.rt d) st) : Cl T G W (k + 1) f as d := fun n hn st => by
  obtain ⟨m, rfl⟩ : ∃ m, n = m + 1 := ⟨n - 1, by omega⟩
  exact call_rt hT hl rfl (h m (by omega) st)
theorem Cl.nx {k f : Nat} {as : List D} {F : Fd} (hT : T f = some F) (hl : as.length = F.ps) (h : ∀ n, k ≤ n → ∀ st, ∃ e, exs (call T G W n) G W F.body (as.map some ++ List.replicate (F.nl - F.ps) none) st = .ok (.nx e) st) : Cl T G W (k + 1) f as .non := fun n hn st => by
  obtain ⟨m, rfl⟩ : ∃ m, n = m + 1 := ⟨n - 1, by omega⟩
  obtain ⟨e, h⟩ := h m (by omega) st
  exact call_nx hT hl rfl h
theorem Cl.le {j k f : Nat} {as : List D} {d : D} (h : Cl T G W j f as d) (l : j ≤ k) : Cl T G W k f as d := fun n hn => h n (Nat.le_trans l hn)
/-! ### loops -/
theorem compL_eq {f : D → Sto → R (Option D)} {st : Sto} (g : D → Option D) : ∀ {ds : List D}, (∀ d ∈ ds, f d st = .ok (g d) st) → compL f ds st = .ok (ds.filterMap g) st
  | [], _ => rfl
  | d :: ds, h => by
    have e := compL_eq g (ds := ds) fun x hx => h x (List.mem_cons_of_mem _ hx)
    simp only [compL, h d (List.mem_cons_self ..), R.bind]
    cases hg : g d with
    | none => simp only [e, List.filterMap_cons, hg]
    | some y => simp only [e, List.filterMap_cons, hg]
def compB (C : Nat → List D → Sto → R D) (G : Nat → D) (own : List Nat) (elt : E) (tg : Tg) (c : Oe) (env : Env) (x : D) (s2 : Sto) : R (Option D) := (evt C G tg x (wipe env own) s2).bind fun env2 s3 => (evc C G c env2 s3).bind fun b s4 => if b then (ev C G elt env2 s4).bind fun y s5 => .ok (some y) s5 else .ok none s4
theorem ev_lc {own : List Nat} {elt : E} {tg : Tg} {it : It} {c : Oe} {env : Env} {st : Sto} {ds : List D} (g : D → Option D) (hit : evi C G it env st = .ok (ds, []) st) (hz : szOk ds.length = true) (h : ∀ d ∈ ds, compB C G own elt tg c env d st = .ok (g d) st) :
    ev C G (.comp own elt tg it c) env st = .ok (.frz (ds.filterMap g)) st := by
  simp only [ev, hit, R.bind]
  rw [if_pos hz]
  have e := compL_eq g h
  show (((compL (compB C G own elt tg c env) ds st).noX.unl []).bind fun ds s6 => R.ok (D.frz ds) s6) = _
  rw [e]
  rfl
theorem forL_nx {f : D → Env → Sto → R Fl} (P : Nat → Env → Sto → Prop) : ∀ {ds : List D} {k : Nat} {env : Env} {st : Sto}, P k env st → (∀ i d, ds[i]? = some d → ∀ env st, P (k + i) env st → ∃ env' st', (f d env st = .ok (.nx env') st' ∨ f d env st = .ok (.ct env') st') ∧ P (k + i + 1) env' st') →
    ∃ env' st', forL f ds env st = .ok (.nx env') st' ∧ P (k + ds.length) env' st'
  | [], k, env, st, h0, _ => ⟨env, st, rfl, h0⟩
  | d :: ds, k, env, st, h0, hs => by
    obtain ⟨e1, s1, h1, p1⟩ := hs 0 d rfl env st h0
    obtain ⟨e2, s2, h2, p2⟩ := forL_nx P (k := k + 1) (ds := ds) p1 (fun i x hx env st p => by
      have q := hs (i + 1) x (by simpa using hx) env st (by rw [show k + (i + 1) = k + 1 + i by omega]; exact p)
      rw [show k + (i + 1) + 1 = k + 1 + i + 1 by omega] at q
      exact q)
    refine ⟨e2, s2, ?_, by rw [show k + (d :: ds).length = k + 1 + ds.length by simp; omega]; exact p2⟩
    rcases h1 with h1 | h1 <;> simp only [forL, h1, R.bind, h2]
/-- a for over what needs no lock -/
theorem ex_for {t : Tg} {it : It} {b : Ss} {env : Env} {st : Sto} {ds : List D} (P : Nat → Env → Sto → Prop) (hit : evi C G it env st = .ok (ds, []) st) (h0 : P 0 env st)
    (hs : ∀ i d, ds[i]? = some d → ∀ env st, P i env st → ∃ env' st', (((evt C G t d env st).bind fun env2 s3 => exs C G W b env2 s3) = .ok (.nx env') st' ∨ ((evt C G t d env st).bind fun env2 s3 => exs C G W b env2 s3) = .ok (.ct env') st') ∧ P (i + 1) env' st') :
    ∃ env' st', ex C G W (.fr t it b) env st = .ok (.nx env') st' ∧ P ds.length env' st' := by
  obtain ⟨e, s, h, p⟩ := forL_nx (f := fun x env s2 => (evt C G t x env s2).bind fun env2 s3 => exs C G W b env2 s3) P (k := 0) (ds := ds) h0 (fun i d hd env st p => by
    simp only [Nat.zero_add] at p ⊢
    exact hs i d hd env st p)
  refine ⟨e, s, ?_, by simpa using p⟩
  simp only [ex, hit, R.bind]
  show ((forL (fun x env s2 => (evt C G t x env s2).bind fun env2 s3 => exs C G W b env2 s3) ds env st).unl []) = _
  rw [h]
  rfl
theorem exs_cons {s : S} {ss : Ss} {env env' : Env} {st st' : Sto} (h : ex C G W s env st = .ok (.nx env') st') : exs C G W (.cons s ss) env st = exs C G W ss env' st' := by
  simp only [exs, h, R.bind]
theorem exs_rt {s : S} {ss : Ss} {env : Env} {st st' : Sto} {d : D} (h : ex C G W s env st = .ok (.rt d) st') : exs C G W (.cons s ss) env st = .ok (.rt d) st' := by
  simp only [exs, h, R.bind]
end
/-! ### the steps, for simp -/
section
variable {C : Nat → List D → Sto → R D} {G : Nat → D} {W : Nat} {env : Env} {st : Sto}
@[simp] theorem bind_ok {α β : Type} {a : α} {s : Sto} {f : α → Sto → R β} : (R.ok a s).bind f = f a s := Eq.trans rfl rfl
@[simp] theorem bind_exn {α β : Type} {c : Nat} {d : D} {s : Sto} {f : α → Sto → R β} : (R.exn c d s : R α).bind f = .exn c d s := Eq.trans rfl rfl
@[simp] theorem bind_bad {α β : Type} {f : α → Sto → R β} : (R.bad : R α).bind f = .bad := Eq.trans rfl rfl
@[simp] theorem tru_bl {b : Bool} : tru (.bl b) st = .ok b st := Eq.trans rfl rfl
@[simp] theorem toI_int {i : Int} : toI (.int i) st = .ok i st := Eq.trans rfl rfl
@[simp] theorem oD_some {α : Type} {a : α} : oD (some a) st = .ok a st := Eq.trans rfl rfl
@[simp] theorem x_non : ev C G .non env st = .ok .non st := by simp only [ev]
@[simp] theorem x_bl {b : Bool} : ev C G (.bl b) env st = .ok (.bl b) st := by simp only [ev]
@[simp] theorem x_int {i : Int} : ev C G (.int i) env st = .ok (.int i) st := by simp only [ev]
@[simp] theorem x_str {z : List Nat} : ev C G (.str z) env st = .ok (.str z) st := by simp only [ev]
@[simp] theorem x_var {i : Nat} : ev C G (.var i) env st = (match env[i]? with | some (some d) => .ok d st | _ => .bad) := by
  simp only [ev]
  try rfl
@[simp] theorem x_glb {k : Nat} : ev C G (.glb k) env st = .ok (G k) st := by simp only [ev]
@[simp] theorem x_fnv {k : Nat} : ev C G (.fnv k) env st = .ok (.fn k) st := by simp only [ev]
@[simp] theorem x_bin {o : Op} {a b : E} : ev C G (.bin o a b) env st = (ev C G a env st).bind fun x s1 => (ev C G b env s1).bind fun y s2 => oD (bop s2 o x y) s2 := by simp only [ev]
@[simp] theorem x_neg {a : E} : ev C G (.neg a) env st = (ev C G a env st).bind fun x s1 => (toI x s1).bind fun i s2 => .ok (.int (-i)) s2 := by simp only [ev]
@[simp] theorem x_not {a : E} : ev C G (.not a) env st = (ev C G a env st).bind fun x s1 => (tru x s1).bind fun b s2 => .ok (.bl (!b)) s2 := by simp only [ev]
@[simp] theorem x_and {a b : E} : ev C G (.and a b) env st = (ev C G a env st).bind fun x s1 => (tru x s1).bind fun c s2 => if c then ev C G b env s2 else .ok (.bl false) s2 := by simp only [ev]
@[simp] theorem x_or {a b : E} : ev C G (.or a b) env st = (ev C G a env st).bind fun x s1 => (tru x s1).bind fun c s2 => if c then .ok (.bl true) s2 else ev C G b env s2 := by simp only [ev]
@[simp] theorem x_cmp {o : Cm} {a b : E} : ev C G (.cmp o a b) env st = (ev C G a env st).bind fun x s1 => (ev C G b env s1).bind fun y s2 => (oD (cop s2 o x y) s2).bind fun c s3 => .ok (.bl c) s3 := by simp only [ev]
@[simp] theorem x_chn {o p : Cm} {a b c : E} : ev C G (.chn o p a b c) env st = (ev C G a env st).bind fun x s1 => (ev C G b env s1).bind fun y s2 => (oD (cop s2 o x y) s2).bind fun q s3 => if q then (ev C G c env s3).bind fun z s4 => (oD (cop s4 p y z) s4).bind fun r s5 => .ok (.bl r) s5 else .ok (.bl false) s3 := by simp only [ev]
@[simp] theorem x_ife {c a b : E} : ev C G (.ife c a b) env st = (ev C G c env st).bind fun x s1 => (tru x s1).bind fun q s2 => if q then ev C G a env s2 else ev C G b env s2 := by simp only [ev]
@[simp] theorem x_call {f : Nat} {as : Es} : ev C G (.call f as) env st = (evs C G as env st).bind fun ds s1 => C f ds s1 := by simp only [ev]
@[simp] theorem x_callk {f : Nat} {as ks : Es} {pm : List Nat} : ev C G (.callk f as ks pm) env st = (evs C G as env st).bind fun ds s1 => (evs C G ks env s1).bind fun es s2 => C f (pm.map fun j => (ds ++ es).getD j .non) s2 := by simp only [ev]
@[simp] theorem x_callv {i : Nat} {as : Es} : ev C G (.callv i as) env st = (match env[i]? with | some (some (.fn f)) => (evs C G as env st).noX.bind fun ds s1 => C f ds s1 | _ => .bad) := by
  simp only [ev]
  try rfl
@[simp] theorem noX_okk {α : Type} {a : α} : (R.ok a st).noX = .ok a st := Eq.trans rfl rfl
@[simp] theorem x_blt {b : Bl} {as : Es} : ev C G (.blt b as) env st = (evs C G as env st).bind fun ds s1 => oD (bcall s1 b ds) s1 := by simp only [ev]
@[simp] theorem x_isi {a : E} {t : Ty} : ev C G (.isi a t) env st = (ev C G a env st).bind fun x s1 => oD ((isInst t x).map .bl) s1 := by simp only [ev]
@[simp] theorem x_mth {m : Mt} {o : E} {as : Es} : ev C G (.mth m o as) env st = (ev C G o env st).bind fun x s1 => if mOk m x then (evs C G as env s1).bind fun ds s2 => mcall s2 m x ds else .bad := by simp only [ev]
@[simp] theorem x_idx {a b : E} : ev C G (.idx a b) env st = (ev C G a env st).bind fun x s1 => (ev C G b env s1).bind fun y s2 => (toI y s2).bind fun i s3 => oD (ixD s3 x i) s3 := by simp only [ev]
@[simp] theorem x_slc {a : E} {lo hi : Oe} : ev C G (.slc a lo hi) env st = (ev C G a env st).bind fun x s1 => (evo C G lo env s1).bind fun l s2 => (evo C G hi env s2).bind fun h s3 => oD (slD s3 x l h) s3 := by simp only [ev]
@[simp] theorem x_tup {as : Es} : ev C G (.tup as) env st = (evs C G as env st).bind fun ds s1 => if szOk ds.length then .ok (.tup ds) s1 else .bad := by simp only [ev]
@[simp] theorem x_list {as : Es} : ev C G (.list as) env st = (evs C G as env st).bind fun ds s1 => if szOk ds.length then .ok (.frz ds) s1 else .bad := by simp only [ev]
@[simp] theorem x_thaw {a : E} : ev C G (.thaw a) env st = (ev C G a env st).bind fun x s1 => thawD x s1 := by simp only [ev]
@[simp] theorem x_frz {a : E} : ev C G (.frz a) env st = (ev C G a env st).bind fun x s1 => frzD x s1 := by simp only [ev]
@[simp] theorem thaw_frz {ds : List D} : thawD (.frz ds) st = .ok (.lst st.length) (st ++ [.lst ds]) := Eq.trans rfl rfl
@[simp] theorem x_rgv {tp : Bool} {lo : Oe} {b : E} : ev C G (.rgv tp lo b) env st = (evo C G lo env st).bind fun l s1 => (ev C G b env s1).bind fun y s2 => (toI y s2).bind fun j s3 => if rngOk (l.getD 0) && (rngOk j && szOk (j - l.getD 0).toNat) then .ok (if tp then .tup (rngD (l.getD 0) (j - l.getD 0).toNat) else .frz (rngD (l.getD 0) (j - l.getD 0).toNat)) s3 else .bad := by simp only [ev]
@[simp] theorem xs_nil : evs C G .nil env st = .ok [] st := by simp only [evs]
@[simp] theorem xs_cons {e : E} {es : Es} : evs C G (.cons e es) env st = (ev C G e env st).bind fun x s1 => (evs C G es env s1).bind fun xs s2 => .ok (x :: xs) s2 := by simp only [evs]
@[simp] theorem xo_none : evo C G .none env st = .ok none st := by simp only [evo]
@[simp] theorem xo_some {e : E} : evo C G (.some e) env st = (ev C G e env st).bind fun x s1 => (toI x s1).bind fun i s2 => .ok (some i) s2 := by simp only [evo]
@[simp] theorem xc_none : evc C G .none env st = .ok true st := by simp only [evc]
@[simp] theorem xc_some {e : E} : evc C G (.some e) env st = (ev C G e env st).bind fun x s1 => tru x s1 := by simp only [evc]
@[simp] theorem xi_val {e : E} : evi C G (.val e) env st = (ev C G e env st).bind fun x s1 => oD (walk s1 x) s1 := by simp only [evi]
@[simp] theorem xi_rng1 {a : E} : evi C G (.rng1 a) env st = (ev C G a env st).bind fun x s1 => (toI x s1).bind fun i s2 => if rngOk i then .ok (rngD 0 i.toNat, []) s2 else .bad := by simp only [evi]
@[simp] theorem xi_rng2 {a b : E} : evi C G (.rng2 a b) env st = (ev C G a env st).bind fun x s1 => (ev C G b env s1).bind fun y s2 => (toI x s2).bind fun i s3 => (toI y s3).bind fun j s4 => if rngOk i && rngOk j then .ok (rngD i (j - i).toNat, []) s4 else .bad := by simp only [evi]
@[simp] theorem xi_enum {e : E} : evi C G (.enum e) env st = (ev C G e env st).bind fun x s1 => (oD (walk s1 x) s1).bind fun p s2 => .ok (enumD p.1, p.2) s2 := by simp only [evi]
@[simp] theorem xi_zip {a b : E} : evi C G (.zip a b) env st = (ev C G a env st).bind fun x s1 => (ev C G b env s1).bind fun y s2 => (oD (walk s2 x) s2).bind fun p s3 => (oD (walk (lock s3 p.2) y) s3).bind fun q s4 => .ok (zipD p.1 q.1, p.2 ++ q.2) s4 := by simp only [evi]
@[simp] theorem lock_nil : lock st [] = st := Eq.trans rfl rfl
@[simp] theorem xt_var {i : Nat} {d : D} : evt C G (.var i) d env st = if i < env.length then .ok (env.set i (some d)) st else .bad := by simp only [evt]
@[simp] theorem xt_idx {a b : E} {d : D} : evt C G (.idx a b) d env st = (ev C G a env st).bind fun x s1 => (ev C G b env s1).bind fun y s2 => (toI y s2).bind fun k s3 => (match x with
      | .lst i => (match s3[i]? with
        | some (.lst ds) => if refsLt i d then (match ixN ds.length k with | some j => .ok env (s3.set i (.lst (ds.set j d))) | none => .bad) else .bad
        | _ => .bad)
      | _ => .bad) := by
  simp only [evt]
  try rfl
@[simp] theorem xt_tup {ts : Tgs} {ds : List D} : evt C G (.tup ts) (.tup ds) env st = if ds.length = tgLen ts then evts C G ts ds env st else .bad := by simp only [evt]
@[simp] theorem xts_nil : evts C G .nil [] env st = .ok env st := by simp only [evts]
@[simp] theorem xts_cons {t : Tg} {ts : Tgs} {d : D} {r : List D} : evts C G (.cons t ts) (d :: r) env st = (evt C G t d env st).bind fun env1 s1 => evts C G ts r env1 s1 := by simp only [evts]
@[simp] theorem tg_nil : tgLen .nil = 0 := Eq.trans rfl rfl
@[simp] theorem tg_cons {t : Tg} {ts : Tgs} : tgLen (.cons t ts) = tgLen ts + 1 := Eq.trans rfl rfl
@[simp] theorem e_asg {t : Tg} {e : E} : ex C G W (.asg t e) env st = (ev C G e env st).bind fun x s1 => (evt C G t x env s1).bind fun env1 s2 => .ok (.nx env1) s2 := by simp only [ex]
@[simp] theorem e_par {is : List Nat} {es : Es} : ex C G W (.par is es) env st = (evs C G es env st).bind fun ds s1 => if ds.length = is.length then .ok (.nx (asgs is ds env)) s1 else .bad := by simp only [ex]
@[simp] theorem e_ifs {c : E} {a b : Ss} : ex C G W (.ifs c a b) env st = (ev C G c env st).bind fun x s1 => (tru x s1).bind fun q s2 => if q then exs C G W a env s2 else exs C G W b env s2 := by simp only [ex]
@[simp] theorem e_ret {e : E} : ex C G W (.ret e) env st = (ev C G e env st).bind fun x s1 => .ok (.rt x) s1 := by simp only [ex]
@[simp] theorem e_retn : ex C G W .retn env st = .ok (.rt .non) st := by simp only [ex]
@[simp] theorem e_exp {e : E} : ex C G W (.exp e) env st = (ev C G e env st).bind fun _ s1 => .ok (.nx env) s1 := by simp only [ex]
@[simp] theorem e_pas : ex C G W .pas env st = .ok (.nx env) st := by simp only [ex]
@[simp] theorem es_nil : exs C G W .nil env st = .ok (.nx env) st := by simp only [exs]
@[simp] theorem es_cons {s : S} {ss : Ss} : exs C G W (.cons s ss) env st = (ex C G W s env st).bind fun fl s1 => match fl with
    | .nx env1 => exs C G W ss env1 s1
    | fl => .ok fl s1 := by
  simp only [exs]
  try rfl
@[simp] theorem asgs_nil {ds : List D} : asgs [] ds env = env := Eq.trans rfl rfl
@[simp] theorem asgs_cons {i : Nat} {is : List Nat} {d : D} {ds : List D} : asgs (i :: is) (d :: ds) env = asgs is ds (env.set i (some d)) := Eq.trans rfl rfl
@[simp] theorem o_int {o : Op} {i j : Int} : bop st o (.int i) (.int j) = (iop o i j).map .int := Eq.trans rfl rfl
@[simp] theorem i_add {i j : Int} : iop .add i j = some (i + j) := Eq.trans rfl rfl
@[simp] theorem i_sub {i j : Int} : iop .sub i j = some (i - j) := Eq.trans rfl rfl
@[simp] theorem i_mul {i j : Int} : iop .mul i j = if small i || small j then some (i * j) else none := Eq.trans rfl rfl
@[simp] theorem i_fdiv {i j : Int} : iop .fdiv i j = if decide (0 < j) && decide (j < 1073741824) then some (i / j) else none := Eq.trans rfl rfl
@[simp] theorem i_mod {i j : Int} : iop .mod i j = if 0 < j then some (i % j) else none := Eq.trans rfl rfl
@[simp] theorem o_str {a b : List Nat} : bop st .add (.str a) (.str b) = if szOk (a.length + b.length) then some (.str (a ++ b)) else none := Eq.trans rfl rfl
@[simp] theorem o_tup {a b : List D} : bop st .add (.tup a) (.tup b) = if szOk (a.length + b.length) then some (.tup (a ++ b)) else none := Eq.trans rfl rfl
@[simp] theorem o_frz {a b : List D} : bop st .add (.frz a) (.frz b) = if szOk (a.length + b.length) then some (.frz (a ++ b)) else none := Eq.trans rfl rfl
@[simp] theorem o_rep {a : List D} {k : Int} : bop st .mul (.frz a) (.int k) = rep a k := Eq.trans rfl rfl
@[simp] theorem c_lt {i j : Int} : cop st .lt (.int i) (.int j) = some (decide (i < j)) := Eq.trans rfl rfl
@[simp] theorem c_gt {i j : Int} : cop st .gt (.int i) (.int j) = some (decide (j < i)) := Eq.trans rfl rfl
@[simp] theorem c_le {i j : Int} : cop st .le (.int i) (.int j) = some (decide (i ≤ j)) := Eq.trans rfl rfl
@[simp] theorem c_ge {i j : Int} : cop st .ge (.int i) (.int j) = some (decide (j ≤ i)) := Eq.trans rfl rfl
@[simp] theorem c_eqI {i j : Int} : cop st .eq (.int i) (.int j) = some (i == j) := Eq.trans rfl rfl
@[simp] theorem c_neI {i j : Int} : cop st .ne (.int i) (.int j) = some (!(i == j)) := Eq.trans rfl rfl
@[simp] theorem c_eqB {i j : Bool} : cop st .eq (.bl i) (.bl j) = some (i == j) := Eq.trans rfl rfl
@[simp] theorem c_neB {i j : Bool} : cop st .ne (.bl i) (.bl j) = some (!(i == j)) := Eq.trans rfl rfl
@[simp] theorem c_isN {x : D} : cop st .is x .non = some (isNon x) := Eq.trans rfl rfl
@[simp] theorem c_isnN {x : D} : cop st .isn x .non = some (!(isNon x)) := Eq.trans rfl rfl
@[simp] theorem c_isB {a b : Bool} : cop st .is (.bl a) (.bl b) = some (a == b) := Eq.trans rfl rfl
@[simp] theorem c_isnB {a b : Bool} : cop st .isn (.bl a) (.bl b) = some (!(a == b)) := Eq.trans rfl rfl
@[simp] theorem isNon_int {i : Int} : isNon (.int i) = false := Eq.trans rfl rfl
@[simp] theorem isNon_non : isNon .non = true := Eq.trans rfl rfl
@[simp] theorem lv_frz {ds : List D} : lv st (.frz ds) = some ds := Eq.trans rfl rfl
@[simp] theorem lv_scr {ds : List D} : lv st (.scr ds) = some ds := Eq.trans rfl rfl
@[simp] theorem sv_frz {ds : List D} : sv st (.frz ds) = some ds := Eq.trans rfl rfl
@[simp] theorem sv_scr {ds : List D} : sv st (.scr ds) = some ds := Eq.trans rfl rfl
@[simp] theorem sv_tup {ds : List D} : sv st (.tup ds) = some ds := Eq.trans rfl rfl
@[simp] theorem sv_lst {i : Nat} : sv st (.lst i) = lv st (.lst i) := Eq.trans rfl rfl
theorem lv_lst {i : Nat} {ds : List D} (h : st[i]? = some (.lst ds)) : lv st (.lst i) = some ds := by
  show (match st[i]? with | some o => some o.its | none => none) = _
  rw [h]
  rfl
@[simp] theorem walk_tup {ds : List D} : walk st (.tup ds) = some (ds, []) := Eq.trans rfl rfl
@[simp] theorem walk_frz {ds : List D} : walk st (.frz ds) = some (ds, []) := Eq.trans rfl rfl
@[simp] theorem walk_scr {ds : List D} : walk st (.scr ds) = some (ds, []) := Eq.trans rfl rfl
@[simp] theorem walk_str {z : List Nat} : walk st (.str z) = some (z.map fun c => .str [c], []) := Eq.trans rfl rfl
@[simp] theorem ix_tup {ds : List D} {i : Int} : ixD st (.tup ds) i = atI ds i := Eq.trans rfl rfl
@[simp] theorem ix_frz {ds : List D} {i : Int} : ixD st (.frz ds) i = atI ds i := Eq.trans rfl rfl
@[simp] theorem ix_scr {ds : List D} {i : Int} : ixD st (.scr ds) i = atI ds i := Eq.trans rfl rfl
@[simp] theorem ix_str {z : List Nat} {i : Int} : ixD st (.str z) i = if szOk z.length then (atI z i).map fun c => .str [c] else none := Eq.trans rfl rfl
theorem ix_lst {i : Nat} {ds : List D} {k : Int} (h : st[i]? = some (.lst ds)) : ixD st (.lst i) k = atI ds k := by
  show (lv st (.lst i)).bind (fun ds => atI ds k) = _
  rw [lv_lst h]
  rfl
theorem at_nat {α : Type} {xs : List α} {k : Nat} (h : k < xs.length) : atI xs (k : Nat) = xs[k]? := by
  unfold atI ixN
  rw [if_pos (by omega), if_pos (by omega)]
  rfl
@[simp] theorem b_len {d : D} : bcall st .len [d] = (lenD st d).map .int := Eq.trans rfl rfl
@[simp] theorem len_tup {ds : List D} : lenD st (.tup ds) = some (ds.length : Int) := Eq.trans rfl rfl
@[simp] theorem len_frz {ds : List D} : lenD st (.frz ds) = some (ds.length : Int) := Eq.trans rfl rfl
@[simp] theorem len_scr {ds : List D} : lenD st (.scr ds) = some (ds.length : Int) := Eq.trans rfl rfl
@[simp] theorem len_str {z : List Nat} : lenD st (.str z) = if szOk z.length then some (z.length : Int) else none := Eq.trans rfl rfl
theorem len_lst {i : Nat} {ds : List D} (h : st[i]? = some (.lst ds)) : lenD st (.lst i) = some (ds.length : Int) := by
  show (lv st (.lst i)).map _ = _
  rw [lv_lst h]
  rfl
@[simp] theorem b_sum {d : D} : bcall st .sum [d] = ((sv st d).bind intsOf).map fun ns => .int ns.sum := Eq.trans rfl rfl
@[simp] theorem b_all {d : D} : bcall st .all [d] = ((lv st d).bind blsOf).map fun bs => .bl (bs.all id) := Eq.trans rfl rfl
@[simp] theorem b_any {d : D} : bcall st .any [d] = ((lv st d).bind blsOf).map fun bs => .bl (bs.any id) := Eq.trans rfl rfl
@[simp] theorem b_intI {i : Int} : bcall st .int [.int i] = some (.int i) := Eq.trans rfl rfl
@[simp] theorem b_abs {i : Int} : bcall st .abs [.int i] = some (.int (if i < 0 then -i else i)) := Eq.trans rfl rfl
@[simp] theorem b_min {i j : Int} : bcall st .min2 [.int i, .int j] = some (.int (if j < i then j else i)) := Eq.trans rfl rfl
@[simp] theorem b_max {i j : Int} : bcall st .max2 [.int i, .int j] = some (.int (if j > i then j else i)) := Eq.trans rfl rfl
@[simp] theorem b_divmod {i j : Int} : bcall st .divmod [.int i, .int j] = if decide (0 < j) && decide (j < 1073741824) then some (.tup [.int (i / j), .int (i % j)]) else none := Eq.trans rfl rfl
@[simp] theorem b_tuple {d : D} : bcall st .tuple [d] = (sv st d).map .tup := Eq.trans rfl rfl
@[simp] theorem b_list {d : D} : bcall st .list [d] = (sv st d).map .frz := Eq.trans rfl rfl
@[simp] theorem refs_int {i : Nat} {j : Int} : refsLt i (.int j) = true := Eq.trans rfl rfl
theorem ints_map (ns : List Int) : intsOf (ns.map .int) = some ns := by
  induction ns with
  | nil => rfl
  | cons a r ih => simp [intsOf, ih]
theorem bls_map (ns : List Bool) : blsOf (ns.map .bl) = some ns := by
  induction ns with
  | nil => rfl
  | cons a r ih => simp [blsOf, ih]
end
@[simp] theorem szOk_iff {n : Nat} : (szOk n = true) = (n ≤ 16777216) := propext ⟨fun h => Nat.le_of_ble_eq_true h, fun h => Nat.ble_eq_true_of_le h⟩
theorem szOk_of {n : Nat} (h : n ≤ 16777216) : szOk n = true := Nat.ble_eq_true_of_le h
theorem szLt_of {n : Nat} (h : n < 16777216) : szLt n = true := by simpa [szLt] using h
theorem cut_map {α β : Type} (f : α → β) (xs : List α) (lo hi : Option Int) : cut (xs.map f) lo hi = (cut xs lo hi).map f := by
  unfold cut
  simp [List.map_take, List.map_drop]
theorem cut_le {α : Type} (xs : List α) (lo hi : Option Int) : (cut xs lo hi).length ≤ xs.length := by
  unfold cut
  rw [List.length_take, List.length_drop]
  omega
section
variable {C : Nat → List D → Sto → R D} {G : Nat → D} {W : Nat} {env : Env} {st : Sto}
@[simp] theorem sl_scr {ds : List D} {lo hi : Option Int} : slD st (.scr ds) lo hi = some (.frz (cut ds lo hi)) := Eq.trans rfl rfl
@[simp] theorem sl_frz {ds : List D} {lo hi : Option Int} : slD st (.frz ds) lo hi = some (.frz (cut ds lo hi)) := Eq.trans rfl rfl
@[simp] theorem sl_tup {ds : List D} {lo hi : Option Int} : slD st (.tup ds) lo hi = some (.tup (cut ds lo hi)) := Eq.trans rfl rfl
@[simp] theorem sl_str {z : List Nat} {lo hi : Option Int} : slD st (.str z) lo hi = if szOk z.length then some (.str (cut z lo hi)) else none := Eq.trans rfl rfl
@[simp] theorem is_int {t : Ty} {i : Int} : isInst t (.int i) = some (match t with | .int => true | _ => false) := Eq.trans rfl rfl
@[simp] theorem is_bl {t : Ty} {i : Bool} : isInst t (.bl i) = some (match t with | .int => true | .bool => true | _ => false) := Eq.trans rfl rfl
@[simp] theorem is_str {t : Ty} {i : List Nat} : isInst t (.str i) = some (match t with | .str => true | _ => false) := Eq.trans rfl rfl
@[simp] theorem is_tup {t : Ty} {i : List D} : isInst t (.tup i) = some (match t with | .tuple => true | _ => false) := Eq.trans rfl rfl
@[simp] theorem is_frz {t : Ty} {i : List D} : isInst t (.frz i) = some (match t with | .list => true | _ => false) := Eq.trans rfl rfl
@[simp] theorem is_non {t : Ty} : isInst t .non = some false := Eq.trans rfl rfl
/-- a for whose names stay -/
theorem rng_len (lo : Int) (n : Nat) : (rngD lo n).length = n := by simp [rngD]
theorem rng_get {lo : Int} {n i : Nat} {d : D} (h : (rngD lo n)[i]? = some d) : i < n ∧ d = .int (lo + (i : Nat)) := by
  have hi : i < n := by
    have := (List.getElem?_eq_some_iff.mp h).1
    simpa [rngD] using this
  refine ⟨hi, ?_⟩
  unfold rngD at h
  rw [List.getElem?_map, List.getElem?_range hi] at h
  exact (Option.some.inj h).symm
theorem mem_rng {lo : Int} {n : Nat} {d : D} (h : d ∈ rngD lo n) : ∃ i, i < n ∧ d = .int (lo + (i : Nat)) := by
  obtain ⟨i, hi⟩ := List.mem_iff_getElem?.mp h
  exact ⟨i, rng_get hi⟩
end
section
variable {C : Nat → List D → Sto → R D} {G : Nat → D} {W : Nat} {env : Env} {st : Sto}
theorem fm_map {α β γ : Type} (φ : α → β) (h : β → Option γ) : ∀ xs : List α, (xs.map φ).filterMap h = xs.filterMap fun a => h (φ a)
  | [] => rfl
  | x :: xs => by simp [List.filterMap_cons, fm_map φ h xs]
theorem ev_lcm {α : Type} (φ : α → D) (xs : List α) (g : α → Option D) {own : List Nat} {elt : E} {tg : Tg} {it : It} {c : Oe} (hit : evi C G it env st = .ok (xs.map φ, []) st) (hz : xs.length ≤ 16777216) (h : ∀ a ∈ xs, compB C G own elt tg c env (φ a) st = .ok (g a) st) :
    ev C G (.comp own elt tg it c) env st = .ok (.frz (xs.filterMap g)) st := by
  simp only [ev, hit, bind_ok]
  rw [if_pos (show szOk (xs.map φ).length = true from szOk_of (by simpa using hz))]
  have e : ∀ ys : List α, (∀ a ∈ ys, compB C G own elt tg c env (φ a) st = .ok (g a) st) → compL (compB C G own elt tg c env) (ys.map φ) st = .ok (ys.filterMap g) st := by
    intro ys
    induction ys with
    | nil => intro _; rfl
    | cons y ys ih =>
      intro hy
      have e2 := ih fun a ha => hy a (List.mem_cons_of_mem _ ha)
      simp only [List.map_cons, compL, hy y (List.mem_cons_self ..), bind_ok]
      cases hg : g y with
      | none => simp only [e2, List.filterMap_cons, hg]
      | some z => simp only [e2, List.filterMap_cons, hg, bind_ok]
  show (((compL (compB C G own elt tg c env) (xs.map φ) st).noX.unl []).bind fun ds s6 => R.ok (D.frz ds) s6) = _
  rw [e xs h]
  rfl
theorem rng_map (lo : Int) (n : Nat) : rngD lo n = (List.range n).map fun k => .int (lo + (k : Nat)) := rfl
theorem enum_map {α : Type} (φ : α → D) (xs : List α) : enumD (xs.map φ) = xs.zipIdx.map fun p => .tup [.int (p.2 : Nat), φ p.1] := by
  unfold enumD
  rw [List.zipIdx_map, List.map_map]
  rfl
@[simp] theorem bls_m {α : Type} (p : α → Bool) (xs : List α) : blsOf (xs.map fun a => .bl (p a)) = some (xs.map p) := by
  induction xs with
  | nil => rfl
  | cons x xs ih => simp [blsOf, ih]
@[simp] theorem ints_m {α : Type} (p : α → Int) (xs : List α) : intsOf (xs.map fun a => .int (p a)) = some (xs.map p) := by
  induction xs with
  | nil => rfl
  | cons x xs ih => simp [intsOf, ih]
@[simp] theorem strs_m {α : Type} (p : α → List Nat) (xs : List α) : strsOf (xs.map fun a => .str (p a)) = some (xs.map p) := by
  induction xs with
  | nil => rfl
  | cons x xs ih => simp [strsOf, ih]
theorem fm_if {α β : Type} (q : α → Bool) (p : α → β) : ∀ xs : List α, (xs.filterMap fun a => if q a then some (p a) else none) = (xs.filter q).map p
  | [] => rfl
  | x :: xs => by
    by_cases h : q x = true
    · simp [fm_if q p xs, h, List.filterMap_cons]
    · simp [fm_if q p xs, h, List.filterMap_cons]
@[simp] theorem isNon_bl {b : Bool} : isNon (.bl b) = false := Eq.trans rfl rfl
@[simp] theorem isNon_str {b : List Nat} : isNon (.str b) = false := Eq.trans rfl rfl
theorem fm_some {α β : Type} (p : α → β) (xs : List α) : (xs.filterMap fun a => some (p a)) = xs.map p := by
  induction xs with
  | nil => rfl
  | cons x xs ih => simp [ih]
/-- a test that holds or not -/
theorem compB_t {own : List Nat} {elt : E} {tg : Tg} {x : D} {env2 : Env} {y : D} (h1 : evt C G tg x (wipe env own) st = .ok env2 st) (h2 : ev C G elt env2 st = .ok y st) : compB C G own elt tg .none env x st = .ok (some y) st := by
  simp [compB, h1, h2]
end
/-- the callee's own lists go -/
theorem call_tk {T : Nat → Option Fd} {G : Nat → D} {W : Nat} {n f : Nat} {as : List D} {st ext : Sto} {F : Fd} {d : D} (hT : T f = some F) (hl : as.length = F.ps) (hr : refsLt st.length d = true) (h : exs (call T G W n) G W F.body (as.map some ++ List.replicate (F.nl - F.ps) none) st = .ok (.rt d) (st ++ ext)) : call T G W (n + 1) f as st = .ok d st := by
  rw [call_eq hT hl, h]
  show back st.length d (st ++ ext) = _
  unfold back
  split
  · rename_i e
    have : ext = [] := by
      rw [List.length_append] at e
      exact List.eq_nil_of_length_eq_zero (by omega)
    rw [this, List.append_nil]
  · rw [List.take_left]
theorem Cl.tk {T : Nat → Option Fd} {G : Nat → D} {W k f : Nat} {as : List D} {F : Fd} {d : D} (hT : T f = some F) (hl : as.length = F.ps) (hr : ∀ n, refsLt n d = true) (h : ∀ n, k ≤ n → ∀ st, ∃ ext, exs (call T G W n) G W F.body (as.map some ++ List.replicate (F.nl - F.ps) none) st = .ok (.rt d) (st ++ ext)) : Cl T G W (k + 1) f as d := fun n hn st => by
  obtain ⟨m, rfl⟩ : ∃ m, n = m + 1 := ⟨n - 1, by omega⟩
  obtain ⟨ext, h⟩ := h m (by omega) st
  exact call_tk hT hl (hr _) h
theorem refs_ints (n : Nat) (ns : List Int) : refsLts n (ns.map .int) = true := by
  induction ns with
  | nil => rfl
  | cons a r ih => simp [refsLts, refsLt, ih]
theorem last_at {st : Sto} {o : Obj} : (st ++ [o])[st.length]? = some o := by simp
theorem last_set {st : Sto} {o o' : Obj} : (st ++ [o]).set st.length o' = st ++ [o'] := by simp
theorem rep_one {d : D} {k : Nat} (h : k ≤ 1000) : rep [d] (k : Nat) = some (.frz (List.replicate k d)) := by
  unfold rep
  have e : (List.replicate k [d]).flatten = List.replicate k d := by
    clear h
    induction k with
    | zero => rfl
    | succ k ih => rw [List.replicate_succ, List.flatten_cons, ih, List.replicate_succ]; rfl
  rw [if_pos]
  · rw [Int.toNat_natCast, e]
  · simp only [Bool.and_eq_true, decide_eq_true_eq, Int.toNat_natCast, szOk_iff, List.length_cons, List.length_nil]
    omega
/-! ### a bag of numbers to draw from -/
def pot3 (a b c : Int) : Obj := .lst [.int a, .int b, .int c]
end PL

set_option Elab.async false
set_option linter.all false
set_option maxRecDepth 100000
namespace Lw
open PL
/-- is_whole -/
def b0 : Ss := (.cons (.ret (.and (.isi (.var 0) .int) (.not (.isi (.var 0) .bool)))) .nil)
/-- is_between -/
def b1 : Ss := (.cons (.ret (.and (.call 0 (.cons (.var 0) .nil)) (.chn .le .le (.var 1) (.var 0) (.var 2)))) .nil)
/-- is_text_of -/
def b2 : Ss := (.cons (.ret (.and (.isi (.var 0) .str) (.blt .all (.cons (.comp [2] (.cmp .mem (.var 2) (.var 1)) (.var 2) (.val (.var 0)) .none) .nil)))) .nil)
/-- is_lot_number -/
def b4 : Ss := (.cons (.ret (.call 1 (.cons (.var 0) (.cons (.int 1) (.cons (.glb 1) .nil))))) .nil)
/-- place_count -/
def b5 : Ss := (.cons (.ret (.bin .shl (.int 1) (.var 0))) .nil)
/-- is_picture_of -/
def b6 : Ss := (.cons (.ifs (.or (.not (.isi (.var 1) .tuple)) (.cmp .ne (.blt .len (.cons (.var 1) .nil)) (.call 5 (.cons (.var 0) .nil)))) (.cons (.ret (.bl false)) .nil) .nil) (.cons (.ret (.blt .all (.cons (.comp [2] (.call 1 (.cons (.var 2) (.cons (.int 0) (.cons (.glb 2) .nil)))) (.var 2) (.val (.var 1)) .none) .nil))) .nil))
/-- is_pictured -/
def b7 : Ss := (.cons (.ret (.blt .any (.cons (.comp [1] (.call 6 (.cons (.var 1) (.cons (.var 0) .nil))) (.var 1) (.rng2 (.int 1) (.bin .add (.glb 1) (.int 1))) .none) .nil))) .nil)
/-- is_letter_of -/
def b69 : Ss := (.cons (.ret (.and (.call 2 (.cons (.var 1) (.cons (.slc (.glb 0) .none (.some (.var 0))) .nil))) (.cmp .eq (.blt .len (.cons (.var 1) .nil)) (.int 1)))) .nil)
/-- is_choice_of -/
def b8 : Ss := (.cons (.ret (.and (.call 2 (.cons (.var 1) (.cons (.slc (.glb 0) .none (.some (.var 0))) .nil))) (.blt .all (.cons (.comp [2, 3] (.cmp .lt (.var 2) (.var 3)) (.tup (.cons (.var 2) (.cons (.var 3) .nil))) (.zip (.var 1) (.slc (.var 1) (.some (.int 1)) .none)) .none) .nil)))) .nil)
/-- lot_count_of -/
def b9 : Ss := (.cons (.ret (.bin .sub (.mth .bitlen (.blt .len (.cons (.var 0) .nil)) .nil) (.int 1))) .nil)
/-- lot_of -/
def b10 : Ss := (.cons (.ret (.mth .index (.glb 0) (.cons (.var 0) .nil))) .nil)
/-- index_of -/
def b11 : Ss := (.cons (.ret (.blt .sum (.cons (.comp [1] (.bin .shl (.int 1) (.call 10 (.cons (.var 1) .nil))) (.var 1) (.val (.var 0)) .none) .nil))) .nil)
/-- choice_with -/
def b12 : Ss := (.cons (.ret (.mth .join (.str []) (.cons (.comp [1, 2] (.var 2) (.tup (.cons (.var 1) (.cons (.var 2) .nil))) (.enum (.glb 0)) (.some (.cmp .eq (.bin .band (.bin .shr (.var 0) (.var 1)) (.int 1)) (.int 1)))) .nil))) .nil)
/-- size_of -/
def b13 : Ss := (.cons (.ret (.blt .len (.cons (.call 12 (.cons (.var 0) .nil)) .nil))) .nil)
/-- has_all -/
def b14 : Ss := (.cons (.ret (.cmp .eq (.bin .band (.var 0) (.var 1)) (.var 1))) .nil)
/-- has_some -/
def b15 : Ss := (.cons (.ret (.cmp .ne (.bin .band (.var 0) (.var 1)) (.int 0))) .nil)
/-- things_of -/
def b16 : Ss := (.cons (.ret (.blt .sum (.cons (.var 0) .nil))) .nil)
/-- things_where -/
def b17 : Ss := (.cons (.ret (.blt .sum (.cons (.comp [3, 4] (.var 4) (.tup (.cons (.var 3) (.cons (.var 4) .nil))) (.enum (.var 0)) (.some (.callv 2 (.cons (.var 3) (.cons (.var 1) .nil))))) .nil))) .nil)
/-- meet_at -/
def b18 : Ss := (.cons (.ret (.call 17 (.cons (.var 0) (.cons (.var 1) (.cons (.fnv 14) .nil))))) .nil)
/-- join_at -/
def b19 : Ss := (.cons (.ret (.call 17 (.cons (.var 0) (.cons (.var 1) (.cons (.fnv 15) .nil))))) .nil)
/-- meets_of -/
def b20 : Ss := (.cons (.ret (.blt .tuple (.cons (.comp [1] (.call 18 (.cons (.var 0) (.cons (.var 1) .nil))) (.var 1) (.rng1 (.blt .len (.cons (.var 0) .nil))) .none) .nil))) .nil)
/-- old_places -/
def b70 : Ss := (.cons (.ret (.blt .sum (.cons (.comp [2, 3] (.bin .shl (.int 1) (.var 3)) (.tup (.cons (.var 2) (.cons (.var 3) .nil))) (.enum (.var 0)) (.some (.cmp .eq (.bin .band (.bin .shr (.var 1) (.var 2)) (.int 1)) (.int 1)))) .nil))) .nil)
/-- by_sizes -/
def b21 : Ss := (.cons (.asg (.var 1) (.thaw (.bin .mul (.list (.cons (.int 0) .nil)) (.bin .add (.call 9 (.cons (.var 0) .nil)) (.int 1))))) (.cons (.fr (.tup (.cons (.var 2) (.cons (.var 3) .nil))) (.enum (.var 0)) (.cons (.asg (.idx (.var 1) (.call 13 (.cons (.var 2) .nil))) (.bin .add (.idx (.var 1) (.call 13 (.cons (.var 2) .nil))) (.var 3))) .nil)) (.cons (.ret (.frz (.var 1))) .nil)))
/-- sums_of -/
def b23 : Ss := (.cons (.ret (.call 21 (.cons (.call 20 (.cons (.var 0) .nil)) .nil))) .nil)
/-- sign_by -/
def b24 : Ss := (.cons (.ret (.ife (.cmp .eq (.bin .mod (.var 0) (.int 2)) (.int 0)) (.int 1) (.neg (.int 1)))) .nil)
/-- picture_by_places -/
def b25 : Ss := (.cons (.ret (.blt .tuple (.cons (.comp [2] (.mth .count (.var 1) (.cons (.var 2) .nil)) (.var 2) (.rng1 (.call 5 (.cons (.var 0) .nil))) .none) .nil))) .nil)
/-- first_wrong_divisor -/
def b71 : Ss := (.cons (.fr (.tup (.cons (.var 1) (.cons (.var 2) .nil))) (.enum (.var 0)) (.cons (.ifs (.not (.call 1 (.cons (.var 2) (.cons (.int 1) (.cons (.glb 5) .nil))))) (.cons (.ret (.var 1)) .nil) .nil) .nil)) (.cons (.ret .non) .nil))
/-- multiples_picture -/
def b72 : Ss := (.cons (.asg (.var 1) (.thaw (.list .nil))) (.cons (.fr (.var 2) (.rng2 (.int 1) (.bin .add (.glb 5) (.int 1))) (.cons (.exp (.mth .append (.var 1) (.cons (.blt .sum (.cons (.comp [3, 4] (.bin .shl (.int 1) (.var 3)) (.tup (.cons (.var 3) (.cons (.var 4) .nil))) (.enum (.var 0)) (.some (.cmp .eq (.bin .mod (.var 2) (.var 4)) (.int 0)))) .nil)) .nil))) .nil)) (.cons (.ret (.call 25 (.cons (.blt .len (.cons (.var 0) .nil)) (.cons (.var 1) .nil)))) .nil)))
/-- check_picture -/
def b35 : Ss := (.cons (.ifs (.not (.call 7 (.cons (.var 0) .nil))) (.cons .nev .nil) .nil) .nil)
/-- check_size -/
def b38 : Ss := (.cons (.ifs (.not (.call 1 (.cons (.var 0) (.cons (.var 1) (.cons (.var 2) .nil))))) (.cons .nev .nil) .nil) .nil)
/-- check_choice -/
def b39 : Ss := (.cons (.ifs (.not (.call 8 (.cons (.var 0) (.cons (.var 1) .nil)))) (.cons .nev .nil) .nil) .nil)
/-- check_picture_choice -/
def b40 : Ss := (.cons (.exp (.call 35 (.cons (.var 0) .nil))) (.cons (.exp (.call 39 (.cons (.call 9 (.cons (.var 0) .nil)) (.cons (.var 1) .nil)))) .nil))
/-- check_letter -/
def b73 : Ss := (.cons (.ifs (.not (.call 69 (.cons (.var 0) (.cons (.var 1) .nil)))) (.cons .nev .nil) .nil) .nil)
/-- check_picture_letter -/
def b74 : Ss := (.cons (.exp (.call 35 (.cons (.var 0) .nil))) (.cons (.exp (.call 73 (.cons (.call 9 (.cons (.var 0) .nil)) (.cons (.var 1) .nil)))) .nil))
/-- check_order -/
def b75 : Ss := (.cons (.ifs (.not (.isi (.var 1) .tuple)) (.cons .nev .nil) .nil) (.cons (.fr (.tup (.cons (.var 2) (.cons (.var 3) .nil))) (.enum (.var 1)) (.cons (.ifs (.or (.not (.call 1 (.cons (.var 3) (.cons (.int 0) (.cons (.bin .sub (.var 0) (.int 1)) .nil))))) (.cmp .mem (.var 3) (.slc (.var 1) .none (.some (.var 2))))) (.cons .nev .nil) .nil) .nil)) (.cons (.ifs (.cmp .lt (.blt .len (.cons (.var 1) .nil)) (.var 0)) (.cons .nev .nil) .nil) .nil)))
/-- lot_sizes_picture -/
def b76 : Ss := (.cons (.ifs (.or (.not (.isi (.var 0) .tuple)) (.not (.call 4 (.cons (.blt .len (.cons (.var 0) .nil)) .nil)))) (.cons .nev .nil) .nil) (.cons (.asg (.var 1) (.call 71 (.cons (.var 0) .nil))) (.cons (.ifs (.cmp .isn (.var 1) .non) (.cons .nev .nil) .nil) (.cons (.ret (.call 72 (.cons (.var 0) .nil))) .nil))))
/-- named_anew_by -/
def b77 : Ss := (.cons (.ret (.blt .tuple (.cons (.comp [2] (.idx (.var 0) (.call 70 (.cons (.var 1) (.cons (.var 2) .nil)))) (.var 2) (.rng1 (.blt .len (.cons (.var 0) .nil))) .none) .nil))) .nil)
/-- named_anew -/
def b78 : Ss := (.cons (.exp (.call 35 (.cons (.var 0) .nil))) (.cons (.exp (.call 75 (.cons (.call 9 (.cons (.var 0) .nil)) (.cons (.var 1) .nil)))) (.cons (.ret (.call 77 (.cons (.var 0) (.cons (.var 1) .nil)))) .nil)))
/-- meet -/
def b79 : Ss := (.cons (.exp (.call 40 (.cons (.var 0) (.cons (.var 1) .nil)))) (.cons (.ret (.call 18 (.cons (.var 0) (.cons (.call 11 (.cons (.var 1) .nil)) .nil)))) .nil))
/-- join -/
def b80 : Ss := (.cons (.exp (.call 40 (.cons (.var 0) (.cons (.var 1) .nil)))) (.cons (.ret (.call 19 (.cons (.var 0) (.cons (.call 11 (.cons (.var 1) .nil)) .nil)))) .nil))
/-- things -/
def b47 : Ss := (.cons (.exp (.call 35 (.cons (.var 0) .nil))) (.cons (.ret (.call 16 (.cons (.var 0) .nil))) .nil))
/-- sieve_of -/
def b81 : Ss := (.cons (.ret (.blt .sum (.cons (.comp [2, 3] (.bin .sub (.int 0) (.bin .mul (.call 24 (.cons (.var 2) .nil)) (.var 3))) (.tup (.cons (.var 2) (.cons (.var 3) .nil))) (.enum (.call 23 (.cons (.var 0) .nil))) (.some (.chn .le .le (.int 1) (.var 2) (.var 1)))) .nil))) .nil)
/-- check_steps -/
def b82 : Ss := (.cons (.exp (.call 35 (.cons (.var 0) .nil))) (.cons (.exp (.call 38 (.cons (.var 1) (.cons (.int 1) (.cons (.call 9 (.cons (.var 0) .nil)) .nil))))) .nil))
/-- sieve -/
def b83 : Ss := (.cons (.exp (.call 82 (.cons (.var 0) (.cons (.var 1) .nil)))) (.cons (.ret (.call 81 (.cons (.var 0) (.cons (.var 1) .nil)))) .nil))
/-- is_within_by -/
def b84 : Ss := (.cons (.ret (.cmp .eq (.call 18 (.cons (.var 0) (.cons (.bin .bor (.call 11 (.cons (.var 1) .nil)) (.call 11 (.cons (.var 2) .nil))) .nil))) (.call 18 (.cons (.var 0) (.cons (.call 11 (.cons (.var 1) .nil)) .nil))))) .nil)
/-- check_two_letters -/
def b85 : Ss := (.cons (.exp (.call 74 (.cons (.var 0) (.cons (.var 1) .nil)))) (.cons (.exp (.call 73 (.cons (.call 9 (.cons (.var 0) .nil)) (.cons (.var 2) .nil)))) .nil))
/-- is_within -/
def b86 : Ss := (.cons (.exp (.call 85 (.cons (.var 0) (.cons (.var 1) (.cons (.var 2) .nil))))) (.cons (.ret (.call 84 (.cons (.var 0) (.cons (.var 1) (.cons (.var 2) .nil))))) .nil))
/-- _law_pot -/
def b87 : Ss := (.cons (.asg (.var 2) (.ife (.cmp .lt (.var 1) (.blt .len (.cons (.var 0) .nil))) (.blt .int (.cons (.idx (.var 0) (.var 1)) .nil)) (.bin .add (.bin .add (.bin .mul (.int 7907) (.var 1)) (.int 37)) (.bin .mod (.blt .int (.cons (.blt .sum (.cons (.slc (.var 0) .none (.some (.int 3))) .nil)) .nil)) (.int 1000033))))) (.cons (.asg (.var 3) (.bin .add (.int 1002593) (.bin .mul (.int 10037) (.var 1)))) (.cons (.fr (.var 4) (.val (.bin .add (.slc (.var 0) .none (.some (.int 7))) (.list (.cons (.var 2) .nil)))) (.cons (.asg (.var 3) (.bin .mod (.blt .int (.cons (.bin .add (.bin .add (.bin .mul (.var 3) (.int 69621)) (.bin .mod (.blt .int (.cons (.var 4) .nil)) (.int 2147483563))) (.int 23)) .nil)) (.int 2147483563))) .nil)) (.cons (.ret (.thaw (.list (.cons (.ife (.or (.cmp .lt (.var 2) (.int 0)) (.cmp .ge (.var 2) (.bin .pow (.int 10) (.int 18)))) (.bin .mod (.blt .int (.cons (.blt .abs (.cons (.var 2) .nil)) .nil)) (.bin .pow (.int 10) (.int 64))) (.int 0)) (.cons (.var 3) (.cons (.int 0) .nil)))))) .nil))))
/-- _law_draw -/
def b50 : Ss := (.cons (.ifs (.cmp .gt (.idx (.var 0) (.int 0)) (.int 0)) (.cons (.asg (.tup (.cons (.idx (.var 0) (.int 0)) (.cons (.var 2) .nil))) (.blt .divmod (.cons (.idx (.var 0) (.int 0)) (.cons (.var 1) .nil)))) (.cons (.ret (.var 2)) .nil)) .nil) (.cons (.asg (.idx (.var 0) (.int 2)) (.bin .add (.idx (.var 0) (.int 2)) (.int 1))) (.cons (.asg (.idx (.var 0) (.int 1)) (.bin .mod (.blt .int (.cons (.bin .add (.bin .add (.bin .mul (.idx (.var 0) (.int 1)) (.bin .add (.bin .mod (.blt .int (.cons (.idx (.var 0) (.int 1)) .nil)) (.int 10007)) (.int 20011))) (.bin .mul (.int 60013) (.idx (.var 0) (.int 2)))) (.int 61)) .nil)) (.int 2147483563))) (.cons (.ret (.bin .mod (.blt .int (.cons (.bin .fdiv (.idx (.var 0) (.int 1)) (.int 97)) .nil)) (.var 1))) .nil))))
/-- _law_pick -/
def b51 : Ss := (.cons (.ret (.idx (.var 1) (.call 50 (.cons (.var 0) (.cons (.blt .len (.cons (.var 1) .nil)) .nil))))) .nil)
/-- _law_same -/
def b52 : Ss := (.cons (.ifs (.or (.and (.isi (.var 1) .tuple) (.isi (.var 0) .tuple)) (.and (.isi (.var 1) .list) (.isi (.var 0) .list))) (.cons (.ret (.and (.cmp .eq (.blt .len (.cons (.var 0) .nil)) (.blt .len (.cons (.var 1) .nil))) (.blt .all (.cons (.comp [2] (.call 52 (.cons (.idx (.var 0) (.var 2)) (.cons (.idx (.var 1) (.var 2)) .nil))) (.var 2) (.rng1 (.blt .len (.cons (.var 1) .nil))) .none) .nil)))) .nil) .nil) (.cons (.ifs (.or (.isi (.var 1) .tuple) (.or (.isi (.var 1) .list) (.cmp .ne (.isi (.var 1) .bool) (.isi (.var 0) .bool)))) (.cons (.ret (.bl false)) .nil) .nil) (.cons (.ifs (.or (.cmp .ne (.isi (.var 1) .int) (.isi (.var 0) .int)) (.cmp .ne (.isi (.var 1) .str) (.isi (.var 0) .str))) (.cons (.ret (.bl false)) .nil) .nil) (.cons (.ret (.ife (.cmp .is (.var 1) .non) (.cmp .is (.var 0) .non) (.cmp .eq (.var 0) (.var 1)))) .nil))))
/-- _law_choice -/
def b55 : Ss := (.cons (.ret (.mth .join (.str []) (.cons (.comp [1, 2] (.var 2) (.tup (.cons (.var 1) (.cons (.var 2) .nil))) (.enum (.str [65, 66, 67, 68])) (.some (.cmp .eq (.bin .mod (.blt .int (.cons (.bin .fdiv (.var 0) (.bin .shl (.int 1) (.var 1))) .nil)) (.int 2)) (.int 1)))) .nil))) .nil)
/-- _law_order -/
def b57 : Ss := (.cons (.par [2, 3] (.cons (.thaw (.rgv false .none (.var 1))) (.cons (.tup .nil) .nil))) (.cons (.fr (.var 4) (.rng1 (.var 1)) (.cons (.asg (.var 3) (.bin .add (.var 3) (.tup (.cons (.mth .popAt (.var 2) (.cons (.call 50 (.cons (.var 0) (.cons (.blt .len (.cons (.var 2) .nil)) .nil))) .nil)) .nil)))) .nil)) (.cons (.ret (.var 3)) .nil)))
/-- _law_common -/
def b88 : Ss := (.cons (.fr (.var 2) (.rng1 (.int 100)) (.cons (.ifs (.cmp .gt (.var 1) (.int 0)) (.cons (.par [0, 1] (.cons (.var 1) (.cons (.bin .mod (.blt .int (.cons (.var 0) .nil)) (.var 1)) .nil))) .nil) .nil) .nil)) (.cons (.ret (.var 0)) .nil))
/-- _law_is_right -/
def b89 : Ss := (.cons (.asg (.var 2) (.thaw (.bin .mul (.list (.cons (.int 0) .nil)) (.bin .shl (.int 1) (.blt .len (.cons (.var 1) .nil)))))) (.cons (.fr (.var 3) (.rng2 (.int 1) (.int 61)) (.cons (.asg (.var 4) (.blt .sum (.cons (.comp [5, 6] (.bin .shl (.int 1) (.var 5)) (.tup (.cons (.var 5) (.cons (.var 6) .nil))) (.enum (.var 1)) (.some (.cmp .eq (.bin .mod (.blt .int (.cons (.var 3) .nil)) (.var 6)) (.int 0)))) .nil))) (.cons (.asg (.idx (.var 2) (.var 4)) (.bin .add (.idx (.var 2) (.var 4)) (.int 1))) .nil))) (.cons (.asg (.var 7) (.blt .tuple (.cons (.var 2) .nil))) (.cons (.ifs (.not (.call 52 (.cons (.list (.cons (.call 76 (.cons (.var 1) .nil)) (.cons (.callk 76 .nil (.cons (.var 1) .nil) [0]) (.cons (.call 47 (.cons (.var 7) .nil)) .nil)))) (.cons (.list (.cons (.var 7) (.cons (.var 7) (.cons (.int 60) .nil)))) .nil)))) (.cons (.ret (.bl false)) .nil) .nil) (.cons (.fr (.var 4) (.rng1 (.blt .len (.cons (.var 7) .nil))) (.cons (.asg (.var 8) (.int 1)) (.cons (.fr (.tup (.cons (.var 5) (.cons (.var 6) .nil))) (.enum (.var 1)) (.cons (.ifs (.cmp .eq (.bin .mod (.blt .int (.cons (.bin .fdiv (.var 4) (.bin .shl (.int 1) (.var 5))) .nil)) (.int 2)) (.int 1)) (.cons (.asg (.var 8) (.bin .mul (.bin .fdiv (.var 8) (.call 88 (.cons (.var 8) (.cons (.var 6) .nil)))) (.var 6))) .nil) .nil) .nil)) (.cons (.ifs (.not (.call 52 (.cons (.call 79 (.cons (.var 7) (.cons (.call 55 (.cons (.var 4) .nil)) .nil))) (.cons (.bin .fdiv (.int 60) (.var 8)) .nil)))) (.cons (.ret (.bl false)) .nil) .nil) .nil)))) (.cons (.par [9, 10] (.cons (.blt .len (.cons (.var 1) .nil)) (.cons (.slc (.str [65, 66, 67, 68]) .none (.some (.blt .len (.cons (.var 1) .nil)))) .nil))) (.cons (.fr (.var 11) (.rng1 (.var 9)) (.cons (.fr (.var 12) (.rng1 (.var 9)) (.cons (.ifs (.and (.cmp .eq (.bin .mod (.blt .int (.cons (.idx (.var 1) (.var 11)) .nil)) (.idx (.var 1) (.var 12))) (.int 0)) (.cmp .isn (.call 86 (.cons (.var 7) (.cons (.idx (.var 10) (.var 11)) (.cons (.idx (.var 10) (.var 12)) .nil)))) (.bl true))) (.cons (.ret (.bl false)) .nil) .nil) .nil)) .nil)) (.cons (.asg (.var 13) (.call 57 (.cons (.var 0) (.cons (.var 9) .nil)))) (.cons (.ifs (.cmp .ne (.call 76 (.cons (.blt .tuple (.cons (.comp [5] (.idx (.var 1) (.var 5)) (.var 5) (.val (.var 13)) .none) .nil)) .nil)) (.call 78 (.cons (.var 7) (.cons (.var 13) .nil)))) (.cons (.ret (.bl false)) .nil) .nil) (.cons (.ret (.call 52 (.cons (.list (.cons (.call 83 (.cons (.var 7) (.cons (.var 9) .nil))) (.cons (.call 80 (.cons (.var 7) (.cons (.var 10) .nil))) .nil))) (.cons (.bin .mul (.list (.cons (.blt .sum (.cons (.slc (.var 7) (.some (.int 1)) .none) .nil)) .nil)) (.int 2)) .nil)))) .nil))))))))))
/-- _law_right -/
def b90 : Ss := (.cons (.fr (.var 1) (.rng1 (.int 30)) (.cons (.par [2, 3] (.cons (.tup .nil) (.cons (.call 51 (.cons (.var 0) (.cons (.tup (.cons (.int 6) (.cons (.int 12) (.cons (.int 30) (.cons (.int 60) .nil))))) .nil))) .nil))) (.cons (.fr (.var 4) (.rng1 (.bin .add (.int 1) (.call 50 (.cons (.var 0) (.cons (.int 4) .nil))))) (.cons (.asg (.var 2) (.bin .add (.var 2) (.tup (.cons (.bin .add (.int 1) (.call 50 (.cons (.var 0) (.cons (.var 3) .nil)))) .nil)))) .nil)) (.cons (.ifs (.not (.call 89 (.cons (.var 0) (.cons (.var 2) .nil)))) (.cons (.ret (.bl false)) .nil) .nil) .nil)))) (.cons (.ret (.bl true)) .nil))
/-- law -/
def b91 : Ss := (.cons (.asg (.var 1) (.call 87 (.cons (.var 0) (.cons (.int 5) .nil)))) (.cons (.ifs (.not (.blt .all (.cons (.comp [2] (.call 89 (.cons (.var 1) (.cons (.tup (.cons (.var 2) .nil)) .nil))) (.var 2) (.rng2 (.int 1) (.int 61)) .none) .nil))) (.cons (.ret (.bl false)) .nil) .nil) (.cons (.ret (.blt .all (.cons (.comp [3] (.call 90 (.cons (.call 87 (.cons (.var 0) (.cons (.var 3) .nil))) .nil)) (.var 3) (.rng1 (.blt .max2 (.cons (.int 2) (.cons (.blt .min2 (.cons (.blt .len (.cons (.var 0) .nil)) (.cons (.int 4) .nil))) .nil)))) .none) .nil))) .nil)))
def T : Nat → Option Fd
  | 0 => some ⟨1, 1, b0⟩
  | 1 => some ⟨3, 3, b1⟩
  | 2 => some ⟨2, 3, b2⟩
  | 4 => some ⟨1, 1, b4⟩
  | 5 => some ⟨1, 1, b5⟩
  | 6 => some ⟨2, 3, b6⟩
  | 7 => some ⟨1, 2, b7⟩
  | 69 => some ⟨2, 2, b69⟩
  | 8 => some ⟨2, 4, b8⟩
  | 9 => some ⟨1, 1, b9⟩
  | 10 => some ⟨1, 1, b10⟩
  | 11 => some ⟨1, 2, b11⟩
  | 12 => some ⟨1, 3, b12⟩
  | 13 => some ⟨1, 1, b13⟩
  | 14 => some ⟨2, 2, b14⟩
  | 15 => some ⟨2, 2, b15⟩
  | 16 => some ⟨1, 1, b16⟩
  | 17 => some ⟨3, 5, b17⟩
  | 18 => some ⟨2, 2, b18⟩
  | 19 => some ⟨2, 2, b19⟩
  | 20 => some ⟨1, 2, b20⟩
  | 70 => some ⟨2, 4, b70⟩
  | 21 => some ⟨1, 4, b21⟩
  | 23 => some ⟨1, 1, b23⟩
  | 24 => some ⟨1, 1, b24⟩
  | 25 => some ⟨2, 3, b25⟩
  | 71 => some ⟨1, 3, b71⟩
  | 72 => some ⟨1, 5, b72⟩
  | 35 => some ⟨1, 1, b35⟩
  | 38 => some ⟨3, 3, b38⟩
  | 39 => some ⟨2, 2, b39⟩
  | 40 => some ⟨2, 2, b40⟩
  | 73 => some ⟨2, 2, b73⟩
  | 74 => some ⟨2, 2, b74⟩
  | 75 => some ⟨2, 4, b75⟩
  | 76 => some ⟨1, 2, b76⟩
  | 77 => some ⟨2, 3, b77⟩
  | 78 => some ⟨2, 2, b78⟩
  | 79 => some ⟨2, 2, b79⟩
  | 80 => some ⟨2, 2, b80⟩
  | 47 => some ⟨1, 1, b47⟩
  | 81 => some ⟨2, 4, b81⟩
  | 82 => some ⟨2, 2, b82⟩
  | 83 => some ⟨2, 2, b83⟩
  | 84 => some ⟨3, 3, b84⟩
  | 85 => some ⟨3, 3, b85⟩
  | 86 => some ⟨3, 3, b86⟩
  | 87 => some ⟨2, 5, b87⟩
  | 50 => some ⟨2, 3, b50⟩
  | 51 => some ⟨2, 2, b51⟩
  | 52 => some ⟨2, 3, b52⟩
  | 55 => some ⟨1, 3, b55⟩
  | 57 => some ⟨2, 5, b57⟩
  | 88 => some ⟨2, 3, b88⟩
  | 89 => some ⟨2, 14, b89⟩
  | 90 => some ⟨1, 5, b90⟩
  | 91 => some ⟨1, 4, b91⟩
  | _ => none
def Gc : Nat → D
  | 1 => .int 4
  | 2 => .int 99
  | 0 => .str [65, 66, 67, 68]
  | 5 => .int 60
  | _ => .non
end Lw

set_option Elab.async false
set_option linter.all false
set_option maxRecDepth 100000
set_option maxHeartbeats 1000000
namespace Lw
open PL
/-! ### drawing -/
theorem sp_draw {n : Nat} (hn : 1 ≤ n) {st : Sto} {i : Nat} {a b c m : Int} (hi : st[i]? = some (pot3 a b c)) (h0 : 0 < m) (h1 : m < 1073741824) :
    ∃ a' b' c' r, 0 ≤ r ∧ r < m ∧ PL.call T Gc 100000 n 50 [.lst i, .int m] st = .ok (.int r) (st.set i (pot3 a' b' c')) := by
  obtain ⟨k, rfl⟩ : ∃ k, n = k + 1 := ⟨n - 1, by omega⟩
  have hl : i < st.length := (List.getElem?_eq_some_iff.mp hi).1
  have hs : ∀ o : Obj, (st.set i o)[i]? = some o := fun o => List.getElem?_set_self hl
  have ix : ∀ k : Int, ixD st (.lst i) k = atI [.int a, .int b, .int c] k := fun k => ix_lst hi
  have ixs : ∀ (ds : List D) (k : Int), ixD (st.set i (.lst ds)) (.lst i) k = atI ds k := fun ds k => ix_lst (hs _)
  by_cases ha : 0 < a
  · refine ⟨a / m, b, c, a % m, Int.emod_nonneg _ (by omega), Int.emod_lt_of_pos _ h0, call_rt (F := ⟨2, 3, b50⟩) rfl rfl (by simp) ?_⟩
    simp [b50, hi, pot3, ix, atI, ixN, ha, h0, h1]
  · have sm : small (b % 10007 + 20011) = true := by
      have := Int.emod_nonneg b (b := 10007) (by decide)
      have := Int.emod_lt_of_pos b (b := 10007) (by decide)
      simp [small]
      omega
    have s6 : small 60013 = true := rfl
    refine ⟨a, (b * (b % 10007 + 20011) + 60013 * (c + 1) + 61) % 2147483563, c + 1, _, Int.emod_nonneg ((b * (b % 10007 + 20011) + 60013 * (c + 1) + 61) % 2147483563 / 97) (by omega), Int.emod_lt_of_pos _ h0, call_rt (F := ⟨2, 3, b50⟩) rfl rfl (by simp) ?_⟩
    simp [b50, hi, hs, pot3, ix, ixs, atI, ixN, ha, h0, sm, s6]
/-! ### the bag -/
theorem sp_pot {n : Nat} (hn : 1 ≤ n) {st : Sto} {ns : List Int} {t : Nat} (hl : ns.length ≤ 63) (ht : t ≤ 100) :
    ∃ a b c, PL.call T Gc 100000 n 87 [.scr (ns.map D.int), .int t] st = .ok (.lst st.length) (st ++ [pot3 a b c]) := by
  obtain ⟨k, rfl⟩ : ∃ k, n = k + 1 := ⟨n - 1, by omega⟩
  have s1 : small 7907 = true := rfl
  have s2 : small 10037 = true := rfl
  have s3 : small 69621 = true := rfl
  have cell : ∃ c : Int, ex (PL.call T Gc 100000 k) Gc 100000 (.asg (.var 2) (.ife (.cmp .lt (.var 1) (.blt .len (.cons (.var 0) .nil))) (.blt .int (.cons (.idx (.var 0) (.var 1)) .nil)) (.bin .add (.bin .add (.bin .mul (.int 7907) (.var 1)) (.int 37)) (.bin .mod (.blt .int (.cons (.blt .sum (.cons (.slc (.var 0) .none (.some (.int 3))) .nil)) .nil)) (.int 1000033)))))
      [some (.scr (ns.map D.int)), some (.int t), none, none, none] st = .ok (.nx [some (.scr (ns.map D.int)), some (.int t), some (.int c), none, none]) st := by
    by_cases h : t < ns.length
    · refine ⟨ns[t], ?_⟩
      simp [h, at_nat]
    · simp [h, s1, cut_map, ints_map]
  obtain ⟨c, hc⟩ := cell
  have hlen : (cut ns none (some 7)).length ≤ 63 := Nat.le_trans (cut_le _ _ _) hl
  obtain ⟨e, s, he, ⟨q, x, hq⟩, hs⟩ := ex_for (C := PL.call T Gc 100000 k) (G := Gc) (W := 100000) (t := .var 4) (it := .val (.bin .add (.slc (.var 0) .none (.some (.int 7))) (.list (.cons (.var 2) .nil))))
    (b := .cons (.asg (.var 3) (.bin .mod (.blt .int (.cons (.bin .add (.bin .add (.bin .mul (.var 3) (.int 69621)) (.bin .mod (.blt .int (.cons (.var 4) .nil)) (.int 2147483563))) (.int 23)) .nil)) (.int 2147483563))) .nil)
    (env := [some (.scr (ns.map D.int)), some (.int t), some (.int c), some (.int (1002593 + 10037 * t)), none]) (st := st) (ds := (cut ns none (some 7) ++ [c]).map D.int)
    (fun _ e s => (∃ (q : Int) (x : Option D), e = [some (.scr (ns.map D.int)), some (.int t), some (.int c), some (.int q), x]) ∧ s = st)
    (by
      have h1 : (cut ns none (some 7)).length + 1 ≤ 16777216 := by omega
      simp [cut_map, h1]) ⟨⟨_, _, rfl⟩, rfl⟩ (fun i d hd e s ⟨⟨q, x, he⟩, hs⟩ => by
      subst he hs
      rw [List.getElem?_map] at hd
      obtain ⟨z, _, rfl⟩ := Option.map_eq_some_iff.mp hd
      exact ⟨_, _, .inl (by simp [s3]; exact ⟨rfl, rfl⟩), ⟨_, _, rfl⟩, rfl⟩)
  subst hq hs
  have s4 : small 10037 = true := rfl
  refine ⟨if decide (c < 0) || decide (1000000000000000000 ≤ c) then (if c < 0 then -c else c) % 10 ^ 64 else 0, q, 0, ?_⟩
  rw [call_eq (F := ⟨2, 5, b87⟩) rfl rfl]
  show fin _ (exs _ _ _ (.cons _ (.cons _ (.cons _ _))) [some (.scr (ns.map D.int)), some (.int t), none, none, none] _) = _
  rw [exs_cons hc, exs_cons (env' := [some (.scr (ns.map D.int)), some (.int t), some (.int c), some (.int (1002593 + 10037 * t)), none]) (st' := s) (by simp [s2]), exs_cons he]
  have p1 : iop .pow 10 18 = some 1000000000000000000 := rfl
  have p2 : iop .pow 10 64 = some (10 ^ 64) := rfl
  by_cases h1 : c < 0
  · simp [p1, p2, h1, fin, back, refsLt, pot3]
  · by_cases h2 : 1000000000000000000 ≤ c
    · simp [p1, p2, h1, h2, fin, back, refsLt, pot3]
    · simp [p1, p2, h1, h2, fin, back, refsLt, pot3]
/-- data, so many levels deep at most -/
def Plain : Nat → D → Prop
  | 0, d => (match d with | .int _ => True | .bl _ => True | .non => True | _ => False)
  | k + 1, d => (match d with | .int _ => True | .bl _ => True | .non => True | .tup ds => ds.length < 1000 ∧ ∀ d ∈ ds, Plain k d | .frz ds => ds.length < 1000 ∧ ∀ d ∈ ds, Plain k d | _ => False)
theorem sp_pick {n : Nat} (hn : 2 ≤ n) {st : Sto} {i : Nat} {a b c : Int} {ds : List D} (hi : st[i]? = some (pot3 a b c)) (h0 : 0 < ds.length) (h1 : ds.length < 1000000) :
    ∃ a' b' c' d, d ∈ ds ∧ PL.call T Gc 100000 n 51 [.lst i, .tup ds] st = .ok d (st.set i (pot3 a' b' c')) := by
  obtain ⟨k, rfl⟩ : ∃ k, n = k + 1 := ⟨n - 1, by omega⟩
  obtain ⟨a', b', c', r, r0, r1, e⟩ := sp_draw (n := k) (by omega) hi (m := (ds.length : Nat)) (by omega) (by omega)
  obtain ⟨j, rfl⟩ : ∃ j : Nat, r = j := ⟨r.toNat, by omega⟩
  have hj : j < ds.length := by omega
  refine ⟨a', b', c', ds[j], List.getElem_mem _, call_rt (F := ⟨2, 2, b51⟩) rfl rfl (by simp) ?_⟩
  simp [b51, e, at_nat hj, hj]
/-! ### the same -/
def eSame : E := .comp [2] (.call 52 (.cons (.idx (.var 0) (.var 2)) (.cons (.idx (.var 1) (.var 2)) .nil))) (.var 2) (.rng1 (.blt .len (.cons (.var 1) .nil))) .none
theorem rng_nat {n : Nat} (h : n < 1000000) : rngOk (n : Int) = true := by
  simp only [rngOk, Bool.and_eq_true, decide_eq_true_eq]
  omega
theorem same_leaf (k : Nat) (d : D) (h : (match d with | .int _ => True | .bl _ => True | .non => True | _ => False)) : Cl T Gc 100000 (k + 1) 52 [d, d] (.bl true) := by
  refine Cl.rt (F := ⟨2, 3, b52⟩) rfl rfl fun n hn st => ?_
  show exs _ _ _ b52 [some d, some d, none] st = _
  cases d with
  | int i => simp [b52]
  | bl i => simp [b52]
  | non => simp [b52]
  | _ => exact h.elim
theorem same_ev {C : Nat → List D → Sto → R D} {d : D} {ds : List D} {st : Sto} (hd : d = .tup ds ∨ d = .frz ds) (hl : ds.length < 1000) (ih : ∀ d ∈ ds, ∀ st, C 52 [d, d] st = .ok (.bl true) st) : exs C Gc 100000 b52 [some d, some d, none] st = .ok (.rt (.bl true)) st := by
  have hr := rng_nat (n := ds.length) (by omega)
  have hc : ev C Gc eSame [some d, some d, none] st = .ok (.frz ((List.range ds.length).filterMap fun _ => some (.bl true))) st := by
    refine ev_lcm (fun k => .int (k : Nat)) _ _ (by rcases hd with rfl | rfl <;> simp [hr, rng_map]) (by simp; omega) fun a ha => ?_
    have ha : a < ds.length := by simpa using ha
    rcases hd with rfl | rfl <;> simp [compB, wipe, at_nat ha, ha, ih]
  unfold eSame at hc
  rcases hd with rfl | rfl <;> simp [b52, hc]
theorem same_seq {k : Nat} {d : D} {ds : List D} (ih : ∀ d, Plain k d → Cl T Gc 100000 (k + 1) 52 [d, d] (.bl true)) (hd : d = .tup ds ∨ d = .frz ds) (hl : ds.length < 1000) (h : ∀ d ∈ ds, Plain k d) : Cl T Gc 100000 (k + 1 + 1) 52 [d, d] (.bl true) :=
  Cl.rt (F := ⟨2, 3, b52⟩) rfl rfl fun n hn st => same_ev hd hl fun d hd st => ih d (h d hd) n hn st
theorem sp_same (k : Nat) : ∀ d : D, Plain k d → Cl T Gc 100000 (k + 1) 52 [d, d] (.bl true) := by
  induction k with
  | zero => exact fun d h => same_leaf 0 d h
  | succ k ih =>
    intro d h
    cases d with
    | int i => exact same_leaf _ _ trivial
    | bl i => exact same_leaf _ _ trivial
    | non => exact same_leaf _ _ trivial
    | tup ds => exact same_seq ih (.inl rfl) h.1 h.2
    | frz ds => exact same_seq ih (.inr rfl) h.1 h.2
    | _ => exact h.elim
/-! ### forms -/
abbrev pic (p : List Int) : D := .tup (p.map D.int)
theorem sp_whole (i : Int) : Cl T Gc 100000 1 0 [.int i] (.bl true) := Cl.rt (F := ⟨1, 1, b0⟩) rfl rfl fun n hn st => by
  show exs _ _ _ b0 [some (.int i)] st = _
  simp [b0]
theorem sp_between (v lo hi : Int) : Cl T Gc 100000 2 1 [.int v, .int lo, .int hi] (.bl (decide (lo ≤ v) && decide (v ≤ hi))) := Cl.rt (k := 1) (F := ⟨3, 3, b1⟩) rfl rfl fun n hn st => by
  show exs _ _ _ b1 [some (.int v), some (.int lo), some (.int hi)] st = _
  have h := sp_whole v n hn
  by_cases h1 : lo ≤ v <;> simp [b1, h, h1]
theorem sp_lotnum (v : Int) : Cl T Gc 100000 3 4 [.int v] (.bl (decide (1 ≤ v) && decide (v ≤ 4))) := Cl.rt (k := 2) (F := ⟨1, 1, b4⟩) rfl rfl fun n hn st => by
  show exs _ _ _ b4 [some (.int v)] st = _
  have h := sp_between v 1 4 n hn
  have g : Gc 1 = .int 4 := rfl
  simp [b4, h, g]
theorem shl_one {m : Nat} (h : m ≤ 100) : iop .shl 1 (m : Int) = some (2 ^ m) := by
  show (if decide (0 ≤ (m : Int)) && (decide ((m : Int) ≤ 1000000) && decide ((1 : Int).natAbs < 2 ^ 64)) then some ((1 : Int) * 2 ^ ((m : Int).toNat)) else none) = _
  rw [if_pos]
  · simp
  · simp
    omega
theorem sp_places {m : Nat} (h : m ≤ 100) : Cl T Gc 100000 1 5 [.int (m : Nat)] (.int (2 ^ m)) := Cl.rt (F := ⟨1, 1, b5⟩) rfl rfl fun n hn st => by
  show exs _ _ _ b5 [some (.int (m : Nat))] st = _
  simp [b5, shl_one h]
def Pic (m : Nat) (p : List Int) : Prop := 1 ≤ m ∧ m ≤ 4 ∧ p.length = 2 ^ m ∧ ∀ x ∈ p, 0 ≤ x ∧ x ≤ 99
theorem Pic.len {m : Nat} {p : List Int} (h : Pic m p) : p.length ≤ 16 := by
  obtain ⟨h1, h2, h3, _⟩ := h
  rw [h3]
  exact Nat.le_trans (Nat.pow_le_pow_right (n := 2) (by decide) h2) (by decide)
theorem two_inj {a b : Nat} (h : (2 : Int) ^ a = 2 ^ b) : a = b := by
  have h2 : (2 : Nat) ^ a = 2 ^ b := by exact_mod_cast h
  exact (Nat.pow_right_inj (by decide)).mp h2
theorem sp_picof {m k : Nat} {p : List Int} (h : Pic m p) (hk : k ≤ 4) : Cl T Gc 100000 3 6 [.int (k : Nat), pic p] (.bl (decide (k = m))) := Cl.rt (k := 2) (F := ⟨2, 3, b6⟩) rfl rfl fun n hn st => by
  show exs _ _ _ b6 [some (.int (k : Nat)), some (pic p), none] st = _
  have g : Gc 2 = .int 99 := rfl
  have hp := sp_places (m := k) (by omega) n (by omega)
  have hl := h.len
  have hb : ∀ (v : Int) st, PL.call T Gc 100000 n 1 [.int v, .int 0, .int 99] st = .ok (.bl (decide (0 ≤ v) && decide (v ≤ 99))) st := fun v => sp_between v 0 99 n hn
  have hc : ev (PL.call T Gc 100000 n) Gc (.comp [2] (.call 1 (.cons (.var 2) (.cons (.int 0) (.cons (.glb 2) .nil)))) (.var 2) (.val (.var 1)) .none) [some (.int (k : Nat)), some (pic p), none] st = .ok (.frz (p.filterMap fun x => some (.bl (decide (0 ≤ x) && decide (x ≤ 99))))) st := by
    refine ev_lcm D.int _ _ (by simp [pic]) (by omega) fun a ha => ?_
    simp [compB, wipe, g, hb]
  by_cases hm : k = m
  · subst hm
    have e : ((p.length : Int) == 2 ^ k) = true := by
      rw [h.2.2.1]
      simp
    have all : (p.map fun x => decide (0 ≤ x) && decide (x ≤ 99)).all id = true := by
      rw [List.all_eq_true]
      intro b hb
      obtain ⟨x, hx, rfl⟩ := List.mem_map.mp hb
      have := h.2.2.2 x hx
      simp [this.1, this.2]
    simp [b6, pic, hp, e, hc, all]
  · have e : ((p.length : Int) == 2 ^ k) = false := by
      rw [h.2.2.1]
      apply beq_false_of_ne
      intro z
      exact hm (two_inj (by exact_mod_cast z.symm))
    simp [b6, pic, hp, e, hm]
theorem sp_pictured {m : Nat} {p : List Int} (h : Pic m p) : Cl T Gc 100000 4 7 [pic p] (.bl true) := Cl.rt (k := 3) (F := ⟨1, 2, b7⟩) rfl rfl fun n hn st => by
  show exs _ _ _ b7 [some (pic p), none] st = _
  have g : Gc 1 = .int 4 := rfl
  have hb : ∀ k, k < 4 → ∀ st, PL.call T Gc 100000 n 6 [.int (1 + (k : Nat)), pic p] st = .ok (.bl (decide (k + 1 = m))) st := fun k hk st => by
    have := sp_picof h (k := k + 1) (by omega) n hn st
    rw [show (1 + (k : Nat) : Int) = ((k + 1 : Nat) : Int) by omega]
    exact this
  have r : rngOk 1 = true := rfl
  have r5 : rngOk 5 = true := rfl
  have hc : ev (PL.call T Gc 100000 n) Gc (.comp [1] (.call 6 (.cons (.var 1) (.cons (.var 0) .nil))) (.var 1) (.rng2 (.int 1) (.bin .add (.glb 1) (.int 1))) .none) [some (pic p), none] st = .ok (.frz ((List.range 4).filterMap fun k => some (.bl (decide (k + 1 = m))))) st := by
    refine ev_lcm (fun k => .int (1 + (k : Nat))) _ _ (by simp [g, r, r5, rng_map]) (by simp) fun a ha => ?_
    simp [compB, wipe, hb a (by simpa using ha)]
  have any : ((List.range 4).map fun k => decide (k + 1 = m)).any id = true := by
    rw [List.any_eq_true]
    exact ⟨true, List.mem_map.mpr ⟨m - 1, by have := h.1; have := h.2.1; simp; omega, by have := h.1; simp; omega⟩, rfl⟩
  simp only [b7, es_cons, e_ret, x_blt, xs_cons, xs_nil, hc, bind_ok, b_any, lv_frz, Option.bind_some, fm_some, bls_m, Option.map_some, any, oD_some]
theorem sp_ckpic {m : Nat} {p : List Int} (h : Pic m p) : Cl T Gc 100000 5 35 [pic p] .non := Cl.nx (k := 4) (F := ⟨1, 1, b35⟩) rfl rfl fun n hn st => by
  refine ⟨[some (pic p)], ?_⟩
  show exs _ _ _ b35 [some (pic p)] st = _
  simp [b35, sp_pictured h n hn]
theorem sp_lots {m : Nat} {p : List Int} (h : Pic m p) : Cl T Gc 100000 1 9 [pic p] (.int m) := Cl.rt (F := ⟨1, 1, b9⟩) rfl rfl fun n hn st => by
  show exs _ _ _ b9 [some (pic p)] st = _
  have e : bitLen (p.length : Int) - 1 = m := by
    obtain ⟨h1, h2, h3, _⟩ := h
    rw [h3]
    have : m = 1 ∨ m = 2 ∨ m = 3 ∨ m = 4 := by omega
    rcases this with rfl | rfl | rfl | rfl <;> decide +kernel
  have hm : ∀ st, mcall st .bitlen (.int (p.length : Int)) [] = .ok (.int (bitLen (p.length : Int))) st := fun st => rfl
  have ho : mOk .bitlen (.int (p.length : Int)) = true := rfl
  simp [b9, pic, hm, ho, e]
/-! letters and choices -/
def zc (q : Nat) : List Nat := ((List.range 4).filter fun k => q / 2 ^ k % 2 = 1).map (65 + ·)
theorem sp_lotof {k : Nat} (h : k < 4) : Cl T Gc 100000 1 10 [.str [65 + k]] (.int (k : Nat)) := Cl.rt (F := ⟨1, 1, b10⟩) rfl rfl fun n hn st => by
  show exs _ _ _ b10 [some (.str [65 + k])] st = _
  have g : Gc 0 = .str [65, 66, 67, 68] := rfl
  have hm : mcall st .index (.str [65, 66, 67, 68]) [.str [65 + k]] = .ok (.int (k : Nat)) st := by
    have : k = 0 ∨ k = 1 ∨ k = 2 ∨ k = 3 := by omega
    rcases this with rfl | rfl | rfl | rfl <;> rfl
  have ho : mOk .index (.str [65, 66, 67, 68]) = true := rfl
  simp [b10, g, hm, ho]
theorem zc_sum : ∀ q < 16, (((List.range 4).filter fun k => q / 2 ^ k % 2 = 1).map fun k => ((2 : Int) ^ k)).sum = (q : Nat) := by decide +kernel
theorem sp_index {q : Nat} (h : q < 16) : Cl T Gc 100000 2 11 [.str (zc q)] (.int (q : Nat)) := Cl.rt (k := 1) (F := ⟨1, 2, b11⟩) rfl rfl fun n hn st => by
  show exs _ _ _ b11 [some (.str (zc q)), none] st = _
  have hc : ev (PL.call T Gc 100000 n) Gc (.comp [1] (.bin .shl (.int 1) (.call 10 (.cons (.var 1) .nil))) (.var 1) (.val (.var 0)) .none) [some (.str (zc q)), none] st = .ok (.frz (((List.range 4).filter fun k => q / 2 ^ k % 2 = 1).filterMap fun k => some (.int (2 ^ k)))) st := by
    refine ev_lcm (fun k => .str [65 + k]) _ _ (by simp [zc, Function.comp_def]) (Nat.le_trans (List.length_filter_le _ _) (by simp)) fun a ha => ?_
    have ha : a < 4 := by
      have := (List.mem_filter.mp ha).1
      simpa using this
    simp [compB, wipe, sp_lotof ha n hn, shl_one (show a ≤ 100 by omega)]
  have e := zc_sum q h
  simp only [b11, es_cons, e_ret, x_blt, xs_cons, xs_nil, hc, bind_ok, b_sum, sv_frz, Option.bind_some, fm_some, ints_m, Option.map_some, oD_some, e]
theorem zc_choice : ∀ q < 16, joinL [] ((([65, 66, 67, 68] : List Nat).zipIdx.filter fun p => PySem.Builtin.bitAnd (((q : Nat) : Int) / 2 ^ p.2) 1 == 1).map fun p => [p.1]) = zc q := by decide +kernel
theorem sp_choice {q : Nat} (h : q < 16) : Cl T Gc 100000 1 12 [.int (q : Nat)] (.str (zc q)) := Cl.rt (F := ⟨1, 3, b12⟩) rfl rfl fun n hn st => by
  show exs _ _ _ b12 [some (.int (q : Nat)), none, none] st = _
  have g : Gc 0 = .str [65, 66, 67, 68] := rfl
  have sh : ∀ k : Nat, iop .shr (q : Int) (k : Int) = some ((q : Int) / 2 ^ k) := fun k => by
    show (if 0 ≤ (k : Int) then some ((q : Int) / 2 ^ ((k : Int).toNat)) else none) = _
    rw [if_pos (by omega)]
    simp
  have ba : ∀ i j : Int, iop .band i j = some (PySem.Builtin.bitAnd i j) := fun _ _ => rfl
  have hc : ev (PL.call T Gc 100000 n) Gc (.comp [1, 2] (.var 2) (.tup (.cons (.var 1) (.cons (.var 2) .nil))) (.enum (.glb 0)) (.some (.cmp .eq (.bin .band (.bin .shr (.var 0) (.var 1)) (.int 1)) (.int 1)))) [some (.int (q : Nat)), none, none] st =
      .ok (.frz ((([65, 66, 67, 68] : List Nat).zipIdx).filterMap fun p => if PySem.Builtin.bitAnd (((q : Nat) : Int) / 2 ^ p.2) 1 == 1 then some (.str [p.1]) else none)) st := by
    refine ev_lcm (fun p : Nat × Nat => .tup [.int (p.2 : Nat), .str [p.1]]) _ _ ?_ (by simp) fun a ha => ?_
    · simp only [xi_enum, x_glb, g, bind_ok, walk_str, oD_some, enum_map]
    · by_cases hb : (PySem.Builtin.bitAnd (((q : Nat) : Int) / 2 ^ a.2) 1 == 1) = true
      · simp [compB, wipe, sh, ba, hb]
      · simp [compB, wipe, sh, ba, hb]
  have e := zc_choice q h
  rw [fm_if] at hc
  have hm : ∀ (l : List (List Nat)) st, (l.map List.length).sum + l.length * 0 ≤ 16777216 → mcall st .join (.str []) [.frz (l.map .str)] = .ok (.str (joinL [] l)) st := fun l st hl => by
    show (match (some (l.map D.str)).bind strsOf with | some ps => if szOk ((ps.map List.length).sum + ps.length * 0) then R.ok (D.str (joinL [] ps)) st else .bad | none => .bad) = _
    have := strs_m (fun z : List Nat => z) l
    simp only [List.map_id'] at this
    rw [Option.bind_some, this]
    show (if szOk _ = true then _ else _) = _
    rw [if_pos (szOk_of hl)]
  have ho : mOk .join (.str []) = true := rfl
  have hl := hm ((([65, 66, 67, 68] : List Nat).zipIdx.filter fun p => PySem.Builtin.bitAnd (((q : Nat) : Int) / 2 ^ p.2) 1 == 1).map fun p => [p.1]) st (by
    rw [List.map_map]
    have : ((([65, 66, 67, 68] : List Nat).zipIdx.filter fun p => PySem.Builtin.bitAnd (((q : Nat) : Int) / 2 ^ p.2) 1 == 1).map (List.length ∘ fun p => [p.1])).sum ≤ 4 := by
      have e1 : ∀ l : List (Nat × Nat), (l.map (List.length ∘ fun p => [p.1])).sum = l.length := fun l => by
        induction l with
        | nil => rfl
        | cons a r ih => simp at ih ⊢; omega
      rw [e1]
      exact Nat.le_trans (List.length_filter_le _ _) (by simp)
    omega)
  rw [e, List.map_map] at hl
  simp only [b12, es_cons, e_ret, x_mth, x_str, bind_ok, ho, if_true, xs_cons, xs_nil, hc]
  rw [show (fun p : Nat × Nat => D.str [p.1]) = (D.str ∘ fun p => [p.1]) from rfl, hl]
  simp
theorem sp_size {q : Nat} (h : q < 16) : Cl T Gc 100000 2 13 [.int (q : Nat)] (.int (zc q).length) := Cl.rt (k := 1) (F := ⟨1, 1, b13⟩) rfl rfl fun n hn st => by
  show exs _ _ _ b13 [some (.int (q : Nat))] st = _
  have hl : (zc q).length ≤ 16777216 := by
    unfold zc
    rw [List.length_map]
    exact Nat.le_trans (List.length_filter_le _ _) (by simp)
  simp [b13, sp_choice h n hn, hl]
theorem and_small : ∀ a < 16, ∀ b < 16, PySem.Builtin.bitAnd ((a : Nat) : Int) ((b : Nat) : Int) = ((a &&& b : Nat) : Int) := by decide +kernel
theorem or_small : ∀ a < 16, ∀ b < 16, PySem.Builtin.bitOr ((a : Nat) : Int) ((b : Nat) : Int) = ((a ||| b : Nat) : Int) := by decide +kernel
theorem sp_all {a b : Nat} (ha : a < 16) (hb : b < 16) : Cl T Gc 100000 1 14 [.int (a : Nat), .int (b : Nat)] (.bl ((a &&& b) == b)) := Cl.rt (F := ⟨2, 2, b14⟩) rfl rfl fun n hn st => by
  show exs _ _ _ b14 [some (.int (a : Nat)), some (.int (b : Nat))] st = _
  have e : iop .band (a : Int) (b : Int) = some ((a &&& b : Nat) : Int) := congrArg some (and_small a ha b hb)
  have e2 : (((a &&& b : Nat) : Int) == (b : Int)) = ((a &&& b) == b) := by
    by_cases h : (a &&& b) = b
    · rw [h]; simp
    · rw [beq_false_of_ne h]
      exact beq_false_of_ne fun z => h (by exact_mod_cast z)
  simp only [b14, es_cons, e_ret, x_cmp, x_bin, x_var, List.getElem?_cons_zero, List.getElem?_cons_succ, bind_ok, o_int, e, Option.map_some, oD_some, c_eqI, e2]
theorem sp_some {a b : Nat} (ha : a < 16) (hb : b < 16) : Cl T Gc 100000 1 15 [.int (a : Nat), .int (b : Nat)] (.bl (!((a &&& b) == 0))) := Cl.rt (F := ⟨2, 2, b15⟩) rfl rfl fun n hn st => by
  show exs _ _ _ b15 [some (.int (a : Nat)), some (.int (b : Nat))] st = _
  have e : iop .band (a : Int) (b : Int) = some ((a &&& b : Nat) : Int) := congrArg some (and_small a ha b hb)
  have e2 : (((a &&& b : Nat) : Int) == 0) = ((a &&& b) == 0) := by
    by_cases h : (a &&& b) = 0
    · rw [h]; rfl
    · rw [beq_false_of_ne h]
      exact beq_false_of_ne fun z => h (by exact_mod_cast z)
  simp only [b15, es_cons, e_ret, x_cmp, x_bin, x_var, x_int, List.getElem?_cons_zero, List.getElem?_cons_succ, bind_ok, o_int, e, Option.map_some, oD_some, c_neI, e2]
/-- the entries whose place passes a test -/
def msum (t : Nat → Bool) (p : List Int) : Int := ((p.zipIdx.filter fun q => t q.2).map (·.1)).sum
theorem sp_where {m : Nat} {p : List Int} {f ix : Nat} {t : Nat → Bool} (hp : p.length ≤ 16) (ht : ∀ a, a < 16 → Cl T Gc 100000 1 f [.int (a : Nat), .int (ix : Nat)] (.bl (t a))) : Cl T Gc 100000 2 17 [pic p, .int (ix : Nat), .fn f] (.int (msum t p)) := Cl.rt (k := 1) (F := ⟨3, 5, b17⟩) rfl rfl fun n hn st => by
  show exs _ _ _ b17 [some (pic p), some (.int (ix : Nat)), some (.fn f), none, none] st = _
  have hc : ev (PL.call T Gc 100000 n) Gc (.comp [3, 4] (.var 4) (.tup (.cons (.var 3) (.cons (.var 4) .nil))) (.enum (.var 0)) (.some (.callv 2 (.cons (.var 3) (.cons (.var 1) .nil))))) [some (pic p), some (.int (ix : Nat)), some (.fn f), none, none] st =
      .ok (.frz (p.zipIdx.filterMap fun q => if t q.2 then some (.int q.1) else none)) st := by
    refine ev_lcm (fun q : Int × Nat => .tup [.int (q.2 : Nat), .int q.1]) _ _ ?_ (by simp; omega) fun a ha => ?_
    · simp [pic, enum_map]
    · have ha : a.2 < 16 := by
        have := List.snd_lt_of_mem_zipIdx ha
        omega
      have h1 := ht a.2 ha n hn
      by_cases hb : t a.2 = true
      · simp [compB, wipe, h1, hb]
      · simp [compB, wipe, h1, hb]
  rw [fm_if] at hc
  simp only [b17, es_cons, e_ret, x_blt, xs_cons, xs_nil, hc, bind_ok, b_sum, sv_frz, Option.bind_some, ints_m, Option.map_some, oD_some, msum]
theorem sp_meetat {p : List Int} {ix : Nat} (hp : p.length ≤ 16) (hi : ix < 16) : Cl T Gc 100000 3 18 [pic p, .int (ix : Nat)] (.int (msum (fun a => (a &&& ix) == ix) p)) := Cl.rt (k := 2) (F := ⟨2, 2, b18⟩) rfl rfl fun n hn st => by
  show exs _ _ _ b18 [some (pic p), some (.int (ix : Nat))] st = _
  have h := sp_where (m := 0) (f := 14) (ix := ix) (t := fun a => (a &&& ix) == ix) hp (fun a ha => sp_all ha hi) n hn st
  simp [b18, h]
theorem sp_joinat {p : List Int} {ix : Nat} (hp : p.length ≤ 16) (hi : ix < 16) : Cl T Gc 100000 3 19 [pic p, .int (ix : Nat)] (.int (msum (fun a => !((a &&& ix) == 0)) p)) := Cl.rt (k := 2) (F := ⟨2, 2, b19⟩) rfl rfl fun n hn st => by
  show exs _ _ _ b19 [some (pic p), some (.int (ix : Nat))] st = _
  have h := sp_where (m := 0) (f := 15) (ix := ix) (t := fun a => !((a &&& ix) == 0)) hp (fun a ha => sp_some ha hi) n hn st
  simp [b19, h]
theorem sp_meets {p : List Int} (hp : p.length ≤ 16) : Cl T Gc 100000 4 20 [pic p] (.tup (((List.range p.length).map fun ix => msum (fun a => (a &&& ix) == ix) p).map D.int)) := Cl.rt (k := 3) (F := ⟨1, 2, b20⟩) rfl rfl fun n hn st => by
  show exs _ _ _ b20 [some (pic p), none] st = _
  have hr := rng_nat (n := p.length) (by omega)
  have hc : ev (PL.call T Gc 100000 n) Gc (.comp [1] (.call 18 (.cons (.var 0) (.cons (.var 1) .nil))) (.var 1) (.rng1 (.blt .len (.cons (.var 0) .nil))) .none) [some (pic p), none] st =
      .ok (.frz ((List.range p.length).filterMap fun ix => some (.int (msum (fun a => (a &&& ix) == ix) p)))) st := by
    refine ev_lcm (fun k => .int (k : Nat)) _ _ (by simp [pic, hr, rng_map]) (by simp; omega) fun a ha => ?_
    have ha : a < p.length := by simpa using ha
    simp [compB, wipe, sp_meetat hp (show a < 16 by omega) n hn]
  rw [fm_some] at hc
  simp only [b20, es_cons, e_ret, x_blt, xs_cons, xs_nil, hc, bind_ok, b_tuple, sv_frz, Option.map_some, oD_some, List.map_map]
  rfl
/-! by sizes -/
def size (k : Nat) : Nat := (zc k).length
def bsStep (F : List Int) (q : Int × Nat) : List Int := F.set (size q.2) (F.getD (size q.2) 0 + q.1)
def bs (m : Nat) (r : List Int) : List Int := r.zipIdx.foldl bsStep (List.replicate (m + 1) 0)
theorem size_le : ∀ m ≤ 4, ∀ k < 2 ^ m, size k ≤ m := by decide +kernel
theorem bs_len (m : Nat) : ∀ (l : List (Int × Nat)) (F : List Int), (l.foldl bsStep F).length = F.length
  | [], F => rfl
  | q :: l, F => by
    rw [List.foldl_cons, bs_len m l]
    simp [bsStep]
theorem sp_bysizes {m : Nat} {r : List Int} (h1 : 1 ≤ m) (h4 : m ≤ 4) (hl : r.length = 2 ^ m) (hlots : Cl T Gc 100000 1 9 [pic r] (.int m)) : Cl T Gc 100000 3 21 [pic r] (.frz ((bs m r).map D.int)) := by
  have hlen : r.length ≤ 16 := by
    rw [hl]
    exact Nat.le_trans (Nat.pow_le_pow_right (n := 2) (by decide) h4) (by decide)
  refine Cl.tk (k := 2) (F := ⟨1, 4, b21⟩) rfl rfl (fun n => refs_ints n _) fun n hn st => ?_
  show ∃ ext, exs _ _ _ (.cons _ (.cons _ (.cons _ _))) [some (pic r), none, none, none] st = _
  have hm : ((m : Int) + 1) = ((m + 1 : Nat) : Int) := by omega
  have s1 : ex (PL.call T Gc 100000 n) Gc 100000 (.asg (.var 1) (.thaw (.bin .mul (.list (.cons (.int 0) .nil)) (.bin .add (.call 9 (.cons (.var 0) .nil)) (.int 1))))) [some (pic r), none, none, none] st =
      .ok (.nx [some (pic r), some (.lst st.length), none, none]) (st ++ [.lst ((List.replicate (m + 1) (0 : Int)).map D.int)]) := by
    simp only [e_asg, x_thaw, x_bin, x_list, xs_cons, xs_nil, x_int, bind_ok, x_call, x_var, List.getElem?_cons_zero, hlots n (by omega), o_int, i_add, Option.map_some, oD_some, List.length_cons, List.length_nil, szOk_iff, o_rep]
    rw [if_pos (by decide), bind_ok, hm, o_rep, rep_one (by omega)]
    simp
  obtain ⟨e, s, he, ⟨x, y, hq⟩, hs⟩ := ex_for (C := PL.call T Gc 100000 n) (G := Gc) (W := 100000) (t := .tup (.cons (.var 2) (.cons (.var 3) .nil))) (it := .enum (.var 0))
    (b := .cons (.asg (.idx (.var 1) (.call 13 (.cons (.var 2) .nil))) (.bin .add (.idx (.var 1) (.call 13 (.cons (.var 2) .nil))) (.var 3))) .nil)
    (env := [some (pic r), some (.lst st.length), none, none]) (st := st ++ [.lst ((List.replicate (m + 1) (0 : Int)).map D.int)]) (ds := r.zipIdx.map fun q => .tup [.int (q.2 : Nat), .int q.1])
    (fun i e s => (∃ x y, e = [some (pic r), some (.lst st.length), x, y]) ∧ s = st ++ [.lst (((r.zipIdx.take i).foldl bsStep (List.replicate (m + 1) 0)).map D.int)])
    (by simp [pic, enum_map]) ⟨⟨_, _, rfl⟩, by simp⟩ (fun i d hd e s ⟨⟨x, y, he⟩, hs⟩ => by
      subst he hs
      rw [List.getElem?_map] at hd
      obtain ⟨q, hq, rfl⟩ := Option.map_eq_some_iff.mp hd
      have hi : i < r.zipIdx.length := (List.getElem?_eq_some_iff.mp hq).1
      have hq2 : q.2 < 2 ^ m := by
        have := List.snd_lt_of_mem_zipIdx (List.mem_of_getElem? hq)
        omega
      have hsz := size_le m h4 q.2 hq2
      have ht : r.zipIdx.take (i + 1) = r.zipIdx.take i ++ [q] := by
        rw [List.take_add_one, hq]
        rfl
      have c13 := sp_size (q := q.2) (by omega) n (by omega)
      refine ⟨[some (pic r), some (.lst st.length), some (.int (q.2 : Nat)), some (.int q.1)], _, .inl ?_, ⟨_, _, rfl⟩, rfl⟩
      rw [ht, List.foldl_append, List.foldl_cons, List.foldl_nil]
      generalize hF : (r.zipIdx.take i).foldl bsStep (List.replicate (m + 1) 0) = F
      have hFl : F.length = m + 1 := by rw [← hF, bs_len m]; simp
      have hat : atI (F.map D.int) ((zc q.2).length : Int) = some (.int (F.getD (size q.2) 0)) := by
        rw [at_nat (by rw [List.length_map, hFl]; exact Nat.lt_succ_of_le hsz), List.getElem?_map]
        have : F[(zc q.2).length]? = some (F.getD (size q.2) 0) := by
          rw [List.getD_eq_getElem?_getD]
          have hlt : size q.2 < F.length := by omega
          rw [List.getElem?_eq_getElem (show (zc q.2).length < F.length from hlt), List.getElem?_eq_getElem hlt]
          rfl
        rw [this]
        rfl
      have hixn : ixN F.length ((zc q.2).length : Int) = some (size q.2) := by
        unfold ixN
        have hlt : size q.2 < F.length := by omega
        rw [if_pos (by omega), if_pos (by exact_mod_cast hlt)]
        rfl
      simp [c13, ix_lst last_at, hat, hixn, bsStep, List.map_set])
  subst hq hs
  rw [exs_cons s1, exs_cons he]
  refine ⟨[.fz ((bs m r).map D.int)], ?_⟩
  have hlz : (r.zipIdx.map fun q => D.tup [.int (q.2 : Nat), .int q.1]).length = r.zipIdx.length := by simp
  rw [hlz, List.take_length]
  show exs _ _ _ (.cons (.ret (.frz (.var 1))) .nil) _ (st ++ [.lst ((bs m r).map D.int)]) = _
  simp [frzD]
theorem sp_sign (k : Nat) : Cl T Gc 100000 1 24 [.int (k : Nat)] (.int (if k % 2 = 0 then 1 else -1)) := Cl.rt (F := ⟨1, 1, b24⟩) rfl rfl fun n hn st => by
  show exs _ _ _ b24 [some (.int (k : Nat))] st = _
  by_cases h : k % 2 = 0
  · have e : ((k : Int) % 2 == 0) = true := by
      have : (k : Int) % 2 = 0 := by omega
      rw [this]; rfl
    simp [b24, e, h]
  · have e : ((k : Int) % 2 == 0) = false := beq_false_of_ne (by omega)
    simp [b24, e, h]
theorem sp_sums {m : Nat} {p : List Int} (h : Pic m p) (hall : ∀ p, p.length = 2 ^ m → Cl T Gc 100000 1 9 [pic p] (.int m)) : Cl T Gc 100000 5 23 [pic p] (.frz ((bs m ((List.range p.length).map fun ix => msum (fun a => (a &&& ix) == ix) p)).map D.int)) := Cl.rt (k := 4) (F := ⟨1, 1, b23⟩) rfl rfl fun n hn st => by
  show exs _ _ _ b23 [some (pic p)] st = _
  have e1 := sp_meets h.len n (by omega)
  have e2 := sp_bysizes (m := m) (r := (List.range p.length).map fun ix => msum (fun a => (a &&& ix) == ix) p) h.1 h.2.1 (by simp [h.2.2.1]) (hall _ (by simp [h.2.2.1])) n (by omega)
  simp only [b23, es_cons, e_ret, x_call, xs_cons, xs_nil, x_var, List.getElem?_cons_zero, bind_ok, e1, e2]
theorem lots_any {m : Nat} (h1 : 1 ≤ m) (h4 : m ≤ 4) (p : List Int) (hl : p.length = 2 ^ m) : Cl T Gc 100000 1 9 [pic p] (.int m) := Cl.rt (F := ⟨1, 1, b9⟩) rfl rfl fun n hn st => by
  show exs _ _ _ b9 [some (pic p)] st = _
  have e : bitLen (p.length : Int) - 1 = m := by
    rw [hl]
    have : m = 1 ∨ m = 2 ∨ m = 3 ∨ m = 4 := by omega
    rcases this with rfl | rfl | rfl | rfl <;> decide +kernel
  have hm : ∀ st, mcall st .bitlen (.int (p.length : Int)) [] = .ok (.int (bitLen (p.length : Int))) st := fun st => rfl
  have ho : mOk .bitlen (.int (p.length : Int)) = true := rfl
  simp [b9, pic, hm, ho, e]
/-- the sieve -/
def sieveF (m : Nat) (p : List Int) : Int :=
  (((bs m ((List.range p.length).map fun ix => msum (fun a => (a &&& ix) == ix) p)).zipIdx.filter fun q => decide (1 ≤ (q.2 : Int)) && decide ((q.2 : Int) ≤ m)).map fun q => 0 - (if q.2 % 2 = 0 then 1 else -1) * q.1).sum
theorem sp_sieveof {m : Nat} {p : List Int} (h : Pic m p) : Cl T Gc 100000 6 81 [pic p, .int (m : Nat)] (.int (sieveF m p)) := Cl.rt (k := 5) (F := ⟨2, 4, b81⟩) rfl rfl fun n hn st => by
  show exs _ _ _ b81 [some (pic p), some (.int (m : Nat)), none, none] st = _
  have e1 := sp_sums h (lots_any h.1 h.2.1) n (by omega)
  have hbl : ∀ r, (bs m r).length = m + 1 := fun r => by unfold bs; rw [bs_len m]; simp
  generalize hB : bs m ((List.range p.length).map fun ix => msum (fun a => (a &&& ix) == ix) p) = B at e1
  have hlB : B.length = m + 1 := by rw [← hB]; exact hbl _
  have sg : ∀ k x, iop .mul (if k % 2 = 0 then 1 else -1) x = some ((if k % 2 = 0 then 1 else -1) * x) := fun k x => by
    show (if small (if k % 2 = 0 then 1 else -1) || small x then _ else _) = _
    have : small (if k % 2 = 0 then 1 else -1) = true := by split <;> rfl
    rw [this]
    rfl
  have hc : ev (PL.call T Gc 100000 n) Gc (.comp [2, 3] (.bin .sub (.int 0) (.bin .mul (.call 24 (.cons (.var 2) .nil)) (.var 3))) (.tup (.cons (.var 2) (.cons (.var 3) .nil))) (.enum (.call 23 (.cons (.var 0) .nil))) (.some (.chn .le .le (.int 1) (.var 2) (.var 1)))) [some (pic p), some (.int (m : Nat)), none, none] st =
      .ok (.frz (B.zipIdx.filterMap fun q => if decide (1 ≤ (q.2 : Int)) && decide ((q.2 : Int) ≤ m) then some (.int (0 - (if q.2 % 2 = 0 then 1 else -1) * q.1)) else none)) st := by
    refine ev_lcm (fun q : Int × Nat => .tup [.int (q.2 : Nat), .int q.1]) _ _ ?_ (by have := h.2.1; simp [hlB]; omega) fun a ha => ?_
    · simp [e1, enum_map]
    · by_cases c1 : 1 ≤ (a.2 : Int)
      · by_cases c2 : (a.2 : Int) ≤ m
        · simp [compB, wipe, c1, c2, sp_sign a.2 n (by omega), sg]
        · simp [compB, wipe, c1, c2]
      · simp [compB, wipe, c1]
  rw [fm_if] at hc
  simp only [b81, es_cons, e_ret, x_blt, xs_cons, xs_nil, hc, bind_ok, b_sum, sv_frz, Option.bind_some, ints_m, Option.map_some, oD_some, sieveF, hB]
theorem sp_cksize {v lo hi : Int} (h1 : lo ≤ v) (h2 : v ≤ hi) : Cl T Gc 100000 3 38 [.int v, .int lo, .int hi] .non := Cl.nx (k := 2) (F := ⟨3, 3, b38⟩) rfl rfl fun n hn st => by
  refine ⟨[some (.int v), some (.int lo), some (.int hi)], ?_⟩
  show exs _ _ _ b38 [some (.int v), some (.int lo), some (.int hi)] st = _
  simp [b38, sp_between v lo hi n hn, h1, h2]
theorem sp_sieve {m : Nat} {p : List Int} (h : Pic m p) : Cl T Gc 100000 7 83 [pic p, .int (m : Nat)] (.int (sieveF m p)) := by
  have steps : Cl T Gc 100000 6 82 [pic p, .int (m : Nat)] .non := Cl.nx (k := 5) (F := ⟨2, 2, b82⟩) rfl rfl fun n hn st => by
    refine ⟨[some (pic p), some (.int (m : Nat))], ?_⟩
    show exs _ _ _ b82 [some (pic p), some (.int (m : Nat))] st = _
    simp only [b82, es_cons, e_exp, x_call, xs_cons, xs_nil, x_var, x_int, List.getElem?_cons_zero, List.getElem?_cons_succ, bind_ok, sp_ckpic h n hn, sp_lots h n (by omega), sp_cksize (v := (m : Int)) (lo := 1) (hi := (m : Int)) (by have := h.1; omega) (Int.le_refl _) n (by omega), es_nil]
  exact Cl.rt (k := 6) (F := ⟨2, 2, b83⟩) rfl rfl fun n hn st => by
    show exs _ _ _ b83 [some (pic p), some (.int (m : Nat))] st = _
    simp only [b83, es_cons, e_exp, e_ret, x_call, xs_cons, xs_nil, x_var, List.getElem?_cons_zero, List.getElem?_cons_succ, bind_ok, steps n hn, sp_sieveof h n (by omega)]
theorem sp_things {m : Nat} {p : List Int} (h : Pic m p) : Cl T Gc 100000 6 47 [pic p] (.int p.sum) := by
  have of : Cl T Gc 100000 1 16 [pic p] (.int p.sum) := Cl.rt (F := ⟨1, 1, b16⟩) rfl rfl fun n hn st => by
    show exs _ _ _ b16 [some (pic p)] st = _
    simp [b16, pic, ints_map]
  exact Cl.rt (k := 5) (F := ⟨1, 1, b47⟩) rfl rfl fun n hn st => by
    show exs _ _ _ b47 [some (pic p)] st = _
    simp only [b47, es_cons, e_exp, e_ret, x_call, xs_cons, xs_nil, x_var, List.getElem?_cons_zero, bind_ok, sp_ckpic h n hn, of n (by omega)]
/-! texts -/
theorem sp_textof (z s : List Nat) (hz : z.length ≤ 16) : Cl T Gc 100000 1 2 [.str z, .str s] (.bl (z.all fun c => decide (c ∈ s))) := Cl.rt (F := ⟨2, 3, b2⟩) rfl rfl fun n hn st => by
  show exs _ _ _ b2 [some (.str z), some (.str s), none] st = _
  have hc : ev (PL.call T Gc 100000 n) Gc (.comp [2] (.cmp .mem (.var 2) (.var 1)) (.var 2) (.val (.var 0)) .none) [some (.str z), some (.str s), none] st = .ok (.frz (z.filterMap fun c => some (.bl (decide (c ∈ s))))) st := by
    refine ev_lcm (fun c => .str [c]) _ _ (by simp) (by omega) fun a ha => ?_
    have : ∀ st, cop st .mem (.str [a]) (.str s) = some (decide (a ∈ s)) := fun _ => rfl
    simp [compB, wipe, this]
  rw [fm_some] at hc
  have e : (z.map fun c => decide (c ∈ s)).all id = z.all fun c => decide (c ∈ s) := by
    rw [List.all_map]
    rfl
  simp only [b2, es_cons, e_ret, x_and, x_isi, x_var, List.getElem?_cons_zero, bind_ok, is_str, Option.map_some, oD_some, tru_bl, if_true, x_blt, xs_cons, xs_nil, hc, b_all, lv_frz, Option.bind_some, bls_m, e]
theorem zc_len (q : Nat) : (zc q).length ≤ 4 := by
  unfold zc
  rw [List.length_map]
  exact Nat.le_trans (List.length_filter_le _ _) (by simp)
def lt1 (p : Nat × Nat) : Bool := decide (([p.1] : List Nat) < [p.2])
theorem zc_ok : ∀ m ≤ 4, ∀ q < 2 ^ m, ((zc q).all fun c => decide (c ∈ cut [65, 66, 67, 68] none (some (m : Nat)))) = true ∧ (((zc q).zip (cut (zc q) (some 1) none)).map lt1).all id = true := by decide +kernel
theorem sp_ischoice {m q : Nat} (hm : m ≤ 4) (hq : q < 2 ^ m) : Cl T Gc 100000 2 8 [.int (m : Nat), .str (zc q)] (.bl true) := Cl.rt (k := 1) (F := ⟨2, 4, b8⟩) rfl rfl fun n hn st => by
  show exs _ _ _ b8 [some (.int (m : Nat)), some (.str (zc q)), none, none] st = _
  have g : Gc 0 = .str [65, 66, 67, 68] := rfl
  obtain ⟨z1, z2⟩ := zc_ok m hm q hq
  have hl := zc_len q
  have t1 := sp_textof (zc q) (cut [65, 66, 67, 68] none (some (m : Nat))) (by omega) n hn
  rw [z1] at t1
  have hcl : (cut (zc q) (some 1) none).length ≤ 4 := Nat.le_trans (cut_le _ _ _) hl
  have hc : ev (PL.call T Gc 100000 n) Gc (.comp [2, 3] (.cmp .lt (.var 2) (.var 3)) (.tup (.cons (.var 2) (.cons (.var 3) .nil))) (.zip (.var 1) (.slc (.var 1) (.some (.int 1)) .none)) .none) [some (.int (m : Nat)), some (.str (zc q)), none, none] st =
      .ok (.frz (((zc q).zip (cut (zc q) (some 1) none)).filterMap fun p => some (.bl (lt1 p)))) st := by
    refine ev_lcm (fun p : Nat × Nat => .tup [.str [p.1], .str [p.2]]) _ _ ?_ (by simp; omega) fun a ha => ?_
    · have e : zipD ((zc q).map fun c => D.str [c]) ((cut (zc q) (some 1) none).map fun c => D.str [c]) = ((zc q).zip (cut (zc q) (some 1) none)).map fun p => .tup [.str [p.1], .str [p.2]] := by
        unfold zipD
        rw [List.zip_map, List.map_map]
        rfl
      have h1 : (zc q).length ≤ 16777216 := by omega
      simp [h1, e]
    · have : ∀ st, cop st .lt (.str [a.1]) (.str [a.2]) = some (lt1 a) := fun _ => rfl
      simp [compB, wipe, this]
  rw [fm_some] at hc
  have h4 : ([65, 66, 67, 68] : List Nat).length ≤ 16777216 := by decide
  simp only [b8, es_cons, e_ret, x_and, x_call, xs_cons, xs_nil, x_slc, x_glb, g, xo_none, xo_some, x_var, toI_int, List.getElem?_cons_zero, List.getElem?_cons_succ, bind_ok, sl_str, szOk_iff, h4, if_true, oD_some, t1, tru_bl, x_blt, hc, b_all, lv_frz, Option.bind_some, bls_m, Option.map_some, z2]
theorem let_ok : ∀ m ≤ 4, ∀ k < m, (([65 + k] : List Nat).all fun c => decide (c ∈ cut [65, 66, 67, 68] none (some (m : Nat)))) = true := by decide +kernel
theorem sp_isletter {m k : Nat} (hm : m ≤ 4) (hk : k < m) : Cl T Gc 100000 2 69 [.int (m : Nat), .str [65 + k]] (.bl true) := Cl.rt (k := 1) (F := ⟨2, 2, b69⟩) rfl rfl fun n hn st => by
  show exs _ _ _ b69 [some (.int (m : Nat)), some (.str [65 + k])] st = _
  have g : Gc 0 = .str [65, 66, 67, 68] := rfl
  have t1 := sp_textof [65 + k] (cut [65, 66, 67, 68] none (some (m : Nat))) (by simp) n hn
  rw [let_ok m hm k hk] at t1
  have h4 : ([65, 66, 67, 68] : List Nat).length ≤ 16777216 := by decide
  have h5 : ([65 + k] : List Nat).length ≤ 16777216 := by simp
  have h6 : ((([65 + k] : List Nat).length : Int) == 1) = true := rfl
  simp only [b69, es_cons, e_ret, x_and, x_call, xs_cons, xs_nil, x_slc, x_glb, g, xo_none, xo_some, x_var, x_int, toI_int, List.getElem?_cons_zero, List.getElem?_cons_succ, bind_ok, sl_str, szOk_iff, h4, h5, if_true, oD_some, t1, tru_bl, x_cmp, x_blt, b_len, len_str, Option.map_some, c_eqI, h6]
theorem sp_ckchoice {m q : Nat} (hm : m ≤ 4) (hq : q < 2 ^ m) : Cl T Gc 100000 3 39 [.int (m : Nat), .str (zc q)] .non := Cl.nx (k := 2) (F := ⟨2, 2, b39⟩) rfl rfl fun n hn st => by
  refine ⟨[some (.int (m : Nat)), some (.str (zc q))], ?_⟩
  show exs _ _ _ b39 [some (.int (m : Nat)), some (.str (zc q))] st = _
  simp [b39, sp_ischoice hm hq n hn]
theorem sp_ckletter {m k : Nat} (hm : m ≤ 4) (hk : k < m) : Cl T Gc 100000 3 73 [.int (m : Nat), .str [65 + k]] .non := Cl.nx (k := 2) (F := ⟨2, 2, b73⟩) rfl rfl fun n hn st => by
  refine ⟨[some (.int (m : Nat)), some (.str [65 + k])], ?_⟩
  show exs _ _ _ b73 [some (.int (m : Nat)), some (.str [65 + k])] st = _
  simp [b73, sp_isletter hm hk n hn]
theorem sp_ckpc {m q : Nat} {p : List Int} (h : Pic m p) (hq : q < 2 ^ m) : Cl T Gc 100000 6 40 [pic p, .str (zc q)] .non := Cl.nx (k := 5) (F := ⟨2, 2, b40⟩) rfl rfl fun n hn st => by
  refine ⟨[some (pic p), some (.str (zc q))], ?_⟩
  show exs _ _ _ b40 [some (pic p), some (.str (zc q))] st = _
  simp only [b40, es_cons, e_exp, x_call, xs_cons, xs_nil, x_var, List.getElem?_cons_zero, List.getElem?_cons_succ, bind_ok, sp_ckpic h n hn, sp_lots h n (by omega), sp_ckchoice h.2.1 hq n (by omega), es_nil]
theorem sp_ckpl {m k : Nat} {p : List Int} (h : Pic m p) (hk : k < m) : Cl T Gc 100000 6 74 [pic p, .str [65 + k]] .non := Cl.nx (k := 5) (F := ⟨2, 2, b74⟩) rfl rfl fun n hn st => by
  refine ⟨[some (pic p), some (.str [65 + k])], ?_⟩
  show exs _ _ _ b74 [some (pic p), some (.str [65 + k])] st = _
  simp only [b74, es_cons, e_exp, x_call, xs_cons, xs_nil, x_var, List.getElem?_cons_zero, List.getElem?_cons_succ, bind_ok, sp_ckpic h n hn, sp_lots h n (by omega), sp_ckletter h.2.1 hk n (by omega), es_nil]
theorem pow16 {m q : Nat} (hm : m ≤ 4) (hq : q < 2 ^ m) : q < 16 := Nat.lt_of_lt_of_le hq (Nat.le_trans (Nat.pow_le_pow_right (n := 2) (by decide) hm) (by decide))
theorem sp_meet {m q : Nat} {p : List Int} (h : Pic m p) (hq : q < 2 ^ m) : Cl T Gc 100000 7 79 [pic p, .str (zc q)] (.int (msum (fun a => (a &&& q) == q) p)) := Cl.rt (k := 6) (F := ⟨2, 2, b79⟩) rfl rfl fun n hn st => by
  show exs _ _ _ b79 [some (pic p), some (.str (zc q))] st = _
  have q16 := pow16 h.2.1 hq
  simp only [b79, es_cons, e_exp, e_ret, x_call, xs_cons, xs_nil, x_var, List.getElem?_cons_zero, List.getElem?_cons_succ, bind_ok, sp_ckpc h hq n hn, sp_index q16 n (by omega), sp_meetat h.len q16 n (by omega)]
theorem sp_join {m q : Nat} {p : List Int} (h : Pic m p) (hq : q < 2 ^ m) : Cl T Gc 100000 7 80 [pic p, .str (zc q)] (.int (msum (fun a => !((a &&& q) == 0)) p)) := Cl.rt (k := 6) (F := ⟨2, 2, b80⟩) rfl rfl fun n hn st => by
  show exs _ _ _ b80 [some (pic p), some (.str (zc q))] st = _
  have q16 := pow16 h.2.1 hq
  simp only [b80, es_cons, e_exp, e_ret, x_call, xs_cons, xs_nil, x_var, List.getElem?_cons_zero, List.getElem?_cons_succ, bind_ok, sp_ckpc h hq n hn, sp_index q16 n (by omega), sp_joinat h.len q16 n (by omega)]
theorem zc_one : ∀ k < 4, ([65 + k] : List Nat) = zc (2 ^ k) ∧ 2 ^ k < 16 := by decide +kernel
theorem sp_within {m a b : Nat} {p : List Int} (h : Pic m p) (ha : a < m) (hb : b < m) : Cl T Gc 100000 8 86 [pic p, .str [65 + a], .str [65 + b]] (.bl (msum (fun x => (x &&& (2 ^ a ||| 2 ^ b)) == (2 ^ a ||| 2 ^ b)) p == msum (fun x => (x &&& 2 ^ a) == 2 ^ a) p)) := by
  have m4 := h.2.1
  obtain ⟨za, a16⟩ := zc_one a (by omega)
  obtain ⟨zb, b16⟩ := zc_one b (by omega)
  have or16 : (2 ^ a ||| 2 ^ b) < 16 := Nat.or_lt_two_pow (n := 4) a16 b16
  have two : Cl T Gc 100000 7 85 [pic p, .str [65 + a], .str [65 + b]] .non := Cl.nx (k := 6) (F := ⟨3, 3, b85⟩) rfl rfl fun n hn st => by
    refine ⟨[some (pic p), some (.str [65 + a]), some (.str [65 + b])], ?_⟩
    show exs _ _ _ b85 [some (pic p), some (.str [65 + a]), some (.str [65 + b])] st = _
    simp only [b85, es_cons, e_exp, x_call, xs_cons, xs_nil, x_var, List.getElem?_cons_zero, List.getElem?_cons_succ, bind_ok, sp_ckpl h ha n hn, sp_lots h n (by omega), sp_ckletter m4 hb n (by omega), es_nil]
  have ia : ∀ n, 2 ≤ n → ∀ st, PL.call T Gc 100000 n 11 [.str [65 + a]] st = .ok (.int ((2 ^ a : Nat) : Int)) st := fun n hn st => by rw [za]; exact sp_index a16 n hn st
  have ib : ∀ n, 2 ≤ n → ∀ st, PL.call T Gc 100000 n 11 [.str [65 + b]] st = .ok (.int ((2 ^ b : Nat) : Int)) st := fun n hn st => by rw [zb]; exact sp_index b16 n hn st
  have bo : iop .bor ((2 ^ a : Nat) : Int) ((2 ^ b : Nat) : Int) = some ((2 ^ a ||| 2 ^ b : Nat) : Int) := congrArg some (or_small _ a16 _ b16)
  have by_ : Cl T Gc 100000 4 84 [pic p, .str [65 + a], .str [65 + b]] (.bl (msum (fun x => (x &&& (2 ^ a ||| 2 ^ b)) == (2 ^ a ||| 2 ^ b)) p == msum (fun x => (x &&& 2 ^ a) == 2 ^ a) p)) := Cl.rt (k := 3) (F := ⟨3, 3, b84⟩) rfl rfl fun n hn st => by
    show exs _ _ _ b84 [some (pic p), some (.str [65 + a]), some (.str [65 + b])] st = _
    simp only [b84, es_cons, e_ret, x_cmp, x_call, xs_cons, xs_nil, x_var, x_bin, List.getElem?_cons_zero, List.getElem?_cons_succ, bind_ok, ia n (by omega), ib n (by omega), o_int, bo, Option.map_some, oD_some, sp_meetat h.len or16 n (by omega), sp_meetat h.len a16 n (by omega), c_eqI]
  exact Cl.rt (k := 7) (F := ⟨3, 3, b86⟩) rfl rfl fun n hn st => by
    show exs _ _ _ b86 [some (pic p), some (.str [65 + a]), some (.str [65 + b])] st = _
    simp only [b86, es_cons, e_exp, e_ret, x_call, xs_cons, xs_nil, x_var, List.getElem?_cons_zero, List.getElem?_cons_succ, bind_ok, two n hn, by_ n (by omega)]
/-! named anew -/
def nI (o : List Nat) : List Int := o.map fun k : Nat => (k : Int)
theorem nI_len (o : List Nat) : (nI o).length = o.length := by simp [nI]
theorem nI_D (o : List Nat) : (nI o).map D.int = o.map fun k => D.int (k : Nat) := by
  unfold nI
  rw [List.map_map]
  rfl
/-- the place that an order's place stood for -/
def oldP (o : List Nat) (q : Nat) : Nat := ((o.zipIdx.filter fun p => q / 2 ^ p.2 % 2 = 1).map fun p => 2 ^ p.1).sum
theorem bit_test : ∀ q < 16, ∀ k < 4, (PySem.Builtin.bitAnd (((q : Nat) : Int) / 2 ^ k) 1 == 1) = decide (q / 2 ^ k % 2 = 1) := by decide +kernel
theorem sum_cast (l : List Nat) : ((l.map fun k => ((2 : Int) ^ k)).sum) = ((l.map fun k => 2 ^ k).sum : Nat) := by
  induction l with
  | nil => rfl
  | cons a r ih => simp [ih]
theorem sp_old {o : List Nat} {q : Nat} (ho : o.length ≤ 4) (hk : ∀ k ∈ o, k < 4) (hq : q < 16) : Cl T Gc 100000 1 70 [pic (nI o), .int (q : Nat)] (.int (oldP o q : Nat)) := Cl.rt (F := ⟨2, 4, b70⟩) rfl rfl fun n hn st => by
  show exs _ _ _ b70 [some (pic (nI o)), some (.int (q : Nat)), none, none] st = _
  have sh : ∀ k : Nat, iop .shr (q : Int) (k : Int) = some ((q : Int) / 2 ^ k) := fun k => by
    show (if 0 ≤ (k : Int) then some ((q : Int) / 2 ^ ((k : Int).toNat)) else none) = _
    rw [if_pos (by omega)]
    simp
  have ba : ∀ i j : Int, iop .band i j = some (PySem.Builtin.bitAnd i j) := fun _ _ => rfl
  have hc : ev (PL.call T Gc 100000 n) Gc (.comp [2, 3] (.bin .shl (.int 1) (.var 3)) (.tup (.cons (.var 2) (.cons (.var 3) .nil))) (.enum (.var 0)) (.some (.cmp .eq (.bin .band (.bin .shr (.var 1) (.var 2)) (.int 1)) (.int 1)))) [some (pic (nI o)), some (.int (q : Nat)), none, none] st =
      .ok (.frz (o.zipIdx.filterMap fun p => if decide (q / 2 ^ p.2 % 2 = 1) then some (.int (2 ^ p.1)) else none)) st := by
    refine ev_lcm (fun p : Nat × Nat => .tup [.int (p.2 : Nat), .int (p.1 : Nat)]) _ _ ?_ (by simp; omega) fun a ha => ?_
    · simp only [xi_enum, x_var, List.getElem?_cons_zero, pic, bind_ok, walk_tup, oD_some, nI_D, enum_map]
    · have h2 : a.2 < 4 := by
        have := List.snd_lt_of_mem_zipIdx ha
        omega
      have h1 : a.1 < 4 := hk a.1 (List.fst_mem_of_mem_zipIdx ha)
      have bt := bit_test q hq a.2 h2
      by_cases hb : q / 2 ^ a.2 % 2 = 1
      · rw [decide_eq_true hb] at bt
        simp [compB, wipe, sh, ba, bt, hb, shl_one (show a.1 ≤ 100 by omega)]
      · rw [decide_eq_false hb] at bt
        simp [compB, wipe, sh, ba, bt, hb]
  rw [fm_if] at hc
  have e : ((o.zipIdx.filter fun p => decide (q / 2 ^ p.2 % 2 = 1)).map fun p => ((2 : Int) ^ p.1)).sum = (oldP o q : Nat) := by
    have := sum_cast ((o.zipIdx.filter fun p => decide (q / 2 ^ p.2 % 2 = 1)).map (·.1))
    rw [List.map_map, List.map_map] at this
    exact this
  simp only [b70, es_cons, e_ret, x_blt, xs_cons, xs_nil, hc, bind_ok, b_sum, sv_frz, Option.bind_some, ints_m, Option.map_some, oD_some, e]
/-- the picture under an order -/
def anew (o : List Nat) (p : List Int) : List Int := (List.range p.length).map fun q => p.getD (oldP o q) 0
theorem sp_anewby {m : Nat} {o : List Nat} {p : List Int} (h : Pic m p) (ho : o.length ≤ 4) (hk : ∀ k ∈ o, k < 4) (hold : ∀ q < 2 ^ m, oldP o q < 2 ^ m) : Cl T Gc 100000 2 77 [pic p, pic (nI o)] (pic (anew o p)) := Cl.rt (k := 1) (F := ⟨2, 3, b77⟩) rfl rfl fun n hn st => by
  show exs _ _ _ b77 [some (pic p), some (pic (nI o)), none] st = _
  have hlen := h.len
  have hr := rng_nat (n := p.length) (by omega)
  have hc : ev (PL.call T Gc 100000 n) Gc (.comp [2] (.idx (.var 0) (.call 70 (.cons (.var 1) (.cons (.var 2) .nil)))) (.var 2) (.rng1 (.blt .len (.cons (.var 0) .nil))) .none) [some (pic p), some (pic (nI o)), none] st =
      .ok (.frz ((List.range p.length).filterMap fun q => some (.int (p.getD (oldP o q) 0)))) st := by
    refine ev_lcm (fun k => .int (k : Nat)) _ _ (by simp [pic, hr, rng_map]) (by simp; omega) fun a ha => ?_
    have ha : a < p.length := by simpa using ha
    have h70 := sp_old (q := a) ho hk (by omega) n hn
    have hlt : oldP o a < p.length := by rw [h.2.2.1]; exact hold a (by rw [← h.2.2.1]; exact ha)
    have hat : atI (p.map D.int) ((oldP o a : Nat) : Int) = some (.int (p.getD (oldP o a) 0)) := by
      rw [at_nat (by rw [List.length_map]; exact hlt), List.getElem?_map, List.getD_eq_getElem?_getD, List.getElem?_eq_getElem hlt]
      rfl
    simp [compB, wipe, h70, hat]
  rw [fm_some] at hc
  have e : pic (anew o p) = .tup ((List.range p.length).map fun q => D.int (p.getD (oldP o q) 0)) := by
    unfold anew
    show D.tup _ = _
    rw [List.map_map]
    rfl
  rw [e]
  simp only [b77, es_cons, e_ret, x_blt, xs_cons, xs_nil, hc, bind_ok, b_tuple, sv_frz, Option.map_some, oD_some]
theorem dOk_int (k : Nat) (i : Int) : dOk k (.int i) = true := by cases k <;> rfl
theorem mem_ints (x : Int) (l : List Int) (st : Sto) : cop st .mem (.int x) (.tup (l.map D.int)) = some (decide (x ∈ l)) := by
  show (match sv st (.tup (l.map D.int)) with | some ds => if dOk 40 (top st (.int x)) && ds.all (dOk 40) then some (ds.any fun e => dEq e (top st (.int x))) else none | none => none) = _
  have h1 : (l.map D.int).all (dOk 40) = true := by
    rw [List.all_eq_true]
    intro d hd
    obtain ⟨i, _, rfl⟩ := List.mem_map.mp hd
    exact dOk_int 40 i
  have h2 : ((l.map D.int).any fun e => dEq e (.int x)) = decide (x ∈ l) := by
    induction l with
    | nil => rfl
    | cons a r ih =>
      have := ih (by
        rw [List.all_eq_true] at h1 ⊢
        exact fun d hd => h1 d (List.mem_cons_of_mem _ hd))
      simp only [List.map_cons, List.any_cons, this]
      show ((a == x) || decide (x ∈ r)) = decide (x ∈ a :: r)
      by_cases h : a = x
      · simp [h]
      · have h' : ¬ x = a := fun e => h e.symm
        simp [h, h', beq_false_of_ne h]
  show (if dOk 40 (.int x) && (l.map D.int).all (dOk 40) then some ((l.map D.int).any fun e => dEq e (.int x)) else none) = _
  rw [h1, dOk_int, h2]
  rfl
theorem sp_ckorder {m : Nat} {o : List Nat} (hm : m ≤ 4) (hl : o.length = m) (hk : ∀ k ∈ o, k < m) (nd : o.Nodup) : Cl T Gc 100000 3 75 [.int (m : Nat), pic (nI o)] .non := Cl.nx (k := 2) (F := ⟨2, 4, b75⟩) rfl rfl fun n hn st => by
  show ∃ e, exs _ _ _ (.cons _ (.cons _ (.cons _ .nil))) [some (.int (m : Nat)), some (pic (nI o)), none, none] st = _
  have s1 : ex (PL.call T Gc 100000 n) Gc 100000 (.ifs (.not (.isi (.var 1) .tuple)) (.cons .nev .nil) .nil) [some (.int (m : Nat)), some (pic (nI o)), none, none] st = .ok (.nx [some (.int (m : Nat)), some (pic (nI o)), none, none]) st := by simp [pic]
  have e0 := nI_D o
  obtain ⟨e, s, he, ⟨x, y, hq⟩, hs⟩ := ex_for (C := PL.call T Gc 100000 n) (G := Gc) (W := 100000) (t := .tup (.cons (.var 2) (.cons (.var 3) .nil))) (it := .enum (.var 1))
    (b := .cons (.ifs (.or (.not (.call 1 (.cons (.var 3) (.cons (.int 0) (.cons (.bin .sub (.var 0) (.int 1)) .nil))))) (.cmp .mem (.var 3) (.slc (.var 1) .none (.some (.var 2))))) (.cons .nev .nil) .nil) .nil)
    (env := [some (.int (m : Nat)), some (pic (nI o)), none, none]) (st := st) (ds := o.zipIdx.map fun q => .tup [.int (q.2 : Nat), .int (q.1 : Nat)])
    (fun i e s => (∃ x y, e = [some (.int (m : Nat)), some (pic (nI o)), x, y]) ∧ s = st)
    (by simp only [xi_enum, x_var, List.getElem?_cons_zero, List.getElem?_cons_succ, pic, bind_ok, walk_tup, oD_some, e0, enum_map]) ⟨⟨_, _, rfl⟩, rfl⟩ (fun i d hd e s ⟨⟨x, y, he⟩, hs⟩ => by
      subst he hs
      rw [List.getElem?_map] at hd
      obtain ⟨q, hq, rfl⟩ := Option.map_eq_some_iff.mp hd
      rw [List.getElem?_zipIdx] at hq
      obtain ⟨k, hk1, rfl⟩ := Option.map_eq_some_iff.mp hq
      have hkm := hk k (List.mem_of_getElem? hk1)
      have b1 := sp_between (k : Int) 0 ((m : Int) - 1) n hn
      have b2 : (decide (0 ≤ (k : Int)) && decide ((k : Int) ≤ (m : Int) - 1)) = true := by
        simp
        omega
      rw [b2] at b1
      have hi : i < o.length := (List.getElem?_eq_some_iff.mp hk1).1
      have cm : cut (nI o) none (some (i : Int)) = nI (o.take i) := by
        have e1 : sIx (nI o).length 0 none = 0 := rfl
        have e2 : sIx (nI o).length (nI o).length (some (i : Int)) = i := by
          show (if (i : Int) < 0 then ((i : Int) + (((nI o).length : Nat) : Int)).toNat else min (i : Int).toNat (nI o).length) = i
          rw [if_neg (by omega), nI_len]
          omega
        unfold cut
        rw [e1, e2, List.drop_zero, Nat.sub_zero]
        unfold nI
        rw [List.map_take]
      have nm : decide ((k : Int) ∈ nI (o.take i)) = false := by
        rw [decide_eq_false_iff_not]
        intro z
        obtain ⟨k', hk', e'⟩ := List.mem_map.mp z
        have : k' = k := by exact_mod_cast e'
        subst this
        have dj := (List.nodup_append.mp (show (o.take i ++ o.drop i).Nodup by rw [List.take_append_drop]; exact nd)).2.2
        refine dj k' hk' k' (List.mem_iff_getElem?.mpr ⟨0, ?_⟩) rfl
        rw [List.getElem?_drop]
        exact hk1
      refine ⟨[some (.int (m : Nat)), some (pic (nI o)), some (.int (i : Nat)), some (.int (k : Nat))], _, .inl ?_, ⟨_, _, rfl⟩, rfl⟩
      have mm := fun st => mem_ints (k : Int) (nI (o.take i)) st
      rw [nm] at mm
      simp only [Nat.zero_add]
      simp [pic, b1, cut_map, cm, mm])
  subst hq hs
  refine ⟨[some (.int (m : Nat)), some (pic (nI o)), x, y], ?_⟩
  rw [exs_cons s1, exs_cons he]
  have c : decide (((o.length : Nat) : Int) < (m : Int)) = false := by
    rw [hl]
    simp
  simp [pic, nI_len, hl]
theorem sp_anew {m : Nat} {o : List Nat} {p : List Int} (h : Pic m p) (hl : o.length = m) (hk : ∀ k ∈ o, k < m) (nd : o.Nodup) (hold : ∀ q < 2 ^ m, oldP o q < 2 ^ m) : Cl T Gc 100000 6 78 [pic p, pic (nI o)] (pic (anew o p)) := Cl.rt (k := 5) (F := ⟨2, 2, b78⟩) rfl rfl fun n hn st => by
  show exs _ _ _ b78 [some (pic p), some (pic (nI o))] st = _
  have m4 := h.2.1
  simp only [b78, es_cons, e_exp, e_ret, x_call, xs_cons, xs_nil, x_var, List.getElem?_cons_zero, List.getElem?_cons_succ, bind_ok, sp_ckpic h n hn, sp_lots h n (by omega), sp_ckorder m4 hl hk nd n (by omega), sp_anewby h (by omega) (fun k hk' => by have := hk k hk'; omega) hold n (by omega)]
/-! the picture of multiples -/
def plN (ns : List Nat) (t : Nat) : Nat := ((ns.zipIdx.filter fun p => t % p.1 = 0).map fun p => 2 ^ p.2).sum
def hist (m : Nat) (L : List Nat) : List Int := (List.range (2 ^ m)).map fun k => ((L.count k : Nat) : Int)
theorem count_cast (L : List Nat) (k : Nat) : (nI L).count (k : Int) = L.count k := by
  induction L with
  | nil => rfl
  | cons a r ih =>
    unfold nI at ih ⊢
    rw [List.map_cons, List.count_cons, List.count_cons, ih]
    congr 1
    by_cases h : a = k
    · simp [h]
    · have : ¬ ((a : Int) = (k : Int)) := fun e => h (by exact_mod_cast e)
      simp [h, this]
theorem sp_byplaces {m : Nat} {L : List Nat} {st : Sto} {i n : Nat} (hm : m ≤ 4) (hn : 2 ≤ n) (hi : st[i]? = some (.lst ((nI L).map D.int))) : PL.call T Gc 100000 n 25 [.int (m : Nat), .lst i] st = .ok (pic (hist m L)) st := by
  obtain ⟨k, rfl⟩ : ∃ k, n = k + 1 := ⟨n - 1, by omega⟩
  refine call_rt (F := ⟨2, 3, b25⟩) rfl rfl rfl ?_
  show exs _ _ _ b25 [some (.int (m : Nat)), some (.lst i), none] st = _
  have h16 : 2 ^ m ≤ 16 := Nat.le_trans (Nat.pow_le_pow_right (n := 2) (by decide) hm) (by decide)
  have hr := rng_nat (n := 2 ^ m) (by omega)
  have h5 := sp_places (m := m) (by omega) k (by omega) st
  have pc : ((2 : Int) ^ m) = ((2 ^ m : Nat) : Int) := by simp
  rw [pc] at h5
  have hc : ev (PL.call T Gc 100000 k) Gc (.comp [2] (.mth .count (.var 1) (.cons (.var 2) .nil)) (.var 2) (.rng1 (.call 5 (.cons (.var 0) .nil))) .none) [some (.int (m : Nat)), some (.lst i), none] st =
      .ok (.frz ((List.range (2 ^ m)).filterMap fun k => some (.int ((L.count k : Nat) : Int)))) st := by
    refine ev_lcm (fun k => .int (k : Nat)) _ _ ?_ (by simp; omega) fun a ha => ?_
    · simp only [xi_rng1, x_call, xs_cons, xs_nil, x_var, List.getElem?_cons_zero, bind_ok, h5, toI_int, hr, if_true, Int.toNat_natCast, rng_map]
      simp
    · have hmc : mcall st .count (.lst i) [.int (a : Nat)] = .ok (.int ((L.count a : Nat) : Int)) st := by
        show (match (lv st (.lst i)).bind intsOf with | some ns => R.ok (D.int (ns.count ((a : Nat) : Int) : Nat)) st | none => .bad) = _
        rw [lv_lst hi, Option.bind_some, ints_map]
        show R.ok (D.int (((nI L).count (a : Int) : Nat) : Int)) st = _
        rw [count_cast]
      have ho : mOk .count (.lst i) = true := rfl
      simp [compB, wipe, ho, hmc]
  rw [fm_some] at hc
  have e : pic (hist m L) = .tup ((List.range (2 ^ m)).map fun k => D.int ((L.count k : Nat) : Int)) := by
    unfold hist
    show D.tup _ = _
    rw [List.map_map]
    rfl
  rw [e]
  simp only [b25, es_cons, e_ret, x_blt, xs_cons, xs_nil, hc, bind_ok, b_tuple, sv_frz, Option.map_some, oD_some]
def Nums (ns : List Nat) : Prop := 1 ≤ ns.length ∧ ns.length ≤ 4 ∧ ∀ x ∈ ns, 1 ≤ x ∧ x ≤ 60
theorem sp_wrong {ns : List Nat} (h : Nums ns) : Cl T Gc 100000 3 71 [pic (nI ns)] .non := Cl.rt (k := 2) (F := ⟨1, 3, b71⟩) rfl rfl fun n hn st => by
  show exs _ _ _ (.cons _ (.cons _ .nil)) [some (pic (nI ns)), none, none] st = _
  have g : Gc 5 = .int 60 := rfl
  obtain ⟨e, s, he, ⟨x, y, hq⟩, hs⟩ := ex_for (C := PL.call T Gc 100000 n) (G := Gc) (W := 100000) (t := .tup (.cons (.var 1) (.cons (.var 2) .nil))) (it := .enum (.var 0))
    (b := .cons (.ifs (.not (.call 1 (.cons (.var 2) (.cons (.int 1) (.cons (.glb 5) .nil))))) (.cons (.ret (.var 1)) .nil) .nil) .nil)
    (env := [some (pic (nI ns)), none, none]) (st := st) (ds := ns.zipIdx.map fun q => .tup [.int (q.2 : Nat), .int (q.1 : Nat)])
    (fun i e s => (∃ x y, e = [some (pic (nI ns)), x, y]) ∧ s = st)
    (by simp only [xi_enum, x_var, List.getElem?_cons_zero, pic, bind_ok, walk_tup, oD_some, nI_D, enum_map]) ⟨⟨_, _, rfl⟩, rfl⟩ (fun i d hd e s ⟨⟨x, y, he⟩, hs⟩ => by
      subst he hs
      rw [List.getElem?_map] at hd
      obtain ⟨q, hq, rfl⟩ := Option.map_eq_some_iff.mp hd
      have hx := h.2.2 q.1 (List.fst_mem_of_mem_zipIdx (List.mem_of_getElem? hq))
      have b1 := sp_between (q.1 : Int) 1 60 n hn
      have b2 : (decide (1 ≤ (q.1 : Int)) && decide ((q.1 : Int) ≤ 60)) = true := by
        simp
        omega
      rw [b2] at b1
      refine ⟨[some (pic (nI ns)), some (.int (q.2 : Nat)), some (.int (q.1 : Nat))], _, .inl ?_, ⟨_, _, rfl⟩, rfl⟩
      simp [g, b1])
  subst hq hs
  rw [exs_cons he]
  simp
theorem sp_pl {C : Nat → List D → Sto → R D} {ns : List Nat} {t : Nat} {st : Sto} {e1 e2 e3 : Option D} (h : Nums ns) : ev C Gc (.blt .sum (.cons (.comp [3, 4] (.bin .shl (.int 1) (.var 3)) (.tup (.cons (.var 3) (.cons (.var 4) .nil))) (.enum (.var 0)) (.some (.cmp .eq (.bin .mod (.var 2) (.var 4)) (.int 0)))) .nil)) [some (pic (nI ns)), e1, some (.int (t : Nat)), e2, e3] st =
    .ok (.int (plN ns t : Nat)) st := by
  have hc : ev C Gc (.comp [3, 4] (.bin .shl (.int 1) (.var 3)) (.tup (.cons (.var 3) (.cons (.var 4) .nil))) (.enum (.var 0)) (.some (.cmp .eq (.bin .mod (.var 2) (.var 4)) (.int 0)))) [some (pic (nI ns)), e1, some (.int (t : Nat)), e2, e3] st =
      .ok (.frz (ns.zipIdx.filterMap fun p => if decide (t % p.1 = 0) then some (.int (2 ^ p.2)) else none)) st := by
    refine ev_lcm (fun p : Nat × Nat => .tup [.int (p.2 : Nat), .int (p.1 : Nat)]) _ _ ?_ (by have := h.2.1; simp; omega) fun a ha => ?_
    · simp only [xi_enum, x_var, List.getElem?_cons_zero, pic, bind_ok, walk_tup, oD_some, nI_D, enum_map]
    · have hx := h.2.2 a.1 (List.fst_mem_of_mem_zipIdx ha)
      have h2 : a.2 ≤ 100 := by
        have := List.snd_lt_of_mem_zipIdx ha
        have := h.2.1
        omega
      have hpos : (0 : Int) < (a.1 : Int) := by omega
      have hpn : 0 < a.1 := by omega
      by_cases hb : t % a.1 = 0
      · have hb' : ((t : Int) % (a.1 : Int) == 0) = true := by
          have : (t : Int) % (a.1 : Int) = 0 := by exact_mod_cast hb
          rw [this]; rfl
        simp [compB, wipe, hpos, hpn, hb, hb', shl_one h2]
      · have hb' : ((t : Int) % (a.1 : Int) == 0) = false := beq_false_of_ne fun e => hb (by exact_mod_cast e)
        simp [compB, wipe, hpos, hpn, hb, hb']
  rw [fm_if] at hc
  have e : ((ns.zipIdx.filter fun p => decide (t % p.1 = 0)).map fun p => ((2 : Int) ^ p.2)).sum = (plN ns t : Nat) := by
    have := sum_cast ((ns.zipIdx.filter fun p => decide (t % p.1 = 0)).map (·.2))
    rw [List.map_map, List.map_map] at this
    exact this
  simp only [x_blt, xs_cons, xs_nil, hc, bind_ok, b_sum, sv_frz, Option.bind_some, ints_m, Option.map_some, oD_some, e]
/-- the places of the things 1 .. 60 -/
def plL (ns : List Nat) : List Nat := (List.range 60).map fun i => plN ns (i + 1)
theorem sp_multiples {ns : List Nat} (h : Nums ns) : Cl T Gc 100000 3 72 [pic (nI ns)] (pic (hist ns.length (plL ns))) := by
  refine Cl.tk (k := 2) (F := ⟨1, 5, b72⟩) rfl rfl (fun n => refs_ints n _) fun n hn st => ?_
  show ∃ ext, exs _ _ _ (.cons _ (.cons _ (.cons _ .nil))) [some (pic (nI ns)), none, none, none, none] st = _
  have g : Gc 5 = .int 60 := rfl
  have s1 : ex (PL.call T Gc 100000 n) Gc 100000 (.asg (.var 1) (.thaw (.list .nil))) [some (pic (nI ns)), none, none, none, none] st = .ok (.nx [some (pic (nI ns)), some (.lst st.length), none, none, none]) (st ++ [.lst []]) := by simp
  have r1 : rngOk 1 = true := rfl
  have r2 : rngOk 61 = true := rfl
  obtain ⟨e, s, he, ⟨x, y, z, hq⟩, hs⟩ := ex_for (C := PL.call T Gc 100000 n) (G := Gc) (W := 100000) (t := .var 2) (it := .rng2 (.int 1) (.bin .add (.glb 5) (.int 1)))
    (b := .cons (.exp (.mth .append (.var 1) (.cons (.blt .sum (.cons (.comp [3, 4] (.bin .shl (.int 1) (.var 3)) (.tup (.cons (.var 3) (.cons (.var 4) .nil))) (.enum (.var 0)) (.some (.cmp .eq (.bin .mod (.var 2) (.var 4)) (.int 0)))) .nil)) .nil))) .nil)
    (env := [some (pic (nI ns)), some (.lst st.length), none, none, none]) (st := st ++ [.lst []]) (ds := (List.range 60).map fun i => .int (1 + (i : Nat)))
    (fun i e s => (∃ x y z, e = [some (pic (nI ns)), some (.lst st.length), x, y, z]) ∧ s = st ++ [.lst ((nI ((plL ns).take i)).map D.int)] ∧ i ≤ 60)
    (by simp [g, r1, r2, rng_map]) ⟨⟨_, _, _, rfl⟩, rfl, by decide⟩ (fun i d hd e s ⟨⟨x, y, z, he⟩, hs, _⟩ => by
      subst he hs
      rw [List.getElem?_map] at hd
      obtain ⟨q, hq, rfl⟩ := Option.map_eq_some_iff.mp hd
      have hi : i < 60 := by
        have := (List.getElem?_eq_some_iff.mp hq).1
        simpa using this
      rw [List.getElem?_range hi] at hq
      cases hq
      have pe : ((1 : Int) + (i : Nat)) = ((i + 1 : Nat) : Int) := by omega
      have ht : (plL ns).take (i + 1) = (plL ns).take i ++ [plN ns (i + 1)] := by
        rw [List.take_add_one]
        have : (plL ns)[i]? = some (plN ns (i + 1)) := by
          unfold plL
          rw [List.getElem?_map, List.getElem?_range hi]
          rfl
        rw [this]
        rfl
      have hsum := sp_pl (C := PL.call T Gc 100000 n) (t := i + 1) (st := st ++ [Obj.lst ((nI ((plL ns).take i)).map D.int)]) (e1 := some (.lst st.length)) (e2 := y) (e3 := z) h
      have hma : mcall (st ++ [Obj.lst ((nI ((plL ns).take i)).map D.int)]) .append (.lst st.length) [D.int (plN ns (i + 1) : Nat)] = .ok .non (st ++ [Obj.lst ((nI ((plL ns).take (i + 1))).map D.int)]) := by
        show (match (st ++ [Obj.lst ((nI ((plL ns).take i)).map D.int)])[st.length]? with
          | some (.lst ds) => if szLt ds.length && refsLt st.length (D.int (plN ns (i + 1) : Nat)) then R.ok D.non ((st ++ [Obj.lst ((nI ((plL ns).take i)).map D.int)]).set st.length (.lst (ds ++ [D.int (plN ns (i + 1) : Nat)]))) else .bad
          | _ => .bad) = _
        rw [last_at]
        show (if szLt _ && true then _ else _) = _
        have hz : szLt ((nI ((plL ns).take i)).map D.int).length = true := szLt_of (by
          rw [List.length_map, nI_len, List.length_take]
          omega)
        rw [hz]
        show R.ok _ _ = _
        rw [last_set, ht]
        unfold nI
        simp
      have ho : mOk .append (.lst st.length) = true := rfl
      refine ⟨[some (pic (nI ns)), some (.lst st.length), some (.int ((i + 1 : Nat) : Int)), y, z], _, .inl ?_, ⟨_, _, _, rfl⟩, rfl, hi⟩
      rw [pe]
      simp only [xt_var, List.length_cons, List.length_nil, List.set_cons_succ, List.set_cons_zero]
      rw [if_pos (by decide)]
      simp only [bind_ok, es_cons, es_nil, e_exp, x_mth, x_var, List.getElem?_cons_zero, List.getElem?_cons_succ, ho, if_true, xs_cons, xs_nil, hsum, hma])
  have hlz : ((List.range 60).map fun i : Nat => D.int (1 + (i : Nat))).length = 60 := by simp
  rw [hlz] at hs
  have htk : (plL ns).take 60 = plL ns := List.take_of_length_le (by simp [plL])
  rw [htk] at hs
  obtain ⟨hs, _⟩ := hs
  subst hq hs
  rw [exs_cons s1, exs_cons he]
  have hbp := sp_byplaces (m := ns.length) (L := plL ns) (n := n) h.2.1 hn (st := st ++ [.lst ((nI (plL ns)).map D.int)]) (i := st.length) last_at
  refine ⟨[.lst ((nI (plL ns)).map D.int)], ?_⟩
  have hl : ((pic (nI ns) : D)) = .tup ((nI ns).map D.int) := rfl
  simp only [es_cons, e_ret, x_call, xs_cons, xs_nil, x_blt, x_var, List.getElem?_cons_zero, List.getElem?_cons_succ, bind_ok, b_len, len_tup, List.length_map, nI_len, Option.map_some, oD_some, hbp]
theorem sp_lotsizes {ns : List Nat} (h : Nums ns) : Cl T Gc 100000 4 76 [pic (nI ns)] (pic (hist ns.length (plL ns))) := Cl.rt (k := 3) (F := ⟨1, 2, b76⟩) rfl rfl fun n hn st => by
  show exs _ _ _ b76 [some (pic (nI ns)), none] st = _
  have l1 := sp_lotnum (ns.length : Int) n (by omega)
  have l2 : (decide (1 ≤ (ns.length : Int)) && decide ((ns.length : Int) ≤ 4)) = true := by
    have := h.1
    have := h.2.1
    simp
    omega
  rw [l2] at l1
  simp [b76, nI_len, l1, sp_wrong h n (by omega), sp_multiples h n (by omega)]
/-! ### the law's own defs -/
theorem lawchoice : ∀ q < 16, joinL [] ((([65, 66, 67, 68] : List Nat).zipIdx.filter fun p => decide (((q : Nat) : Int) / 2 ^ p.2 % 2 = 1)).map fun p => [p.1]) = zc q := by decide +kernel
theorem join_nil (l : List (List Nat)) (st : Sto) (hl : (l.map List.length).sum ≤ 16777216) : mcall st .join (.str []) [.frz (l.map .str)] = .ok (.str (joinL [] l)) st := by
  show (match (some (l.map D.str)).bind strsOf with | some ps => if szOk ((ps.map List.length).sum + ps.length * 0) then R.ok (D.str (joinL [] ps)) st else .bad | none => .bad) = _
  have := strs_m (fun z : List Nat => z) l
  simp only [List.map_id'] at this
  rw [Option.bind_some, this]
  show (if szOk _ = true then _ else _) = _
  rw [if_pos (szOk_of (by omega))]
theorem ones (l : List (Nat × Nat)) : ((l.map fun p => [p.1]).map List.length).sum = l.length := by
  induction l with
  | nil => rfl
  | cons a r ih => simp at ih ⊢; omega
theorem sp_lawchoice {q : Nat} (h : q < 16) : Cl T Gc 100000 1 55 [.int (q : Nat)] (.str (zc q)) := Cl.rt (F := ⟨1, 3, b55⟩) rfl rfl fun n hn st => by
  show exs _ _ _ b55 [some (.int (q : Nat)), none, none] st = _
  have hc : ev (PL.call T Gc 100000 n) Gc (.comp [1, 2] (.var 2) (.tup (.cons (.var 1) (.cons (.var 2) .nil))) (.enum (.str [65, 66, 67, 68])) (.some (.cmp .eq (.bin .mod (.blt .int (.cons (.bin .fdiv (.var 0) (.bin .shl (.int 1) (.var 1))) .nil)) (.int 2)) (.int 1)))) [some (.int (q : Nat)), none, none] st =
      .ok (.frz ((([65, 66, 67, 68] : List Nat).zipIdx).filterMap fun p => if decide (((q : Nat) : Int) / 2 ^ p.2 % 2 = 1) then some (.str [p.1]) else none)) st := by
    refine ev_lcm (fun p : Nat × Nat => .tup [.int (p.2 : Nat), .str [p.1]]) _ _ ?_ (by simp) fun a ha => ?_
    · simp only [xi_enum, x_str, bind_ok, walk_str, oD_some, enum_map]
    · have h2 : a.2 < 4 := by
        have := List.snd_lt_of_mem_zipIdx ha
        simpa using this
      have p1 : (0 : Int) < 2 ^ a.2 := Int.pow_pos (by decide)
      have p2 : (2 : Int) ^ a.2 < 1073741824 := by
        have : a.2 = 0 ∨ a.2 = 1 ∨ a.2 = 2 ∨ a.2 = 3 := by omega
        rcases this with e | e | e | e <;> rw [e] <;> decide
      by_cases hb : ((q : Nat) : Int) / 2 ^ a.2 % 2 = 1
      · simp [compB, wipe, shl_one (show a.2 ≤ 100 by omega), p1, p2, hb]
      · simp [compB, wipe, shl_one (show a.2 ≤ 100 by omega), p1, p2, hb]
  have e := lawchoice q h
  rw [fm_if] at hc
  have ho : mOk .join (.str []) = true := rfl
  have hl := join_nil ((([65, 66, 67, 68] : List Nat).zipIdx.filter fun p => decide (((q : Nat) : Int) / 2 ^ p.2 % 2 = 1)).map fun p => [p.1]) st (by
    rw [ones]
    exact Nat.le_trans (List.length_filter_le _ _) (by simp))
  rw [e, List.map_map] at hl
  simp only [b55, es_cons, e_ret, x_mth, x_str, bind_ok, ho, if_true, xs_cons, xs_nil, hc]
  rw [show (fun p : Nat × Nat => D.str [p.1]) = (D.str ∘ fun p => [p.1]) from rfl, hl]
  simp
theorem sp_common {a b : Nat} (ha : 1 ≤ a) (hb : b ≤ 60) : Cl T Gc 100000 1 88 [.int (a : Nat), .int (b : Nat)] (.int (Nat.gcd a b : Nat)) := Cl.rt (F := ⟨2, 3, b88⟩) rfl rfl fun n hn st => by
  show exs _ _ _ (.cons _ (.cons _ .nil)) [some (.int (a : Nat)), some (.int (b : Nat)), none] st = _
  have r1 : rngOk 100 = true := rfl
  obtain ⟨e, s, he, ⟨x, y, z, hq, hg, h0⟩, hs⟩ := ex_for (C := PL.call T Gc 100000 n) (G := Gc) (W := 100000) (t := .var 2) (it := .rng1 (.int 100))
    (b := .cons (.ifs (.cmp .gt (.var 1) (.int 0)) (.cons (.par [0, 1] (.cons (.var 1) (.cons (.bin .mod (.blt .int (.cons (.var 0) .nil)) (.var 1)) .nil))) .nil) .nil) .nil)
    (env := [some (.int (a : Nat)), some (.int (b : Nat)), none]) (st := st) (ds := rngD 0 100)
    (fun i e s => (∃ (x y : Nat) (z : Option D), e = [some (.int (x : Nat)), some (.int (y : Nat)), z] ∧ Nat.gcd x y = Nat.gcd a b ∧ y ≤ 60 - i) ∧ s = st)
    (by simp [r1]) ⟨⟨a, b, none, rfl, rfl, by omega⟩, rfl⟩ (fun i d hd e s ⟨⟨x, y, z, he, hg, hy⟩, hs⟩ => by
      subst he hs
      obtain ⟨hi, rfl⟩ := rng_get hd
      by_cases h : 0 < y
      · have hm := Nat.mod_lt x h
        refine ⟨[some (.int (y : Nat)), some (.int ((x % y : Nat) : Int)), some (.int (0 + (i : Nat)))], _, .inl ?_, ⟨y, x % y, _, rfl, ?_, by omega⟩, rfl⟩
        · have h' : (0 : Int) < (y : Int) := by omega
          simp [h, h']
        · rw [← hg, Nat.gcd_comm y, ← Nat.gcd_rec, Nat.gcd_comm]
      · have h' : ¬ (0 : Int) < (y : Int) := by omega
        refine ⟨[some (.int (x : Nat)), some (.int (y : Nat)), some (.int (0 + (i : Nat)))], _, .inl ?_, ⟨x, y, _, rfl, hg, by omega⟩, rfl⟩
        simp [h])
  subst hq hs
  rw [exs_cons he]
  have hy : y = 0 := by
    rw [rng_len] at h0
    omega
  subst hy
  rw [Nat.gcd_zero_right] at hg
  simp [hg]
theorem set_left {st ext : Sto} {i : Nat} {o o' : Obj} (h : i < st.length) : (st.set i o ++ ext).set i o' = st.set i o' ++ ext := by
  rw [List.set_append_left _ _ (by simpa using h), List.set_set]
theorem get_left {st ext : Sto} {i : Nat} {o : Obj} (h : i < st.length) : (st.set i o ++ ext)[i]? = some o := by
  rw [List.getElem?_append_left (by simpa using h), List.getElem?_set_self h]
theorem last_at' {st : Sto} {i : Nat} {o o' : Obj} : (st.set i o ++ [o'])[st.length]? = some o' := by
  rw [List.getElem?_append_right (by simp)]
  simp
theorem last_set' {st : Sto} {i : Nat} {o o' o2 : Obj} : (st.set i o ++ [o']).set st.length o2 = st.set i o ++ [o2] := by
  rw [List.set_append_right _ _ (by simp)]
  simp
theorem erase_map {α β : Type} (f : α → β) : ∀ (xs : List α) (k : Nat), (xs.eraseIdx k).map f = (xs.map f).eraseIdx k
  | [], _ => rfl
  | _ :: _, 0 => rfl
  | x :: xs, k + 1 => congrArg (f x :: ·) (erase_map f xs k)
theorem erase_perm {α : Type} : ∀ {xs : List α} {k : Nat} (h : k < xs.length), List.Perm ([xs[k]] ++ xs.eraseIdx k) xs
  | _ :: _, 0, _ => .refl _
  | x :: xs, k + 1, h => by
    have := erase_perm (xs := xs) (k := k) (by simpa using h)
    exact (List.Perm.swap x _ _).trans (List.Perm.cons x this)
theorem sp_order {n : Nat} (hn : 3 ≤ n) {st : Sto} {i m : Nat} {a b c : Int} (hi : st[i]? = some (pot3 a b c)) (hm : m ≤ 4) :
    ∃ a' b' c' o, List.Perm o (List.range m) ∧ PL.call T Gc 100000 n 57 [.lst i, .int (m : Nat)] st = .ok (pic (nI o)) (st.set i (pot3 a' b' c')) := by
  obtain ⟨k, rfl⟩ : ∃ k, n = k + 1 := ⟨n - 1, by omega⟩
  have hl : i < st.length := (List.getElem?_eq_some_iff.mp hi).1
  have st0 : st.set i (pot3 a b c) = st := by
    obtain ⟨h, e⟩ := List.getElem?_eq_some_iff.mp hi
    rw [← e]
    exact List.set_getElem_self h
  have hr := rng_nat (n := m) (by omega)
  have e0 : (rngD 0 m) = (nI (List.range m)).map D.int := by
    rw [rng_map, nI_D]
    simp
  have s1 : ex (PL.call T Gc 100000 k) Gc 100000 (.par [2, 3] (.cons (.thaw (.rgv false .none (.var 1))) (.cons (.tup .nil) .nil))) [some (.lst i), some (.int (m : Nat)), none, none, none] st =
      .ok (.nx [some (.lst i), some (.int (m : Nat)), some (.lst st.length), some (.tup []), none]) (st ++ [.lst ((nI (List.range m)).map D.int)]) := by
    have r0 : rngOk 0 = true := rfl
    have hz : m ≤ 16777216 := by omega
    have hz' : (m : Int) ≤ 16777216 := by omega
    simp [r0, hr, hz, hz', e0]
  obtain ⟨e, s, he, a', b', c', fo, lf, x, hq, hs, hp, hfl⟩ := ex_for (C := PL.call T Gc 100000 k) (G := Gc) (W := 100000) (t := .var 4) (it := .rng1 (.var 1))
    (b := .cons (.asg (.var 3) (.bin .add (.var 3) (.tup (.cons (.mth .popAt (.var 2) (.cons (.call 50 (.cons (.var 0) (.cons (.blt .len (.cons (.var 2) .nil)) .nil))) .nil)) .nil)))) .nil)
    (env := [some (.lst i), some (.int (m : Nat)), some (.lst st.length), some (.tup []), none]) (st := st ++ [.lst ((nI (List.range m)).map D.int)]) (ds := rngD 0 m)
    (fun j e s => ∃ (a' b' c' : Int) (fo lf : List Nat) (x : Option D), e = [some (.lst i), some (.int (m : Nat)), some (.lst st.length), some (pic (nI fo)), x] ∧ s = st.set i (pot3 a' b' c') ++ [.lst ((nI lf).map D.int)] ∧ (fo ++ lf).Perm (List.range m) ∧ fo.length = j)
    (by simp [hr]) ⟨a, b, c, [], List.range m, none, rfl, by rw [st0], by simp, rfl⟩ (fun j d hd e s ⟨a', b', c', fo, lf, x, he, hs, hp, hfl⟩ => by
      subst he hs
      obtain ⟨hj, rfl⟩ := rng_get hd
      have hlen : fo.length + lf.length = m := by
        have := hp.length_eq
        simpa using this
      obtain ⟨a2, b2, c2, r, r0, r1, hdr⟩ := sp_draw (n := k) (by omega) (st := st.set i (pot3 a' b' c') ++ [.lst ((nI lf).map D.int)]) (i := i) (get_left hl) (m := (lf.length : Nat)) (by omega) (by omega)
      rw [set_left hl] at hdr
      obtain ⟨q, rfl⟩ : ∃ q : Nat, r = q := ⟨r.toNat, by omega⟩
      have hql : q < lf.length := by omega
      have hlenv : ∀ a b c : Int, lenD (st.set i (pot3 a b c) ++ [.lst ((nI lf).map D.int)]) (.lst st.length) = some (lf.length : Int) := fun a b c => by
        rw [len_lst last_at', List.length_map, nI_len]
      have hpop : mcall (st.set i (pot3 a2 b2 c2) ++ [.lst ((nI lf).map D.int)]) .popAt (.lst st.length) [.int (q : Nat)] = .ok (.int ((lf[q] : Nat) : Int)) (st.set i (pot3 a2 b2 c2) ++ [.lst ((nI (lf.eraseIdx q)).map D.int)]) := by
        show (match (st.set i (pot3 a2 b2 c2) ++ [Obj.lst ((nI lf).map D.int)])[st.length]? with
          | some (.lst ds) => if decide (-(2 ^ 63) ≤ ((q : Nat) : Int)) && decide (((q : Nat) : Int) < 2 ^ 63) then (match ixN ds.length ((q : Nat) : Int) with
            | some j => (match ds[j]? with | some d => R.ok d ((st.set i (pot3 a2 b2 c2) ++ [Obj.lst ((nI lf).map D.int)]).set st.length (.lst (ds.eraseIdx j))) | none => .bad)
            | none => .bad) else .bad
          | _ => .bad) = _
        rw [last_at']
        have h1 : (decide (-(2 ^ 63) ≤ ((q : Nat) : Int)) && decide (((q : Nat) : Int) < 2 ^ 63)) = true := by
          simp only [Bool.and_eq_true, decide_eq_true_eq]
          omega
        have h2 : ixN ((nI lf).map D.int).length ((q : Nat) : Int) = some q := by
          unfold ixN
          rw [if_pos (by omega), if_pos (by rw [List.length_map, nI_len]; omega)]
          rfl
        have h3 : ((nI lf).map D.int)[q]? = some (.int ((lf[q] : Nat) : Int)) := by
          rw [nI_D, List.getElem?_map, List.getElem?_eq_getElem hql]
          rfl
        show (if _ = true then _ else _) = _
        rw [if_pos h1]
        show (match ixN ((nI lf).map D.int).length ((q : Nat) : Int) with | some j => _ | none => _) = _
        rw [h2]
        show (match ((nI lf).map D.int)[q]? with | some d => _ | none => _) = _
        rw [h3]
        show R.ok _ _ = _
        rw [last_set', nI_D, nI_D, erase_map]
      have ho : mOk .popAt (.lst st.length) = true := rfl
      have hz : (nI fo).length + 1 ≤ 16777216 := by rw [nI_len]; omega
      refine ⟨[some (.lst i), some (.int (m : Nat)), some (.lst st.length), some (pic (nI (fo ++ [lf[q]]))), some (.int (0 + (j : Nat)))], _, .inl ?_, a2, b2, c2, fo ++ [lf[q]], lf.eraseIdx q, _, rfl, rfl, ?_, by simp [hfl]⟩
      · have e1 : (nI (fo ++ [lf[q]])).map D.int = (nI fo).map D.int ++ [.int ((lf[q] : Nat) : Int)] := by
          unfold nI
          simp
        have hz' : fo.length + 1 ≤ 16777216 := by omega
        simp [ho, hlenv, hdr, hpop, pic, e1, nI_len, hz']
      · refine List.Perm.trans ?_ hp
        rw [List.append_assoc]
        refine List.Perm.append_left _ ?_
        exact erase_perm hql)
  rw [rng_len] at hfl
  have hle : lf = [] := by
    have := hp.length_eq
    simp at this
    exact List.eq_nil_of_length_eq_zero (by omega)
  subst hq hs hle
  rw [List.append_nil] at hp
  refine ⟨a', b', c', fo, hp, ?_⟩
  have h2 : exs (PL.call T Gc 100000 k) Gc 100000 b57 [some (.lst i), some (.int (m : Nat)), none, none, none] st = .ok (.rt (pic (nI fo))) (st.set i (pot3 a' b' c') ++ [.lst ((nI []).map D.int)]) := by
    show exs _ _ _ (.cons _ (.cons _ (.cons _ .nil))) _ _ = _
    rw [exs_cons s1, exs_cons he]
    simp
  rw [call_eq (F := ⟨2, 5, b57⟩) rfl rfl]
  show fin _ (exs _ _ _ b57 [some (.lst i), some (.int (m : Nat)), none, none, none] st) = _
  rw [h2]
  show back st.length (pic (nI fo)) _ = _
  unfold back
  rw [if_neg (by simp), if_pos (show refsLt st.length (pic (nI fo)) = true from refs_ints _ _), List.take_left' (by simp)]
end Lw

set_option Elab.async false
set_option linter.all false
set_option maxRecDepth 100000
set_option maxHeartbeats 1000000
namespace Lw
open PL
/-! ### the counting behind it -/
theorem range_zipIdx {α : Type} (f : Nat → α) (N : Nat) : ((List.range N).map f).zipIdx = (List.range N).map fun k => (f k, k) := by
  apply List.ext_getElem?
  intro i
  rw [List.getElem?_zipIdx, List.getElem?_map, List.getElem?_map]
  by_cases h : i < N
  · rw [List.getElem?_range h]
    simp
  · rw [List.getElem?_eq_none (by simpa using h)]
    rfl
theorem msum_map (t : Nat → Bool) (f : Nat → Int) (N : Nat) : msum t ((List.range N).map f) = (((List.range N).filter t).map f).sum := by
  unfold msum
  rw [range_zipIdx, List.filter_map, List.map_map]
  rfl
theorem sum_add (l : List Nat) (f g : Nat → Int) : (l.map fun k => f k + g k).sum = (l.map f).sum + (l.map g).sum := by
  induction l with
  | nil => rfl
  | cons a r ih => simp [ih]; omega
theorem sum_one (l : List Nat) (x : Nat) (nd : l.Nodup) : (l.map fun k => if x = k then (1 : Int) else 0).sum = if x ∈ l then 1 else 0 := by
  induction l with
  | nil => rfl
  | cons a r ih =>
    rw [List.map_cons, List.sum_cons, ih (List.nodup_cons.mp nd).2]
    by_cases h : x = a
    · subst h
      have := (List.nodup_cons.mp nd).1
      simp [this]
    · simp [h]
theorem msum_hist {m : Nat} (t : Nat → Bool) : ∀ (L : List Nat), (∀ l ∈ L, l < 2 ^ m) → msum t (hist m L) = (L.countP t : Nat)
  | [], _ => by
    unfold hist
    rw [msum_map]
    have : ∀ l : List Nat, (l.map fun k => (((([] : List Nat).count k : Nat)) : Int)).sum = 0 := fun l => by
      induction l with
      | nil => rfl
      | cons a r ih => simpa using ih
    rw [this]
    rfl
  | x :: L, h => by
    have ih := msum_hist t L fun l hl => h l (List.mem_cons_of_mem _ hl)
    unfold hist at ih ⊢
    rw [msum_map] at ih ⊢
    have e : (fun k => (((x :: L).count k : Nat) : Int)) = fun k => ((L.count k : Nat) : Int) + (if x = k then (1 : Int) else 0) := by
      funext k
      rw [List.count_cons]
      by_cases hx : x = k
      · simp [hx]
      · simp [hx]
    rw [e, sum_add, ih, sum_one _ _ ((List.nodup_range (n := 2 ^ m)).sublist List.filter_sublist), List.countP_cons]
    have hx := h x (List.mem_cons_self ..)
    by_cases ht : t x = true
    · simp [ht, hx]
    · simp [ht]
theorem hist_sum {m : Nat} (L : List Nat) (h : ∀ l ∈ L, l < 2 ^ m) : (hist m L).sum = L.length := by
  have := msum_hist (fun _ => true) L h
  unfold hist at this ⊢
  rw [msum_map] at this
  rw [List.filter_eq_self.mpr (fun _ _ => rfl)] at this
  rw [this, List.countP_eq_length.mpr (fun _ _ => rfl)]
theorem sieve_1 (x0 x1 : Int) : sieveF 1 [x0, x1] = x1 ∧ msum (fun a => !((a &&& 1) == 0)) [x0, x1] = x1 ∧ (cut [x0, x1] (some 1) none).sum = x1 := by
  have sz : (List.range 2).map size = [0, 1] := by decide +kernel
  simp only [List.range_succ, List.range_zero, List.nil_append, List.cons_append, List.map_cons, List.map_nil, List.cons.injEq, and_true] at sz
  refine ⟨?_, ?_, ?_⟩
  · simp [sieveF, bs, bsStep, msum, sz, List.range_succ]
    try omega
  · simp [msum]
    try omega
  · simp [cut, sIx]
    try omega
theorem sieve_2 (x0 x1 x2 x3 : Int) : sieveF 2 [x0, x1, x2, x3] = x1 + x2 + x3 ∧ msum (fun a => !((a &&& 3) == 0)) [x0, x1, x2, x3] = x1 + x2 + x3 ∧ (cut [x0, x1, x2, x3] (some 1) none).sum = x1 + x2 + x3 := by
  have sz : (List.range 4).map size = [0, 1, 1, 2] := by decide +kernel
  simp only [List.range_succ, List.range_zero, List.nil_append, List.cons_append, List.map_cons, List.map_nil, List.cons.injEq, and_true] at sz
  refine ⟨?_, ?_, ?_⟩
  · simp [sieveF, bs, bsStep, msum, sz, List.range_succ]
    try omega
  · simp [msum]
    try omega
  · simp [cut, sIx]
    try omega
theorem sieve_3 (x0 x1 x2 x3 x4 x5 x6 x7 : Int) : sieveF 3 [x0, x1, x2, x3, x4, x5, x6, x7] = x1 + x2 + x3 + x4 + x5 + x6 + x7 ∧ msum (fun a => !((a &&& 7) == 0)) [x0, x1, x2, x3, x4, x5, x6, x7] = x1 + x2 + x3 + x4 + x5 + x6 + x7 ∧ (cut [x0, x1, x2, x3, x4, x5, x6, x7] (some 1) none).sum = x1 + x2 + x3 + x4 + x5 + x6 + x7 := by
  have sz : (List.range 8).map size = [0, 1, 1, 2, 1, 2, 2, 3] := by decide +kernel
  simp only [List.range_succ, List.range_zero, List.nil_append, List.cons_append, List.map_cons, List.map_nil, List.cons.injEq, and_true] at sz
  refine ⟨?_, ?_, ?_⟩
  · simp [sieveF, bs, bsStep, msum, sz, List.range_succ]
    try omega
  · simp [msum]
    try omega
  · simp [cut, sIx]
    try omega
theorem sieve_4 (x0 x1 x2 x3 x4 x5 x6 x7 x8 x9 x10 x11 x12 x13 x14 x15 : Int) : sieveF 4 [x0, x1, x2, x3, x4, x5, x6, x7, x8, x9, x10, x11, x12, x13, x14, x15] = x1 + x2 + x3 + x4 + x5 + x6 + x7 + x8 + x9 + x10 + x11 + x12 + x13 + x14 + x15 ∧ msum (fun a => !((a &&& 15) == 0)) [x0, x1, x2, x3, x4, x5, x6, x7, x8, x9, x10, x11, x12, x13, x14, x15] = x1 + x2 + x3 + x4 + x5 + x6 + x7 + x8 + x9 + x10 + x11 + x12 + x13 + x14 + x15 ∧ (cut [x0, x1, x2, x3, x4, x5, x6, x7, x8, x9, x10, x11, x12, x13, x14, x15] (some 1) none).sum = x1 + x2 + x3 + x4 + x5 + x6 + x7 + x8 + x9 + x10 + x11 + x12 + x13 + x14 + x15 := by
  have sz : (List.range 16).map size = [0, 1, 1, 2, 1, 2, 2, 3, 1, 2, 2, 3, 2, 3, 3, 4] := by decide +kernel
  simp only [List.range_succ, List.range_zero, List.nil_append, List.cons_append, List.map_cons, List.map_nil, List.cons.injEq, and_true] at sz
  refine ⟨?_, ?_, ?_⟩
  · simp [sieveF, bs, bsStep, msum, sz, List.range_succ]
    try omega
  · simp [msum]
    try omega
  · simp [cut, sIx]
    try omega
/-! places by bits -/
def ofB (bs : List Bool) : Nat := ((bs.zipIdx.filter fun p => p.1).map fun p => 2 ^ p.2).sum
def tst (ns : List Nat) (t : Nat) : List Bool := ns.map fun n => decide (t % n = 0)
theorem pl_ofB (ns : List Nat) (t : Nat) : plN ns t = ofB (tst ns t) := by
  unfold plN ofB tst
  rw [List.zipIdx_map, List.filter_map, List.map_map]
  rfl
theorem ofB_lt : ∀ bs : List Bool, bs.length ≤ 4 → ofB bs < 2 ^ bs.length
  | [], _ => by decide
  | [a], _ => by revert a; decide
  | [a, b], _ => by revert a b; decide
  | [a, b, c], _ => by revert a b c; decide
  | [a, b, c, d], _ => by revert a b c d; decide +kernel
  | _ :: _ :: _ :: _ :: _ :: _, h => by simp at h
def selB (q : Nat) (bs : List Bool) : List Bool := (bs.zipIdx.filter fun p => q / 2 ^ p.2 % 2 = 1).map (·.1)
theorem ofB_and : ∀ (bs : List Bool) (q : Nat), bs.length ≤ 4 → q < 2 ^ bs.length → ((ofB bs &&& q) == q) = (selB q bs).all id
  | [], q, _, h => by revert q; decide
  | [a], q, _, h => (by decide +kernel : ∀ a : Bool, ∀ q < 2, ((ofB [a] &&& q) == q) = (selB q [a]).all id) a q h
  | [a, b], q, _, h => (by decide +kernel : ∀ a b : Bool, ∀ q < 4, ((ofB [a, b] &&& q) == q) = (selB q [a, b]).all id) a b q h
  | [a, b, c], q, _, h => (by decide +kernel : ∀ a b c : Bool, ∀ q < 8, ((ofB [a, b, c] &&& q) == q) = (selB q [a, b, c]).all id) a b c q h
  | [a, b, c, d], q, _, h => (by decide +kernel : ∀ a b c d : Bool, ∀ q < 16, ((ofB [a, b, c, d] &&& q) == q) = (selB q [a, b, c, d]).all id) a b c d q h
  | _ :: _ :: _ :: _ :: _ :: _, _, h, _ => by simp at h
def sel (q : Nat) (ns : List Nat) : List Nat := (ns.zipIdx.filter fun p => q / 2 ^ p.2 % 2 = 1).map (·.1)
theorem selB_tst (q : Nat) (ns : List Nat) (t : Nat) : selB q (tst ns t) = (sel q ns).map fun n => decide (t % n = 0) := by
  unfold selB sel tst
  rw [List.zipIdx_map, List.filter_map, List.map_map, List.map_map]
  rfl
theorem pl_and {ns : List Nat} {q t : Nat} (h : ns.length ≤ 4) (hq : q < 2 ^ ns.length) : ((plN ns t &&& q) == q) = (sel q ns).all fun n => decide (t % n = 0) := by
  rw [pl_ofB, ofB_and _ q (by simpa [tst] using h) (by simpa [tst] using hq), selB_tst, List.all_map]
  rfl
/-- the least common multiple, as the law counts it -/
def lcmL (l : List Nat) : Nat := l.foldl (fun a n => a / Nat.gcd a n * n) 1
theorem lcm_step (a n : Nat) : a / Nat.gcd a n * n = Nat.lcm a n := by
  unfold Nat.lcm
  rw [Nat.div_mul_right_comm (Nat.gcd_dvd_left a n)]
theorem lcm_dvd (t : Nat) : ∀ (l : List Nat) (a : Nat), (l.foldl (fun a n => a / Nat.gcd a n * n) a ∣ t) ↔ (a ∣ t ∧ ∀ n ∈ l, n ∣ t)
  | [], a => by simp
  | n :: l, a => by
    rw [List.foldl_cons, lcm_dvd t l, lcm_step, Nat.lcm_dvd_iff]
    constructor
    · rintro ⟨⟨h1, h2⟩, h3⟩
      exact ⟨h1, fun x hx => (List.mem_cons.mp hx).elim (fun e => e ▸ h2) (h3 x)⟩
    · rintro ⟨h1, h2⟩
      exact ⟨⟨h1, h2 n (List.mem_cons_self ..)⟩, fun x hx => h2 x (List.mem_cons_of_mem _ hx)⟩
theorem lcm_pos : ∀ (l : List Nat) (a : Nat), 0 < a → (∀ n ∈ l, 0 < n) → 0 < l.foldl (fun a n => a / Nat.gcd a n * n) a
  | [], a, h, _ => h
  | n :: l, a, h, hl => by
    rw [List.foldl_cons, lcm_step]
    exact lcm_pos l _ (Nat.lcm_pos h (hl n (List.mem_cons_self ..))) fun x hx => hl x (List.mem_cons_of_mem _ hx)
theorem mult60 : ∀ l ≤ 60, 0 < l → ((List.range 60).countP fun i => decide ((i + 1) % l = 0)) = 60 / l := by decide +kernel
theorem mult_count {l : Nat} (h : 0 < l) : ((List.range 60).countP fun i => decide ((i + 1) % l = 0)) = 60 / l := by
  by_cases h60 : l ≤ 60
  · exact mult60 l h60 h
  · rw [Nat.div_eq_of_lt (by omega), List.countP_eq_zero]
    intro i hi
    have hi : i < 60 := by simpa using hi
    rw [Nat.mod_eq_of_lt (by omega)]
    simp
theorem plL_lt {ns : List Nat} (h : ns.length ≤ 4) : ∀ l ∈ plL ns, l < 2 ^ ns.length := fun l hl => by
  obtain ⟨i, _, rfl⟩ := List.mem_map.mp hl
  rw [pl_ofB]
  have := ofB_lt (tst ns (i + 1)) (by simpa [tst] using h)
  simpa [tst] using this
theorem meet_val {ns : List Nat} {q : Nat} (h : Nums ns) (hq : q < 2 ^ ns.length) : msum (fun a => (a &&& q) == q) (hist ns.length (plL ns)) = ((60 / lcmL (sel q ns) : Nat) : Int) := by
  rw [msum_hist _ _ (plL_lt h.2.1)]
  congr 1
  unfold plL
  rw [List.countP_map]
  have hp : 0 < lcmL (sel q ns) := lcm_pos _ 1 (by decide) fun n hn => by
    obtain ⟨p, hp, rfl⟩ := List.mem_map.mp hn
    have := h.2.2 p.1 (List.fst_mem_of_mem_zipIdx (List.mem_filter.mp hp).1)
    omega
  rw [← mult_count hp]
  apply List.countP_congr
  intro i hi
  show ((plN ns (i + 1) &&& q) == q) = true ↔ _
  rw [pl_and h.2.1 hq, List.all_eq_true]
  simp only [decide_eq_true_eq]
  rw [← Nat.dvd_iff_mod_eq_zero]
  unfold lcmL
  rw [lcm_dvd]
  constructor
  · intro z
    exact ⟨Nat.one_dvd _, fun n hn => Nat.dvd_of_mod_eq_zero (z n hn)⟩
  · rintro ⟨_, z⟩ n hn
    exact Nat.mod_eq_zero_of_dvd (z n hn)
theorem pic_due {ns : List Nat} (h : Nums ns) : Pic ns.length (hist ns.length (plL ns)) := by
  refine ⟨h.1, h.2.1, by simp [hist], fun x hx => ?_⟩
  obtain ⟨k, _, rfl⟩ := List.mem_map.mp hx
  have : (plL ns).count k ≤ 60 := Nat.le_trans List.count_le_length (by simp [plL])
  omega
theorem due_sum {ns : List Nat} (h : Nums ns) : (hist ns.length (plL ns)).sum = 60 := by
  rw [hist_sum _ (plL_lt h.2.1)]
  simp [plL]
theorem ofB_or : ∀ (bs : List Bool) (a b : Nat), bs.length ≤ 4 → a < bs.length → b < bs.length → ((ofB bs &&& (2 ^ a ||| 2 ^ b)) == (2 ^ a ||| 2 ^ b)) = (bs.getD a false && bs.getD b false) ∧ ((ofB bs &&& 2 ^ a) == 2 ^ a) = bs.getD a false
  | [], a, b, _, h, _ => by simp at h
  | [x], a, b, _, h, h2 => (by decide +kernel : ∀ x : Bool, ∀ a < 1, ∀ b < 1, ((ofB [x] &&& (2 ^ a ||| 2 ^ b)) == (2 ^ a ||| 2 ^ b)) = ([x].getD a false && [x].getD b false) ∧ ((ofB [x] &&& 2 ^ a) == 2 ^ a) = [x].getD a false) x a h b h2
  | [x, y], a, b, _, h, h2 => (by decide +kernel : ∀ x y : Bool, ∀ a < 2, ∀ b < 2, ((ofB [x, y] &&& (2 ^ a ||| 2 ^ b)) == (2 ^ a ||| 2 ^ b)) = ([x, y].getD a false && [x, y].getD b false) ∧ ((ofB [x, y] &&& 2 ^ a) == 2 ^ a) = [x, y].getD a false) x y a h b h2
  | [x, y, z], a, b, _, h, h2 => (by decide +kernel : ∀ x y z : Bool, ∀ a < 3, ∀ b < 3, ((ofB [x, y, z] &&& (2 ^ a ||| 2 ^ b)) == (2 ^ a ||| 2 ^ b)) = ([x, y, z].getD a false && [x, y, z].getD b false) ∧ ((ofB [x, y, z] &&& 2 ^ a) == 2 ^ a) = [x, y, z].getD a false) x y z a h b h2
  | [x, y, z, w], a, b, _, h, h2 => (by decide +kernel : ∀ x y z w : Bool, ∀ a < 4, ∀ b < 4, ((ofB [x, y, z, w] &&& (2 ^ a ||| 2 ^ b)) == (2 ^ a ||| 2 ^ b)) = ([x, y, z, w].getD a false && [x, y, z, w].getD b false) ∧ ((ofB [x, y, z, w] &&& 2 ^ a) == 2 ^ a) = [x, y, z, w].getD a false) x y z w a h b h2
  | _ :: _ :: _ :: _ :: _ :: _, _, _, h, _, _ => by simp at h
theorem tst_getD (ns : List Nat) (t a : Nat) (h : a < ns.length) : (tst ns t).getD a false = decide (t % ns[a] = 0) := by
  unfold tst
  rw [List.getD_eq_getElem?_getD, List.getElem?_map, List.getElem?_eq_getElem h]
  rfl
theorem within_val {ns : List Nat} {a b : Nat} (h : Nums ns) (ha : a < ns.length) (hb : b < ns.length) (hd : ns[a] % ns[b] = 0) :
    (msum (fun x => (x &&& (2 ^ a ||| 2 ^ b)) == (2 ^ a ||| 2 ^ b)) (hist ns.length (plL ns)) == msum (fun x => (x &&& 2 ^ a) == 2 ^ a) (hist ns.length (plL ns))) = true := by
  rw [msum_hist _ _ (plL_lt h.2.1), msum_hist _ _ (plL_lt h.2.1)]
  have e : (plL ns).countP (fun x => (x &&& (2 ^ a ||| 2 ^ b)) == (2 ^ a ||| 2 ^ b)) = (plL ns).countP (fun x => (x &&& 2 ^ a) == 2 ^ a) := by
    apply List.countP_congr
    intro x hx
    obtain ⟨i, _, rfl⟩ := List.mem_map.mp hx
    rw [pl_ofB]
    obtain ⟨e1, e2⟩ := ofB_or (tst ns (i + 1)) a b (by simpa [tst] using h.2.1) (by simpa [tst] using ha) (by simpa [tst] using hb)
    rw [e1, e2, tst_getD ns _ a ha, tst_getD ns _ b hb]
    simp only [Bool.and_eq_true, decide_eq_true_eq]
    constructor
    · exact fun z => z.1
    · intro z
      exact ⟨z, Nat.mod_eq_zero_of_dvd (Nat.dvd_trans (Nat.dvd_of_mod_eq_zero hd) (Nat.dvd_of_mod_eq_zero z))⟩
  rw [e]
  simp
/-! orders -/
def perms : Nat → List (List Nat)
  | 1 => [[0]]
  | 2 => [[0, 1], [1, 0]]
  | 3 => [[0, 1, 2], [0, 2, 1], [1, 0, 2], [1, 2, 0], [2, 0, 1], [2, 1, 0]]
  | 4 => (List.range 256).filterMap fun k => if [k % 4, k / 4 % 4, k / 16 % 4, k / 64].Nodup then some [k % 4, k / 4 % 4, k / 16 % 4, k / 64] else none
  | _ => []
theorem mem_perms {m : Nat} {o : List Nat} (h1 : 1 ≤ m) (h4 : m ≤ 4) (hl : o.length = m) (hk : ∀ k ∈ o, k < m) (nd : o.Nodup) : o ∈ perms m := by
  have : m = 1 ∨ m = 2 ∨ m = 3 ∨ m = 4 := by omega
  rcases this with rfl | rfl | rfl | rfl
  · match o, hl with
    | [a], _ =>
      have := hk a (by simp)
      exact (by decide : ∀ a < 1, [a].Nodup → [a] ∈ perms 1) a this nd
  · match o, hl with
    | [a, b], _ => exact (by decide : ∀ a < 2, ∀ b < 2, [a, b].Nodup → [a, b] ∈ perms 2) a (hk a (by simp)) b (hk b (by simp)) nd
  · match o, hl with
    | [a, b, c], _ => exact (by decide +kernel : ∀ a b c : Fin 3, [a.1, b.1, c.1].Nodup → [a.1, b.1, c.1] ∈ perms 3) ⟨a, hk a (by simp)⟩ ⟨b, hk b (by simp)⟩ ⟨c, hk c (by simp)⟩ nd
  · match o, hl with
    | [a, b, c, d], _ => exact (by decide +kernel : ∀ a b c d : Fin 4, [a.1, b.1, c.1, d.1].Nodup → [a.1, b.1, c.1, d.1] ∈ perms 4) ⟨a, hk a (by simp)⟩ ⟨b, hk b (by simp)⟩ ⟨c, hk c (by simp)⟩ ⟨d, hk d (by simp)⟩ nd
theorem old_lt : ∀ m ≤ 4, ∀ o ∈ perms m, ∀ q < 2 ^ m, oldP o q < 2 ^ m := by decide +kernel
theorem old_1 : ∀ x : Bool, ∀ o ∈ perms 1, ∀ q < 2, (ofB [x] == oldP o q) = (ofB (o.map fun k => [x].getD k false) == q) := by decide +kernel
theorem old_2 : ∀ x y : Bool, ∀ o ∈ perms 2, ∀ q < 4, (ofB [x, y] == oldP o q) = (ofB (o.map fun k => [x, y].getD k false) == q) := by decide +kernel
theorem old_3 : ∀ x y z : Bool, ∀ o ∈ perms 3, ∀ q < 8, (ofB [x, y, z] == oldP o q) = (ofB (o.map fun k => [x, y, z].getD k false) == q) := by decide +kernel
theorem old_4 : ∀ x y z w : Bool, ∀ o ∈ perms 4, ∀ q < 16, (ofB [x, y, z, w] == oldP o q) = (ofB (o.map fun k => [x, y, z, w].getD k false) == q) := by decide +kernel
theorem old_all : ∀ (bs : List Bool) (o : List Nat) (q : Nat), bs.length ≤ 4 → 1 ≤ bs.length → o ∈ perms bs.length → q < 2 ^ bs.length → (ofB bs == oldP o q) = (ofB (o.map fun k => bs.getD k false) == q)
  | [], _, _, _, h, _, _ => by simp at h
  | [x], o, q, _, _, ho, hq => old_1 x o ho q hq
  | [x, y], o, q, _, _, ho, hq => old_2 x y o ho q hq
  | [x, y, z], o, q, _, _, ho, hq => old_3 x y z o ho q hq
  | [x, y, z, w], o, q, _, _, ho, hq => old_4 x y z w o ho q hq
  | _ :: _ :: _ :: _ :: _ :: _, _, _, h, _, _, _ => by simp at h
theorem anew_val {ns o : List Nat} (h : Nums ns) (ho : o ∈ perms ns.length) (hk : ∀ k ∈ o, k < ns.length) : anew o (hist ns.length (plL ns)) = hist ns.length (plL (o.map fun k => ns.getD k 0)) := by
  have hl : (hist ns.length (plL ns)).length = 2 ^ ns.length := by simp [hist]
  unfold anew
  rw [hl]
  conv => rhs; unfold hist
  apply List.map_congr_left
  intro q hq
  have hq : q < 2 ^ ns.length := by simpa using hq
  have hold := old_lt ns.length h.2.1 o ho q hq
  have e1 : (hist ns.length (plL ns)).getD (oldP o q) 0 = (((plL ns).count (oldP o q) : Nat) : Int) := by
    unfold hist
    rw [List.getD_eq_getElem?_getD, List.getElem?_map, List.getElem?_range hold]
    rfl
  rw [e1]
  congr 1
  unfold List.count plL
  rw [List.countP_map, List.countP_map]
  apply List.countP_congr
  intro i _
  show (plN ns (i + 1) == oldP o q) = true ↔ (plN (o.map fun k => ns.getD k 0) (i + 1) == q) = true
  rw [pl_ofB, pl_ofB, old_all (tst ns (i + 1)) o q (by simpa [tst] using h.2.1) (by simpa [tst] using h.1) (by simpa [tst] using ho) (by simpa [tst] using hq)]
  have e2 : tst (o.map fun k => ns.getD k 0) (i + 1) = o.map fun k => (tst ns (i + 1)).getD k false := by
    unfold tst
    rw [List.map_map]
    apply List.map_congr_left
    intro k hk'
    have := tst_getD ns (i + 1) k (hk k hk')
    unfold tst at this
    rw [this]
    show decide ((i + 1) % ns.getD k 0 = 0) = _
    rw [List.getD_eq_getElem?_getD, List.getElem?_eq_getElem (hk k hk')]
    rfl
  rw [e2]
end Lw

set_option Elab.async false
set_option linter.all false
set_option maxRecDepth 100000
set_option maxHeartbeats 1000000
namespace Lw
open PL
/-! ### one row of numbers -/
theorem hist_nil (m : Nat) : hist m [] = List.replicate (2 ^ m) 0 := by
  unfold hist
  apply List.ext_getElem?
  intro i
  rw [List.getElem?_map, List.getElem?_replicate]
  by_cases h : i < 2 ^ m
  · rw [List.getElem?_range h, if_pos h]
    rfl
  · rw [List.getElem?_eq_none (by simpa using h), if_neg h]
    rfl
theorem hist_snoc {m k : Nat} (L : List Nat) (h : k < 2 ^ m) : hist m (L ++ [k]) = (hist m L).set k ((hist m L).getD k 0 + 1) := by
  apply List.ext_getElem?
  intro i
  have g : ∀ L i, i < 2 ^ m → (hist m L)[i]? = some ((L.count i : Nat) : Int) := fun L i hi => by
    unfold hist
    rw [List.getElem?_map, List.getElem?_range hi]
    rfl
  by_cases hi : i < 2 ^ m
  · rw [g _ i hi, List.getElem?_set]
    by_cases hk : k = i
    · subst hk
      have hl : k < (hist m L).length := by simpa [hist] using h
      rw [if_pos rfl, if_pos hl, List.getD_eq_getElem?_getD, g L k h, List.count_append]
      simp
    · rw [if_neg hk, g L i hi, List.count_append]
      simp [hk]
  · rw [List.getElem?_eq_none (by simpa [hist] using hi), List.getElem?_eq_none (by simpa [hist] using hi)]
theorem sp_pl2 {C : Nat → List D → Sto → R D} {ns : List Nat} {t : Nat} {st : Sto} {p0 p2 p4 p5 p6 : Option D} {r : Env} (h : Nums ns) : ev C Gc (.blt .sum (.cons (.comp [5, 6] (.bin .shl (.int 1) (.var 5)) (.tup (.cons (.var 5) (.cons (.var 6) .nil))) (.enum (.var 1)) (.some (.cmp .eq (.bin .mod (.blt .int (.cons (.var 3) .nil)) (.var 6)) (.int 0)))) .nil)) (p0 :: some (pic (nI ns)) :: p2 :: some (.int (t : Nat)) :: p4 :: p5 :: p6 :: r) st =
    .ok (.int (plN ns t : Nat)) st := by
  have hc : ev C Gc (.comp [5, 6] (.bin .shl (.int 1) (.var 5)) (.tup (.cons (.var 5) (.cons (.var 6) .nil))) (.enum (.var 1)) (.some (.cmp .eq (.bin .mod (.blt .int (.cons (.var 3) .nil)) (.var 6)) (.int 0)))) (p0 :: some (pic (nI ns)) :: p2 :: some (.int (t : Nat)) :: p4 :: p5 :: p6 :: r) st =
      .ok (.frz (ns.zipIdx.filterMap fun p => if decide (t % p.1 = 0) then some (.int (2 ^ p.2)) else none)) st := by
    refine ev_lcm (fun p : Nat × Nat => .tup [.int (p.2 : Nat), .int (p.1 : Nat)]) _ _ ?_ (by have := h.2.1; simp; omega) fun a ha => ?_
    · simp only [xi_enum, x_var, List.getElem?_cons_zero, List.getElem?_cons_succ, pic, bind_ok, walk_tup, oD_some, nI_D, enum_map]
    · have hx := h.2.2 a.1 (List.fst_mem_of_mem_zipIdx ha)
      have h2 : a.2 ≤ 100 := by
        have := List.snd_lt_of_mem_zipIdx ha
        have := h.2.1
        omega
      have hpos : (0 : Int) < (a.1 : Int) := by omega
      have hpn : 0 < a.1 := by omega
      by_cases hb : t % a.1 = 0
      · have hb' : ((t : Int) % (a.1 : Int) == 0) = true := by
          have : (t : Int) % (a.1 : Int) = 0 := by exact_mod_cast hb
          rw [this]; rfl
        simp [compB, wipe, hpos, hpn, hb, hb', shl_one h2]
      · have hb' : ((t : Int) % (a.1 : Int) == 0) = false := beq_false_of_ne fun e => hb (by exact_mod_cast e)
        simp [compB, wipe, hpos, hpn, hb, hb']
  rw [fm_if] at hc
  have e : ((ns.zipIdx.filter fun p => decide (t % p.1 = 0)).map fun p => ((2 : Int) ^ p.2)).sum = (plN ns t : Nat) := by
    have := sum_cast ((ns.zipIdx.filter fun p => decide (t % p.1 = 0)).map (·.2))
    rw [List.map_map, List.map_map] at this
    exact this
  simp only [x_blt, xs_cons, xs_nil, hc, bind_ok, b_sum, sv_frz, Option.bind_some, ints_m, Option.map_some, oD_some, e]
section
variable {n i : Nat} {st : Sto} {ns : List Nat}
/-- the counts, made and filled -/
theorem is_counts (hn : 1 ≤ n) (h : Nums ns) : ∃ x y, exs (PL.call T Gc 100000 n) Gc 100000 (.cons (.asg (.var 2) (.thaw (.bin .mul (.list (.cons (.int 0) .nil)) (.bin .shl (.int 1) (.blt .len (.cons (.var 1) .nil)))))) (.cons (.fr (.var 3) (.rng2 (.int 1) (.int 61)) (.cons (.asg (.var 4) (.blt .sum (.cons (.comp [5, 6] (.bin .shl (.int 1) (.var 5)) (.tup (.cons (.var 5) (.cons (.var 6) .nil))) (.enum (.var 1)) (.some (.cmp .eq (.bin .mod (.blt .int (.cons (.var 3) .nil)) (.var 6)) (.int 0)))) .nil))) (.cons (.asg (.idx (.var 2) (.var 4)) (.bin .add (.idx (.var 2) (.var 4)) (.int 1))) .nil))) (.cons (.asg (.var 7) (.blt .tuple (.cons (.var 2) .nil))) .nil)))
    [some (.lst i), some (pic (nI ns)), none, none, none, none, none, none, none, none, none, none, none, none] st =
    .ok (.nx [some (.lst i), some (pic (nI ns)), some (.lst st.length), x, y, none, none, some (pic (hist ns.length (plL ns))), none, none, none, none, none, none]) (st ++ [.lst ((hist ns.length (plL ns)).map D.int)]) := by
  have s1 : ex (PL.call T Gc 100000 n) Gc 100000 (.asg (.var 2) (.thaw (.bin .mul (.list (.cons (.int 0) .nil)) (.bin .shl (.int 1) (.blt .len (.cons (.var 1) .nil)))))) [some (.lst i), some (pic (nI ns)), none, none, none, none, none, none, none, none, none, none, none, none] st =
      .ok (.nx [some (.lst i), some (pic (nI ns)), some (.lst st.length), none, none, none, none, none, none, none, none, none, none, none]) (st ++ [.lst ((hist ns.length []).map D.int)]) := by
    have hl := h.2.1
    have p16 : 2 ^ ns.length ≤ 16 := Nat.le_trans (Nat.pow_le_pow_right (n := 2) (by decide) hl) (by decide)
    have pc : ((2 : Int) ^ ns.length) = ((2 ^ ns.length : Nat) : Int) := by simp
    have hrep := rep_one (d := .int 0) (k := 2 ^ ns.length) (by omega)
    rw [hist_nil]
    simp only [e_asg, x_thaw, x_bin, x_list, xs_cons, xs_nil, x_int, bind_ok, x_blt, x_var, List.getElem?_cons_zero, List.getElem?_cons_succ, b_len, len_tup, List.length_map, nI_len, Option.map_some, oD_some, o_int, shl_one (show ns.length ≤ 100 by omega), List.length_cons, List.length_nil, szOk_iff]
    rw [if_pos (by decide), bind_ok, pc, o_rep, hrep]
    simp
  have r1 : rngOk 1 = true := rfl
  have r2 : rngOk 61 = true := rfl
  obtain ⟨e, s, he, ⟨x, y, hq⟩, hs, _⟩ := ex_for (C := PL.call T Gc 100000 n) (G := Gc) (W := 100000) (t := .var 3) (it := .rng2 (.int 1) (.int 61))
    (b := (.cons (.asg (.var 4) (.blt .sum (.cons (.comp [5, 6] (.bin .shl (.int 1) (.var 5)) (.tup (.cons (.var 5) (.cons (.var 6) .nil))) (.enum (.var 1)) (.some (.cmp .eq (.bin .mod (.blt .int (.cons (.var 3) .nil)) (.var 6)) (.int 0)))) .nil))) (.cons (.asg (.idx (.var 2) (.var 4)) (.bin .add (.idx (.var 2) (.var 4)) (.int 1))) .nil)))
    (env := [some (.lst i), some (pic (nI ns)), some (.lst st.length), none, none, none, none, none, none, none, none, none, none, none]) (st := st ++ [.lst ((hist ns.length []).map D.int)]) (ds := (List.range 60).map fun i => D.int (1 + (i : Nat)))
    (fun j e s => (∃ x y, e = [some (.lst i), some (pic (nI ns)), some (.lst st.length), x, y, none, none, none, none, none, none, none, none, none]) ∧ s = st ++ [.lst ((hist ns.length ((plL ns).take j)).map D.int)] ∧ j ≤ 60)
    (by simp [r1, r2, rng_map]) ⟨⟨_, _, rfl⟩, rfl, by decide⟩ (fun j d hd e s ⟨⟨x, y, he⟩, hs, _⟩ => by
      subst he hs
      rw [List.getElem?_map] at hd
      obtain ⟨q, hq, rfl⟩ := Option.map_eq_some_iff.mp hd
      have hj : j < 60 := by
        have := (List.getElem?_eq_some_iff.mp hq).1
        simpa using this
      rw [List.getElem?_range hj] at hq
      cases hq
      have pe : ((1 : Int) + (j : Nat)) = ((j + 1 : Nat) : Int) := by omega
      have ht : (plL ns).take (j + 1) = (plL ns).take j ++ [plN ns (j + 1)] := by
        rw [List.take_add_one]
        have : (plL ns)[j]? = some (plN ns (j + 1)) := by
          unfold plL
          rw [List.getElem?_map, List.getElem?_range hj]
          rfl
        rw [this]
        rfl
      have hk : plN ns (j + 1) < 2 ^ ns.length := plL_lt h.2.1 _ (List.mem_map.mpr ⟨j, by simpa using hj, rfl⟩)
      generalize hH : hist ns.length ((plL ns).take j) = Hh
      have hHl : Hh.length = 2 ^ ns.length := by rw [← hH]; simp [hist]
      have hsum := sp_pl2 (C := PL.call T Gc 100000 n) (t := j + 1) (st := st ++ [.lst (Hh.map D.int)]) (p0 := some (.lst i)) (p2 := some (.lst st.length)) (p4 := y) (p5 := none) (p6 := none) (r := [none, none, none, none, none, none, none]) h
      have hat : atI (Hh.map D.int) ((plN ns (j + 1) : Nat) : Int) = some (.int (Hh.getD (plN ns (j + 1)) 0)) := by
        rw [at_nat (by rw [List.length_map, hHl]; exact hk), List.getElem?_map, List.getD_eq_getElem?_getD, List.getElem?_eq_getElem (by rw [hHl]; exact hk)]
        rfl
      have hix : ixN Hh.length ((plN ns (j + 1) : Nat) : Int) = some (plN ns (j + 1)) := by
        unfold ixN
        rw [if_pos (by omega), if_pos (by rw [hHl]; exact_mod_cast hk)]
        rfl
      have hsn := hist_snoc ((plL ns).take j) hk
      rw [hH] at hsn
      refine ⟨[some (.lst i), some (pic (nI ns)), some (.lst st.length), some (.int ((j + 1 : Nat) : Int)), some (.int (plN ns (j + 1) : Nat)), none, none, none, none, none, none, none, none, none], _, .inl ?_, ⟨_, _, rfl⟩, by rw [ht, hsn], hj⟩
      rw [pe]
      simp only [xt_var, List.length_cons, List.length_nil, List.set_cons_succ, List.set_cons_zero]
      rw [if_pos (by decide)]
      simp only [bind_ok, es_cons, es_nil, e_asg, hsum, xt_var, List.length_cons, List.length_nil, List.set_cons_succ, List.set_cons_zero]
      rw [if_pos (by decide)]
      simp [ix_lst last_at, hat, hix, List.map_set])
  have hlz : ((List.range 60).map fun i : Nat => D.int (1 + (i : Nat))).length = 60 := by simp
  rw [hlz, show (plL ns).take 60 = plL ns from List.take_of_length_le (by simp [plL])] at hs
  subst hq hs
  refine ⟨x, y, ?_⟩
  rw [exs_cons s1, exs_cons he]
  simp [lv_lst last_at]
end
end Lw

set_option Elab.async false
set_option linter.all false
set_option maxRecDepth 100000
set_option maxHeartbeats 1000000
namespace Lw
open PL
/-! ### more rules -/
def _root_.PL.Ss.app : Ss → Ss → Ss
  | .nil, q => q
  | .cons s p, q => .cons s (p.app q)
theorem exs_app {C : Nat → List D → Sto → R D} {G : Nat → D} {W : Nat} {q : Ss} {env' : Env} {st' : Sto} : ∀ {p : Ss} {env : Env} {st : Sto}, exs C G W p env st = .ok (.nx env') st' → exs C G W (p.app q) env st = exs C G W q env' st'
  | .nil, env, st, h => by
    rw [es_nil] at h
    injection h with h1 h2
    injection h1 with h1
    subst h1 h2
    rfl
  | .cons s p, env, st, h => by
    show exs C G W (.cons s (p.app q)) env st = _
    rw [es_cons] at h ⊢
    cases hs : ex C G W s env st with
    | ok fl s1 =>
      rw [hs] at h
      cases fl with
      | nx e1 => exact exs_app (p := p) h
      | rt d => simp at h
      | bk e1 => simp at h
      | ct e1 => simp at h
    | exn c d s1 => rw [hs] at h; simp at h
    | bad => rw [hs] at h; simp at h
theorem forL_fold {α β : Type} {f : D → Env → Sto → R Fl} (φ : α → D) (P : β → Env → Sto → Prop) (step : β → α → β) : ∀ (xs : List α) {b : β} {env : Env} {st : Sto}, P b env st →
    (∀ a ∈ xs, ∀ b e s, P b e s → ∃ e' s', (f (φ a) e s = .ok (.nx e') s' ∨ f (φ a) e s = .ok (.ct e') s') ∧ P (step b a) e' s') →
    ∃ e' s', forL f (xs.map φ) env st = .ok (.nx e') s' ∧ P (xs.foldl step b) e' s'
  | [], b, env, st, h0, _ => ⟨env, st, rfl, h0⟩
  | x :: xs, b, env, st, h0, hs => by
    obtain ⟨e1, s1, h1, p1⟩ := hs x (List.mem_cons_self ..) b env st h0
    obtain ⟨e2, s2, h2, p2⟩ := forL_fold φ P step xs p1 fun a ha => hs a (List.mem_cons_of_mem _ ha)
    refine ⟨e2, s2, ?_, p2⟩
    rw [List.map_cons]
    rcases h1 with h1 | h1 <;> simp only [forL, h1, R.bind, h2]
theorem ex_fold {α β : Type} {C : Nat → List D → Sto → R D} {G : Nat → D} {W : Nat} {t : Tg} {it : It} {b : Ss} {env : Env} {st : Sto} (φ : α → D) (xs : List α) (P : β → Env → Sto → Prop) (step : β → α → β) (b0 : β) (hit : evi C G it env st = .ok (xs.map φ, []) st) (h0 : P b0 env st)
    (hs : ∀ a ∈ xs, ∀ y e s, P y e s → ∃ e' s', (((evt C G t (φ a) e s).bind fun env2 s3 => exs C G W b env2 s3) = .ok (.nx e') s' ∨ ((evt C G t (φ a) e s).bind fun env2 s3 => exs C G W b env2 s3) = .ok (.ct e') s') ∧ P (step y a) e' s') :
    ∃ e' s', ex C G W (.fr t it b) env st = .ok (.nx e') s' ∧ P (xs.foldl step b0) e' s' := by
  obtain ⟨e, s, h, p⟩ := forL_fold (f := fun x env s2 => (evt C G t x env s2).bind fun env2 s3 => exs C G W b env2 s3) φ P step xs h0 hs
  refine ⟨e, s, ?_, p⟩
  simp only [ex, hit, R.bind]
  show ((forL (fun x env s2 => (evt C G t x env s2).bind fun env2 s3 => exs C G W b env2 s3) (xs.map φ) env st).unl []) = _
  rw [h]
  rfl
theorem ex_fold2 {α β : Type} {C : Nat → List D → Sto → R D} {G : Nat → D} {W : Nat} {t : Tg} {it : It} {b : Ss} {env : Env} {st st0 : Sto} (φ : α → D) (xs : List α) (P : β → Env → Sto → Prop) (step : β → α → β) (b0 : β) (hit : evi C G it env st = .ok (xs.map φ, []) st0) (h0 : P b0 env st0)
    (hs : ∀ a ∈ xs, ∀ y e s, P y e s → ∃ e' s', (((evt C G t (φ a) e s).bind fun env2 s3 => exs C G W b env2 s3) = .ok (.nx e') s' ∨ ((evt C G t (φ a) e s).bind fun env2 s3 => exs C G W b env2 s3) = .ok (.ct e') s') ∧ P (step y a) e' s') :
    ∃ e' s', ex C G W (.fr t it b) env st = .ok (.nx e') s' ∧ P (xs.foldl step b0) e' s' := by
  obtain ⟨e, s, h, p⟩ := forL_fold (f := fun x env s2 => (evt C G t x env s2).bind fun env2 s3 => exs C G W b env2 s3) φ P step xs h0 hs
  refine ⟨e, s, ?_, p⟩
  simp only [ex, hit, R.bind]
  show ((forL (fun x env s2 => (evt C G t x env s2).bind fun env2 s3 => exs C G W b env2 s3) (xs.map φ) env st0).unl []) = _
  rw [h]
  rfl
/-- a for with a count of its laps -/
theorem ex_for2 {C : Nat → List D → Sto → R D} {G : Nat → D} {W : Nat} {t : Tg} {it : It} {b : Ss} {env : Env} {st st0 : Sto} {ds : List D} (P : Nat → Env → Sto → Prop) (hit : evi C G it env st = .ok (ds, []) st0) (h0 : P 0 env st0)
    (hs : ∀ i d, ds[i]? = some d → ∀ env st, P i env st → ∃ env' st', (((evt C G t d env st).bind fun env2 s3 => exs C G W b env2 s3) = .ok (.nx env') st' ∨ ((evt C G t d env st).bind fun env2 s3 => exs C G W b env2 s3) = .ok (.ct env') st') ∧ P (i + 1) env' st') :
    ∃ env' st', ex C G W (.fr t it b) env st = .ok (.nx env') st' ∧ P ds.length env' st' := by
  obtain ⟨e, s, h, p⟩ := forL_nx (f := fun x env s2 => (evt C G t x env s2).bind fun env2 s3 => exs C G W b env2 s3) P (k := 0) (ds := ds) h0 (fun i d hd env st p => by
    simp only [Nat.zero_add] at p ⊢
    exact hs i d hd env st p)
  refine ⟨e, s, ?_, by simpa using p⟩
  simp only [ex, hit, R.bind]
  show ((forL (fun x env s2 => (evt C G t x env s2).bind fun env2 s3 => exs C G W b env2 s3) ds env st0).unl []) = _
  rw [h]
  rfl
/-- a comprehension whose steps change the store and all give one value -/
theorem compL_all {f : D → Sto → R (Option D)} (P : Sto → Prop) (y : D) : ∀ {ds : List D} {st : Sto}, P st → (∀ d ∈ ds, ∀ st, P st → ∃ st', f d st = .ok (some y) st' ∧ P st') → ∃ st', compL f ds st = .ok (List.replicate ds.length y) st' ∧ P st'
  | [], st, h, _ => ⟨st, rfl, h⟩
  | d :: ds, st, h, hs => by
    obtain ⟨s1, h1, p1⟩ := hs d (List.mem_cons_self ..) st h
    obtain ⟨s2, h2, p2⟩ := compL_all P y (ds := ds) p1 fun d hd => hs d (List.mem_cons_of_mem _ hd)
    refine ⟨s2, ?_, p2⟩
    simp only [compL, h1, h2, bind_ok]
    rfl
theorem ev_all {C : Nat → List D → Sto → R D} {G : Nat → D} {own : List Nat} {elt : E} {tg : Tg} {it : It} {c : Oe} {env : Env} {st st0 : Sto} {ds : List D} (P : Sto → Prop) (y : D) (hit : evi C G it env st = .ok (ds, []) st0) (hz : ds.length ≤ 1000000) (h0 : P st0) (h : ∀ d ∈ ds, ∀ st, P st → ∃ st', compB C G own elt tg c env d st = .ok (some y) st' ∧ P st') :
    ∃ st', ev C G (.comp own elt tg it c) env st = .ok (.frz (List.replicate ds.length y)) st' ∧ P st' := by
  obtain ⟨st', e, p⟩ := compL_all P y h0 h
  refine ⟨st', ?_, p⟩
  simp only [ev, hit, bind_ok]
  rw [if_pos (szOk_of (by omega))]
  show (((compL (compB C G own elt tg c env) ds st0).noX.unl []).bind fun ds s6 => R.ok (D.frz ds) s6) = _
  rw [e]
  rfl
theorem all_true (n : Nat) (st : Sto) : bcall st .all [.frz (List.replicate n (.bl true))] = some (.bl true) := by
  rw [b_all, lv_frz]
  have : ∀ n, blsOf (List.replicate n (.bl true)) = some (List.replicate n true) := fun n => by
    induction n with
    | zero => rfl
    | succ n ih => simp [List.replicate_succ, blsOf, ih]
  simp [this]
/-! ### the least common multiple of some -/
def lcmF (q : Nat) (a : Nat) (p : Nat × Nat) : Nat := if q / 2 ^ p.2 % 2 = 1 then a / Nat.gcd a p.1 * p.1 else a
theorem lcmF_eq (q : Nat) : ∀ (l : List (Nat × Nat)) (a : Nat), l.foldl (lcmF q) a = ((l.filter fun p => q / 2 ^ p.2 % 2 = 1).map (·.1)).foldl (fun a n => a / Nat.gcd a n * n) a
  | [], a => rfl
  | p :: l, a => by
    rw [List.foldl_cons, lcmF_eq q l]
    by_cases h : q / 2 ^ p.2 % 2 = 1
    · simp [lcmF, h]
    · simp [lcmF, h]
theorem lcm_le : ∀ (l : List Nat) (a : Nat), (∀ n ∈ l, n ≤ 60) → l.foldl (fun a n => a / Nat.gcd a n * n) a ≤ a * 60 ^ l.length
  | [], a, _ => by simp
  | n :: l, a, h => by
    rw [List.foldl_cons]
    refine Nat.le_trans (lcm_le l _ fun x hx => h x (List.mem_cons_of_mem _ hx)) ?_
    rw [List.length_cons, Nat.pow_succ']
    have h1 : a / Nat.gcd a n * n ≤ a * 60 := Nat.mul_le_mul (Nat.div_le_self _ _) (h n (List.mem_cons_self ..))
    calc _ ≤ a * 60 * 60 ^ l.length := Nat.mul_le_mul_right _ h1
      _ = _ := by rw [Nat.mul_assoc]
theorem sel_mem {q : Nat} {ns : List Nat} {x : Nat} (h : x ∈ sel q ns) : x ∈ ns := by
  obtain ⟨p, hp, rfl⟩ := List.mem_map.mp h
  exact List.fst_mem_of_mem_zipIdx (List.mem_filter.mp hp).1
theorem sel_len (q : Nat) (ns : List Nat) : (sel q ns).length ≤ ns.length := by
  unfold sel
  rw [List.length_map]
  exact Nat.le_trans (List.length_filter_le _ _) (by simp)
theorem lcm_small {ns : List Nat} (h : Nums ns) (q : Nat) : 0 < lcmL (sel q ns) ∧ lcmL (sel q ns) < 1073741824 := by
  refine ⟨lcm_pos _ 1 (by decide) fun n hn => by have := h.2.2 n (sel_mem hn); omega, ?_⟩
  have h1 := lcm_le (sel q ns) 1 fun n hn => (h.2.2 n (sel_mem hn)).2
  have h2 : 60 ^ (sel q ns).length ≤ 60 ^ 4 := Nat.pow_le_pow_right (by decide) (Nat.le_trans (sel_len q ns) h.2.1)
  have h3 : (60 : Nat) ^ 4 = 12960000 := by decide
  unfold lcmL
  omega
theorem sieve_all {m : Nat} {p : List Int} (h1 : 1 ≤ m) (h4 : m ≤ 4) (hl : p.length = 2 ^ m) : sieveF m p = (cut p (some 1) none).sum ∧ msum (fun a => !((a &&& (2 ^ m - 1)) == 0)) p = (cut p (some 1) none).sum := by
  have : m = 1 ∨ m = 2 ∨ m = 3 ∨ m = 4 := by omega
  rcases this with rfl | rfl | rfl | rfl
  · match p, hl with
    | [x0, x1], _ =>
      obtain ⟨e1, e2, e3⟩ := sieve_1 x0 x1
      exact ⟨e1.trans e3.symm, e2.trans e3.symm⟩
  · match p, hl with
    | [x0, x1, x2, x3], _ =>
      obtain ⟨e1, e2, e3⟩ := sieve_2 x0 x1 x2 x3
      exact ⟨e1.trans e3.symm, e2.trans e3.symm⟩
  · match p, hl with
    | [x0, x1, x2, x3, x4, x5, x6, x7], _ =>
      obtain ⟨e1, e2, e3⟩ := sieve_3 x0 x1 x2 x3 x4 x5 x6 x7
      exact ⟨e1.trans e3.symm, e2.trans e3.symm⟩
  · match p, hl with
    | [x0, x1, x2, x3, x4, x5, x6, x7, x8, x9, x10, x11, x12, x13, x14, x15], _ =>
      obtain ⟨e1, e2, e3⟩ := sieve_4 x0 x1 x2 x3 x4 x5 x6 x7 x8 x9 x10 x11 x12 x13 x14 x15
      exact ⟨e1.trans e3.symm, e2.trans e3.symm⟩
theorem letters_at : ∀ m : Nat, m ≤ 4 → ∀ k : Nat, k < m → atI (cut [65, 66, 67, 68] none (some (m : Int))) (k : Int) = some (65 + k) := by
  intro m hm
  have : m = 0 ∨ m = 1 ∨ m = 2 ∨ m = 3 ∨ m = 4 := by omega
  rcases this with rfl | rfl | rfl | rfl | rfl <;> decide +kernel
theorem letters_all : ∀ m : Nat, m ≤ 4 → cut [65, 66, 67, 68] none (some (m : Int)) = zc (2 ^ m - 1) := by
  intro m hm
  have : m = 0 ∨ m = 1 ∨ m = 2 ∨ m = 3 ∨ m = 4 := by omega
  rcases this with rfl | rfl | rfl | rfl | rfl <;> decide +kernel
theorem dEqs_ints (p : List Int) : dEqs (p.map D.int) (p.map D.int) = true := by
  induction p with
  | nil => rfl
  | cons a r ih => simp [dEqs, dEq, ih]
theorem dOk_pic (p : List Int) : dOk 40 (pic p) = true := by
  show ((p.map D.int).all (dOk 39)) = true
  rw [List.all_eq_true]
  intro x hx
  obtain ⟨y, _, rfl⟩ := List.mem_map.mp hx
  exact dOk_int _ _
theorem ne_pic (p : List Int) (st : Sto) : cop st .ne (pic p) (pic p) = some false := by
  show (if dOk 40 (pic p) && dOk 40 (pic p) then some (!dEqs (p.map D.int) (p.map D.int)) else none) = _
  rw [dOk_pic, dEqs_ints]
  rfl
theorem plain_pic (p : List Int) (h : p.length < 1000) : Plain 1 (pic p) := by
  refine ⟨by simpa using h, fun d hd => ?_⟩
  obtain ⟨y, _, rfl⟩ := List.mem_map.mp hd
  trivial
end Lw

set_option Elab.async false
set_option linter.all false
set_option maxRecDepth 100000
set_option maxHeartbeats 1000000
namespace Lw
open PL
def s89_0 : S := (.asg (.var 2) (.thaw (.bin .mul (.list (.cons (.int 0) .nil)) (.bin .shl (.int 1) (.blt .len (.cons (.var 1) .nil))))))
def s89_1 : S := (.fr (.var 3) (.rng2 (.int 1) (.int 61)) (.cons (.asg (.var 4) (.blt .sum (.cons (.comp [5, 6] (.bin .shl (.int 1) (.var 5)) (.tup (.cons (.var 5) (.cons (.var 6) .nil))) (.enum (.var 1)) (.some (.cmp .eq (.bin .mod (.blt .int (.cons (.var 3) .nil)) (.var 6)) (.int 0)))) .nil))) (.cons (.asg (.idx (.var 2) (.var 4)) (.bin .add (.idx (.var 2) (.var 4)) (.int 1))) .nil)))
def s89_2 : S := (.asg (.var 7) (.blt .tuple (.cons (.var 2) .nil)))
def s89_3 : S := (.ifs (.not (.call 52 (.cons (.list (.cons (.call 76 (.cons (.var 1) .nil)) (.cons (.callk 76 .nil (.cons (.var 1) .nil) [0]) (.cons (.call 47 (.cons (.var 7) .nil)) .nil)))) (.cons (.list (.cons (.var 7) (.cons (.var 7) (.cons (.int 60) .nil)))) .nil)))) (.cons (.ret (.bl false)) .nil) .nil)
def s89_4i : S := (.fr (.tup (.cons (.var 5) (.cons (.var 6) .nil))) (.enum (.var 1)) (.cons (.ifs (.cmp .eq (.bin .mod (.blt .int (.cons (.bin .fdiv (.var 4) (.bin .shl (.int 1) (.var 5))) .nil)) (.int 2)) (.int 1)) (.cons (.asg (.var 8) (.bin .mul (.bin .fdiv (.var 8) (.call 88 (.cons (.var 8) (.cons (.var 6) .nil)))) (.var 6))) .nil) .nil) .nil))
def s89_4 : S := (.fr (.var 4) (.rng1 (.blt .len (.cons (.var 7) .nil))) (.cons (.asg (.var 8) (.int 1)) (.cons s89_4i (.cons (.ifs (.not (.call 52 (.cons (.call 79 (.cons (.var 7) (.cons (.call 55 (.cons (.var 4) .nil)) .nil))) (.cons (.bin .fdiv (.int 60) (.var 8)) .nil)))) (.cons (.ret (.bl false)) .nil) .nil) .nil))))
def s89_5 : S := (.par [9, 10] (.cons (.blt .len (.cons (.var 1) .nil)) (.cons (.slc (.str [65, 66, 67, 68]) .none (.some (.blt .len (.cons (.var 1) .nil)))) .nil)))
def s89_6i : S := (.fr (.var 12) (.rng1 (.var 9)) (.cons (.ifs (.and (.cmp .eq (.bin .mod (.blt .int (.cons (.idx (.var 1) (.var 11)) .nil)) (.idx (.var 1) (.var 12))) (.int 0)) (.cmp .isn (.call 86 (.cons (.var 7) (.cons (.idx (.var 10) (.var 11)) (.cons (.idx (.var 10) (.var 12)) .nil)))) (.bl true))) (.cons (.ret (.bl false)) .nil) .nil) .nil))
def s89_6 : S := (.fr (.var 11) (.rng1 (.var 9)) (.cons s89_6i .nil))
def s89_7 : S := (.asg (.var 13) (.call 57 (.cons (.var 0) (.cons (.var 9) .nil))))
def s89_8 : S := (.ifs (.cmp .ne (.call 76 (.cons (.blt .tuple (.cons (.comp [5] (.idx (.var 1) (.var 5)) (.var 5) (.val (.var 13)) .none) .nil)) .nil)) (.call 78 (.cons (.var 7) (.cons (.var 13) .nil)))) (.cons (.ret (.bl false)) .nil) .nil)
def s89_9 : S := (.ret (.call 52 (.cons (.list (.cons (.call 83 (.cons (.var 7) (.cons (.var 9) .nil))) (.cons (.call 80 (.cons (.var 7) (.cons (.var 10) .nil))) .nil))) (.cons (.bin .mul (.list (.cons (.blt .sum (.cons (.slc (.var 7) (.some (.int 1)) .none) .nil)) .nil)) (.int 2)) .nil))))
theorem b89_eq : b89 = Ss.app (.cons s89_0 (.cons s89_1 (.cons s89_2 .nil))) (.cons s89_3 (.cons s89_4 (.cons s89_5 (.cons s89_6 (.cons s89_7 (.cons s89_8 (.cons s89_9 .nil))))))) := rfl
theorem fdiv_nat {a b : Nat} (h : 0 < b) (h2 : b < 1073741824) : iop .fdiv (a : Int) (b : Int) = some ((a / b : Nat) : Int) := by
  rw [i_fdiv, if_pos]
  · rfl
  · simp only [Bool.and_eq_true, decide_eq_true_eq]
    omega
theorem mul_nat {a b : Nat} (h : b < 1000000) : iop .mul (a : Int) (b : Int) = some ((a * b : Nat) : Int) := by
  rw [i_mul, if_pos]
  · rw [Int.natCast_mul]
  · rw [Bool.or_eq_true]
    exact .inr (by simp only [small, Bool.and_eq_true, decide_eq_true_eq]; omega)
theorem mod_nat {a b : Nat} (h : 0 < b) : iop .mod (a : Int) (b : Int) = some ((a % b : Nat) : Int) := by
  rw [i_mod, if_pos (by omega)]
  rfl
theorem eq_nat {st : Sto} {a b : Nat} : cop st .eq (.int (a : Nat)) (.int (b : Nat)) = some (decide (a = b)) := by
  rw [c_eqI]
  congr 1
  by_cases h : a = b
  · subst h; simp
  · rw [beq_false_of_ne (fun e => h (by exact_mod_cast e))]
    simp [h]
theorem two_nat (k : Nat) : ((2 : Int) ^ k) = ((2 ^ k : Nat) : Int) := by simp
abbrev due (ns : List Nat) : List Int := hist ns.length (plL ns)
theorem due_len (ns : List Nat) : (due ns).length = 2 ^ ns.length := by simp [hist]
section
variable {n i : Nat} {st : Sto} {ns : List Nat} {z0 z1 z2 z3 z4 z5 z6 z7 z8 z9 z10 z11 z12 z13 : Option D}
theorem is_3 (hn : 6 ≤ n) (h : Nums ns) : ex (PL.call T Gc 100000 n) Gc 100000 s89_3 [z0, some (pic (nI ns)), z2, z3, z4, z5, z6, some (pic (due ns)), z8, z9, z10, z11, z12, z13] st =
    .ok (.nx [z0, some (pic (nI ns)), z2, z3, z4, z5, z6, some (pic (due ns)), z8, z9, z10, z11, z12, z13]) st := by
  have hl := due_len ns
  have h16 : (due ns).length ≤ 16 := (pic_due h).len
  have e1 := sp_same 2 (.frz [pic (due ns), pic (due ns), .int 60]) ⟨by simp, fun d hd => by
    simp only [List.mem_cons, List.not_mem_nil, or_false] at hd
    rcases hd with rfl | rfl | rfl
    · exact plain_pic _ (by omega)
    · exact plain_pic _ (by omega)
    · trivial⟩ n (by omega) st
  have e2 := sp_things (pic_due h) n hn st
  rw [due_sum h] at e2
  simp [s89_3, sp_lotsizes h n (by omega), e2, e1]
theorem is_4i {q : Nat} (hn : 6 ≤ n) (h : Nums ns) (hq : q < 16) : ∃ y5 y6, ex (PL.call T Gc 100000 n) Gc 100000 s89_4i [z0, some (pic (nI ns)), z2, z3, some (.int (q : Nat)), z5, z6, z7, some (.int 1), z9, z10, z11, z12, z13] st =
    .ok (.nx [z0, some (pic (nI ns)), z2, z3, some (.int (q : Nat)), y5, y6, z7, some (.int (lcmL (sel q ns) : Nat)), z9, z10, z11, z12, z13]) st := by
  obtain ⟨e, s, he, ⟨_, y5, y6, hq⟩, hs⟩ : ∃ e s, ex (PL.call T Gc 100000 n) Gc 100000 s89_4i [z0, some (pic (nI ns)), z2, z3, some (.int (q : Nat)), z5, z6, z7, some (.int 1), z9, z10, z11, z12, z13] st = .ok (.nx e) s ∧
      ((1 ≤ ns.zipIdx.foldl (lcmF q) 1 ∧ ∃ y5 y6, e = [z0, some (pic (nI ns)), z2, z3, some (.int (q : Nat)), y5, y6, z7, some (.int (ns.zipIdx.foldl (lcmF q) 1 : Nat)), z9, z10, z11, z12, z13]) ∧ s = st) := by
    unfold s89_4i
    refine ex_fold (fun p : Nat × Nat => .tup [.int (p.2 : Nat), .int (p.1 : Nat)]) ns.zipIdx (fun a e s => (1 ≤ a ∧ ∃ y5 y6, e = [z0, some (pic (nI ns)), z2, z3, some (.int (q : Nat)), y5, y6, z7, some (.int (a : Nat)), z9, z10, z11, z12, z13]) ∧ s = st) (lcmF q) 1 ?_ ⟨⟨Nat.le_refl _, _, _, rfl⟩, rfl⟩ fun p hp a e s ⟨⟨ha, y5, y6, he⟩, hs⟩ => ?_
    · simp only [xi_enum, x_var, List.getElem?_cons_zero, List.getElem?_cons_succ, pic, bind_ok, walk_tup, oD_some, nI_D, enum_map]
    · subst he hs
      have hx := h.2.2 p.1 (List.fst_mem_of_mem_zipIdx hp)
      have hk : p.2 < 4 := by
        have := List.snd_lt_of_mem_zipIdx hp
        have := h.2.1
        omega
      have k1 : 2 ^ p.2 < 1073741824 := Nat.lt_of_lt_of_le (Nat.pow_lt_pow_right (by decide) hk) (by decide)
      have k0 : 0 < 2 ^ p.2 := Nat.pow_pos (by decide)
      have g0 : 0 < Nat.gcd a p.1 := Nat.gcd_pos_of_pos_right _ (by omega)
      have g1 : Nat.gcd a p.1 < 1073741824 := Nat.lt_of_le_of_lt (Nat.gcd_le_right _ (by omega)) (show p.1 < _ by omega)
      have gd : a / Nat.gcd a p.1 * p.1 = Nat.lcm a p.1 := lcm_step _ _
      have ci : ∀ j : Int, bcall s .int [.int j] = some (.int j) := fun j => rfl
      have t2 : (2 : Int) = ((2 : Nat) : Int) := rfl
      have t1 : (1 : Int) = ((1 : Nat) : Int) := rfl
      by_cases hb : q / 2 ^ p.2 % 2 = 1
      · refine ⟨[z0, some (pic (nI ns)), z2, z3, some (.int (q : Nat)), some (.int (p.2 : Nat)), some (.int (p.1 : Nat)), z7, some (.int (a / Nat.gcd a p.1 * p.1 : Nat)), z9, z10, z11, z12, z13], _, .inl ?_, ⟨by
          rw [lcmF, if_pos hb, gd]
          exact Nat.lcm_pos (by omega) (by omega), _, _, by rw [lcmF, if_pos hb]⟩, rfl⟩
        simp only [Nat.zero_add, Nat.reduceAdd, Nat.reduceLT, Nat.reduceSub, ↓reduceIte, Int.reduceBEq, es_cons, es_nil, e_asg, e_par, e_ifs, e_ret, e_retn, e_exp, e_pas, x_non, x_bl, x_int, x_str, x_var, x_glb, x_fnv, x_bin, x_neg, x_not, x_and, x_or, x_cmp, x_chn, x_ife, x_call, x_callk, x_blt, x_isi, x_mth, x_idx, x_slc, x_tup, x_list, x_thaw, x_frz, x_rgv, xs_nil, xs_cons, xo_none, xo_some, xc_none, xc_some, xt_var, xt_idx, xt_tup, xts_nil, xts_cons, tg_nil, tg_cons, asgs_nil, asgs_cons, bind_ok, tru_bl, toI_int, oD_some, o_int, Option.map_some, Option.bind_some, List.getElem?_cons_zero, List.getElem?_cons_succ, List.set_cons_zero, List.set_cons_succ, List.length_cons, List.length_nil, List.map_cons, List.map_nil, List.nil_append, List.cons_append, Bool.not_true, Bool.not_false, Bool.true_and, Bool.and_true, Bool.false_and, Bool.true_or, Bool.false_or, reduceCtorEq, decide_true, decide_false, b_intI, b_len, b_sum, b_all, b_any, b_tuple, b_list, b_abs, len_tup, len_frz, len_scr, ix_tup, ix_frz, ix_scr, sv_frz, sv_tup, sv_scr, lv_frz, lv_scr, sl_tup, sl_frz, sl_scr, walk_tup, walk_frz, walk_scr, walk_str, xi_val, xi_rng1, xi_rng2, xi_enum, xi_zip, lock_nil, noX_okk, thaw_frz, shl_one (show p.2 ≤ 100 by omega), two_nat, fdiv_nat k0 k1]
        rw [t2, mod_nat (by decide)]
        simp only [Nat.zero_add, Nat.reduceAdd, Nat.reduceLT, Nat.reduceSub, ↓reduceIte, Int.reduceBEq, es_cons, es_nil, e_asg, e_par, e_ifs, e_ret, e_retn, e_exp, e_pas, x_non, x_bl, x_int, x_str, x_var, x_glb, x_fnv, x_bin, x_neg, x_not, x_and, x_or, x_cmp, x_chn, x_ife, x_call, x_callk, x_blt, x_isi, x_mth, x_idx, x_slc, x_tup, x_list, x_thaw, x_frz, x_rgv, xs_nil, xs_cons, xo_none, xo_some, xc_none, xc_some, xt_var, xt_idx, xt_tup, xts_nil, xts_cons, tg_nil, tg_cons, asgs_nil, asgs_cons, bind_ok, tru_bl, toI_int, oD_some, o_int, Option.map_some, Option.bind_some, List.getElem?_cons_zero, List.getElem?_cons_succ, List.set_cons_zero, List.set_cons_succ, List.length_cons, List.length_nil, List.map_cons, List.map_nil, List.nil_append, List.cons_append, Bool.not_true, Bool.not_false, Bool.true_and, Bool.and_true, Bool.false_and, Bool.true_or, Bool.false_or, reduceCtorEq, decide_true, decide_false, b_intI, b_len, b_sum, b_all, b_any, b_tuple, b_list, b_abs, len_tup, len_frz, len_scr, ix_tup, ix_frz, ix_scr, sv_frz, sv_tup, sv_scr, lv_frz, lv_scr, sl_tup, sl_frz, sl_scr, walk_tup, walk_frz, walk_scr, walk_str, xi_val, xi_rng1, xi_rng2, xi_enum, xi_zip, lock_nil, noX_okk, thaw_frz]
        rw [t1, eq_nat]
        simp only [Nat.zero_add, Nat.reduceAdd, Nat.reduceLT, Nat.reduceSub, ↓reduceIte, Int.reduceBEq, es_cons, es_nil, e_asg, e_par, e_ifs, e_ret, e_retn, e_exp, e_pas, x_non, x_bl, x_int, x_str, x_var, x_glb, x_fnv, x_bin, x_neg, x_not, x_and, x_or, x_cmp, x_chn, x_ife, x_call, x_callk, x_blt, x_isi, x_mth, x_idx, x_slc, x_tup, x_list, x_thaw, x_frz, x_rgv, xs_nil, xs_cons, xo_none, xo_some, xc_none, xc_some, xt_var, xt_idx, xt_tup, xts_nil, xts_cons, tg_nil, tg_cons, asgs_nil, asgs_cons, bind_ok, tru_bl, toI_int, oD_some, o_int, Option.map_some, Option.bind_some, List.getElem?_cons_zero, List.getElem?_cons_succ, List.set_cons_zero, List.set_cons_succ, List.length_cons, List.length_nil, List.map_cons, List.map_nil, List.nil_append, List.cons_append, Bool.not_true, Bool.not_false, Bool.true_and, Bool.and_true, Bool.false_and, Bool.true_or, Bool.false_or, reduceCtorEq, decide_true, decide_false, b_intI, b_len, b_sum, b_all, b_any, b_tuple, b_list, b_abs, len_tup, len_frz, len_scr, ix_tup, ix_frz, ix_scr, sv_frz, sv_tup, sv_scr, lv_frz, lv_scr, sl_tup, sl_frz, sl_scr, walk_tup, walk_frz, walk_scr, walk_str, xi_val, xi_rng1, xi_rng2, xi_enum, xi_zip, lock_nil, noX_okk, thaw_frz, hb, sp_common ha hx.2 n (by omega), fdiv_nat g0 g1, mul_nat (show p.1 < 1000000 by omega)]
      · refine ⟨[z0, some (pic (nI ns)), z2, z3, some (.int (q : Nat)), some (.int (p.2 : Nat)), some (.int (p.1 : Nat)), z7, some (.int (a : Nat)), z9, z10, z11, z12, z13], _, .inl ?_, ⟨by
          rw [lcmF, if_neg hb]
          exact ha, _, _, by rw [lcmF, if_neg hb]⟩, rfl⟩
        simp only [Nat.zero_add, Nat.reduceAdd, Nat.reduceLT, Nat.reduceSub, ↓reduceIte, Int.reduceBEq, es_cons, es_nil, e_asg, e_par, e_ifs, e_ret, e_retn, e_exp, e_pas, x_non, x_bl, x_int, x_str, x_var, x_glb, x_fnv, x_bin, x_neg, x_not, x_and, x_or, x_cmp, x_chn, x_ife, x_call, x_callk, x_blt, x_isi, x_mth, x_idx, x_slc, x_tup, x_list, x_thaw, x_frz, x_rgv, xs_nil, xs_cons, xo_none, xo_some, xc_none, xc_some, xt_var, xt_idx, xt_tup, xts_nil, xts_cons, tg_nil, tg_cons, asgs_nil, asgs_cons, bind_ok, tru_bl, toI_int, oD_some, o_int, Option.map_some, Option.bind_some, List.getElem?_cons_zero, List.getElem?_cons_succ, List.set_cons_zero, List.set_cons_succ, List.length_cons, List.length_nil, List.map_cons, List.map_nil, List.nil_append, List.cons_append, Bool.not_true, Bool.not_false, Bool.true_and, Bool.and_true, Bool.false_and, Bool.true_or, Bool.false_or, reduceCtorEq, decide_true, decide_false, b_intI, b_len, b_sum, b_all, b_any, b_tuple, b_list, b_abs, len_tup, len_frz, len_scr, ix_tup, ix_frz, ix_scr, sv_frz, sv_tup, sv_scr, lv_frz, lv_scr, sl_tup, sl_frz, sl_scr, walk_tup, walk_frz, walk_scr, walk_str, xi_val, xi_rng1, xi_rng2, xi_enum, xi_zip, lock_nil, noX_okk, thaw_frz, shl_one (show p.2 ≤ 100 by omega), two_nat, fdiv_nat k0 k1]
        rw [t2, mod_nat (by decide)]
        simp only [Nat.zero_add, Nat.reduceAdd, Nat.reduceLT, Nat.reduceSub, ↓reduceIte, Int.reduceBEq, es_cons, es_nil, e_asg, e_par, e_ifs, e_ret, e_retn, e_exp, e_pas, x_non, x_bl, x_int, x_str, x_var, x_glb, x_fnv, x_bin, x_neg, x_not, x_and, x_or, x_cmp, x_chn, x_ife, x_call, x_callk, x_blt, x_isi, x_mth, x_idx, x_slc, x_tup, x_list, x_thaw, x_frz, x_rgv, xs_nil, xs_cons, xo_none, xo_some, xc_none, xc_some, xt_var, xt_idx, xt_tup, xts_nil, xts_cons, tg_nil, tg_cons, asgs_nil, asgs_cons, bind_ok, tru_bl, toI_int, oD_some, o_int, Option.map_some, Option.bind_some, List.getElem?_cons_zero, List.getElem?_cons_succ, List.set_cons_zero, List.set_cons_succ, List.length_cons, List.length_nil, List.map_cons, List.map_nil, List.nil_append, List.cons_append, Bool.not_true, Bool.not_false, Bool.true_and, Bool.and_true, Bool.false_and, Bool.true_or, Bool.false_or, reduceCtorEq, decide_true, decide_false, b_intI, b_len, b_sum, b_all, b_any, b_tuple, b_list, b_abs, len_tup, len_frz, len_scr, ix_tup, ix_frz, ix_scr, sv_frz, sv_tup, sv_scr, lv_frz, lv_scr, sl_tup, sl_frz, sl_scr, walk_tup, walk_frz, walk_scr, walk_str, xi_val, xi_rng1, xi_rng2, xi_enum, xi_zip, lock_nil, noX_okk, thaw_frz]
        rw [t1, eq_nat]
        simp only [Nat.zero_add, Nat.reduceAdd, Nat.reduceLT, Nat.reduceSub, ↓reduceIte, Int.reduceBEq, es_cons, es_nil, e_asg, e_par, e_ifs, e_ret, e_retn, e_exp, e_pas, x_non, x_bl, x_int, x_str, x_var, x_glb, x_fnv, x_bin, x_neg, x_not, x_and, x_or, x_cmp, x_chn, x_ife, x_call, x_callk, x_blt, x_isi, x_mth, x_idx, x_slc, x_tup, x_list, x_thaw, x_frz, x_rgv, xs_nil, xs_cons, xo_none, xo_some, xc_none, xc_some, xt_var, xt_idx, xt_tup, xts_nil, xts_cons, tg_nil, tg_cons, asgs_nil, asgs_cons, bind_ok, tru_bl, toI_int, oD_some, o_int, Option.map_some, Option.bind_some, List.getElem?_cons_zero, List.getElem?_cons_succ, List.set_cons_zero, List.set_cons_succ, List.length_cons, List.length_nil, List.map_cons, List.map_nil, List.nil_append, List.cons_append, Bool.not_true, Bool.not_false, Bool.true_and, Bool.and_true, Bool.false_and, Bool.true_or, Bool.false_or, reduceCtorEq, decide_true, decide_false, b_intI, b_len, b_sum, b_all, b_any, b_tuple, b_list, b_abs, len_tup, len_frz, len_scr, ix_tup, ix_frz, ix_scr, sv_frz, sv_tup, sv_scr, lv_frz, lv_scr, sl_tup, sl_frz, sl_scr, walk_tup, walk_frz, walk_scr, walk_str, xi_val, xi_rng1, xi_rng2, xi_enum, xi_zip, lock_nil, noX_okk, thaw_frz, hb]
  refine ⟨y5, y6, ?_⟩
  rw [he, hq, hs]
  have := lcmF_eq q ns.zipIdx 1
  unfold lcmL sel
  rw [this]
theorem is_4 (hn : 7 ≤ n) (h : Nums ns) : ∃ y4 y5 y6 y8, ex (PL.call T Gc 100000 n) Gc 100000 s89_4 [z0, some (pic (nI ns)), z2, z3, z4, z5, z6, some (pic (due ns)), z8, z9, z10, z11, z12, z13] st =
    .ok (.nx [z0, some (pic (nI ns)), z2, z3, y4, y5, y6, some (pic (due ns)), y8, z9, z10, z11, z12, z13]) st := by
  have hl := due_len ns
  obtain ⟨e, s, he, ⟨y4, y5, y6, y8, hq⟩, hs⟩ : ∃ e s, ex (PL.call T Gc 100000 n) Gc 100000 s89_4 [z0, some (pic (nI ns)), z2, z3, z4, z5, z6, some (pic (due ns)), z8, z9, z10, z11, z12, z13] st = .ok (.nx e) s ∧
      ((∃ y4 y5 y6 y8, e = [z0, some (pic (nI ns)), z2, z3, y4, y5, y6, some (pic (due ns)), y8, z9, z10, z11, z12, z13]) ∧ s = st) := by
    unfold s89_4
    refine ex_fold (fun k : Nat => D.int (k : Nat)) (List.range (2 ^ ns.length)) (fun (_ : Unit) e s => (∃ y4 y5 y6 y8, e = [z0, some (pic (nI ns)), z2, z3, y4, y5, y6, some (pic (due ns)), y8, z9, z10, z11, z12, z13]) ∧ s = st) (fun u _ => u) () ?_ ⟨⟨_, _, _, _, rfl⟩, rfl⟩ fun q hq _ e s ⟨⟨y4, y5, y6, y8, he⟩, hs⟩ => ?_
    · have := (pic_due h).len
      have p16 : 2 ^ ns.length ≤ 16 := by rw [← hl]; exact this
      have r := rng_nat (n := 2 ^ ns.length) (by omega)
      simp only [Nat.zero_add, Nat.reduceAdd, Nat.reduceLT, Nat.reduceSub, ↓reduceIte, Int.reduceBEq, es_cons, es_nil, e_asg, e_par, e_ifs, e_ret, e_retn, e_exp, e_pas, x_non, x_bl, x_int, x_str, x_var, x_glb, x_fnv, x_bin, x_neg, x_not, x_and, x_or, x_cmp, x_chn, x_ife, x_call, x_callk, x_blt, x_isi, x_mth, x_idx, x_slc, x_tup, x_list, x_thaw, x_frz, x_rgv, xs_nil, xs_cons, xo_none, xo_some, xc_none, xc_some, xt_var, xt_idx, xt_tup, xts_nil, xts_cons, tg_nil, tg_cons, asgs_nil, asgs_cons, bind_ok, tru_bl, toI_int, oD_some, o_int, Option.map_some, Option.bind_some, List.getElem?_cons_zero, List.getElem?_cons_succ, List.set_cons_zero, List.set_cons_succ, List.length_cons, List.length_nil, List.map_cons, List.map_nil, List.nil_append, List.cons_append, Bool.not_true, Bool.not_false, Bool.true_and, Bool.and_true, Bool.false_and, Bool.true_or, Bool.false_or, reduceCtorEq, decide_true, decide_false, b_intI, b_len, b_sum, b_all, b_any, b_tuple, b_list, b_abs, len_tup, len_frz, len_scr, ix_tup, ix_frz, ix_scr, sv_frz, sv_tup, sv_scr, lv_frz, lv_scr, sl_tup, sl_frz, sl_scr, walk_tup, walk_frz, walk_scr, walk_str, xi_val, xi_rng1, xi_rng2, xi_enum, xi_zip, lock_nil, noX_okk, thaw_frz, List.length_map, hl, r, rng_map, Int.toNat_natCast]
      simp
    · subst he hs
      have hq : q < 2 ^ ns.length := by simpa using hq
      have q16 := pow16 h.2.1 hq
      obtain ⟨y5', y6', hi⟩ := is_4i (n := n) (st := s) (ns := ns) (z0 := z0) (z2 := z2) (z3 := z3) (z5 := y5) (z6 := y6) (z7 := some (pic (due ns))) (z9 := z9) (z10 := z10) (z11 := z11) (z12 := z12) (z13 := z13) (by omega) h q16
      obtain ⟨l0, l1⟩ := lcm_small h q
      have hm := sp_meet (pic_due h) hq n hn s
      rw [meet_val h hq] at hm
      have hd : iop .fdiv 60 ((lcmL (sel q ns) : Nat) : Int) = some ((60 / lcmL (sel q ns) : Nat) : Int) := fdiv_nat (a := 60) l0 l1
      have hsame := sp_same 0 (.int ((60 / lcmL (sel q ns) : Nat) : Int)) trivial n (by omega) s
      refine ⟨[z0, some (pic (nI ns)), z2, z3, some (.int (q : Nat)), y5', y6', some (pic (due ns)), some (.int (lcmL (sel q ns) : Nat)), z9, z10, z11, z12, z13], _, .inl ?_, ⟨_, _, _, _, rfl⟩, rfl⟩
      · simp only [Nat.zero_add, Nat.reduceAdd, Nat.reduceLT, Nat.reduceSub, ↓reduceIte, Int.reduceBEq, es_cons, es_nil, e_asg, e_par, e_ifs, e_ret, e_retn, e_exp, e_pas, x_non, x_bl, x_int, x_str, x_var, x_glb, x_fnv, x_bin, x_neg, x_not, x_and, x_or, x_cmp, x_chn, x_ife, x_call, x_callk, x_blt, x_isi, x_mth, x_idx, x_slc, x_tup, x_list, x_thaw, x_frz, x_rgv, xs_nil, xs_cons, xo_none, xo_some, xc_none, xc_some, xt_var, xt_idx, xt_tup, xts_nil, xts_cons, tg_nil, tg_cons, asgs_nil, asgs_cons, bind_ok, tru_bl, toI_int, oD_some, o_int, Option.map_some, Option.bind_some, List.getElem?_cons_zero, List.getElem?_cons_succ, List.set_cons_zero, List.set_cons_succ, List.length_cons, List.length_nil, List.map_cons, List.map_nil, List.nil_append, List.cons_append, Bool.not_true, Bool.not_false, Bool.true_and, Bool.and_true, Bool.false_and, Bool.true_or, Bool.false_or, reduceCtorEq, decide_true, decide_false, b_intI, b_len, b_sum, b_all, b_any, b_tuple, b_list, b_abs, len_tup, len_frz, len_scr, ix_tup, ix_frz, ix_scr, sv_frz, sv_tup, sv_scr, lv_frz, lv_scr, sl_tup, sl_frz, sl_scr, walk_tup, walk_frz, walk_scr, walk_str, xi_val, xi_rng1, xi_rng2, xi_enum, xi_zip, lock_nil, noX_okk, thaw_frz, hi, sp_lawchoice q16 n (by omega), hm, hd, hsame]
        try rfl
  refine ⟨y4, y5, y6, y8, ?_⟩
  rw [he, hq, hs]
theorem is_6i {a : Nat} (hn : 8 ≤ n) (h : Nums ns) (ha : a < ns.length) : ∃ y12, ex (PL.call T Gc 100000 n) Gc 100000 s89_6i [z0, some (pic (nI ns)), z2, z3, z4, z5, z6, some (pic (due ns)), z8, some (.int (ns.length : Nat)), some (.str (zc (2 ^ ns.length - 1))), some (.int (a : Nat)), z12, z13] st =
    .ok (.nx [z0, some (pic (nI ns)), z2, z3, z4, z5, z6, some (pic (due ns)), z8, some (.int (ns.length : Nat)), some (.str (zc (2 ^ ns.length - 1))), some (.int (a : Nat)), y12, z13]) st := by
  obtain ⟨e, s, he, ⟨y12, hq⟩, hs⟩ : ∃ e s, ex (PL.call T Gc 100000 n) Gc 100000 s89_6i [z0, some (pic (nI ns)), z2, z3, z4, z5, z6, some (pic (due ns)), z8, some (.int (ns.length : Nat)), some (.str (zc (2 ^ ns.length - 1))), some (.int (a : Nat)), z12, z13] st = .ok (.nx e) s ∧
      ((∃ y12, e = [z0, some (pic (nI ns)), z2, z3, z4, z5, z6, some (pic (due ns)), z8, some (.int (ns.length : Nat)), some (.str (zc (2 ^ ns.length - 1))), some (.int (a : Nat)), y12, z13]) ∧ s = st) := by
    unfold s89_6i
    refine ex_fold (fun k : Nat => D.int (k : Nat)) (List.range ns.length) (fun (_ : Unit) e s => (∃ y12, e = [z0, some (pic (nI ns)), z2, z3, z4, z5, z6, some (pic (due ns)), z8, some (.int (ns.length : Nat)), some (.str (zc (2 ^ ns.length - 1))), some (.int (a : Nat)), y12, z13]) ∧ s = st) (fun u _ => u) () ?_ ⟨⟨_, rfl⟩, rfl⟩ fun b hb _ e s ⟨⟨y12, he⟩, hs⟩ => ?_
    · have := h.2.1
      have r := rng_nat (n := ns.length) (by omega)
      simp only [Nat.zero_add, Nat.reduceAdd, Nat.reduceLT, Nat.reduceSub, ↓reduceIte, Int.reduceBEq, es_cons, es_nil, e_asg, e_par, e_ifs, e_ret, e_retn, e_exp, e_pas, x_non, x_bl, x_int, x_str, x_var, x_glb, x_fnv, x_bin, x_neg, x_not, x_and, x_or, x_cmp, x_chn, x_ife, x_call, x_callk, x_blt, x_isi, x_mth, x_idx, x_slc, x_tup, x_list, x_thaw, x_frz, x_rgv, xs_nil, xs_cons, xo_none, xo_some, xc_none, xc_some, xt_var, xt_idx, xt_tup, xts_nil, xts_cons, tg_nil, tg_cons, asgs_nil, asgs_cons, bind_ok, tru_bl, toI_int, oD_some, o_int, Option.map_some, Option.bind_some, List.getElem?_cons_zero, List.getElem?_cons_succ, List.set_cons_zero, List.set_cons_succ, List.length_cons, List.length_nil, List.map_cons, List.map_nil, List.nil_append, List.cons_append, Bool.not_true, Bool.not_false, Bool.true_and, Bool.and_true, Bool.false_and, Bool.true_or, Bool.false_or, reduceCtorEq, decide_true, decide_false, b_intI, b_len, b_sum, b_all, b_any, b_tuple, b_list, b_abs, len_tup, len_frz, len_scr, ix_tup, ix_frz, ix_scr, sv_frz, sv_tup, sv_scr, lv_frz, lv_scr, sl_tup, sl_frz, sl_scr, walk_tup, walk_frz, walk_scr, walk_str, xi_val, xi_rng1, xi_rng2, xi_enum, xi_zip, lock_nil, noX_okk, thaw_frz, r, rng_map, Int.toNat_natCast]
      simp
    · subst he hs
      have hb : b < ns.length := by simpa using hb
      have m4 := h.2.1
      have la := letters_at ns.length m4 a ha
      have lb := letters_at ns.length m4 b hb
      rw [letters_all ns.length m4] at la lb
      have zl : (zc (2 ^ ns.length - 1)).length ≤ 4 := zc_len _
      have ia : ixD s (.str (zc (2 ^ ns.length - 1))) (a : Int) = some (.str [65 + a]) := by
        rw [ix_str, if_pos (szOk_of (by omega)), la]
        rfl
      have ib : ixD s (.str (zc (2 ^ ns.length - 1))) (b : Int) = some (.str [65 + b]) := by
        rw [ix_str, if_pos (szOk_of (by omega)), lb]
        rfl
      have na : ∀ k (hk : k < ns.length), atI ((nI ns).map D.int) (k : Int) = some (.int (ns[k] : Nat)) := fun k hk => by
        rw [at_nat (by rw [List.length_map, nI_len]; exact hk), nI_D, List.getElem?_map, List.getElem?_eq_getElem hk]
        rfl
      have pb := h.2.2 ns[b] (List.getElem_mem hb)
      refine ⟨[z0, some (pic (nI ns)), z2, z3, z4, z5, z6, some (pic (due ns)), z8, some (.int (ns.length : Nat)), some (.str (zc (2 ^ ns.length - 1))), some (.int (a : Nat)), some (.int (b : Nat)), z13], _, .inl ?_, ⟨_, rfl⟩, rfl⟩
      have hw := sp_within (pic_due h) ha hb n hn s
      have c0 : ∀ x : Nat, cop s .eq (.int (x : Nat)) (.int 0) = some (decide (x = 0)) := fun x => eq_nat (b := 0)
      by_cases hd : ns[a] % ns[b] = 0
      · rw [within_val h ha hb hd] at hw
        simp only [Nat.zero_add, Nat.reduceAdd, Nat.reduceLT, Nat.reduceSub, ↓reduceIte, Int.reduceBEq, es_cons, es_nil, e_asg, e_par, e_ifs, e_ret, e_retn, e_exp, e_pas, x_non, x_bl, x_int, x_str, x_var, x_glb, x_fnv, x_bin, x_neg, x_not, x_and, x_or, x_cmp, x_chn, x_ife, x_call, x_callk, x_blt, x_isi, x_mth, x_idx, x_slc, x_tup, x_list, x_thaw, x_frz, x_rgv, xs_nil, xs_cons, xo_none, xo_some, xc_none, xc_some, xt_var, xt_idx, xt_tup, xts_nil, xts_cons, tg_nil, tg_cons, asgs_nil, asgs_cons, bind_ok, tru_bl, toI_int, oD_some, o_int, Option.map_some, Option.bind_some, List.getElem?_cons_zero, List.getElem?_cons_succ, List.set_cons_zero, List.set_cons_succ, List.length_cons, List.length_nil, List.map_cons, List.map_nil, List.nil_append, List.cons_append, Bool.not_true, Bool.not_false, Bool.true_and, Bool.and_true, Bool.false_and, Bool.true_or, Bool.false_or, reduceCtorEq, decide_true, decide_false, b_intI, b_len, b_sum, b_all, b_any, b_tuple, b_list, b_abs, len_tup, len_frz, len_scr, ix_tup, ix_frz, ix_scr, sv_frz, sv_tup, sv_scr, lv_frz, lv_scr, sl_tup, sl_frz, sl_scr, walk_tup, walk_frz, walk_scr, walk_str, xi_val, xi_rng1, xi_rng2, xi_enum, xi_zip, lock_nil, noX_okk, thaw_frz, na a ha, na b hb, mod_nat (show 0 < ns[b] by omega), c0, hd, ia, ib, hw, c_isnB]
        try rfl
      · simp only [Nat.zero_add, Nat.reduceAdd, Nat.reduceLT, Nat.reduceSub, ↓reduceIte, Int.reduceBEq, es_cons, es_nil, e_asg, e_par, e_ifs, e_ret, e_retn, e_exp, e_pas, x_non, x_bl, x_int, x_str, x_var, x_glb, x_fnv, x_bin, x_neg, x_not, x_and, x_or, x_cmp, x_chn, x_ife, x_call, x_callk, x_blt, x_isi, x_mth, x_idx, x_slc, x_tup, x_list, x_thaw, x_frz, x_rgv, xs_nil, xs_cons, xo_none, xo_some, xc_none, xc_some, xt_var, xt_idx, xt_tup, xts_nil, xts_cons, tg_nil, tg_cons, asgs_nil, asgs_cons, bind_ok, tru_bl, toI_int, oD_some, o_int, Option.map_some, Option.bind_some, List.getElem?_cons_zero, List.getElem?_cons_succ, List.set_cons_zero, List.set_cons_succ, List.length_cons, List.length_nil, List.map_cons, List.map_nil, List.nil_append, List.cons_append, Bool.not_true, Bool.not_false, Bool.true_and, Bool.and_true, Bool.false_and, Bool.true_or, Bool.false_or, reduceCtorEq, decide_true, decide_false, b_intI, b_len, b_sum, b_all, b_any, b_tuple, b_list, b_abs, len_tup, len_frz, len_scr, ix_tup, ix_frz, ix_scr, sv_frz, sv_tup, sv_scr, lv_frz, lv_scr, sl_tup, sl_frz, sl_scr, walk_tup, walk_frz, walk_scr, walk_str, xi_val, xi_rng1, xi_rng2, xi_enum, xi_zip, lock_nil, noX_okk, thaw_frz, na a ha, na b hb, mod_nat (show 0 < ns[b] by omega), c0, hd]
        try rfl
  refine ⟨y12, ?_⟩
  rw [he, hq, hs]
theorem is_6 (hn : 8 ≤ n) (h : Nums ns) : ∃ y11 y12, ex (PL.call T Gc 100000 n) Gc 100000 s89_6 [z0, some (pic (nI ns)), z2, z3, z4, z5, z6, some (pic (due ns)), z8, some (.int (ns.length : Nat)), some (.str (zc (2 ^ ns.length - 1))), z11, z12, z13] st =
    .ok (.nx [z0, some (pic (nI ns)), z2, z3, z4, z5, z6, some (pic (due ns)), z8, some (.int (ns.length : Nat)), some (.str (zc (2 ^ ns.length - 1))), y11, y12, z13]) st := by
  obtain ⟨e, s, he, ⟨y11, y12, hq⟩, hs⟩ : ∃ e s, ex (PL.call T Gc 100000 n) Gc 100000 s89_6 [z0, some (pic (nI ns)), z2, z3, z4, z5, z6, some (pic (due ns)), z8, some (.int (ns.length : Nat)), some (.str (zc (2 ^ ns.length - 1))), z11, z12, z13] st = .ok (.nx e) s ∧
      ((∃ y11 y12, e = [z0, some (pic (nI ns)), z2, z3, z4, z5, z6, some (pic (due ns)), z8, some (.int (ns.length : Nat)), some (.str (zc (2 ^ ns.length - 1))), y11, y12, z13]) ∧ s = st) := by
    unfold s89_6
    refine ex_fold (fun k : Nat => D.int (k : Nat)) (List.range ns.length) (fun (_ : Unit) e s => (∃ y11 y12, e = [z0, some (pic (nI ns)), z2, z3, z4, z5, z6, some (pic (due ns)), z8, some (.int (ns.length : Nat)), some (.str (zc (2 ^ ns.length - 1))), y11, y12, z13]) ∧ s = st) (fun u _ => u) () ?_ ⟨⟨_, _, rfl⟩, rfl⟩ fun a ha _ e s ⟨⟨y11, y12, he⟩, hs⟩ => ?_
    · have := h.2.1
      have r := rng_nat (n := ns.length) (by omega)
      simp only [Nat.zero_add, Nat.reduceAdd, Nat.reduceLT, Nat.reduceSub, ↓reduceIte, Int.reduceBEq, es_cons, es_nil, e_asg, e_par, e_ifs, e_ret, e_retn, e_exp, e_pas, x_non, x_bl, x_int, x_str, x_var, x_glb, x_fnv, x_bin, x_neg, x_not, x_and, x_or, x_cmp, x_chn, x_ife, x_call, x_callk, x_blt, x_isi, x_mth, x_idx, x_slc, x_tup, x_list, x_thaw, x_frz, x_rgv, xs_nil, xs_cons, xo_none, xo_some, xc_none, xc_some, xt_var, xt_idx, xt_tup, xts_nil, xts_cons, tg_nil, tg_cons, asgs_nil, asgs_cons, bind_ok, tru_bl, toI_int, oD_some, o_int, Option.map_some, Option.bind_some, List.getElem?_cons_zero, List.getElem?_cons_succ, List.set_cons_zero, List.set_cons_succ, List.length_cons, List.length_nil, List.map_cons, List.map_nil, List.nil_append, List.cons_append, Bool.not_true, Bool.not_false, Bool.true_and, Bool.and_true, Bool.false_and, Bool.true_or, Bool.false_or, reduceCtorEq, decide_true, decide_false, b_intI, b_len, b_sum, b_all, b_any, b_tuple, b_list, b_abs, len_tup, len_frz, len_scr, ix_tup, ix_frz, ix_scr, sv_frz, sv_tup, sv_scr, lv_frz, lv_scr, sl_tup, sl_frz, sl_scr, walk_tup, walk_frz, walk_scr, walk_str, xi_val, xi_rng1, xi_rng2, xi_enum, xi_zip, lock_nil, noX_okk, thaw_frz, r, rng_map, Int.toNat_natCast]
      simp
    · subst he hs
      have ha : a < ns.length := by simpa using ha
      obtain ⟨y, hi⟩ := is_6i (n := n) (st := s) (ns := ns) (z0 := z0) (z2 := z2) (z3 := z3) (z4 := z4) (z5 := z5) (z6 := z6) (z8 := z8) (z12 := y12) (z13 := z13) hn h ha
      refine ⟨[z0, some (pic (nI ns)), z2, z3, z4, z5, z6, some (pic (due ns)), z8, some (.int (ns.length : Nat)), some (.str (zc (2 ^ ns.length - 1))), some (.int (a : Nat)), y, z13], _, .inl ?_, ⟨_, _, rfl⟩, rfl⟩
      simp only [Nat.zero_add, Nat.reduceAdd, Nat.reduceLT, Nat.reduceSub, ↓reduceIte, Int.reduceBEq, es_cons, es_nil, e_asg, e_par, e_ifs, e_ret, e_retn, e_exp, e_pas, x_non, x_bl, x_int, x_str, x_var, x_glb, x_fnv, x_bin, x_neg, x_not, x_and, x_or, x_cmp, x_chn, x_ife, x_call, x_callk, x_blt, x_isi, x_mth, x_idx, x_slc, x_tup, x_list, x_thaw, x_frz, x_rgv, xs_nil, xs_cons, xo_none, xo_some, xc_none, xc_some, xt_var, xt_idx, xt_tup, xts_nil, xts_cons, tg_nil, tg_cons, asgs_nil, asgs_cons, bind_ok, tru_bl, toI_int, oD_some, o_int, Option.map_some, Option.bind_some, List.getElem?_cons_zero, List.getElem?_cons_succ, List.set_cons_zero, List.set_cons_succ, List.length_cons, List.length_nil, List.map_cons, List.map_nil, List.nil_append, List.cons_append, Bool.not_true, Bool.not_false, Bool.true_and, Bool.and_true, Bool.false_and, Bool.true_or, Bool.false_or, reduceCtorEq, decide_true, decide_false, b_intI, b_len, b_sum, b_all, b_any, b_tuple, b_list, b_abs, len_tup, len_frz, len_scr, ix_tup, ix_frz, ix_scr, sv_frz, sv_tup, sv_scr, lv_frz, lv_scr, sl_tup, sl_frz, sl_scr, walk_tup, walk_frz, walk_scr, walk_str, xi_val, xi_rng1, xi_rng2, xi_enum, xi_zip, lock_nil, noX_okk, thaw_frz, hi]
      try rfl
  refine ⟨y11, y12, ?_⟩
  rw [he, hq, hs]
end
end Lw

set_option Elab.async false
set_option linter.all false
set_option maxRecDepth 100000
set_option maxHeartbeats 1000000
namespace Lw
open PL
theorem is_8 {n : Nat} {st : Sto} {ns o : List Nat} {z0 z2 z3 z4 z5 z6 z8 z9 z10 z11 z12 : Option D} (hn : 6 ≤ n) (h : Nums ns) (hp : o.Perm (List.range ns.length)) : ex (PL.call T Gc 100000 n) Gc 100000 s89_8 [z0, some (pic (nI ns)), z2, z3, z4, z5, z6, some (pic (due ns)), z8, z9, z10, z11, z12, some (pic (nI o))] st =
    .ok (.nx [z0, some (pic (nI ns)), z2, z3, z4, z5, z6, some (pic (due ns)), z8, z9, z10, z11, z12, some (pic (nI o))]) st := by
  have m4 := h.2.1
  have hl : o.length = ns.length := by have := hp.length_eq; simpa using this
  have hk : ∀ k ∈ o, k < ns.length := fun k hk => by have := hp.mem_iff.mp hk; simpa using this
  have nd : o.Nodup := hp.nodup_iff.mpr List.nodup_range
  have hpm := mem_perms h.1 m4 hl hk nd
  have hc : ev (PL.call T Gc 100000 n) Gc (.comp [5] (.idx (.var 1) (.var 5)) (.var 5) (.val (.var 13)) .none) [z0, some (pic (nI ns)), z2, z3, z4, z5, z6, some (pic (due ns)), z8, z9, z10, z11, z12, some (pic (nI o))] st =
      .ok (.frz (o.filterMap fun k => some (.int (ns.getD k 0 : Nat)))) st := by
    refine ev_lcm (fun k : Nat => .int (k : Nat)) _ _ ?_ (by omega) fun k hk' => ?_
    · simp only [Nat.zero_add, Nat.reduceAdd, Nat.reduceLT, Nat.reduceSub, ↓reduceIte, Int.reduceBEq, es_cons, es_nil, e_asg, e_par, e_ifs, e_ret, e_retn, e_exp, e_pas, x_non, x_bl, x_int, x_str, x_var, x_glb, x_fnv, x_bin, x_neg, x_not, x_and, x_or, x_cmp, x_chn, x_ife, x_call, x_callk, x_blt, x_isi, x_mth, x_idx, x_slc, x_tup, x_list, x_thaw, x_frz, x_rgv, xs_nil, xs_cons, xo_none, xo_some, xc_none, xc_some, xt_var, xt_idx, xt_tup, xts_nil, xts_cons, tg_nil, tg_cons, asgs_nil, asgs_cons, bind_ok, tru_bl, toI_int, oD_some, o_int, Option.map_some, Option.bind_some, List.getElem?_cons_zero, List.getElem?_cons_succ, List.set_cons_zero, List.set_cons_succ, List.length_cons, List.length_nil, List.map_cons, List.map_nil, List.nil_append, List.cons_append, Bool.not_true, Bool.not_false, Bool.true_and, Bool.and_true, Bool.false_and, Bool.true_or, Bool.false_or, reduceCtorEq, decide_true, decide_false, b_intI, b_len, b_sum, b_all, b_any, b_tuple, b_list, b_abs, len_tup, len_frz, len_scr, ix_tup, ix_frz, ix_scr, sv_frz, sv_tup, sv_scr, lv_frz, lv_scr, sl_tup, sl_frz, sl_scr, walk_tup, walk_frz, walk_scr, walk_str, xi_val, xi_rng1, xi_rng2, xi_enum, xi_zip, lock_nil, noX_okk, thaw_frz, nI_D]
    · have hk' := hk k hk'
      have na : atI ((nI ns).map D.int) (k : Int) = some (.int (ns.getD k 0 : Nat)) := by
        rw [at_nat (by rw [List.length_map, nI_len]; exact hk'), nI_D, List.getElem?_map, List.getElem?_eq_getElem hk', List.getD_eq_getElem?_getD, List.getElem?_eq_getElem hk']
        rfl
      simp only [compB, wipe, Nat.zero_add, Nat.reduceAdd, Nat.reduceLT, Nat.reduceSub, ↓reduceIte, Int.reduceBEq, es_cons, es_nil, e_asg, e_par, e_ifs, e_ret, e_retn, e_exp, e_pas, x_non, x_bl, x_int, x_str, x_var, x_glb, x_fnv, x_bin, x_neg, x_not, x_and, x_or, x_cmp, x_chn, x_ife, x_call, x_callk, x_blt, x_isi, x_mth, x_idx, x_slc, x_tup, x_list, x_thaw, x_frz, x_rgv, xs_nil, xs_cons, xo_none, xo_some, xc_none, xc_some, xt_var, xt_idx, xt_tup, xts_nil, xts_cons, tg_nil, tg_cons, asgs_nil, asgs_cons, bind_ok, tru_bl, toI_int, oD_some, o_int, Option.map_some, Option.bind_some, List.getElem?_cons_zero, List.getElem?_cons_succ, List.set_cons_zero, List.set_cons_succ, List.length_cons, List.length_nil, List.map_cons, List.map_nil, List.nil_append, List.cons_append, Bool.not_true, Bool.not_false, Bool.true_and, Bool.and_true, Bool.false_and, Bool.true_or, Bool.false_or, reduceCtorEq, decide_true, decide_false, b_intI, b_len, b_sum, b_all, b_any, b_tuple, b_list, b_abs, len_tup, len_frz, len_scr, ix_tup, ix_frz, ix_scr, sv_frz, sv_tup, sv_scr, lv_frz, lv_scr, sl_tup, sl_frz, sl_scr, walk_tup, walk_frz, walk_scr, walk_str, xi_val, xi_rng1, xi_rng2, xi_enum, xi_zip, lock_nil, noX_okk, thaw_frz, na]
  rw [fm_some] at hc
  have e1 : (o.map fun k => D.int (ns.getD k 0 : Nat)) = (nI (o.map fun k => ns.getD k 0)).map D.int := by
    rw [nI_D, List.map_map]
    rfl
  rw [e1] at hc
  have hN : Nums (o.map fun k => ns.getD k 0) := by
    refine ⟨by simp only [List.length_map, hl]; exact h.1, by simp only [List.length_map, hl]; exact m4, fun x hx => ?_⟩
    obtain ⟨k, hk', rfl⟩ := List.mem_map.mp hx
    have hk' := hk k hk'
    rw [List.getD_eq_getElem?_getD, List.getElem?_eq_getElem hk']
    exact h.2.2 _ (List.getElem_mem hk')
  have e2 := sp_lotsizes hN n (by omega) st
  have e3 := sp_anew (pic_due h) hl hk nd (fun q hq => old_lt ns.length m4 o hpm q hq) n (by omega) st
  rw [anew_val h hpm hk] at e3
  rw [show (List.map (fun k => ns.getD k 0) o).length = ns.length by rw [List.length_map, hl]] at e2
  simp only [s89_8, Nat.zero_add, Nat.reduceAdd, Nat.reduceLT, Nat.reduceSub, ↓reduceIte, Int.reduceBEq, es_cons, es_nil, e_asg, e_par, e_ifs, e_ret, e_retn, e_exp, e_pas, x_non, x_bl, x_int, x_str, x_var, x_glb, x_fnv, x_bin, x_neg, x_not, x_and, x_or, x_cmp, x_chn, x_ife, x_call, x_callk, x_blt, x_isi, x_mth, x_idx, x_slc, x_tup, x_list, x_thaw, x_frz, x_rgv, xs_nil, xs_cons, xo_none, xo_some, xc_none, xc_some, xt_var, xt_idx, xt_tup, xts_nil, xts_cons, tg_nil, tg_cons, asgs_nil, asgs_cons, bind_ok, tru_bl, toI_int, oD_some, o_int, Option.map_some, Option.bind_some, List.getElem?_cons_zero, List.getElem?_cons_succ, List.set_cons_zero, List.set_cons_succ, List.length_cons, List.length_nil, List.map_cons, List.map_nil, List.nil_append, List.cons_append, Bool.not_true, Bool.not_false, Bool.true_and, Bool.and_true, Bool.false_and, Bool.true_or, Bool.false_or, reduceCtorEq, decide_true, decide_false, b_intI, b_len, b_sum, b_all, b_any, b_tuple, b_list, b_abs, len_tup, len_frz, len_scr, ix_tup, ix_frz, ix_scr, sv_frz, sv_tup, sv_scr, lv_frz, lv_scr, sl_tup, sl_frz, sl_scr, walk_tup, walk_frz, walk_scr, walk_str, xi_val, xi_rng1, xi_rng2, xi_enum, xi_zip, lock_nil, noX_okk, thaw_frz, hc]
  rw [e2]
  simp only [Nat.zero_add, Nat.reduceAdd, Nat.reduceLT, Nat.reduceSub, ↓reduceIte, Int.reduceBEq, es_cons, es_nil, e_asg, e_par, e_ifs, e_ret, e_retn, e_exp, e_pas, x_non, x_bl, x_int, x_str, x_var, x_glb, x_fnv, x_bin, x_neg, x_not, x_and, x_or, x_cmp, x_chn, x_ife, x_call, x_callk, x_blt, x_isi, x_mth, x_idx, x_slc, x_tup, x_list, x_thaw, x_frz, x_rgv, xs_nil, xs_cons, xo_none, xo_some, xc_none, xc_some, xt_var, xt_idx, xt_tup, xts_nil, xts_cons, tg_nil, tg_cons, asgs_nil, asgs_cons, bind_ok, tru_bl, toI_int, oD_some, o_int, Option.map_some, Option.bind_some, List.getElem?_cons_zero, List.getElem?_cons_succ, List.set_cons_zero, List.set_cons_succ, List.length_cons, List.length_nil, List.map_cons, List.map_nil, List.nil_append, List.cons_append, Bool.not_true, Bool.not_false, Bool.true_and, Bool.and_true, Bool.false_and, Bool.true_or, Bool.false_or, reduceCtorEq, decide_true, decide_false, b_intI, b_len, b_sum, b_all, b_any, b_tuple, b_list, b_abs, len_tup, len_frz, len_scr, ix_tup, ix_frz, ix_scr, sv_frz, sv_tup, sv_scr, lv_frz, lv_scr, sl_tup, sl_frz, sl_scr, walk_tup, walk_frz, walk_scr, walk_str, xi_val, xi_rng1, xi_rng2, xi_enum, xi_zip, lock_nil, noX_okk, thaw_frz, e3, ne_pic]
theorem sp_isright {n i : Nat} {st : Sto} {ns : List Nat} {a b c : Int} (hn : 9 ≤ n) (hi : st[i]? = some (pot3 a b c)) (h : Nums ns) :
    ∃ a' b' c', PL.call T Gc 100000 n 89 [.lst i, pic (nI ns)] st = .ok (.bl true) (st.set i (pot3 a' b' c')) := by
  obtain ⟨k, rfl⟩ : ∃ k, n = k + 1 := ⟨n - 1, by omega⟩
  have hlt : i < st.length := (List.getElem?_eq_some_iff.mp hi).1
  obtain ⟨x, y, h0⟩ := is_counts (n := k) (i := i) (st := st) (by omega) h
  obtain ⟨y4, y5, y6, y8, h4⟩ := is_4 (n := k) (st := st ++ [Obj.lst ((due ns).map D.int)]) (z0 := some (.lst i)) (z2 := some (.lst st.length)) (z3 := x) (z4 := y) (z5 := none) (z6 := none) (z8 := none) (z9 := none) (z10 := none) (z11 := none) (z12 := none) (z13 := none) (by omega) h
  obtain ⟨y11, y12, h6⟩ := is_6 (n := k) (st := st ++ [Obj.lst ((due ns).map D.int)]) (z0 := some (.lst i)) (z2 := some (.lst st.length)) (z3 := x) (z4 := y4) (z5 := y5) (z6 := y6) (z8 := y8) (z11 := none) (z12 := none) (z13 := none) (by omega) h
  obtain ⟨a', b', c', o, hp, h7⟩ := sp_order (n := k) (st := st ++ [Obj.lst ((due ns).map D.int)]) (i := i) (m := ns.length) (by omega) (by rw [List.getElem?_append_left hlt]; exact hi) h.2.1
  refine ⟨a', b', c', ?_⟩
  have hs : (st ++ [Obj.lst ((due ns).map D.int)]).set i (pot3 a' b' c') = st.set i (pot3 a' b' c') ++ [Obj.lst ((due ns).map D.int)] := List.set_append_left _ _ hlt
  rw [hs] at h7
  have h5 : ex (PL.call T Gc 100000 k) Gc 100000 s89_5 [some (.lst i), some (pic (nI ns)), some (.lst st.length), x, y4, y5, y6, some (pic (due ns)), y8, none, none, none, none, none] (st ++ [Obj.lst ((due ns).map D.int)]) =
      .ok (.nx [some (.lst i), some (pic (nI ns)), some (.lst st.length), x, y4, y5, y6, some (pic (due ns)), y8, some (.int (ns.length : Nat)), some (.str (zc (2 ^ ns.length - 1))), none, none, none]) (st ++ [Obj.lst ((due ns).map D.int)]) := by
    have z4 : szOk ([65, 66, 67, 68] : List Nat).length = true := rfl
    simp only [s89_5, Nat.zero_add, Nat.reduceAdd, Nat.reduceLT, Nat.reduceSub, ↓reduceIte, Int.reduceBEq, es_cons, es_nil, e_asg, e_par, e_ifs, e_ret, e_retn, e_exp, e_pas, x_non, x_bl, x_int, x_str, x_var, x_glb, x_fnv, x_bin, x_neg, x_not, x_and, x_or, x_cmp, x_chn, x_ife, x_call, x_callk, x_blt, x_isi, x_mth, x_idx, x_slc, x_tup, x_list, x_thaw, x_frz, x_rgv, xs_nil, xs_cons, xo_none, xo_some, xc_none, xc_some, xt_var, xt_idx, xt_tup, xts_nil, xts_cons, tg_nil, tg_cons, asgs_nil, asgs_cons, bind_ok, tru_bl, toI_int, oD_some, o_int, Option.map_some, Option.bind_some, List.getElem?_cons_zero, List.getElem?_cons_succ, List.set_cons_zero, List.set_cons_succ, List.length_cons, List.length_nil, List.map_cons, List.map_nil, List.nil_append, List.cons_append, Bool.not_true, Bool.not_false, Bool.true_and, Bool.and_true, Bool.false_and, Bool.true_or, Bool.false_or, reduceCtorEq, decide_true, decide_false, b_intI, b_len, b_sum, b_all, b_any, b_tuple, b_list, b_abs, len_tup, len_frz, len_scr, ix_tup, ix_frz, ix_scr, sv_frz, sv_tup, sv_scr, lv_frz, lv_scr, sl_tup, sl_frz, sl_scr, walk_tup, walk_frz, walk_scr, walk_str, xi_val, xi_rng1, xi_rng2, xi_enum, xi_zip, lock_nil, noX_okk, thaw_frz, List.length_map, nI_len, sl_str, z4, letters_all ns.length h.2.1]
    simp
  have m4 := h.2.1
  have hs6 := sp_sieve (pic_due h) k (by omega) (st.set i (pot3 a' b' c') ++ [Obj.lst ((due ns).map D.int)])
  have p16 : 2 ^ ns.length ≤ 16 := by
    have := (pic_due h).len
    rw [due_len] at this
    exact this
  have p0 : 0 < 2 ^ ns.length := Nat.pow_pos (by decide)
  have hj := sp_join (pic_due h) (q := 2 ^ ns.length - 1) (by omega) k (by omega) (st.set i (pot3 a' b' c') ++ [Obj.lst ((due ns).map D.int)])
  obtain ⟨e1, e2⟩ := sieve_all h.1 m4 (due_len ns)
  rw [e1] at hs6
  rw [e2] at hj
  have hsame := sp_same 1 (.frz [.int (cut (due ns) (some 1) none).sum, .int (cut (due ns) (some 1) none).sum]) ⟨by simp, fun d hd => by
    simp only [List.mem_cons, List.not_mem_nil, or_false] at hd
    rcases hd with rfl | rfl <;> trivial⟩ k (by omega) (st.set i (pot3 a' b' c') ++ [Obj.lst ((due ns).map D.int)])
  have hr : rep [D.int (cut (due ns) (some 1) none).sum] 2 = some (.frz [.int (cut (due ns) (some 1) none).sum, .int (cut (due ns) (some 1) none).sum]) := rep_one (k := 2) (by decide)
  have hz1 : ∀ m : Nat, m ≤ 1000 → szOk m = true := fun m hm => szOk_of (by omega)
  have h9 : ex (PL.call T Gc 100000 k) Gc 100000 s89_9 [some (.lst i), some (pic (nI ns)), some (.lst st.length), x, y4, y5, y6, some (pic (due ns)), y8, some (.int (ns.length : Nat)), some (.str (zc (2 ^ ns.length - 1))), y11, y12, some (pic (nI o))] (st.set i (pot3 a' b' c') ++ [Obj.lst ((due ns).map D.int)]) = .ok (.rt (.bl true)) (st.set i (pot3 a' b' c') ++ [Obj.lst ((due ns).map D.int)]) := by
    simp only [s89_9, Nat.zero_add, Nat.reduceAdd, Nat.reduceLT, Nat.reduceSub, ↓reduceIte, Int.reduceBEq, es_cons, es_nil, e_asg, e_par, e_ifs, e_ret, e_retn, e_exp, e_pas, x_non, x_bl, x_int, x_str, x_var, x_glb, x_fnv, x_bin, x_neg, x_not, x_and, x_or, x_cmp, x_chn, x_ife, x_call, x_callk, x_blt, x_isi, x_mth, x_idx, x_slc, x_tup, x_list, x_thaw, x_frz, x_rgv, xs_nil, xs_cons, xo_none, xo_some, xc_none, xc_some, xt_var, xt_idx, xt_tup, xts_nil, xts_cons, tg_nil, tg_cons, asgs_nil, asgs_cons, bind_ok, tru_bl, toI_int, oD_some, o_int, Option.map_some, Option.bind_some, List.getElem?_cons_zero, List.getElem?_cons_succ, List.set_cons_zero, List.set_cons_succ, List.length_cons, List.length_nil, List.map_cons, List.map_nil, List.nil_append, List.cons_append, Bool.not_true, Bool.not_false, Bool.true_and, Bool.and_true, Bool.false_and, Bool.true_or, Bool.false_or, reduceCtorEq, decide_true, decide_false, b_intI, b_len, b_sum, b_all, b_any, b_tuple, b_list, b_abs, len_tup, len_frz, len_scr, ix_tup, ix_frz, ix_scr, sv_frz, sv_tup, sv_scr, lv_frz, lv_scr, sl_tup, sl_frz, sl_scr, walk_tup, walk_frz, walk_scr, walk_str, xi_val, xi_rng1, xi_rng2, xi_enum, xi_zip, lock_nil, noX_okk, thaw_frz, hs6, hj, hz1 2 (by decide), hz1 1 (by decide), cut_map, ints_map, o_rep, hr, hsame]
  rw [call_eq (F := ⟨2, 14, b89⟩) rfl rfl]
  show fin _ (exs _ _ _ b89 [some (.lst i), some (pic (nI ns)), none, none, none, none, none, none, none, none, none, none, none, none] st) = _
  have h0' := h0
  change exs _ _ _ (.cons s89_0 (.cons s89_1 (.cons s89_2 .nil))) _ _ = _ at h0'
  rw [b89_eq, exs_app h0']
  rw [exs_cons (is_3 (by omega) h), exs_cons h4, exs_cons h5, exs_cons h6, exs_cons (s := s89_7) (env' := [some (.lst i), some (pic (nI ns)), some (.lst st.length), x, y4, y5, y6, some (pic (due ns)), y8, some (.int (ns.length : Nat)), some (.str (zc (2 ^ ns.length - 1))), y11, y12, some (pic (nI o))]) (st' := st.set i (pot3 a' b' c') ++ [Obj.lst ((due ns).map D.int)]) (by simp only [s89_7, Nat.zero_add, Nat.reduceAdd, Nat.reduceLT, Nat.reduceSub, ↓reduceIte, Int.reduceBEq, es_cons, es_nil, e_asg, e_par, e_ifs, e_ret, e_retn, e_exp, e_pas, x_non, x_bl, x_int, x_str, x_var, x_glb, x_fnv, x_bin, x_neg, x_not, x_and, x_or, x_cmp, x_chn, x_ife, x_call, x_callk, x_blt, x_isi, x_mth, x_idx, x_slc, x_tup, x_list, x_thaw, x_frz, x_rgv, xs_nil, xs_cons, xo_none, xo_some, xc_none, xc_some, xt_var, xt_idx, xt_tup, xts_nil, xts_cons, tg_nil, tg_cons, asgs_nil, asgs_cons, bind_ok, tru_bl, toI_int, oD_some, o_int, Option.map_some, Option.bind_some, List.getElem?_cons_zero, List.getElem?_cons_succ, List.set_cons_zero, List.set_cons_succ, List.length_cons, List.length_nil, List.map_cons, List.map_nil, List.nil_append, List.cons_append, Bool.not_true, Bool.not_false, Bool.true_and, Bool.and_true, Bool.false_and, Bool.true_or, Bool.false_or, reduceCtorEq, decide_true, decide_false, b_intI, b_len, b_sum, b_all, b_any, b_tuple, b_list, b_abs, len_tup, len_frz, len_scr, ix_tup, ix_frz, ix_scr, sv_frz, sv_tup, sv_scr, lv_frz, lv_scr, sl_tup, sl_frz, sl_scr, walk_tup, walk_frz, walk_scr, walk_str, xi_val, xi_rng1, xi_rng2, xi_enum, xi_zip, lock_nil, noX_okk, thaw_frz, h7]), exs_cons (is_8 (by omega) h hp), exs_rt h9]
  show back st.length (.bl true) _ = _
  unfold back
  rw [if_neg (by simp), if_pos (show refsLt _ (D.bl true) = true from rfl), List.take_left' (by simp)]
def s90_0i : S := (.fr (.var 4) (.rng1 (.bin .add (.int 1) (.call 50 (.cons (.var 0) (.cons (.int 4) .nil))))) (.cons (.asg (.var 2) (.bin .add (.var 2) (.tup (.cons (.bin .add (.int 1) (.call 50 (.cons (.var 0) (.cons (.var 3) .nil)))) .nil)))) .nil))
def s90_0 : S := (.fr (.var 1) (.rng1 (.int 30)) (.cons (.par [2, 3] (.cons (.tup .nil) (.cons (.call 51 (.cons (.var 0) (.cons (.tup (.cons (.int 6) (.cons (.int 12) (.cons (.int 30) (.cons (.int 60) .nil))))) .nil))) .nil))) (.cons s90_0i (.cons (.ifs (.not (.call 89 (.cons (.var 0) (.cons (.var 2) .nil)))) (.cons (.ret (.bl false)) .nil) .nil) .nil))))
def s90_1 : S := (.ret (.bl true))
theorem b90_eq : b90 = (.cons s90_0 (.cons s90_1 .nil)) := rfl
def s91_0 : S := (.asg (.var 1) (.call 87 (.cons (.var 0) (.cons (.int 5) .nil))))
def s91_1 : S := (.ifs (.not (.blt .all (.cons (.comp [2] (.call 89 (.cons (.var 1) (.cons (.tup (.cons (.var 2) .nil)) .nil))) (.var 2) (.rng2 (.int 1) (.int 61)) .none) .nil))) (.cons (.ret (.bl false)) .nil) .nil)
def s91_2 : S := (.ret (.blt .all (.cons (.comp [3] (.call 90 (.cons (.call 87 (.cons (.var 0) (.cons (.var 3) .nil))) .nil)) (.var 3) (.rng1 (.blt .max2 (.cons (.int 2) (.cons (.blt .min2 (.cons (.blt .len (.cons (.var 0) .nil)) (.cons (.int 4) .nil))) .nil)))) .none) .nil)))
theorem b91_eq : b91 = (.cons s91_0 (.cons s91_1 (.cons s91_2 .nil))) := rfl
theorem set_self {st : Sto} {i : Nat} {o : Obj} (hi : st[i]? = some o) : st.set i o = st := by
  obtain ⟨h, e⟩ := List.getElem?_eq_some_iff.mp hi
  rw [← e]
  exact List.set_getElem_self h
theorem is_row {n i : Nat} {st : Sto} {a b c : Int} {mo : Nat} {z1 z4 : Option D} (hn : 1 ≤ n) (hi : st[i]? = some (pot3 a b c)) (m1 : 1 ≤ mo) (m2 : mo ≤ 60) :
    ∃ a' b' c' ns y4, Nums ns ∧ ex (PL.call T Gc 100000 n) Gc 100000 s90_0i [some (.lst i), z1, some (.tup []), some (.int (mo : Nat)), z4] st =
    .ok (.nx [some (.lst i), z1, some (pic (nI ns)), some (.int (mo : Nat)), y4]) (st.set i (pot3 a' b' c')) := by
  have hlt : i < st.length := (List.getElem?_eq_some_iff.mp hi).1
  have gs : ∀ o, (st.set i o)[i]? = some o := fun o => List.getElem?_set_self hlt
  obtain ⟨a1, b1, c1, r, r0, r1, hd⟩ := sp_draw hn hi (m := 4) (by decide) (by decide)
  obtain ⟨q, rfl⟩ : ∃ q : Nat, r = q := ⟨r.toNat, by omega⟩
  have rg := rng_nat (n := 1 + q) (by omega)
  have ea : iop .add 1 (q : Int) = some ((1 + q : Nat) : Int) := by
    rw [i_add]
    simp
  obtain ⟨e, s, he, a', b', c', ns, y4, hq, hs, hlen, hb⟩ := ex_for2 (C := PL.call T Gc 100000 n) (G := Gc) (W := 100000) (t := .var 4) (it := .rng1 (.bin .add (.int 1) (.call 50 (.cons (.var 0) (.cons (.int 4) .nil)))))
    (b := (.cons (.asg (.var 2) (.bin .add (.var 2) (.tup (.cons (.bin .add (.int 1) (.call 50 (.cons (.var 0) (.cons (.var 3) .nil)))) .nil)))) .nil))
    (env := [some (.lst i), z1, some (.tup []), some (.int (mo : Nat)), z4]) (st := st) (st0 := st.set i (pot3 a1 b1 c1)) (ds := rngD 0 (1 + q))
    (fun j e s => ∃ (a' b' c' : Int) (ns : List Nat) (y4 : Option D), e = [some (.lst i), z1, some (pic (nI ns)), some (.int (mo : Nat)), y4] ∧ s = st.set i (pot3 a' b' c') ∧ ns.length = j ∧ ∀ x ∈ ns, 1 ≤ x ∧ x ≤ 60)
    (by simp only [Nat.zero_add, Nat.reduceAdd, Nat.reduceLT, Nat.reduceSub, ↓reduceIte, Int.reduceBEq, es_cons, es_nil, e_asg, e_par, e_ifs, e_ret, e_retn, e_exp, e_pas, x_non, x_bl, x_int, x_str, x_var, x_glb, x_fnv, x_bin, x_neg, x_not, x_and, x_or, x_cmp, x_chn, x_ife, x_call, x_callk, x_blt, x_isi, x_mth, x_idx, x_slc, x_tup, x_list, x_thaw, x_frz, x_rgv, xs_nil, xs_cons, xo_none, xo_some, xc_none, xc_some, xt_var, xt_idx, xt_tup, xts_nil, xts_cons, tg_nil, tg_cons, asgs_nil, asgs_cons, bind_ok, tru_bl, toI_int, oD_some, o_int, Option.map_some, Option.bind_some, List.getElem?_cons_zero, List.getElem?_cons_succ, List.set_cons_zero, List.set_cons_succ, List.length_cons, List.length_nil, List.map_cons, List.map_nil, List.nil_append, List.cons_append, Bool.not_true, Bool.not_false, Bool.true_and, Bool.and_true, Bool.false_and, Bool.true_or, Bool.false_or, reduceCtorEq, decide_true, decide_false, b_intI, b_len, b_sum, b_all, b_any, b_tuple, b_list, b_abs, len_tup, len_frz, len_scr, ix_tup, ix_frz, ix_scr, sv_frz, sv_tup, sv_scr, lv_frz, lv_scr, sl_tup, sl_frz, sl_scr, walk_tup, walk_frz, walk_scr, walk_str, xi_val, xi_rng1, xi_rng2, xi_enum, xi_zip, lock_nil, noX_okk, thaw_frz, hd, ea, rg, Int.toNat_natCast]) ⟨a1, b1, c1, [], z4, rfl, rfl, rfl, by simp⟩ (fun j d hd e s ⟨a', b', c', ns, y4, he, hs, hlen, hb⟩ => by
      subst he hs
      obtain ⟨hj, rfl⟩ := rng_get hd
      obtain ⟨a2, b2, c2, r, r0, r1, hdr⟩ := sp_draw hn (gs (pot3 a' b' c')) (m := (mo : Nat)) (by omega) (by omega)
      rw [List.set_set] at hdr
      obtain ⟨w, rfl⟩ : ∃ w : Nat, r = w := ⟨r.toNat, by omega⟩
      have ew : iop .add 1 (w : Int) = some ((1 + w : Nat) : Int) := by
        rw [i_add]
        simp
      have hz : szOk ((List.map D.int (nI ns)).length + (0 + 1)) = true := szOk_of (by rw [List.length_map, nI_len]; omega)
      have hz1 : szOk 1 = true := rfl
      have hz2 : szOk ((nI ns).length + 1) = true := szOk_of (by rw [nI_len]; omega)
      refine ⟨[some (.lst i), z1, some (pic (nI (ns ++ [1 + w]))), some (.int (mo : Nat)), some (.int (0 + (j : Nat)))], _, .inl ?_, a2, b2, c2, ns ++ [1 + w], _, rfl, rfl, by simp [hlen], fun x hx => ?_⟩
      · have e1 : (nI (ns ++ [1 + w])).map D.int = (nI ns).map D.int ++ [.int ((1 + w : Nat) : Int)] := by
          unfold nI
          simp
        simp only [Nat.zero_add, Nat.reduceAdd, Nat.reduceLT, Nat.reduceSub, ↓reduceIte, Int.reduceBEq, es_cons, es_nil, e_asg, e_par, e_ifs, e_ret, e_retn, e_exp, e_pas, x_non, x_bl, x_int, x_str, x_var, x_glb, x_fnv, x_bin, x_neg, x_not, x_and, x_or, x_cmp, x_chn, x_ife, x_call, x_callk, x_blt, x_isi, x_mth, x_idx, x_slc, x_tup, x_list, x_thaw, x_frz, x_rgv, xs_nil, xs_cons, xo_none, xo_some, xc_none, xc_some, xt_var, xt_idx, xt_tup, xts_nil, xts_cons, tg_nil, tg_cons, asgs_nil, asgs_cons, bind_ok, tru_bl, toI_int, oD_some, o_int, Option.map_some, Option.bind_some, List.getElem?_cons_zero, List.getElem?_cons_succ, List.set_cons_zero, List.set_cons_succ, List.length_cons, List.length_nil, List.map_cons, List.map_nil, List.nil_append, List.cons_append, Bool.not_true, Bool.not_false, Bool.true_and, Bool.and_true, Bool.false_and, Bool.true_or, Bool.false_or, reduceCtorEq, decide_true, decide_false, b_intI, b_len, b_sum, b_all, b_any, b_tuple, b_list, b_abs, len_tup, len_frz, len_scr, ix_tup, ix_frz, ix_scr, sv_frz, sv_tup, sv_scr, lv_frz, lv_scr, sl_tup, sl_frz, sl_scr, walk_tup, walk_frz, walk_scr, walk_str, xi_val, xi_rng1, xi_rng2, xi_enum, xi_zip, lock_nil, noX_okk, thaw_frz, hdr, ew, hz1, o_tup, List.length_map, hz2, pic, e1]
      · rcases List.mem_append.mp hx with hx | hx
        · exact hb x hx
        · simp at hx
          omega)
  rw [rng_len] at hlen
  refine ⟨a', b', c', ns, y4, ⟨by omega, by omega, hb⟩, ?_⟩
  unfold s90_0i
  rw [he, hq, hs]
theorem sp_right {n i : Nat} {st : Sto} {a b c : Int} (hn : 10 ≤ n) (hi : st[i]? = some (pot3 a b c)) :
    ∃ a' b' c', PL.call T Gc 100000 n 90 [.lst i] st = .ok (.bl true) (st.set i (pot3 a' b' c')) := by
  obtain ⟨k, rfl⟩ : ∃ k, n = k + 1 := ⟨n - 1, by omega⟩
  have hlt : i < st.length := (List.getElem?_eq_some_iff.mp hi).1
  have gs : ∀ o, (st.set i o)[i]? = some o := fun o => List.getElem?_set_self hlt
  obtain ⟨e, s, he, a', b', c', y1, y2, y3, y4, hq, hs⟩ : ∃ e s, ex (PL.call T Gc 100000 k) Gc 100000 s90_0 [some (.lst i), none, none, none, none] st = .ok (.nx e) s ∧
      (∃ a' b' c' y1 y2 y3 y4, e = [some (.lst i), y1, y2, y3, y4] ∧ s = st.set i (pot3 a' b' c')) := by
    unfold s90_0
    refine ex_fold2 (fun k : Nat => D.int (k : Nat)) (List.range 30) (fun (_ : Unit) e s => ∃ a' b' c' y1 y2 y3 y4, e = [some (.lst i), y1, y2, y3, y4] ∧ s = st.set i (pot3 a' b' c')) (fun u _ => u) () (st0 := st) ?_ ⟨a, b, c, _, _, _, _, rfl, (set_self hi).symm⟩ fun q hq _ e s ⟨a1, b1, c1, y1, y2, y3, y4, he, hs⟩ => ?_
    · have r : rngOk 30 = true := rfl
      simp only [Nat.zero_add, Nat.reduceAdd, Nat.reduceLT, Nat.reduceSub, ↓reduceIte, Int.reduceBEq, es_cons, es_nil, e_asg, e_par, e_ifs, e_ret, e_retn, e_exp, e_pas, x_non, x_bl, x_int, x_str, x_var, x_glb, x_fnv, x_bin, x_neg, x_not, x_and, x_or, x_cmp, x_chn, x_ife, x_call, x_callk, x_blt, x_isi, x_mth, x_idx, x_slc, x_tup, x_list, x_thaw, x_frz, x_rgv, xs_nil, xs_cons, xo_none, xo_some, xc_none, xc_some, xt_var, xt_idx, xt_tup, xts_nil, xts_cons, tg_nil, tg_cons, asgs_nil, asgs_cons, bind_ok, tru_bl, toI_int, oD_some, o_int, Option.map_some, Option.bind_some, List.getElem?_cons_zero, List.getElem?_cons_succ, List.set_cons_zero, List.set_cons_succ, List.length_cons, List.length_nil, List.map_cons, List.map_nil, List.nil_append, List.cons_append, Bool.not_true, Bool.not_false, Bool.true_and, Bool.and_true, Bool.false_and, Bool.true_or, Bool.false_or, reduceCtorEq, decide_true, decide_false, b_intI, b_len, b_sum, b_all, b_any, b_tuple, b_list, b_abs, len_tup, len_frz, len_scr, ix_tup, ix_frz, ix_scr, sv_frz, sv_tup, sv_scr, lv_frz, lv_scr, sl_tup, sl_frz, sl_scr, walk_tup, walk_frz, walk_scr, walk_str, xi_val, xi_rng1, xi_rng2, xi_enum, xi_zip, lock_nil, noX_okk, thaw_frz, r, rng_map]
      simp
    · subst he hs
      obtain ⟨a2, b2, c2, d, hd, hpk⟩ := sp_pick (n := k) (by omega) (gs (pot3 a1 b1 c1)) (ds := [.int 6, .int 12, .int 30, .int 60]) (by decide) (by decide)
      rw [List.set_set] at hpk
      obtain ⟨mo, m1, m2, rfl⟩ : ∃ mo : Nat, 1 ≤ mo ∧ mo ≤ 60 ∧ d = .int (mo : Nat) := by
        simp only [List.mem_cons, List.not_mem_nil, or_false] at hd
        rcases hd with rfl | rfl | rfl | rfl
        · exact ⟨6, by decide, by decide, rfl⟩
        · exact ⟨12, by decide, by decide, rfl⟩
        · exact ⟨30, by decide, by decide, rfl⟩
        · exact ⟨60, by decide, by decide, rfl⟩
      obtain ⟨a3, b3, c3, ns, y4', hN, hrow⟩ := is_row (n := k) (z1 := some (.int (q : Nat))) (z4 := y4) (by omega) (gs (pot3 a2 b2 c2)) m1 m2
      rw [List.set_set] at hrow
      obtain ⟨a4, b4, c4, hr⟩ := sp_isright (n := k) (by omega) (gs (pot3 a3 b3 c3)) hN
      rw [List.set_set] at hr
      have z4 : szOk 4 = true := rfl
      have z0 : szOk 0 = true := rfl
      refine ⟨[some (.lst i), some (.int (q : Nat)), some (pic (nI ns)), some (.int (mo : Nat)), y4'], _, .inl ?_, a4, b4, c4, _, _, _, _, rfl, rfl⟩
      simp only [Nat.zero_add, Nat.reduceAdd, Nat.reduceLT, Nat.reduceSub, ↓reduceIte, Int.reduceBEq, es_cons, es_nil, e_asg, e_par, e_ifs, e_ret, e_retn, e_exp, e_pas, x_non, x_bl, x_int, x_str, x_var, x_glb, x_fnv, x_bin, x_neg, x_not, x_and, x_or, x_cmp, x_chn, x_ife, x_call, x_callk, x_blt, x_isi, x_mth, x_idx, x_slc, x_tup, x_list, x_thaw, x_frz, x_rgv, xs_nil, xs_cons, xo_none, xo_some, xc_none, xc_some, xt_var, xt_idx, xt_tup, xts_nil, xts_cons, tg_nil, tg_cons, asgs_nil, asgs_cons, bind_ok, tru_bl, toI_int, oD_some, o_int, Option.map_some, Option.bind_some, List.getElem?_cons_zero, List.getElem?_cons_succ, List.set_cons_zero, List.set_cons_succ, List.length_cons, List.length_nil, List.map_cons, List.map_nil, List.nil_append, List.cons_append, Bool.not_true, Bool.not_false, Bool.true_and, Bool.and_true, Bool.false_and, Bool.true_or, Bool.false_or, reduceCtorEq, decide_true, decide_false, b_intI, b_len, b_sum, b_all, b_any, b_tuple, b_list, b_abs, len_tup, len_frz, len_scr, ix_tup, ix_frz, ix_scr, sv_frz, sv_tup, sv_scr, lv_frz, lv_scr, sl_tup, sl_frz, sl_scr, walk_tup, walk_frz, walk_scr, walk_str, xi_val, xi_rng1, xi_rng2, xi_enum, xi_zip, lock_nil, noX_okk, thaw_frz, z4, z0, hpk, hrow, hr]
  refine ⟨a', b', c', ?_⟩
  refine call_rt (F := ⟨1, 5, b90⟩) rfl rfl (by simp) ?_
  show exs _ _ _ b90 [some (.lst i), none, none, none, none] st = _
  rw [b90_eq, exs_cons he, hq, hs]
  simp only [s90_1, Nat.zero_add, Nat.reduceAdd, Nat.reduceLT, Nat.reduceSub, ↓reduceIte, Int.reduceBEq, es_cons, es_nil, e_asg, e_par, e_ifs, e_ret, e_retn, e_exp, e_pas, x_non, x_bl, x_int, x_str, x_var, x_glb, x_fnv, x_bin, x_neg, x_not, x_and, x_or, x_cmp, x_chn, x_ife, x_call, x_callk, x_blt, x_isi, x_mth, x_idx, x_slc, x_tup, x_list, x_thaw, x_frz, x_rgv, xs_nil, xs_cons, xo_none, xo_some, xc_none, xc_some, xt_var, xt_idx, xt_tup, xts_nil, xts_cons, tg_nil, tg_cons, asgs_nil, asgs_cons, bind_ok, tru_bl, toI_int, oD_some, o_int, Option.map_some, Option.bind_some, List.getElem?_cons_zero, List.getElem?_cons_succ, List.set_cons_zero, List.set_cons_succ, List.length_cons, List.length_nil, List.map_cons, List.map_nil, List.nil_append, List.cons_append, Bool.not_true, Bool.not_false, Bool.true_and, Bool.and_true, Bool.false_and, Bool.true_or, Bool.false_or, reduceCtorEq, decide_true, decide_false, b_intI, b_len, b_sum, b_all, b_any, b_tuple, b_list, b_abs, len_tup, len_frz, len_scr, ix_tup, ix_frz, ix_scr, sv_frz, sv_tup, sv_scr, lv_frz, lv_scr, sl_tup, sl_frz, sl_scr, walk_tup, walk_frz, walk_scr, walk_str, xi_val, xi_rng1, xi_rng2, xi_enum, xi_zip, lock_nil, noX_okk, thaw_frz]
theorem pure_law (ns : List Int) (hl : ns.length ≤ 63) : ∃ st, PL.call T Gc 100000 60 91 [.scr (ns.map .int)] [] = .ok (.bl true) st := by
  obtain ⟨a, b, c, h0⟩ := sp_pot (n := 59) (by decide) (st := []) (t := 5) hl (by decide)
  have e0 : ex (PL.call T Gc 100000 59) Gc 100000 s91_0 [some (.scr (ns.map .int)), none, none, none] [] = .ok (.nx [some (.scr (ns.map .int)), some (.lst 0), none, none]) [pot3 a b c] := by
    have h0' : PL.call T Gc 100000 59 87 [.scr (ns.map D.int), .int 5] [] = .ok (.lst 0) [pot3 a b c] := h0
    simp only [s91_0, Nat.zero_add, Nat.reduceAdd, Nat.reduceLT, Nat.reduceSub, ↓reduceIte, Int.reduceBEq, es_cons, es_nil, e_asg, e_par, e_ifs, e_ret, e_retn, e_exp, e_pas, x_non, x_bl, x_int, x_str, x_var, x_glb, x_fnv, x_bin, x_neg, x_not, x_and, x_or, x_cmp, x_chn, x_ife, x_call, x_callk, x_blt, x_isi, x_mth, x_idx, x_slc, x_tup, x_list, x_thaw, x_frz, x_rgv, xs_nil, xs_cons, xo_none, xo_some, xc_none, xc_some, xt_var, xt_idx, xt_tup, xts_nil, xts_cons, tg_nil, tg_cons, asgs_nil, asgs_cons, bind_ok, tru_bl, toI_int, oD_some, o_int, Option.map_some, Option.bind_some, List.getElem?_cons_zero, List.getElem?_cons_succ, List.set_cons_zero, List.set_cons_succ, List.length_cons, List.length_nil, List.map_cons, List.map_nil, List.nil_append, List.cons_append, Bool.not_true, Bool.not_false, Bool.true_and, Bool.and_true, Bool.false_and, Bool.true_or, Bool.false_or, reduceCtorEq, decide_true, decide_false, b_intI, b_len, b_sum, b_all, b_any, b_tuple, b_list, b_abs, len_tup, len_frz, len_scr, ix_tup, ix_frz, ix_scr, sv_frz, sv_tup, sv_scr, lv_frz, lv_scr, sl_tup, sl_frz, sl_scr, walk_tup, walk_frz, walk_scr, walk_str, xi_val, xi_rng1, xi_rng2, xi_enum, xi_zip, lock_nil, noX_okk, thaw_frz, h0']
  obtain ⟨s1, h1, a1, b1, c1, p1⟩ := ev_all (C := PL.call T Gc 100000 59) (G := Gc) (own := [2]) (elt := .call 89 (.cons (.var 1) (.cons (.tup (.cons (.var 2) .nil)) .nil))) (tg := .var 2) (it := .rng2 (.int 1) (.int 61)) (c := .none) (env := [some (.scr (ns.map .int)), some (.lst 0), none, none]) (st := [pot3 a b c]) (ds := rngD 1 60) (fun s => ∃ a b c, s = [pot3 a b c]) (.bl true) rfl (by decide) ⟨a, b, c, rfl⟩ (fun d hd s ⟨a, b, c, hs⟩ => by
    subst hs
    obtain ⟨j, hj, rfl⟩ := mem_rng hd
    obtain ⟨a', b', c', h⟩ := sp_isright (n := 59) (st := [pot3 a b c]) (i := 0) (ns := [1 + j]) (by decide) rfl ⟨by simp, by simp, fun x hx => by simp at hx; omega⟩
    have e : (1 : Int) + (j : Nat) = ((1 + j : Nat) : Int) := by simp
    have h' : PL.call T Gc 100000 59 89 [.lst 0, .tup [.int ((1 + j : Nat) : Int)]] [pot3 a b c] = .ok (.bl true) [pot3 a' b' c'] := h
    have z1 : szOk 1 = true := rfl
    refine ⟨_, ?_, a', b', c', rfl⟩
    rw [e]
    simp only [compB, wipe, Nat.zero_add, Nat.reduceAdd, Nat.reduceLT, Nat.reduceSub, ↓reduceIte, Int.reduceBEq, es_cons, es_nil, e_asg, e_par, e_ifs, e_ret, e_retn, e_exp, e_pas, x_non, x_bl, x_int, x_str, x_var, x_glb, x_fnv, x_bin, x_neg, x_not, x_and, x_or, x_cmp, x_chn, x_ife, x_call, x_callk, x_blt, x_isi, x_mth, x_idx, x_slc, x_tup, x_list, x_thaw, x_frz, x_rgv, xs_nil, xs_cons, xo_none, xo_some, xc_none, xc_some, xt_var, xt_idx, xt_tup, xts_nil, xts_cons, tg_nil, tg_cons, asgs_nil, asgs_cons, bind_ok, tru_bl, toI_int, oD_some, o_int, Option.map_some, Option.bind_some, List.getElem?_cons_zero, List.getElem?_cons_succ, List.set_cons_zero, List.set_cons_succ, List.length_cons, List.length_nil, List.map_cons, List.map_nil, List.nil_append, List.cons_append, Bool.not_true, Bool.not_false, Bool.true_and, Bool.and_true, Bool.false_and, Bool.true_or, Bool.false_or, reduceCtorEq, decide_true, decide_false, b_intI, b_len, b_sum, b_all, b_any, b_tuple, b_list, b_abs, len_tup, len_frz, len_scr, ix_tup, ix_frz, ix_scr, sv_frz, sv_tup, sv_scr, lv_frz, lv_scr, sl_tup, sl_frz, sl_scr, walk_tup, walk_frz, walk_scr, walk_str, xi_val, xi_rng1, xi_rng2, xi_enum, xi_zip, lock_nil, noX_okk, thaw_frz, z1, h'])
  subst p1
  have e1 : ex (PL.call T Gc 100000 59) Gc 100000 s91_1 [some (.scr (ns.map .int)), some (.lst 0), none, none] [pot3 a b c] = .ok (.nx [some (.scr (ns.map .int)), some (.lst 0), none, none]) [pot3 a1 b1 c1] := by
    simp only [s91_1, e_ifs, x_not, x_blt, xs_cons, xs_nil, h1, bind_ok, all_true, oD_some, tru_bl, Bool.not_true, es_nil]
    rfl
  obtain ⟨m, hm, m2⟩ : ∃ m : Nat, m ≤ 4 ∧ evi (PL.call T Gc 100000 59) Gc (.rng1 (.blt .max2 (.cons (.int 2) (.cons (.blt .min2 (.cons (.blt .len (.cons (.var 0) .nil)) (.cons (.int 4) .nil))) .nil)))) [some (.scr (ns.map .int)), some (.lst 0), none, none] [pot3 a1 b1 c1] = .ok (rngD 0 m, []) [pot3 a1 b1 c1] := by
    refine ⟨if ns.length ≤ 2 then 2 else if 4 < ns.length then 4 else ns.length, by split <;> (try split) <;> omega, ?_⟩
    have hb : (if (if (4 : Int) < (ns.length : Int) then (4 : Int) else (ns.length : Int)) > 2 then (if (4 : Int) < (ns.length : Int) then (4 : Int) else (ns.length : Int)) else 2) = ((if ns.length ≤ 2 then 2 else if 4 < ns.length then 4 else ns.length : Nat) : Int) := by
      split <;> split <;> (try split) <;> (try split) <;> omega
    have r : rngOk ((if ns.length ≤ 2 then 2 else if 4 < ns.length then 4 else ns.length : Nat) : Int) = true := rng_nat (by split <;> (try split) <;> omega)
    simp only [Nat.zero_add, Nat.reduceAdd, Nat.reduceLT, Nat.reduceSub, ↓reduceIte, Int.reduceBEq, es_cons, es_nil, e_asg, e_par, e_ifs, e_ret, e_retn, e_exp, e_pas, x_non, x_bl, x_int, x_str, x_var, x_glb, x_fnv, x_bin, x_neg, x_not, x_and, x_or, x_cmp, x_chn, x_ife, x_call, x_callk, x_blt, x_isi, x_mth, x_idx, x_slc, x_tup, x_list, x_thaw, x_frz, x_rgv, xs_nil, xs_cons, xo_none, xo_some, xc_none, xc_some, xt_var, xt_idx, xt_tup, xts_nil, xts_cons, tg_nil, tg_cons, asgs_nil, asgs_cons, bind_ok, tru_bl, toI_int, oD_some, o_int, Option.map_some, Option.bind_some, List.getElem?_cons_zero, List.getElem?_cons_succ, List.set_cons_zero, List.set_cons_succ, List.length_cons, List.length_nil, List.map_cons, List.map_nil, List.nil_append, List.cons_append, Bool.not_true, Bool.not_false, Bool.true_and, Bool.and_true, Bool.false_and, Bool.true_or, Bool.false_or, reduceCtorEq, decide_true, decide_false, b_intI, b_len, b_sum, b_all, b_any, b_tuple, b_list, b_abs, len_tup, len_frz, len_scr, ix_tup, ix_frz, ix_scr, sv_frz, sv_tup, sv_scr, lv_frz, lv_scr, sl_tup, sl_frz, sl_scr, walk_tup, walk_frz, walk_scr, walk_str, xi_val, xi_rng1, xi_rng2, xi_enum, xi_zip, lock_nil, noX_okk, thaw_frz, List.length_map, b_min, b_max, hb, r, Int.toNat_natCast]
  obtain ⟨s2, h2, _⟩ := ev_all (C := PL.call T Gc 100000 59) (G := Gc) (own := [3]) (elt := .call 90 (.cons (.call 87 (.cons (.var 0) (.cons (.var 3) .nil))) .nil)) (tg := .var 3) (c := .none) (fun s => True) (.bl true) m2 (by rw [rng_len]; omega) trivial (fun d hd s _ => by
    obtain ⟨j, hj, rfl⟩ := mem_rng hd
    obtain ⟨a, b, c, h⟩ := sp_pot (n := 59) (by decide) (st := s) (t := j) hl (by omega)
    obtain ⟨a', b', c', hr⟩ := sp_right (n := 59) (st := s ++ [pot3 a b c]) (i := s.length) (a := a) (b := b) (c := c) (by decide) (by simp)
    refine ⟨(s ++ [pot3 a b c]).set s.length (pot3 a' b' c'), ?_, trivial⟩
    simp only [compB, wipe, Nat.zero_add, Nat.reduceAdd, Nat.reduceLT, Nat.reduceSub, ↓reduceIte, Int.reduceBEq, es_cons, es_nil, e_asg, e_par, e_ifs, e_ret, e_retn, e_exp, e_pas, x_non, x_bl, x_int, x_str, x_var, x_glb, x_fnv, x_bin, x_neg, x_not, x_and, x_or, x_cmp, x_chn, x_ife, x_call, x_callk, x_blt, x_isi, x_mth, x_idx, x_slc, x_tup, x_list, x_thaw, x_frz, x_rgv, xs_nil, xs_cons, xo_none, xo_some, xc_none, xc_some, xt_var, xt_idx, xt_tup, xts_nil, xts_cons, tg_nil, tg_cons, asgs_nil, asgs_cons, bind_ok, tru_bl, toI_int, oD_some, o_int, Option.map_some, Option.bind_some, List.getElem?_cons_zero, List.getElem?_cons_succ, List.set_cons_zero, List.set_cons_succ, List.length_cons, List.length_nil, List.map_cons, List.map_nil, List.nil_append, List.cons_append, Bool.not_true, Bool.not_false, Bool.true_and, Bool.and_true, Bool.false_and, Bool.true_or, Bool.false_or, reduceCtorEq, decide_true, decide_false, b_intI, b_len, b_sum, b_all, b_any, b_tuple, b_list, b_abs, len_tup, len_frz, len_scr, ix_tup, ix_frz, ix_scr, sv_frz, sv_tup, sv_scr, lv_frz, lv_scr, sl_tup, sl_frz, sl_scr, walk_tup, walk_frz, walk_scr, walk_str, xi_val, xi_rng1, xi_rng2, xi_enum, xi_zip, lock_nil, noX_okk, thaw_frz, Int.zero_add, h, hr])
  have e2 : exs (PL.call T Gc 100000 59) Gc 100000 b91 [some (.scr (ns.map .int)), none, none, none] [] = .ok (.rt (.bl true)) s2 := by
    rw [b91_eq, exs_cons e0, exs_cons e1]
    simp only [s91_2, es_cons, e_ret, x_blt, xs_cons, xs_nil, h2, bind_ok, all_true, oD_some]
  rw [call_eq (F := ⟨1, 4, b91⟩) rfl rfl]
  show ∃ st, fin _ (exs _ _ _ b91 [some (.scr (ns.map .int)), none, none, none] []) = _
  rw [e2]
  show ∃ st, back 0 (.bl true) s2 = _
  unfold back
  split
  · exact ⟨_, rfl⟩
  · exact ⟨_, if_pos rfl⟩
end Lw

set_option Elab.async false
set_option linter.all false
set_option maxRecDepth 100000
set_option maxHeartbeats 0
namespace Lw
open PL PySem PySem.Spec PyProof.Rows L2
def n0 : List Str := ["value"]
def p0 : List Str := ["value"]
def n1 : List Str := ["value", "low", "high"]
def p1 : List Str := ["value", "low", "high"]
def n2 : List Str := ["value", "signs", "sign"]
def p2 : List Str := ["value", "signs"]
def n4 : List Str := ["value"]
def p4 : List Str := ["value"]
def n5 : List Str := ["number"]
def p5 : List Str := ["number"]
def n6 : List Str := ["number", "value", "here"]
def p6 : List Str := ["number", "value"]
def n7 : List Str := ["value", "number"]
def p7 : List Str := ["value"]
def n69 : List Str := ["number", "value"]
def p69 : List Str := ["number", "value"]
def n8 : List Str := ["number", "value", "one", "two"]
def p8 : List Str := ["number", "value"]
def n9 : List Str := ["picture"]
def p9 : List Str := ["picture"]
def n10 : List Str := ["letter"]
def p10 : List Str := ["letter"]
def n11 : List Str := ["choice", "letter"]
def p11 : List Str := ["choice"]
def n12 : List Str := ["index", "lot", "letter"]
def p12 : List Str := ["index"]
def n13 : List Str := ["index"]
def p13 : List Str := ["index"]
def n14 : List Str := ["place", "index"]
def p14 : List Str := ["place", "index"]
def n15 : List Str := ["place", "index"]
def p15 : List Str := ["place", "index"]
def n16 : List Str := ["picture"]
def p16 : List Str := ["picture"]
def n17 : List Str := ["picture", "index", "is_so", "place", "here"]
def p17 : List Str := ["picture", "index", "is_so"]
def n18 : List Str := ["picture", "index"]
def p18 : List Str := ["picture", "index"]
def n19 : List Str := ["picture", "index"]
def p19 : List Str := ["picture", "index"]
def n20 : List Str := ["picture", "index"]
def p20 : List Str := ["picture"]
def n70 : List Str := ["lots", "place", "turn", "lot"]
def p70 : List Str := ["lots", "place"]
def n21 : List Str := ["row", "found", "index", "here"]
def p21 : List Str := ["row"]
def n23 : List Str := ["picture"]
def p23 : List Str := ["picture"]
def n24 : List Str := ["many"]
def p24 : List Str := ["many"]
def n25 : List Str := ["number", "places", "place"]
def p25 : List Str := ["number", "places"]
def n71 : List Str := ["value", "index", "number"]
def p71 : List Str := ["value"]
def n72 : List Str := ["numbers", "places", "thing", "lot", "number"]
def p72 : List Str := ["numbers"]
def n35 : List Str := ["picture"]
def p35 : List Str := ["picture"]
def n38 : List Str := ["size", "low", "high"]
def p38 : List Str := ["size", "low", "high"]
def n39 : List Str := ["number", "choice"]
def p39 : List Str := ["number", "choice"]
def n40 : List Str := ["picture", "choice"]
def p40 : List Str := ["picture", "choice"]
def n73 : List Str := ["number", "letter"]
def p73 : List Str := ["number", "letter"]
def n74 : List Str := ["picture", "letter"]
def p74 : List Str := ["picture", "letter"]
def n75 : List Str := ["number", "order", "index", "lot"]
def p75 : List Str := ["number", "order"]
def n76 : List Str := ["numbers", "wrong"]
def p76 : List Str := ["numbers"]
def n77 : List Str := ["picture", "order", "place"]
def p77 : List Str := ["picture", "order"]
def n78 : List Str := ["picture", "order"]
def p78 : List Str := ["picture", "order"]
def n79 : List Str := ["picture", "choice"]
def p79 : List Str := ["picture", "choice"]
def n80 : List Str := ["picture", "choice"]
def p80 : List Str := ["picture", "choice"]
def n47 : List Str := ["picture"]
def p47 : List Str := ["picture"]
def n81 : List Str := ["picture", "size", "each", "here"]
def p81 : List Str := ["picture", "size"]
def n82 : List Str := ["picture", "size"]
def p82 : List Str := ["picture", "size"]
def n83 : List Str := ["picture", "size"]
def p83 : List Str := ["picture", "size"]
def n84 : List Str := ["picture", "letter", "other_letter"]
def p84 : List Str := ["picture", "letter", "other_letter"]
def n85 : List Str := ["picture", "letter", "other_letter"]
def p85 : List Str := ["picture", "letter", "other_letter"]
def n86 : List Str := ["picture", "letter", "other_letter"]
def p86 : List Str := ["picture", "letter", "other_letter"]
def n87 : List Str := ["script", "turn", "cell", "stirred", "each"]
def p87 : List Str := ["script", "turn"]
def n50 : List Str := ["pot", "many", "digit"]
def p50 : List Str := ["pot", "many"]
def n51 : List Str := ["pot", "some"]
def p51 : List Str := ["pot", "some"]
def n52 : List Str := ["told", "due", "at"]
def p52 : List Str := ["told", "due"]
def n55 : List Str := ["index", "at", "letter"]
def p55 : List Str := ["index"]
def n57 : List Str := ["pot", "many", "left", "found", "turn"]
def p57 : List Str := ["pot", "many"]
def n88 : List Str := ["one", "other", "lap"]
def p88 : List Str := ["one", "other"]
def n89 : List Str := ["pot", "numbers", "counts", "thing", "place", "at", "number", "due", "least", "many", "letters", "one", "other", "order"]
def p89 : List Str := ["pot", "numbers"]
def n90 : List Str := ["pot", "lap", "numbers", "most", "turn"]
def p90 : List Str := ["pot"]
def n91 : List Str := ["script", "pot", "number", "turn"]
def p91 : List Str := ["script"]
def ck : Ck := ⟨[(("is_whole" : Str), 0, 1), (("is_between" : Str), 1, 3), (("is_text_of" : Str), 2, 2), (("is_lot_number" : Str), 4, 1), (("place_count" : Str), 5, 1), (("is_picture_of" : Str), 6, 2), (("is_pictured" : Str), 7, 1), (("is_letter_of" : Str), 69, 2), (("is_choice_of" : Str), 8, 2), (("lot_count_of" : Str), 9, 1), (("lot_of" : Str), 10, 1), (("index_of" : Str), 11, 1), (("choice_with" : Str), 12, 1), (("size_of" : Str), 13, 1), (("has_all" : Str), 14, 2), (("has_some" : Str), 15, 2), (("things_of" : Str), 16, 1), (("things_where" : Str), 17, 3), (("meet_at" : Str), 18, 2), (("join_at" : Str), 19, 2), (("meets_of" : Str), 20, 1), (("old_places" : Str), 70, 2), (("by_sizes" : Str), 21, 1), (("sums_of" : Str), 23, 1), (("sign_by" : Str), 24, 1), (("picture_by_places" : Str), 25, 2), (("first_wrong_divisor" : Str), 71, 1), (("multiples_picture" : Str), 72, 1), (("check_picture" : Str), 35, 1), (("check_size" : Str), 38, 3), (("check_choice" : Str), 39, 2), (("check_picture_choice" : Str), 40, 2), (("check_letter" : Str), 73, 2), (("check_picture_letter" : Str), 74, 2), (("check_order" : Str), 75, 2), (("lot_sizes_picture" : Str), 76, 1), (("named_anew_by" : Str), 77, 2), (("named_anew" : Str), 78, 2), (("meet" : Str), 79, 2), (("join" : Str), 80, 2), (("things" : Str), 47, 1), (("sieve_of" : Str), 81, 2), (("check_steps" : Str), 82, 2), (("sieve" : Str), 83, 2), (("is_within_by" : Str), 84, 3), (("check_two_letters" : Str), 85, 3), (("is_within" : Str), 86, 3), (("_law_pot" : Str), 87, 2), (("_law_draw" : Str), 50, 2), (("_law_pick" : Str), 51, 2), (("_law_same" : Str), 52, 2), (("_law_choice" : Str), 55, 1), (("_law_order" : Str), 57, 2), (("_law_common" : Str), 88, 2), (("_law_is_right" : Str), 89, 2), (("_law_right" : Str), 90, 1), (("law" : Str), 91, 1)], [(("MOST_LOTS" : Str), 1), (("MOST_HERE" : Str), 2), (("LETTERS" : Str), 0), (("MOST_MULTIPLES" : Str), 5)], [(76, 0, ["numbers"], [0])]⟩
def top (i : Nat) : Stmt := PySem.Challenge.pw_lotoverlaps_k76_whole_pictures_of_multip.main.body.getD i (.Pass ⟨0, 0, 0, 0⟩)
theorem c0 : kSs ck n0 b0 (defScope (top 9)) (defBody (top 9)) = true := by kernel_rfl
theorem s0 : C8.scC n0 p0 (defScope (top 9)) = true := by kernel_rfl
theorem c1 : kSs ck n1 b1 (defScope (top 10)) (defBody (top 10)) = true := by kernel_rfl
theorem s1 : C8.scC n1 p1 (defScope (top 10)) = true := by kernel_rfl
theorem c2 : kSs ck n2 b2 (defScope (top 11)) (defBody (top 11)) = true := by kernel_rfl
theorem s2 : C8.scC n2 p2 (defScope (top 11)) = true := by kernel_rfl
theorem c4 : kSs ck n4 b4 (defScope (top 16)) (defBody (top 16)) = true := by kernel_rfl
theorem s4 : C8.scC n4 p4 (defScope (top 16)) = true := by kernel_rfl
theorem c5 : kSs ck n5 b5 (defScope (top 17)) (defBody (top 17)) = true := by kernel_rfl
theorem s5 : C8.scC n5 p5 (defScope (top 17)) = true := by kernel_rfl
theorem c6 : kSs ck n6 b6 (defScope (top 18)) (defBody (top 18)) = true := by kernel_rfl
theorem s6 : C8.scC n6 p6 (defScope (top 18)) = true := by kernel_rfl
theorem c7 : kSs ck n7 b7 (defScope (top 19)) (defBody (top 19)) = true := by kernel_rfl
theorem s7 : C8.scC n7 p7 (defScope (top 19)) = true := by kernel_rfl
theorem c69 : kSs ck n69 b69 (defScope (top 20)) (defBody (top 20)) = true := by kernel_rfl
theorem s69 : C8.scC n69 p69 (defScope (top 20)) = true := by kernel_rfl
theorem c8 : kSs ck n8 b8 (defScope (top 21)) (defBody (top 21)) = true := by kernel_rfl
theorem s8 : C8.scC n8 p8 (defScope (top 21)) = true := by kernel_rfl
theorem c9 : kSs ck n9 b9 (defScope (top 22)) (defBody (top 22)) = true := by kernel_rfl
theorem s9 : C8.scC n9 p9 (defScope (top 22)) = true := by kernel_rfl
theorem c10 : kSs ck n10 b10 (defScope (top 23)) (defBody (top 23)) = true := by kernel_rfl
theorem s10 : C8.scC n10 p10 (defScope (top 23)) = true := by kernel_rfl
theorem c11 : kSs ck n11 b11 (defScope (top 24)) (defBody (top 24)) = true := by kernel_rfl
theorem s11 : C8.scC n11 p11 (defScope (top 24)) = true := by kernel_rfl
theorem c12 : kSs ck n12 b12 (defScope (top 25)) (defBody (top 25)) = true := by kernel_rfl
theorem s12 : C8.scC n12 p12 (defScope (top 25)) = true := by kernel_rfl
theorem c13 : kSs ck n13 b13 (defScope (top 26)) (defBody (top 26)) = true := by kernel_rfl
theorem s13 : C8.scC n13 p13 (defScope (top 26)) = true := by kernel_rfl
theorem c14 : kSs ck n14 b14 (defScope (top 27)) (defBody (top 27)) = true := by kernel_rfl
theorem s14 : C8.scC n14 p14 (defScope (top 27)) = true := by kernel_rfl
theorem c15 : kSs ck n15 b15 (defScope (top 28)) (defBody (top 28)) = true := by kernel_rfl
theorem s15 : C8.scC n15 p15 (defScope (top 28)) = true := by kernel_rfl
theorem c16 : kSs ck n16 b16 (defScope (top 30)) (defBody (top 30)) = true := by kernel_rfl
theorem s16 : C8.scC n16 p16 (defScope (top 30)) = true := by kernel_rfl
theorem c17 : kSs ck n17 b17 (defScope (top 31)) (defBody (top 31)) = true := by kernel_rfl
theorem s17 : C8.scC n17 p17 (defScope (top 31)) = true := by kernel_rfl
theorem c18 : kSs ck n18 b18 (defScope (top 32)) (defBody (top 32)) = true := by kernel_rfl
theorem s18 : C8.scC n18 p18 (defScope (top 32)) = true := by kernel_rfl
theorem c19 : kSs ck n19 b19 (defScope (top 33)) (defBody (top 33)) = true := by kernel_rfl
theorem s19 : C8.scC n19 p19 (defScope (top 33)) = true := by kernel_rfl
theorem c20 : kSs ck n20 b20 (defScope (top 34)) (defBody (top 34)) = true := by kernel_rfl
theorem s20 : C8.scC n20 p20 (defScope (top 34)) = true := by kernel_rfl
theorem c70 : kSs ck n70 b70 (defScope (top 35)) (defBody (top 35)) = true := by kernel_rfl
theorem s70 : C8.scC n70 p70 (defScope (top 35)) = true := by kernel_rfl
theorem c21 : kSs ck n21 b21 (defScope (top 37)) (defBody (top 37)) = true := by kernel_rfl
theorem s21 : C8.scC n21 p21 (defScope (top 37)) = true := by kernel_rfl
theorem c23 : kSs ck n23 b23 (defScope (top 38)) (defBody (top 38)) = true := by kernel_rfl
theorem s23 : C8.scC n23 p23 (defScope (top 38)) = true := by kernel_rfl
theorem c24 : kSs ck n24 b24 (defScope (top 39)) (defBody (top 39)) = true := by kernel_rfl
theorem s24 : C8.scC n24 p24 (defScope (top 39)) = true := by kernel_rfl
theorem c25 : kSs ck n25 b25 (defScope (top 42)) (defBody (top 42)) = true := by kernel_rfl
theorem s25 : C8.scC n25 p25 (defScope (top 42)) = true := by kernel_rfl
theorem c71 : kSs ck n71 b71 (defScope (top 43)) (defBody (top 43)) = true := by kernel_rfl
theorem s71 : C8.scC n71 p71 (defScope (top 43)) = true := by kernel_rfl
theorem c72 : kSs ck n72 b72 (defScope (top 44)) (defBody (top 44)) = true := by kernel_rfl
theorem s72 : C8.scC n72 p72 (defScope (top 44)) = true := by kernel_rfl
theorem c35 : kSs ck n35 b35 (defScope (top 46)) (defBody (top 46)) = true := by kernel_rfl
theorem s35 : C8.scC n35 p35 (defScope (top 46)) = true := by kernel_rfl
theorem c38 : kSs ck n38 b38 (defScope (top 47)) (defBody (top 47)) = true := by kernel_rfl
theorem s38 : C8.scC n38 p38 (defScope (top 47)) = true := by kernel_rfl
theorem c39 : kSs ck n39 b39 (defScope (top 48)) (defBody (top 48)) = true := by kernel_rfl
theorem s39 : C8.scC n39 p39 (defScope (top 48)) = true := by kernel_rfl
theorem c40 : kSs ck n40 b40 (defScope (top 49)) (defBody (top 49)) = true := by kernel_rfl
theorem s40 : C8.scC n40 p40 (defScope (top 49)) = true := by kernel_rfl
theorem c73 : kSs ck n73 b73 (defScope (top 50)) (defBody (top 50)) = true := by kernel_rfl
theorem s73 : C8.scC n73 p73 (defScope (top 50)) = true := by kernel_rfl
theorem c74 : kSs ck n74 b74 (defScope (top 51)) (defBody (top 51)) = true := by kernel_rfl
theorem s74 : C8.scC n74 p74 (defScope (top 51)) = true := by kernel_rfl
theorem c75 : kSs ck n75 b75 (defScope (top 52)) (defBody (top 52)) = true := by kernel_rfl
theorem s75 : C8.scC n75 p75 (defScope (top 52)) = true := by kernel_rfl
theorem c76 : kSs ck n76 b76 (defScope (top 54)) (defBody (top 54)) = true := by kernel_rfl
theorem s76 : C8.scC n76 p76 (defScope (top 54)) = true := by kernel_rfl
theorem c77 : kSs ck n77 b77 (defScope (top 56)) (defBody (top 56)) = true := by kernel_rfl
theorem s77 : C8.scC n77 p77 (defScope (top 56)) = true := by kernel_rfl
theorem c78 : kSs ck n78 b78 (defScope (top 58)) (defBody (top 58)) = true := by kernel_rfl
theorem s78 : C8.scC n78 p78 (defScope (top 58)) = true := by kernel_rfl
theorem c79 : kSs ck n79 b79 (defScope (top 60)) (defBody (top 60)) = true := by kernel_rfl
theorem s79 : C8.scC n79 p79 (defScope (top 60)) = true := by kernel_rfl
theorem c80 : kSs ck n80 b80 (defScope (top 61)) (defBody (top 61)) = true := by kernel_rfl
theorem s80 : C8.scC n80 p80 (defScope (top 61)) = true := by kernel_rfl
theorem c47 : kSs ck n47 b47 (defScope (top 62)) (defBody (top 62)) = true := by kernel_rfl
theorem s47 : C8.scC n47 p47 (defScope (top 62)) = true := by kernel_rfl
theorem c81 : kSs ck n81 b81 (defScope (top 64)) (defBody (top 64)) = true := by kernel_rfl
theorem s81 : C8.scC n81 p81 (defScope (top 64)) = true := by kernel_rfl
theorem c82 : kSs ck n82 b82 (defScope (top 66)) (defBody (top 66)) = true := by kernel_rfl
theorem s82 : C8.scC n82 p82 (defScope (top 66)) = true := by kernel_rfl
theorem c83 : kSs ck n83 b83 (defScope (top 67)) (defBody (top 67)) = true := by kernel_rfl
theorem s83 : C8.scC n83 p83 (defScope (top 67)) = true := by kernel_rfl
theorem c84 : kSs ck n84 b84 (defScope (top 69)) (defBody (top 69)) = true := by kernel_rfl
theorem s84 : C8.scC n84 p84 (defScope (top 69)) = true := by kernel_rfl
theorem c85 : kSs ck n85 b85 (defScope (top 71)) (defBody (top 71)) = true := by kernel_rfl
theorem s85 : C8.scC n85 p85 (defScope (top 71)) = true := by kernel_rfl
theorem c86 : kSs ck n86 b86 (defScope (top 72)) (defBody (top 72)) = true := by kernel_rfl
theorem s86 : C8.scC n86 p86 (defScope (top 72)) = true := by kernel_rfl
theorem c87 : kSs ck n87 b87 (defScope (top 74)) (defBody (top 74)) = true := by kernel_rfl
theorem s87 : C8.scC n87 p87 (defScope (top 74)) = true := by kernel_rfl
theorem c50 : kSs ck n50 b50 (defScope (top 75)) (defBody (top 75)) = true := by kernel_rfl
theorem s50 : C8.scC n50 p50 (defScope (top 75)) = true := by kernel_rfl
theorem c51 : kSs ck n51 b51 (defScope (top 76)) (defBody (top 76)) = true := by kernel_rfl
theorem s51 : C8.scC n51 p51 (defScope (top 76)) = true := by kernel_rfl
theorem c52 : kSs ck n52 b52 (defScope (top 77)) (defBody (top 77)) = true := by kernel_rfl
theorem s52 : C8.scC n52 p52 (defScope (top 77)) = true := by kernel_rfl
theorem c55 : kSs ck n55 b55 (defScope (top 80)) (defBody (top 80)) = true := by kernel_rfl
theorem s55 : C8.scC n55 p55 (defScope (top 80)) = true := by kernel_rfl
theorem c57 : kSs ck n57 b57 (defScope (top 82)) (defBody (top 82)) = true := by kernel_rfl
theorem s57 : C8.scC n57 p57 (defScope (top 82)) = true := by kernel_rfl
theorem c88 : kSs ck n88 b88 (defScope (top 83)) (defBody (top 83)) = true := by kernel_rfl
theorem s88 : C8.scC n88 p88 (defScope (top 83)) = true := by kernel_rfl
theorem c89 : kSs ck n89 b89 (defScope (top 84)) (defBody (top 84)) = true := by kernel_rfl
theorem s89 : C8.scC n89 p89 (defScope (top 84)) = true := by kernel_rfl
theorem c90 : kSs ck n90 b90 (defScope (top 85)) (defBody (top 85)) = true := by kernel_rfl
theorem s90 : C8.scC n90 p90 (defScope (top 85)) = true := by kernel_rfl
theorem c91 : kSs ck n91 b91 (defScope (top 86)) (defBody (top 86)) = true := by kernel_rfl
theorem s91 : C8.scC n91 p91 (defScope (top 86)) = true := by kernel_rfl
end Lw

set_option Elab.async false
set_option linter.all false
set_option maxRecDepth 100000
set_option maxHeartbeats 0
namespace Lw
open PL PySem PySem.Spec PyProof.Rows L2
def mkD (n : Str) (i : Nat) : He.DefD := ⟨(n, none), n, n, defArgs (top i), defBody (top i), defScope (top i), [], []⟩
def fn : List He.DefD := [mkD "is_whole" 9, mkD "is_between" 10, mkD "is_text_of" 11, mkD "is_lot_number" 16, mkD "place_count" 17, mkD "is_picture_of" 18, mkD "is_pictured" 19, mkD "is_letter_of" 20, mkD "is_choice_of" 21, mkD "lot_count_of" 22, mkD "lot_of" 23, mkD "index_of" 24, mkD "choice_with" 25, mkD "size_of" 26, mkD "has_all" 27, mkD "has_some" 28, mkD "things_of" 30, mkD "things_where" 31, mkD "meet_at" 32, mkD "join_at" 33, mkD "meets_of" 34, mkD "old_places" 35, mkD "by_sizes" 37, mkD "sums_of" 38, mkD "sign_by" 39, mkD "picture_by_places" 42, mkD "first_wrong_divisor" 43, mkD "multiples_picture" 44, mkD "check_picture" 46, mkD "check_size" 47, mkD "check_choice" 48, mkD "check_picture_choice" 49, mkD "check_letter" 50, mkD "check_picture_letter" 51, mkD "check_order" 52, mkD "lot_sizes_picture" 54, mkD "named_anew_by" 56, mkD "named_anew" 58, mkD "meet" 60, mkD "join" 61, mkD "things" 62, mkD "sieve_of" 64, mkD "check_steps" 66, mkD "sieve" 67, mkD "is_within_by" 69, mkD "check_two_letters" 71, mkD "is_within" 72, mkD "_law_pot" 74, mkD "_law_draw" 75, mkD "_law_pick" 76, mkD "_law_same" 77, mkD "_law_choice" 80, mkD "_law_order" 82, mkD "_law_common" 83, mkD "_law_is_right" 84, mkD "_law_right" 85, mkD "law" 86]
def fal : List He.Fa := [.glo "is_whole", .glo "is_between", .glo "is_text_of", .glo "is_lot_number", .glo "place_count", .glo "is_picture_of", .glo "is_pictured", .glo "is_letter_of", .glo "is_choice_of", .glo "lot_count_of", .glo "lot_of", .glo "index_of", .glo "choice_with", .glo "size_of", .glo "has_all", .glo "has_some", .glo "things_of", .glo "things_where", .glo "meet_at", .glo "join_at", .glo "meets_of", .glo "old_places", .glo "by_sizes", .glo "sums_of", .glo "sign_by", .glo "picture_by_places", .glo "first_wrong_divisor", .glo "multiples_picture", .glo "check_picture", .glo "check_size", .glo "check_choice", .glo "check_picture_choice", .glo "check_letter", .glo "check_picture_letter", .glo "check_order", .glo "lot_sizes_picture", .glo "named_anew_by", .glo "named_anew", .glo "meet", .glo "join", .glo "things", .glo "sieve_of", .glo "check_steps", .glo "sieve", .glo "is_within_by", .glo "check_two_letters", .glo "is_within", .glo "_law_pot", .glo "_law_draw", .glo "_law_pick", .glo "_law_same", .glo "_law_choice", .glo "_law_order", .glo "_law_common", .glo "_law_is_right", .glo "_law_right", .glo "law", .free "len", .free "sum", .free "all", .free "any", .free "int", .free "abs", .free "min", .free "max", .free "divmod", .free "tuple", .free "list", .free "sorted", .free "isinstance", .free "str", .free "bool", .free "range", .free "enumerate", .free "zip", .int "MOST_LOTS" 4, .int "MOST_HERE" 99, .str "LETTERS" ⟨[65, 66, 67, 68].toArray⟩, .int "MOST_MULTIPLES" 60]
abbrev R : PySem.W.OpenRow := PySem.W.OpenLaw.row PySem.Challenge.rw_lotoverlaps_k76_whole_pictures_of_multip
abbrev hk : PySem.W.Hook := He.hookD 4 fal fn
def ob (s : PySem.W.SharedT) : He.AlD := He.obsDG 4 fal fn (HandSHeadRun.getT s)
theorem ob_eq (s : PySem.W.SharedT) : ob s = hk.obs s.abs := He.obsDG_eq (HandSHeadRun.getT_eq s)
def nm0 : List PySem.Str := ["__name__", "LotError", "InvalidPicture", "InvalidChoice", "InvalidLetter", "InvalidSize", "InvalidOrder", "InvalidNumbers", "is_whole", "is_between", "is_text_of", "LETTERS", "MOST_LOTS", "MOST_HERE", "is_lot_number", "place_count", "is_picture_of", "is_pictured", "is_letter_of", "is_choice_of", "lot_count_of", "lot_of", "index_of", "choice_with", "size_of", "has_all", "has_some", "things_of", "things_where", "meet_at"]
def nm1 : List PySem.Str := ["join_at", "meets_of", "old_places", "by_sizes", "sums_of", "sign_by", "MOST_MULTIPLES", "picture_by_places", "first_wrong_divisor", "multiples_picture", "check_picture", "check_size", "check_choice", "check_picture_choice", "check_letter", "check_picture_letter", "check_order", "lot_sizes_picture", "named_anew_by", "named_anew", "meet", "join", "things", "sieve_of", "check_steps", "sieve", "is_within_by", "check_two_letters", "is_within", "_law_pot"]
def nm2 : List PySem.Str := ["_law_draw", "_law_pick", "_law_same", "_law_picture", "_law_many", "_law_choice", "_law_index", "_law_order", "_law_common", "_law_is_right", "_law_right"]
def loose : List PySem.Str := nm0 ++ nm1 ++ nm2
theorem run (w : World) : HandSHeadRun.RunEq R (PySem.W.view R.prog [86]) hk ob 20000 loose w := by
  intro os
  kernel_rfl
def nms : Nat → Str
  | 0 => "is_whole"
  | 1 => "is_between"
  | 2 => "is_text_of"
  | 4 => "is_lot_number"
  | 5 => "place_count"
  | 6 => "is_picture_of"
  | 7 => "is_pictured"
  | 69 => "is_letter_of"
  | 8 => "is_choice_of"
  | 9 => "lot_count_of"
  | 10 => "lot_of"
  | 11 => "index_of"
  | 12 => "choice_with"
  | 13 => "size_of"
  | 14 => "has_all"
  | 15 => "has_some"
  | 16 => "things_of"
  | 17 => "things_where"
  | 18 => "meet_at"
  | 19 => "join_at"
  | 20 => "meets_of"
  | 70 => "old_places"
  | 21 => "by_sizes"
  | 23 => "sums_of"
  | 24 => "sign_by"
  | 25 => "picture_by_places"
  | 71 => "first_wrong_divisor"
  | 72 => "multiples_picture"
  | 35 => "check_picture"
  | 38 => "check_size"
  | 39 => "check_choice"
  | 40 => "check_picture_choice"
  | 73 => "check_letter"
  | 74 => "check_picture_letter"
  | 75 => "check_order"
  | 76 => "lot_sizes_picture"
  | 77 => "named_anew_by"
  | 78 => "named_anew"
  | 79 => "meet"
  | 80 => "join"
  | 47 => "things"
  | 81 => "sieve_of"
  | 82 => "check_steps"
  | 83 => "sieve"
  | 84 => "is_within_by"
  | 85 => "check_two_letters"
  | 86 => "is_within"
  | 87 => "_law_pot"
  | 50 => "_law_draw"
  | 51 => "_law_pick"
  | 52 => "_law_same"
  | 55 => "_law_choice"
  | 57 => "_law_order"
  | 88 => "_law_common"
  | 89 => "_law_is_right"
  | 90 => "_law_right"
  | 91 => "law"
  | _ => ⟨#[]⟩
def fA (K : PySem.W.Frag) (k : Nat) : Addr := He.ga K (nms k)
theorem f_cons {α : Type} {P : α → Prop} {a : α} {l : List α} (h : P a) (t : ∀ q ∈ l, P q) : ∀ q ∈ a :: l, P q := fun q hq => by
  rcases List.mem_cons.mp hq with e | e
  · rw [e]
    exact h
  · exact t q e
theorem f_nil {α : Type} {P : α → Prop} : ∀ q ∈ ([] : List α), P q := fun q hq => nomatch hq
theorem kbn {K : PySem.W.Frag} {x qual : Str} {params : Arguments} {body : List Stmt} {scope : Scope} {kws : List (Str × V)} {f : Addr} {fd : FuncData} {ps ks : List Str} {n : Nat} {pm : List Nat} (F : FunD K x qual params body scope [] kws f fd)
    (h : ∀ (kV doc pm' : Value) (an : Option Addr) (cdv ct : Value) (us ws : List Value), us.length = n → ws.length = ks.length → bindArgs (PySem.W.fnOf x qual params body scope .none kV doc pm' an cdv ct) ⟨us, ks.zip ws⟩ = pure (ps.zip (gK Value.none pm us ws))) : KBn K fd ps n ks (gK Value.none pm) (gK V.non pm) := by
  obtain ⟨oc, od, dV, kV, doc, pm', an, cdv, ct, osl, rfl, lk, hcd, hD, hK⟩ := F.ex
  rcases hD with ⟨_, rfl⟩ | ⟨e, _⟩
  · exact ⟨fun s us ws X l1 l2 => .of_eq (h kV doc pm' an cdv ct us ws l1 l2), fun r1 r2 => gK_rel pm r1 r2⟩
  · exact absurd rfl e
section
variable {K : PySem.W.Frag}
theorem d0 (c : He.SaysD fal fn K) : DefOk ck K (fA K) 0 ⟨1, 1, b0⟩ := by
  obtain ⟨fd, F⟩ := c.def_ 0 (d := mkD "is_whole" 9) rfl
  refine ⟨_, _, _, _, _, fd, n0, p0, F, C8.fnScope_by s0, rfl, rfl, c0, F.bindsN fun _ _ _ _ _ _ us hl => match us, hl with | [_], _ => rfl, fun n ks pm h => ?_⟩
  simp only [ck, List.mem_cons, Prod.mk.injEq, List.not_mem_nil, or_false] at h
  obtain ⟨h1, rfl, rfl, rfl⟩ := h
  · exact absurd h1 (by decide)
theorem d1 (c : He.SaysD fal fn K) : DefOk ck K (fA K) 1 ⟨3, 3, b1⟩ := by
  obtain ⟨fd, F⟩ := c.def_ 1 (d := mkD "is_between" 10) rfl
  refine ⟨_, _, _, _, _, fd, n1, p1, F, C8.fnScope_by s1, rfl, rfl, c1, F.bindsN fun _ _ _ _ _ _ us hl => match us, hl with | [_, _, _], _ => rfl, fun n ks pm h => ?_⟩
  simp only [ck, List.mem_cons, Prod.mk.injEq, List.not_mem_nil, or_false] at h
  obtain ⟨h1, rfl, rfl, rfl⟩ := h
  · exact absurd h1 (by decide)
theorem d2 (c : He.SaysD fal fn K) : DefOk ck K (fA K) 2 ⟨2, 3, b2⟩ := by
  obtain ⟨fd, F⟩ := c.def_ 2 (d := mkD "is_text_of" 11) rfl
  refine ⟨_, _, _, _, _, fd, n2, p2, F, C8.fnScope_by s2, rfl, rfl, c2, F.bindsN fun _ _ _ _ _ _ us hl => match us, hl with | [_, _], _ => rfl, fun n ks pm h => ?_⟩
  simp only [ck, List.mem_cons, Prod.mk.injEq, List.not_mem_nil, or_false] at h
  obtain ⟨h1, rfl, rfl, rfl⟩ := h
  · exact absurd h1 (by decide)
theorem d4 (c : He.SaysD fal fn K) : DefOk ck K (fA K) 4 ⟨1, 1, b4⟩ := by
  obtain ⟨fd, F⟩ := c.def_ 3 (d := mkD "is_lot_number" 16) rfl
  refine ⟨_, _, _, _, _, fd, n4, p4, F, C8.fnScope_by s4, rfl, rfl, c4, F.bindsN fun _ _ _ _ _ _ us hl => match us, hl with | [_], _ => rfl, fun n ks pm h => ?_⟩
  simp only [ck, List.mem_cons, Prod.mk.injEq, List.not_mem_nil, or_false] at h
  obtain ⟨h1, rfl, rfl, rfl⟩ := h
  · exact absurd h1 (by decide)
theorem d5 (c : He.SaysD fal fn K) : DefOk ck K (fA K) 5 ⟨1, 1, b5⟩ := by
  obtain ⟨fd, F⟩ := c.def_ 4 (d := mkD "place_count" 17) rfl
  refine ⟨_, _, _, _, _, fd, n5, p5, F, C8.fnScope_by s5, rfl, rfl, c5, F.bindsN fun _ _ _ _ _ _ us hl => match us, hl with | [_], _ => rfl, fun n ks pm h => ?_⟩
  simp only [ck, List.mem_cons, Prod.mk.injEq, List.not_mem_nil, or_false] at h
  obtain ⟨h1, rfl, rfl, rfl⟩ := h
  · exact absurd h1 (by decide)
theorem d6 (c : He.SaysD fal fn K) : DefOk ck K (fA K) 6 ⟨2, 3, b6⟩ := by
  obtain ⟨fd, F⟩ := c.def_ 5 (d := mkD "is_picture_of" 18) rfl
  refine ⟨_, _, _, _, _, fd, n6, p6, F, C8.fnScope_by s6, rfl, rfl, c6, F.bindsN fun _ _ _ _ _ _ us hl => match us, hl with | [_, _], _ => rfl, fun n ks pm h => ?_⟩
  simp only [ck, List.mem_cons, Prod.mk.injEq, List.not_mem_nil, or_false] at h
  obtain ⟨h1, rfl, rfl, rfl⟩ := h
  · exact absurd h1 (by decide)
theorem d7 (c : He.SaysD fal fn K) : DefOk ck K (fA K) 7 ⟨1, 2, b7⟩ := by
  obtain ⟨fd, F⟩ := c.def_ 6 (d := mkD "is_pictured" 19) rfl
  refine ⟨_, _, _, _, _, fd, n7, p7, F, C8.fnScope_by s7, rfl, rfl, c7, F.bindsN fun _ _ _ _ _ _ us hl => match us, hl with | [_], _ => rfl, fun n ks pm h => ?_⟩
  simp only [ck, List.mem_cons, Prod.mk.injEq, List.not_mem_nil, or_false] at h
  obtain ⟨h1, rfl, rfl, rfl⟩ := h
  · exact absurd h1 (by decide)
theorem d69 (c : He.SaysD fal fn K) : DefOk ck K (fA K) 69 ⟨2, 2, b69⟩ := by
  obtain ⟨fd, F⟩ := c.def_ 7 (d := mkD "is_letter_of" 20) rfl
  refine ⟨_, _, _, _, _, fd, n69, p69, F, C8.fnScope_by s69, rfl, rfl, c69, F.bindsN fun _ _ _ _ _ _ us hl => match us, hl with | [_, _], _ => rfl, fun n ks pm h => ?_⟩
  simp only [ck, List.mem_cons, Prod.mk.injEq, List.not_mem_nil, or_false] at h
  obtain ⟨h1, rfl, rfl, rfl⟩ := h
  · exact absurd h1 (by decide)
theorem d8 (c : He.SaysD fal fn K) : DefOk ck K (fA K) 8 ⟨2, 4, b8⟩ := by
  obtain ⟨fd, F⟩ := c.def_ 8 (d := mkD "is_choice_of" 21) rfl
  refine ⟨_, _, _, _, _, fd, n8, p8, F, C8.fnScope_by s8, rfl, rfl, c8, F.bindsN fun _ _ _ _ _ _ us hl => match us, hl with | [_, _], _ => rfl, fun n ks pm h => ?_⟩
  simp only [ck, List.mem_cons, Prod.mk.injEq, List.not_mem_nil, or_false] at h
  obtain ⟨h1, rfl, rfl, rfl⟩ := h
  · exact absurd h1 (by decide)
theorem d9 (c : He.SaysD fal fn K) : DefOk ck K (fA K) 9 ⟨1, 1, b9⟩ := by
  obtain ⟨fd, F⟩ := c.def_ 9 (d := mkD "lot_count_of" 22) rfl
  refine ⟨_, _, _, _, _, fd, n9, p9, F, C8.fnScope_by s9, rfl, rfl, c9, F.bindsN fun _ _ _ _ _ _ us hl => match us, hl with | [_], _ => rfl, fun n ks pm h => ?_⟩
  simp only [ck, List.mem_cons, Prod.mk.injEq, List.not_mem_nil, or_false] at h
  obtain ⟨h1, rfl, rfl, rfl⟩ := h
  · exact absurd h1 (by decide)
theorem d10 (c : He.SaysD fal fn K) : DefOk ck K (fA K) 10 ⟨1, 1, b10⟩ := by
  obtain ⟨fd, F⟩ := c.def_ 10 (d := mkD "lot_of" 23) rfl
  refine ⟨_, _, _, _, _, fd, n10, p10, F, C8.fnScope_by s10, rfl, rfl, c10, F.bindsN fun _ _ _ _ _ _ us hl => match us, hl with | [_], _ => rfl, fun n ks pm h => ?_⟩
  simp only [ck, List.mem_cons, Prod.mk.injEq, List.not_mem_nil, or_false] at h
  obtain ⟨h1, rfl, rfl, rfl⟩ := h
  · exact absurd h1 (by decide)
theorem d11 (c : He.SaysD fal fn K) : DefOk ck K (fA K) 11 ⟨1, 2, b11⟩ := by
  obtain ⟨fd, F⟩ := c.def_ 11 (d := mkD "index_of" 24) rfl
  refine ⟨_, _, _, _, _, fd, n11, p11, F, C8.fnScope_by s11, rfl, rfl, c11, F.bindsN fun _ _ _ _ _ _ us hl => match us, hl with | [_], _ => rfl, fun n ks pm h => ?_⟩
  simp only [ck, List.mem_cons, Prod.mk.injEq, List.not_mem_nil, or_false] at h
  obtain ⟨h1, rfl, rfl, rfl⟩ := h
  · exact absurd h1 (by decide)
theorem d12 (c : He.SaysD fal fn K) : DefOk ck K (fA K) 12 ⟨1, 3, b12⟩ := by
  obtain ⟨fd, F⟩ := c.def_ 12 (d := mkD "choice_with" 25) rfl
  refine ⟨_, _, _, _, _, fd, n12, p12, F, C8.fnScope_by s12, rfl, rfl, c12, F.bindsN fun _ _ _ _ _ _ us hl => match us, hl with | [_], _ => rfl, fun n ks pm h => ?_⟩
  simp only [ck, List.mem_cons, Prod.mk.injEq, List.not_mem_nil, or_false] at h
  obtain ⟨h1, rfl, rfl, rfl⟩ := h
  · exact absurd h1 (by decide)
theorem d13 (c : He.SaysD fal fn K) : DefOk ck K (fA K) 13 ⟨1, 1, b13⟩ := by
  obtain ⟨fd, F⟩ := c.def_ 13 (d := mkD "size_of" 26) rfl
  refine ⟨_, _, _, _, _, fd, n13, p13, F, C8.fnScope_by s13, rfl, rfl, c13, F.bindsN fun _ _ _ _ _ _ us hl => match us, hl with | [_], _ => rfl, fun n ks pm h => ?_⟩
  simp only [ck, List.mem_cons, Prod.mk.injEq, List.not_mem_nil, or_false] at h
  obtain ⟨h1, rfl, rfl, rfl⟩ := h
  · exact absurd h1 (by decide)
theorem d14 (c : He.SaysD fal fn K) : DefOk ck K (fA K) 14 ⟨2, 2, b14⟩ := by
  obtain ⟨fd, F⟩ := c.def_ 14 (d := mkD "has_all" 27) rfl
  refine ⟨_, _, _, _, _, fd, n14, p14, F, C8.fnScope_by s14, rfl, rfl, c14, F.bindsN fun _ _ _ _ _ _ us hl => match us, hl with | [_, _], _ => rfl, fun n ks pm h => ?_⟩
  simp only [ck, List.mem_cons, Prod.mk.injEq, List.not_mem_nil, or_false] at h
  obtain ⟨h1, rfl, rfl, rfl⟩ := h
  · exact absurd h1 (by decide)
theorem d15 (c : He.SaysD fal fn K) : DefOk ck K (fA K) 15 ⟨2, 2, b15⟩ := by
  obtain ⟨fd, F⟩ := c.def_ 15 (d := mkD "has_some" 28) rfl
  refine ⟨_, _, _, _, _, fd, n15, p15, F, C8.fnScope_by s15, rfl, rfl, c15, F.bindsN fun _ _ _ _ _ _ us hl => match us, hl with | [_, _], _ => rfl, fun n ks pm h => ?_⟩
  simp only [ck, List.mem_cons, Prod.mk.injEq, List.not_mem_nil, or_false] at h
  obtain ⟨h1, rfl, rfl, rfl⟩ := h
  · exact absurd h1 (by decide)
theorem d16 (c : He.SaysD fal fn K) : DefOk ck K (fA K) 16 ⟨1, 1, b16⟩ := by
  obtain ⟨fd, F⟩ := c.def_ 16 (d := mkD "things_of" 30) rfl
  refine ⟨_, _, _, _, _, fd, n16, p16, F, C8.fnScope_by s16, rfl, rfl, c16, F.bindsN fun _ _ _ _ _ _ us hl => match us, hl with | [_], _ => rfl, fun n ks pm h => ?_⟩
  simp only [ck, List.mem_cons, Prod.mk.injEq, List.not_mem_nil, or_false] at h
  obtain ⟨h1, rfl, rfl, rfl⟩ := h
  · exact absurd h1 (by decide)
theorem d17 (c : He.SaysD fal fn K) : DefOk ck K (fA K) 17 ⟨3, 5, b17⟩ := by
  obtain ⟨fd, F⟩ := c.def_ 17 (d := mkD "things_where" 31) rfl
  refine ⟨_, _, _, _, _, fd, n17, p17, F, C8.fnScope_by s17, rfl, rfl, c17, F.bindsN fun _ _ _ _ _ _ us hl => match us, hl with | [_, _, _], _ => rfl, fun n ks pm h => ?_⟩
  simp only [ck, List.mem_cons, Prod.mk.injEq, List.not_mem_nil, or_false] at h
  obtain ⟨h1, rfl, rfl, rfl⟩ := h
  · exact absurd h1 (by decide)
theorem d18 (c : He.SaysD fal fn K) : DefOk ck K (fA K) 18 ⟨2, 2, b18⟩ := by
  obtain ⟨fd, F⟩ := c.def_ 18 (d := mkD "meet_at" 32) rfl
  refine ⟨_, _, _, _, _, fd, n18, p18, F, C8.fnScope_by s18, rfl, rfl, c18, F.bindsN fun _ _ _ _ _ _ us hl => match us, hl with | [_, _], _ => rfl, fun n ks pm h => ?_⟩
  simp only [ck, List.mem_cons, Prod.mk.injEq, List.not_mem_nil, or_false] at h
  obtain ⟨h1, rfl, rfl, rfl⟩ := h
  · exact absurd h1 (by decide)
theorem d19 (c : He.SaysD fal fn K) : DefOk ck K (fA K) 19 ⟨2, 2, b19⟩ := by
  obtain ⟨fd, F⟩ := c.def_ 19 (d := mkD "join_at" 33) rfl
  refine ⟨_, _, _, _, _, fd, n19, p19, F, C8.fnScope_by s19, rfl, rfl, c19, F.bindsN fun _ _ _ _ _ _ us hl => match us, hl with | [_, _], _ => rfl, fun n ks pm h => ?_⟩
  simp only [ck, List.mem_cons, Prod.mk.injEq, List.not_mem_nil, or_false] at h
  obtain ⟨h1, rfl, rfl, rfl⟩ := h
  · exact absurd h1 (by decide)
theorem d20 (c : He.SaysD fal fn K) : DefOk ck K (fA K) 20 ⟨1, 2, b20⟩ := by
  obtain ⟨fd, F⟩ := c.def_ 20 (d := mkD "meets_of" 34) rfl
  refine ⟨_, _, _, _, _, fd, n20, p20, F, C8.fnScope_by s20, rfl, rfl, c20, F.bindsN fun _ _ _ _ _ _ us hl => match us, hl with | [_], _ => rfl, fun n ks pm h => ?_⟩
  simp only [ck, List.mem_cons, Prod.mk.injEq, List.not_mem_nil, or_false] at h
  obtain ⟨h1, rfl, rfl, rfl⟩ := h
  · exact absurd h1 (by decide)
theorem d70 (c : He.SaysD fal fn K) : DefOk ck K (fA K) 70 ⟨2, 4, b70⟩ := by
  obtain ⟨fd, F⟩ := c.def_ 21 (d := mkD "old_places" 35) rfl
  refine ⟨_, _, _, _, _, fd, n70, p70, F, C8.fnScope_by s70, rfl, rfl, c70, F.bindsN fun _ _ _ _ _ _ us hl => match us, hl with | [_, _], _ => rfl, fun n ks pm h => ?_⟩
  simp only [ck, List.mem_cons, Prod.mk.injEq, List.not_mem_nil, or_false] at h
  obtain ⟨h1, rfl, rfl, rfl⟩ := h
  · exact absurd h1 (by decide)
theorem d21 (c : He.SaysD fal fn K) : DefOk ck K (fA K) 21 ⟨1, 4, b21⟩ := by
  obtain ⟨fd, F⟩ := c.def_ 22 (d := mkD "by_sizes" 37) rfl
  refine ⟨_, _, _, _, _, fd, n21, p21, F, C8.fnScope_by s21, rfl, rfl, c21, F.bindsN fun _ _ _ _ _ _ us hl => match us, hl with | [_], _ => rfl, fun n ks pm h => ?_⟩
  simp only [ck, List.mem_cons, Prod.mk.injEq, List.not_mem_nil, or_false] at h
  obtain ⟨h1, rfl, rfl, rfl⟩ := h
  · exact absurd h1 (by decide)
theorem d23 (c : He.SaysD fal fn K) : DefOk ck K (fA K) 23 ⟨1, 1, b23⟩ := by
  obtain ⟨fd, F⟩ := c.def_ 23 (d := mkD "sums_of" 38) rfl
  refine ⟨_, _, _, _, _, fd, n23, p23, F, C8.fnScope_by s23, rfl, rfl, c23, F.bindsN fun _ _ _ _ _ _ us hl => match us, hl with | [_], _ => rfl, fun n ks pm h => ?_⟩
  simp only [ck, List.mem_cons, Prod.mk.injEq, List.not_mem_nil, or_false] at h
  obtain ⟨h1, rfl, rfl, rfl⟩ := h
  · exact absurd h1 (by decide)
theorem d24 (c : He.SaysD fal fn K) : DefOk ck K (fA K) 24 ⟨1, 1, b24⟩ := by
  obtain ⟨fd, F⟩ := c.def_ 24 (d := mkD "sign_by" 39) rfl
  refine ⟨_, _, _, _, _, fd, n24, p24, F, C8.fnScope_by s24, rfl, rfl, c24, F.bindsN fun _ _ _ _ _ _ us hl => match us, hl with | [_], _ => rfl, fun n ks pm h => ?_⟩
  simp only [ck, List.mem_cons, Prod.mk.injEq, List.not_mem_nil, or_false] at h
  obtain ⟨h1, rfl, rfl, rfl⟩ := h
  · exact absurd h1 (by decide)
theorem d25 (c : He.SaysD fal fn K) : DefOk ck K (fA K) 25 ⟨2, 3, b25⟩ := by
  obtain ⟨fd, F⟩ := c.def_ 25 (d := mkD "picture_by_places" 42) rfl
  refine ⟨_, _, _, _, _, fd, n25, p25, F, C8.fnScope_by s25, rfl, rfl, c25, F.bindsN fun _ _ _ _ _ _ us hl => match us, hl with | [_, _], _ => rfl, fun n ks pm h => ?_⟩
  simp only [ck, List.mem_cons, Prod.mk.injEq, List.not_mem_nil, or_false] at h
  obtain ⟨h1, rfl, rfl, rfl⟩ := h
  · exact absurd h1 (by decide)
theorem d71 (c : He.SaysD fal fn K) : DefOk ck K (fA K) 71 ⟨1, 3, b71⟩ := by
  obtain ⟨fd, F⟩ := c.def_ 26 (d := mkD "first_wrong_divisor" 43) rfl
  refine ⟨_, _, _, _, _, fd, n71, p71, F, C8.fnScope_by s71, rfl, rfl, c71, F.bindsN fun _ _ _ _ _ _ us hl => match us, hl with | [_], _ => rfl, fun n ks pm h => ?_⟩
  simp only [ck, List.mem_cons, Prod.mk.injEq, List.not_mem_nil, or_false] at h
  obtain ⟨h1, rfl, rfl, rfl⟩ := h
  · exact absurd h1 (by decide)
theorem d72 (c : He.SaysD fal fn K) : DefOk ck K (fA K) 72 ⟨1, 5, b72⟩ := by
  obtain ⟨fd, F⟩ := c.def_ 27 (d := mkD "multiples_picture" 44) rfl
  refine ⟨_, _, _, _, _, fd, n72, p72, F, C8.fnScope_by s72, rfl, rfl, c72, F.bindsN fun _ _ _ _ _ _ us hl => match us, hl with | [_], _ => rfl, fun n ks pm h => ?_⟩
  simp only [ck, List.mem_cons, Prod.mk.injEq, List.not_mem_nil, or_false] at h
  obtain ⟨h1, rfl, rfl, rfl⟩ := h
  · exact absurd h1 (by decide)
theorem d35 (c : He.SaysD fal fn K) : DefOk ck K (fA K) 35 ⟨1, 1, b35⟩ := by
  obtain ⟨fd, F⟩ := c.def_ 28 (d := mkD "check_picture" 46) rfl
  refine ⟨_, _, _, _, _, fd, n35, p35, F, C8.fnScope_by s35, rfl, rfl, c35, F.bindsN fun _ _ _ _ _ _ us hl => match us, hl with | [_], _ => rfl, fun n ks pm h => ?_⟩
  simp only [ck, List.mem_cons, Prod.mk.injEq, List.not_mem_nil, or_false] at h
  obtain ⟨h1, rfl, rfl, rfl⟩ := h
  · exact absurd h1 (by decide)
theorem d38 (c : He.SaysD fal fn K) : DefOk ck K (fA K) 38 ⟨3, 3, b38⟩ := by
  obtain ⟨fd, F⟩ := c.def_ 29 (d := mkD "check_size" 47) rfl
  refine ⟨_, _, _, _, _, fd, n38, p38, F, C8.fnScope_by s38, rfl, rfl, c38, F.bindsN fun _ _ _ _ _ _ us hl => match us, hl with | [_, _, _], _ => rfl, fun n ks pm h => ?_⟩
  simp only [ck, List.mem_cons, Prod.mk.injEq, List.not_mem_nil, or_false] at h
  obtain ⟨h1, rfl, rfl, rfl⟩ := h
  · exact absurd h1 (by decide)
theorem d39 (c : He.SaysD fal fn K) : DefOk ck K (fA K) 39 ⟨2, 2, b39⟩ := by
  obtain ⟨fd, F⟩ := c.def_ 30 (d := mkD "check_choice" 48) rfl
  refine ⟨_, _, _, _, _, fd, n39, p39, F, C8.fnScope_by s39, rfl, rfl, c39, F.bindsN fun _ _ _ _ _ _ us hl => match us, hl with | [_, _], _ => rfl, fun n ks pm h => ?_⟩
  simp only [ck, List.mem_cons, Prod.mk.injEq, List.not_mem_nil, or_false] at h
  obtain ⟨h1, rfl, rfl, rfl⟩ := h
  · exact absurd h1 (by decide)
theorem d40 (c : He.SaysD fal fn K) : DefOk ck K (fA K) 40 ⟨2, 2, b40⟩ := by
  obtain ⟨fd, F⟩ := c.def_ 31 (d := mkD "check_picture_choice" 49) rfl
  refine ⟨_, _, _, _, _, fd, n40, p40, F, C8.fnScope_by s40, rfl, rfl, c40, F.bindsN fun _ _ _ _ _ _ us hl => match us, hl with | [_, _], _ => rfl, fun n ks pm h => ?_⟩
  simp only [ck, List.mem_cons, Prod.mk.injEq, List.not_mem_nil, or_false] at h
  obtain ⟨h1, rfl, rfl, rfl⟩ := h
  · exact absurd h1 (by decide)
theorem d73 (c : He.SaysD fal fn K) : DefOk ck K (fA K) 73 ⟨2, 2, b73⟩ := by
  obtain ⟨fd, F⟩ := c.def_ 32 (d := mkD "check_letter" 50) rfl
  refine ⟨_, _, _, _, _, fd, n73, p73, F, C8.fnScope_by s73, rfl, rfl, c73, F.bindsN fun _ _ _ _ _ _ us hl => match us, hl with | [_, _], _ => rfl, fun n ks pm h => ?_⟩
  simp only [ck, List.mem_cons, Prod.mk.injEq, List.not_mem_nil, or_false] at h
  obtain ⟨h1, rfl, rfl, rfl⟩ := h
  · exact absurd h1 (by decide)
theorem d74 (c : He.SaysD fal fn K) : DefOk ck K (fA K) 74 ⟨2, 2, b74⟩ := by
  obtain ⟨fd, F⟩ := c.def_ 33 (d := mkD "check_picture_letter" 51) rfl
  refine ⟨_, _, _, _, _, fd, n74, p74, F, C8.fnScope_by s74, rfl, rfl, c74, F.bindsN fun _ _ _ _ _ _ us hl => match us, hl with | [_, _], _ => rfl, fun n ks pm h => ?_⟩
  simp only [ck, List.mem_cons, Prod.mk.injEq, List.not_mem_nil, or_false] at h
  obtain ⟨h1, rfl, rfl, rfl⟩ := h
  · exact absurd h1 (by decide)
theorem d75 (c : He.SaysD fal fn K) : DefOk ck K (fA K) 75 ⟨2, 4, b75⟩ := by
  obtain ⟨fd, F⟩ := c.def_ 34 (d := mkD "check_order" 52) rfl
  refine ⟨_, _, _, _, _, fd, n75, p75, F, C8.fnScope_by s75, rfl, rfl, c75, F.bindsN fun _ _ _ _ _ _ us hl => match us, hl with | [_, _], _ => rfl, fun n ks pm h => ?_⟩
  simp only [ck, List.mem_cons, Prod.mk.injEq, List.not_mem_nil, or_false] at h
  obtain ⟨h1, rfl, rfl, rfl⟩ := h
  · exact absurd h1 (by decide)
theorem d76 (c : He.SaysD fal fn K) : DefOk ck K (fA K) 76 ⟨1, 2, b76⟩ := by
  obtain ⟨fd, F⟩ := c.def_ 35 (d := mkD "lot_sizes_picture" 54) rfl
  refine ⟨_, _, _, _, _, fd, n76, p76, F, C8.fnScope_by s76, rfl, rfl, c76, F.bindsN fun _ _ _ _ _ _ us hl => match us, hl with | [_], _ => rfl, fun n ks pm h => ?_⟩
  simp only [ck, List.mem_cons, Prod.mk.injEq, List.not_mem_nil, or_false] at h
  obtain ⟨h1, rfl, rfl, rfl⟩ := h
  · exact kbn F fun _ _ _ _ _ _ us ws hl hm => match us, hl, ws, hm with | [], _, [_], _ => rfl
theorem d77 (c : He.SaysD fal fn K) : DefOk ck K (fA K) 77 ⟨2, 3, b77⟩ := by
  obtain ⟨fd, F⟩ := c.def_ 36 (d := mkD "named_anew_by" 56) rfl
  refine ⟨_, _, _, _, _, fd, n77, p77, F, C8.fnScope_by s77, rfl, rfl, c77, F.bindsN fun _ _ _ _ _ _ us hl => match us, hl with | [_, _], _ => rfl, fun n ks pm h => ?_⟩
  simp only [ck, List.mem_cons, Prod.mk.injEq, List.not_mem_nil, or_false] at h
  obtain ⟨h1, rfl, rfl, rfl⟩ := h
  · exact absurd h1 (by decide)
theorem d78 (c : He.SaysD fal fn K) : DefOk ck K (fA K) 78 ⟨2, 2, b78⟩ := by
  obtain ⟨fd, F⟩ := c.def_ 37 (d := mkD "named_anew" 58) rfl
  refine ⟨_, _, _, _, _, fd, n78, p78, F, C8.fnScope_by s78, rfl, rfl, c78, F.bindsN fun _ _ _ _ _ _ us hl => match us, hl with | [_, _], _ => rfl, fun n ks pm h => ?_⟩
  simp only [ck, List.mem_cons, Prod.mk.injEq, List.not_mem_nil, or_false] at h
  obtain ⟨h1, rfl, rfl, rfl⟩ := h
  · exact absurd h1 (by decide)
theorem d79 (c : He.SaysD fal fn K) : DefOk ck K (fA K) 79 ⟨2, 2, b79⟩ := by
  obtain ⟨fd, F⟩ := c.def_ 38 (d := mkD "meet" 60) rfl
  refine ⟨_, _, _, _, _, fd, n79, p79, F, C8.fnScope_by s79, rfl, rfl, c79, F.bindsN fun _ _ _ _ _ _ us hl => match us, hl with | [_, _], _ => rfl, fun n ks pm h => ?_⟩
  simp only [ck, List.mem_cons, Prod.mk.injEq, List.not_mem_nil, or_false] at h
  obtain ⟨h1, rfl, rfl, rfl⟩ := h
  · exact absurd h1 (by decide)
theorem d80 (c : He.SaysD fal fn K) : DefOk ck K (fA K) 80 ⟨2, 2, b80⟩ := by
  obtain ⟨fd, F⟩ := c.def_ 39 (d := mkD "join" 61) rfl
  refine ⟨_, _, _, _, _, fd, n80, p80, F, C8.fnScope_by s80, rfl, rfl, c80, F.bindsN fun _ _ _ _ _ _ us hl => match us, hl with | [_, _], _ => rfl, fun n ks pm h => ?_⟩
  simp only [ck, List.mem_cons, Prod.mk.injEq, List.not_mem_nil, or_false] at h
  obtain ⟨h1, rfl, rfl, rfl⟩ := h
  · exact absurd h1 (by decide)
theorem d47 (c : He.SaysD fal fn K) : DefOk ck K (fA K) 47 ⟨1, 1, b47⟩ := by
  obtain ⟨fd, F⟩ := c.def_ 40 (d := mkD "things" 62) rfl
  refine ⟨_, _, _, _, _, fd, n47, p47, F, C8.fnScope_by s47, rfl, rfl, c47, F.bindsN fun _ _ _ _ _ _ us hl => match us, hl with | [_], _ => rfl, fun n ks pm h => ?_⟩
  simp only [ck, List.mem_cons, Prod.mk.injEq, List.not_mem_nil, or_false] at h
  obtain ⟨h1, rfl, rfl, rfl⟩ := h
  · exact absurd h1 (by decide)
theorem d81 (c : He.SaysD fal fn K) : DefOk ck K (fA K) 81 ⟨2, 4, b81⟩ := by
  obtain ⟨fd, F⟩ := c.def_ 41 (d := mkD "sieve_of" 64) rfl
  refine ⟨_, _, _, _, _, fd, n81, p81, F, C8.fnScope_by s81, rfl, rfl, c81, F.bindsN fun _ _ _ _ _ _ us hl => match us, hl with | [_, _], _ => rfl, fun n ks pm h => ?_⟩
  simp only [ck, List.mem_cons, Prod.mk.injEq, List.not_mem_nil, or_false] at h
  obtain ⟨h1, rfl, rfl, rfl⟩ := h
  · exact absurd h1 (by decide)
theorem d82 (c : He.SaysD fal fn K) : DefOk ck K (fA K) 82 ⟨2, 2, b82⟩ := by
  obtain ⟨fd, F⟩ := c.def_ 42 (d := mkD "check_steps" 66) rfl
  refine ⟨_, _, _, _, _, fd, n82, p82, F, C8.fnScope_by s82, rfl, rfl, c82, F.bindsN fun _ _ _ _ _ _ us hl => match us, hl with | [_, _], _ => rfl, fun n ks pm h => ?_⟩
  simp only [ck, List.mem_cons, Prod.mk.injEq, List.not_mem_nil, or_false] at h
  obtain ⟨h1, rfl, rfl, rfl⟩ := h
  · exact absurd h1 (by decide)
theorem d83 (c : He.SaysD fal fn K) : DefOk ck K (fA K) 83 ⟨2, 2, b83⟩ := by
  obtain ⟨fd, F⟩ := c.def_ 43 (d := mkD "sieve" 67) rfl
  refine ⟨_, _, _, _, _, fd, n83, p83, F, C8.fnScope_by s83, rfl, rfl, c83, F.bindsN fun _ _ _ _ _ _ us hl => match us, hl with | [_, _], _ => rfl, fun n ks pm h => ?_⟩
  simp only [ck, List.mem_cons, Prod.mk.injEq, List.not_mem_nil, or_false] at h
  obtain ⟨h1, rfl, rfl, rfl⟩ := h
  · exact absurd h1 (by decide)
theorem d84 (c : He.SaysD fal fn K) : DefOk ck K (fA K) 84 ⟨3, 3, b84⟩ := by
  obtain ⟨fd, F⟩ := c.def_ 44 (d := mkD "is_within_by" 69) rfl
  refine ⟨_, _, _, _, _, fd, n84, p84, F, C8.fnScope_by s84, rfl, rfl, c84, F.bindsN fun _ _ _ _ _ _ us hl => match us, hl with | [_, _, _], _ => rfl, fun n ks pm h => ?_⟩
  simp only [ck, List.mem_cons, Prod.mk.injEq, List.not_mem_nil, or_false] at h
  obtain ⟨h1, rfl, rfl, rfl⟩ := h
  · exact absurd h1 (by decide)
theorem d85 (c : He.SaysD fal fn K) : DefOk ck K (fA K) 85 ⟨3, 3, b85⟩ := by
  obtain ⟨fd, F⟩ := c.def_ 45 (d := mkD "check_two_letters" 71) rfl
  refine ⟨_, _, _, _, _, fd, n85, p85, F, C8.fnScope_by s85, rfl, rfl, c85, F.bindsN fun _ _ _ _ _ _ us hl => match us, hl with | [_, _, _], _ => rfl, fun n ks pm h => ?_⟩
  simp only [ck, List.mem_cons, Prod.mk.injEq, List.not_mem_nil, or_false] at h
  obtain ⟨h1, rfl, rfl, rfl⟩ := h
  · exact absurd h1 (by decide)
theorem d86 (c : He.SaysD fal fn K) : DefOk ck K (fA K) 86 ⟨3, 3, b86⟩ := by
  obtain ⟨fd, F⟩ := c.def_ 46 (d := mkD "is_within" 72) rfl
  refine ⟨_, _, _, _, _, fd, n86, p86, F, C8.fnScope_by s86, rfl, rfl, c86, F.bindsN fun _ _ _ _ _ _ us hl => match us, hl with | [_, _, _], _ => rfl, fun n ks pm h => ?_⟩
  simp only [ck, List.mem_cons, Prod.mk.injEq, List.not_mem_nil, or_false] at h
  obtain ⟨h1, rfl, rfl, rfl⟩ := h
  · exact absurd h1 (by decide)
theorem d87 (c : He.SaysD fal fn K) : DefOk ck K (fA K) 87 ⟨2, 5, b87⟩ := by
  obtain ⟨fd, F⟩ := c.def_ 47 (d := mkD "_law_pot" 74) rfl
  refine ⟨_, _, _, _, _, fd, n87, p87, F, C8.fnScope_by s87, rfl, rfl, c87, F.bindsN fun _ _ _ _ _ _ us hl => match us, hl with | [_, _], _ => rfl, fun n ks pm h => ?_⟩
  simp only [ck, List.mem_cons, Prod.mk.injEq, List.not_mem_nil, or_false] at h
  obtain ⟨h1, rfl, rfl, rfl⟩ := h
  · exact absurd h1 (by decide)
theorem d50 (c : He.SaysD fal fn K) : DefOk ck K (fA K) 50 ⟨2, 3, b50⟩ := by
  obtain ⟨fd, F⟩ := c.def_ 48 (d := mkD "_law_draw" 75) rfl
  refine ⟨_, _, _, _, _, fd, n50, p50, F, C8.fnScope_by s50, rfl, rfl, c50, F.bindsN fun _ _ _ _ _ _ us hl => match us, hl with | [_, _], _ => rfl, fun n ks pm h => ?_⟩
  simp only [ck, List.mem_cons, Prod.mk.injEq, List.not_mem_nil, or_false] at h
  obtain ⟨h1, rfl, rfl, rfl⟩ := h
  · exact absurd h1 (by decide)
theorem d51 (c : He.SaysD fal fn K) : DefOk ck K (fA K) 51 ⟨2, 2, b51⟩ := by
  obtain ⟨fd, F⟩ := c.def_ 49 (d := mkD "_law_pick" 76) rfl
  refine ⟨_, _, _, _, _, fd, n51, p51, F, C8.fnScope_by s51, rfl, rfl, c51, F.bindsN fun _ _ _ _ _ _ us hl => match us, hl with | [_, _], _ => rfl, fun n ks pm h => ?_⟩
  simp only [ck, List.mem_cons, Prod.mk.injEq, List.not_mem_nil, or_false] at h
  obtain ⟨h1, rfl, rfl, rfl⟩ := h
  · exact absurd h1 (by decide)
theorem d52 (c : He.SaysD fal fn K) : DefOk ck K (fA K) 52 ⟨2, 3, b52⟩ := by
  obtain ⟨fd, F⟩ := c.def_ 50 (d := mkD "_law_same" 77) rfl
  refine ⟨_, _, _, _, _, fd, n52, p52, F, C8.fnScope_by s52, rfl, rfl, c52, F.bindsN fun _ _ _ _ _ _ us hl => match us, hl with | [_, _], _ => rfl, fun n ks pm h => ?_⟩
  simp only [ck, List.mem_cons, Prod.mk.injEq, List.not_mem_nil, or_false] at h
  obtain ⟨h1, rfl, rfl, rfl⟩ := h
  · exact absurd h1 (by decide)
theorem d55 (c : He.SaysD fal fn K) : DefOk ck K (fA K) 55 ⟨1, 3, b55⟩ := by
  obtain ⟨fd, F⟩ := c.def_ 51 (d := mkD "_law_choice" 80) rfl
  refine ⟨_, _, _, _, _, fd, n55, p55, F, C8.fnScope_by s55, rfl, rfl, c55, F.bindsN fun _ _ _ _ _ _ us hl => match us, hl with | [_], _ => rfl, fun n ks pm h => ?_⟩
  simp only [ck, List.mem_cons, Prod.mk.injEq, List.not_mem_nil, or_false] at h
  obtain ⟨h1, rfl, rfl, rfl⟩ := h
  · exact absurd h1 (by decide)
theorem d57 (c : He.SaysD fal fn K) : DefOk ck K (fA K) 57 ⟨2, 5, b57⟩ := by
  obtain ⟨fd, F⟩ := c.def_ 52 (d := mkD "_law_order" 82) rfl
  refine ⟨_, _, _, _, _, fd, n57, p57, F, C8.fnScope_by s57, rfl, rfl, c57, F.bindsN fun _ _ _ _ _ _ us hl => match us, hl with | [_, _], _ => rfl, fun n ks pm h => ?_⟩
  simp only [ck, List.mem_cons, Prod.mk.injEq, List.not_mem_nil, or_false] at h
  obtain ⟨h1, rfl, rfl, rfl⟩ := h
  · exact absurd h1 (by decide)
theorem d88 (c : He.SaysD fal fn K) : DefOk ck K (fA K) 88 ⟨2, 3, b88⟩ := by
  obtain ⟨fd, F⟩ := c.def_ 53 (d := mkD "_law_common" 83) rfl
  refine ⟨_, _, _, _, _, fd, n88, p88, F, C8.fnScope_by s88, rfl, rfl, c88, F.bindsN fun _ _ _ _ _ _ us hl => match us, hl with | [_, _], _ => rfl, fun n ks pm h => ?_⟩
  simp only [ck, List.mem_cons, Prod.mk.injEq, List.not_mem_nil, or_false] at h
  obtain ⟨h1, rfl, rfl, rfl⟩ := h
  · exact absurd h1 (by decide)
theorem d89 (c : He.SaysD fal fn K) : DefOk ck K (fA K) 89 ⟨2, 14, b89⟩ := by
  obtain ⟨fd, F⟩ := c.def_ 54 (d := mkD "_law_is_right" 84) rfl
  refine ⟨_, _, _, _, _, fd, n89, p89, F, C8.fnScope_by s89, rfl, rfl, c89, F.bindsN fun _ _ _ _ _ _ us hl => match us, hl with | [_, _], _ => rfl, fun n ks pm h => ?_⟩
  simp only [ck, List.mem_cons, Prod.mk.injEq, List.not_mem_nil, or_false] at h
  obtain ⟨h1, rfl, rfl, rfl⟩ := h
  · exact absurd h1 (by decide)
theorem d90 (c : He.SaysD fal fn K) : DefOk ck K (fA K) 90 ⟨1, 5, b90⟩ := by
  obtain ⟨fd, F⟩ := c.def_ 55 (d := mkD "_law_right" 85) rfl
  refine ⟨_, _, _, _, _, fd, n90, p90, F, C8.fnScope_by s90, rfl, rfl, c90, F.bindsN fun _ _ _ _ _ _ us hl => match us, hl with | [_], _ => rfl, fun n ks pm h => ?_⟩
  simp only [ck, List.mem_cons, Prod.mk.injEq, List.not_mem_nil, or_false] at h
  obtain ⟨h1, rfl, rfl, rfl⟩ := h
  · exact absurd h1 (by decide)
theorem d91 (c : He.SaysD fal fn K) : DefOk ck K (fA K) 91 ⟨1, 4, b91⟩ := by
  obtain ⟨fd, F⟩ := c.def_ 56 (d := mkD "law" 86) rfl
  refine ⟨_, _, _, _, _, fd, n91, p91, F, C8.fnScope_by s91, rfl, rfl, c91, F.bindsN fun _ _ _ _ _ _ us hl => match us, hl with | [_], _ => rfl, fun n ks pm h => ?_⟩
  simp only [ck, List.mem_cons, Prod.mk.injEq, List.not_mem_nil, or_false] at h
  obtain ⟨h1, rfl, rfl, rfl⟩ := h
  · exact absurd h1 (by decide)
theorem dAll (c : He.SaysD fal fn K) : ∀ f F, T f = some F → DefOk ck K (fA K) f F := fun f F h => by
  unfold T at h
  split at h <;> first | (cases h; done) | (injection h with h; subst h)
  · exact d0 c
  · exact d1 c
  · exact d2 c
  · exact d4 c
  · exact d5 c
  · exact d6 c
  · exact d7 c
  · exact d69 c
  · exact d8 c
  · exact d9 c
  · exact d10 c
  · exact d11 c
  · exact d12 c
  · exact d13 c
  · exact d14 c
  · exact d15 c
  · exact d16 c
  · exact d17 c
  · exact d18 c
  · exact d19 c
  · exact d20 c
  · exact d70 c
  · exact d21 c
  · exact d23 c
  · exact d24 c
  · exact d25 c
  · exact d71 c
  · exact d72 c
  · exact d35 c
  · exact d38 c
  · exact d39 c
  · exact d40 c
  · exact d73 c
  · exact d74 c
  · exact d75 c
  · exact d76 c
  · exact d77 c
  · exact d78 c
  · exact d79 c
  · exact d80 c
  · exact d47 c
  · exact d81 c
  · exact d82 c
  · exact d83 c
  · exact d84 c
  · exact d85 c
  · exact d86 c
  · exact d87 c
  · exact d50 c
  · exact d51 c
  · exact d52 c
  · exact d55 c
  · exact d57 c
  · exact d88 c
  · exact d89 c
  · exact d90 c
  · exact d91 c
theorem nam : ∀ f F, T f = some F → ∃ x, ck.fns.lookup x = some (f, F.ps) := fun f F h => by
  unfold T at h
  split at h <;> first | (cases h; done) | (injection h with h; subst h)
  · exact ⟨"is_whole", by kernel_rfl⟩
  · exact ⟨"is_between", by kernel_rfl⟩
  · exact ⟨"is_text_of", by kernel_rfl⟩
  · exact ⟨"is_lot_number", by kernel_rfl⟩
  · exact ⟨"place_count", by kernel_rfl⟩
  · exact ⟨"is_picture_of", by kernel_rfl⟩
  · exact ⟨"is_pictured", by kernel_rfl⟩
  · exact ⟨"is_letter_of", by kernel_rfl⟩
  · exact ⟨"is_choice_of", by kernel_rfl⟩
  · exact ⟨"lot_count_of", by kernel_rfl⟩
  · exact ⟨"lot_of", by kernel_rfl⟩
  · exact ⟨"index_of", by kernel_rfl⟩
  · exact ⟨"choice_with", by kernel_rfl⟩
  · exact ⟨"size_of", by kernel_rfl⟩
  · exact ⟨"has_all", by kernel_rfl⟩
  · exact ⟨"has_some", by kernel_rfl⟩
  · exact ⟨"things_of", by kernel_rfl⟩
  · exact ⟨"things_where", by kernel_rfl⟩
  · exact ⟨"meet_at", by kernel_rfl⟩
  · exact ⟨"join_at", by kernel_rfl⟩
  · exact ⟨"meets_of", by kernel_rfl⟩
  · exact ⟨"old_places", by kernel_rfl⟩
  · exact ⟨"by_sizes", by kernel_rfl⟩
  · exact ⟨"sums_of", by kernel_rfl⟩
  · exact ⟨"sign_by", by kernel_rfl⟩
  · exact ⟨"picture_by_places", by kernel_rfl⟩
  · exact ⟨"first_wrong_divisor", by kernel_rfl⟩
  · exact ⟨"multiples_picture", by kernel_rfl⟩
  · exact ⟨"check_picture", by kernel_rfl⟩
  · exact ⟨"check_size", by kernel_rfl⟩
  · exact ⟨"check_choice", by kernel_rfl⟩
  · exact ⟨"check_picture_choice", by kernel_rfl⟩
  · exact ⟨"check_letter", by kernel_rfl⟩
  · exact ⟨"check_picture_letter", by kernel_rfl⟩
  · exact ⟨"check_order", by kernel_rfl⟩
  · exact ⟨"lot_sizes_picture", by kernel_rfl⟩
  · exact ⟨"named_anew_by", by kernel_rfl⟩
  · exact ⟨"named_anew", by kernel_rfl⟩
  · exact ⟨"meet", by kernel_rfl⟩
  · exact ⟨"join", by kernel_rfl⟩
  · exact ⟨"things", by kernel_rfl⟩
  · exact ⟨"sieve_of", by kernel_rfl⟩
  · exact ⟨"check_steps", by kernel_rfl⟩
  · exact ⟨"sieve", by kernel_rfl⟩
  · exact ⟨"is_within_by", by kernel_rfl⟩
  · exact ⟨"check_two_letters", by kernel_rfl⟩
  · exact ⟨"is_within", by kernel_rfl⟩
  · exact ⟨"_law_pot", by kernel_rfl⟩
  · exact ⟨"_law_draw", by kernel_rfl⟩
  · exact ⟨"_law_pick", by kernel_rfl⟩
  · exact ⟨"_law_same", by kernel_rfl⟩
  · exact ⟨"_law_choice", by kernel_rfl⟩
  · exact ⟨"_law_order", by kernel_rfl⟩
  · exact ⟨"_law_common", by kernel_rfl⟩
  · exact ⟨"_law_is_right", by kernel_rfl⟩
  · exact ⟨"_law_right", by kernel_rfl⟩
  · exact ⟨"law", by kernel_rfl⟩
theorem fns {h : Heap} {mg : Str → Option Value} (X : K.In h) (G : h.Ns mainGlobals mg) (c : He.SaysD fal fn K) : ∀ q ∈ ck.fns, mg q.1 = some (.ref (fA K q.2.1)) ∧ ∃ F, T q.2.1 = some F ∧ F.ps = q.2.2 :=
  (f_cons ⟨He.glo_ok X G (c.fact 0 rfl), _, rfl, rfl⟩ (f_cons ⟨He.glo_ok X G (c.fact 1 rfl), _, rfl, rfl⟩ (f_cons ⟨He.glo_ok X G (c.fact 2 rfl), _, rfl, rfl⟩ (f_cons ⟨He.glo_ok X G (c.fact 3 rfl), _, rfl, rfl⟩ (f_cons ⟨He.glo_ok X G (c.fact 4 rfl), _, rfl, rfl⟩ (f_cons ⟨He.glo_ok X G (c.fact 5 rfl), _, rfl, rfl⟩ (f_cons ⟨He.glo_ok X G (c.fact 6 rfl), _, rfl, rfl⟩ (f_cons ⟨He.glo_ok X G (c.fact 7 rfl), _, rfl, rfl⟩ (f_cons ⟨He.glo_ok X G (c.fact 8 rfl), _, rfl, rfl⟩ (f_cons ⟨He.glo_ok X G (c.fact 9 rfl), _, rfl, rfl⟩ (f_cons ⟨He.glo_ok X G (c.fact 10 rfl), _, rfl, rfl⟩ (f_cons ⟨He.glo_ok X G (c.fact 11 rfl), _, rfl, rfl⟩ (f_cons ⟨He.glo_ok X G (c.fact 12 rfl), _, rfl, rfl⟩ (f_cons ⟨He.glo_ok X G (c.fact 13 rfl), _, rfl, rfl⟩ (f_cons ⟨He.glo_ok X G (c.fact 14 rfl), _, rfl, rfl⟩ (f_cons ⟨He.glo_ok X G (c.fact 15 rfl), _, rfl, rfl⟩ (f_cons ⟨He.glo_ok X G (c.fact 16 rfl), _, rfl, rfl⟩ (f_cons ⟨He.glo_ok X G (c.fact 17 rfl), _, rfl, rfl⟩ (f_cons ⟨He.glo_ok X G (c.fact 18 rfl), _, rfl, rfl⟩ (f_cons ⟨He.glo_ok X G (c.fact 19 rfl), _, rfl, rfl⟩ (f_cons ⟨He.glo_ok X G (c.fact 20 rfl), _, rfl, rfl⟩ (f_cons ⟨He.glo_ok X G (c.fact 21 rfl), _, rfl, rfl⟩ (f_cons ⟨He.glo_ok X G (c.fact 22 rfl), _, rfl, rfl⟩ (f_cons ⟨He.glo_ok X G (c.fact 23 rfl), _, rfl, rfl⟩ (f_cons ⟨He.glo_ok X G (c.fact 24 rfl), _, rfl, rfl⟩ (f_cons ⟨He.glo_ok X G (c.fact 25 rfl), _, rfl, rfl⟩ (f_cons ⟨He.glo_ok X G (c.fact 26 rfl), _, rfl, rfl⟩ (f_cons ⟨He.glo_ok X G (c.fact 27 rfl), _, rfl, rfl⟩ (f_cons ⟨He.glo_ok X G (c.fact 28 rfl), _, rfl, rfl⟩ (f_cons ⟨He.glo_ok X G (c.fact 29 rfl), _, rfl, rfl⟩ (f_cons ⟨He.glo_ok X G (c.fact 30 rfl), _, rfl, rfl⟩ (f_cons ⟨He.glo_ok X G (c.fact 31 rfl), _, rfl, rfl⟩ (f_cons ⟨He.glo_ok X G (c.fact 32 rfl), _, rfl, rfl⟩ (f_cons ⟨He.glo_ok X G (c.fact 33 rfl), _, rfl, rfl⟩ (f_cons ⟨He.glo_ok X G (c.fact 34 rfl), _, rfl, rfl⟩ (f_cons ⟨He.glo_ok X G (c.fact 35 rfl), _, rfl, rfl⟩ (f_cons ⟨He.glo_ok X G (c.fact 36 rfl), _, rfl, rfl⟩ (f_cons ⟨He.glo_ok X G (c.fact 37 rfl), _, rfl, rfl⟩ (f_cons ⟨He.glo_ok X G (c.fact 38 rfl), _, rfl, rfl⟩ (f_cons ⟨He.glo_ok X G (c.fact 39 rfl), _, rfl, rfl⟩ (f_cons ⟨He.glo_ok X G (c.fact 40 rfl), _, rfl, rfl⟩ (f_cons ⟨He.glo_ok X G (c.fact 41 rfl), _, rfl, rfl⟩ (f_cons ⟨He.glo_ok X G (c.fact 42 rfl), _, rfl, rfl⟩ (f_cons ⟨He.glo_ok X G (c.fact 43 rfl), _, rfl, rfl⟩ (f_cons ⟨He.glo_ok X G (c.fact 44 rfl), _, rfl, rfl⟩ (f_cons ⟨He.glo_ok X G (c.fact 45 rfl), _, rfl, rfl⟩ (f_cons ⟨He.glo_ok X G (c.fact 46 rfl), _, rfl, rfl⟩ (f_cons ⟨He.glo_ok X G (c.fact 47 rfl), _, rfl, rfl⟩ (f_cons ⟨He.glo_ok X G (c.fact 48 rfl), _, rfl, rfl⟩ (f_cons ⟨He.glo_ok X G (c.fact 49 rfl), _, rfl, rfl⟩ (f_cons ⟨He.glo_ok X G (c.fact 50 rfl), _, rfl, rfl⟩ (f_cons ⟨He.glo_ok X G (c.fact 51 rfl), _, rfl, rfl⟩ (f_cons ⟨He.glo_ok X G (c.fact 52 rfl), _, rfl, rfl⟩ (f_cons ⟨He.glo_ok X G (c.fact 53 rfl), _, rfl, rfl⟩ (f_cons ⟨He.glo_ok X G (c.fact 54 rfl), _, rfl, rfl⟩ (f_cons ⟨He.glo_ok X G (c.fact 55 rfl), _, rfl, rfl⟩ (f_cons ⟨He.glo_ok X G (c.fact 56 rfl), _, rfl, rfl⟩ f_nil)))))))))))))))))))))))))))))))))))))))))))))))))))))))))
theorem bln {h : Heap} {mg : Str → Option Value} (X : K.In h) (G : h.Ns mainGlobals mg) (c : He.SaysD fal fn K) : ∀ x ∈ blNames, mg x = none :=
  (f_cons (He.free_ok X G (c.fact 57 rfl)) (f_cons (He.free_ok X G (c.fact 58 rfl)) (f_cons (He.free_ok X G (c.fact 59 rfl)) (f_cons (He.free_ok X G (c.fact 60 rfl)) (f_cons (He.free_ok X G (c.fact 61 rfl)) (f_cons (He.free_ok X G (c.fact 62 rfl)) (f_cons (He.free_ok X G (c.fact 63 rfl)) (f_cons (He.free_ok X G (c.fact 64 rfl)) (f_cons (He.free_ok X G (c.fact 65 rfl)) (f_cons (He.free_ok X G (c.fact 66 rfl)) (f_cons (He.free_ok X G (c.fact 67 rfl)) (f_cons (He.free_ok X G (c.fact 68 rfl)) (f_cons (He.free_ok X G (c.fact 69 rfl)) (f_cons (He.free_ok X G (c.fact 70 rfl)) (f_cons (He.free_ok X G (c.fact 71 rfl)) (f_cons (He.free_ok X G (c.fact 72 rfl)) (f_cons (He.free_ok X G (c.fact 73 rfl)) (f_cons (He.free_ok X G (c.fact 74 rfl)) f_nil))))))))))))))))))
theorem gls {h : Heap} {mg : Str → Option Value} (X : K.In h) (G : h.Ns mainGlobals mg) (c : He.SaysD fal fn K) : ∀ q ∈ ck.gls, ∃ u v, mg q.1 = some u ∧ RelV v u ∧ ∀ H m β ρ n, RD K (fA K) H m β ρ n (Gc q.2) v :=
  (f_cons (let ⟨t, e⟩ := He.int_ok X G (c.fact 75 rfl); ⟨_, .int 4, e, ⟨t, rfl⟩, fun _ _ _ _ _ => .int _⟩) (f_cons (let ⟨t, e⟩ := He.int_ok X G (c.fact 76 rfl); ⟨_, .int 99, e, ⟨t, rfl⟩, fun _ _ _ _ _ => .int _⟩) (f_cons (let ⟨t, e⟩ := He.str_ok X G (c.fact 77 rfl); ⟨_, .str ⟨[65, 66, 67, 68].toArray⟩, e, ⟨t, rfl⟩, fun _ _ _ _ _ => .str _⟩) (f_cons (let ⟨t, e⟩ := He.int_ok X G (c.fact 78 rfl); ⟨_, .int 60, e, ⟨t, rfl⟩, fun _ _ _ _ _ => .int _⟩) f_nil))))
theorem tab {h : Heap} {mg : Str → Option Value} (X : K.In h) (G : h.Ns mainGlobals mg) (c : He.SaysD fal fn K) : TabOk ck K mg (fA K) T Gc :=
  ⟨dAll c, fun x f np e => fns X G c _ (PySem.mem_of_lookup e), nam, fun x i e => gls X G c _ (PySem.mem_of_lookup e), bln X G c⟩
end
theorem rd_scr {K : PySem.W.Frag} {fa : Nat → Addr} {H : Hp} {a : Addr} {ns : List Int} (S : SqL K H a (ns.map V.int)) : RDs K fa H (Mu [] []) [] [] 0 [.scr (ns.map .int)] [.ref a] := by
  have r : RDs K fa H (Mu [] []) [] [] 0 (ns.map .int) (ns.map V.int) := rds_ints ns
  rcases S with S | S
  · exact .cons (.scrH S (fun ⟨i, _, h, _⟩ => by simp at h) (by simp) r) .nil
  · exact .cons (.scrK S r) .nil
end Lw
open PySem PySem.W PySem.Calls PyProof.Rows
theorem PySem.Challenge.cw_lotoverlaps_k76_whole_pictures_of_multip_holds : PySem.Challenge.rw_lotoverlaps_k76_whole_pictures_of_multip.Holds := by
  w_on; o_law
  refine HandSHeadRun.head_any (r := OpenLaw.row PySem.Challenge.rw_lotoverlaps_k76_whole_pictures_of_multip) (q := view (OpenLaw.row PySem.Challenge.rw_lotoverlaps_k76_whole_pictures_of_multip).prog [86]) (H := Lw.hk) (ob := Lw.ob) (M := 20000) (loose := Lw.loose) (d := HandSHeadRun.topDef (OpenLaw.row PySem.Challenge.rw_lotoverlaps_k76_whole_pictures_of_multip).prog 86) (kwd := []) Lw.ob_eq
    (by kernel_rfl) (fun s => by kernel_rfl) Lw.run (by kernel_rfl) (by kernel_rfl) (by kernel_rfl) (by rfl) (by first | assumption | decide +kernel) (by decide +kernel) ⟨rfl, rfl, rfl, rfl, rfl, by decide +kernel⟩ ?hw ?hc
  case hw => w_witness2
  case hc =>
    refine L2.walk_ofE (l := PySem.Challenge.rw_lotoverlaps_k76_whole_pictures_of_multip) (n := 63) (k := 60) (x := "script") (CX := fun outer H s E e s' => ∃ P w, L2.CX P w outer H s E e s') rfl (by decide) (by kernel_rfl) ⟨rfl, by decide, by decide⟩ ?F (fun _ _ _ _ ⟨_, _, z⟩ => PL.cx_false z)
    intro w mg fa h Y G hmg0
    obtain ⟨K, KX, c⟩ := Y
    have hmg : mg ("law" : PySem.Str) = some (.ref fa) := by
      have e : (HandSHeadRun.topDef (OpenLaw.row PySem.Challenge.rw_lotoverlaps_k76_whole_pictures_of_multip).prog 86).name = ("law" : PySem.Str) := by kernel_rfl
      rw [← e]
      exact hmg0
    have tb := Lw.tab KX G c
    obtain ⟨fd, F⟩ := c.def_ 56 (d := Lw.mkD "law" 86) rfl
    have e := hmg.symm.trans (He.glo_ok KX G (c.fact 56 (f := .glo "law") rfl))
    cases e
    have b := F.bindsA (ps := ["script"]) fun _ _ _ _ _ _ us hl => match us, hl with | [_], _ => rfl
    refine ⟨K, fd, _, KX, fun s v => b s [v] rfl, ?_, fun base _ _ => PL.keeps_cx (PL.fn_one (n := 59) (f := 91) (W := 100000) (ca := fun _ => 0) (xn := fun _ => ⟨#[]⟩) tb rfl (PL.fn_ok tb 59) F (C8.fnScope_by Lw.s91) rfl rfl Lw.c91) fun o H s E e s' z => ⟨_, _, z⟩⟩
    intro H a ns hl _ hS
    obtain ⟨st, hr⟩ := Lw.pure_law ns hl
    refine ⟨[], [], [], [.scr (ns.map .int)], ⟨fun i j a h => by simp at h, rfl, fun i o h => by simp at h, fun b hb => nomatch hb⟩, Lw.rd_scr hS, rfl, ?_⟩
    rw [hr]
    intro v H' ρ' a1 S1 r1
    cases r1
    rfl

