import PyProof.Rows.All
import Wide.All
import OpenK.AllK
import Wide.FinOn
import HandS.ForMost
import HandS.Exc
import HandS.Flow
import HandS.TupAny
import HandS.TupMul
import HandS.IsInst
import HandS.Zip
import HandS.TupLen
import HandS.CallSlots
import HandS.WordsExc
import HandS.Deep
import HandS.Conv
import KE.DataMinMax
import KE.SortData
import HandS.More
import HandS.ExcOwn
import HandS.Property
import HandS.TryOnly
import HandS.Style
import KE.GoesMore
import HandS.TryMany
import HandS.ExcInit
import HandS.Small
import HandS.HeadHook1
import HandS.Defaults
import HandS.SortKw
import HandS.Flt
import HandS.HeadHook2
import HandS.Wide
import HandS.Ends
import HandS.HeadEnd
import HandS.Head2
import PySem.Challenge.RW_stretchtold_k18_whole_closed_books
section
set_option Elab.async false
set_option linter.all false
/-! A small Python by values: data D, syntax E, Ss, and its reading by functions (ev, exs). -/
namespace MP
open PySem

/-- classes of the program -/
inductive Cl where
  | book | ring | round | desk | err (k : Nat)
  deriving DecidableEq, Repr

/-- defs: the draws' two, those of the program, of the law, of classes -/
inductive F where
  | mix | next
  | p (i : Nat) | law (i : Nat)
  | ini (c : Cl) | eq (c : Cl) | len (c : Cl) | pr (c : Cl) (i : Nat) | me (c : Cl) (i : Nat)
  deriving DecidableEq, Repr

abbrev Key := L2.Key

/-- data -/
inductive D where
  | non | bl (b : Bool) | int (i : Int) | str (x : Str)
  | tup (ds : List D) | lst (ds : List D)
  | dK (kvs : List (Key × D)) | dT (kvs : List (List Key × D))
  | ins (c : Cl) (ds : List D)
  | fn (f : F) | hnd (n : Nat) | scr (ns : List Int)

/-- what changes behind the data's back: sources of draws, desks -/
inductive So where
  | dr (st : Int) (cells : List Int) (ix : Int)
  | ob (c : Cl) (ds : List D)
abbrev Sto := List So
abbrev Env := List (Option D)

inductive Rs (α : Type) where
  | ok (a : α) (s : Sto)
  | ex (c : Cl) (ds : List D) (s : Sto)
  | st

namespace Rs
def bind {α β : Type} (r : Rs α) (f : α → Sto → Rs β) : Rs β :=
  match r with
  | .ok a s => f a s
  | .ex c ds s => .ex c ds s
  | .st => .st
/-- where no error may leave -/
def nox {α : Type} (r : Rs α) : Rs α :=
  match r with
  | .ok a s => .ok a s
  | _ => .st
@[simp] theorem nox_ok {α : Type} (a : α) (s : Sto) : (Rs.ok a s).nox = .ok a s := rfl
@[simp] theorem nox_st {α : Type} : (Rs.st : Rs α).nox = .st := rfl
def opt {α : Type} (o : Option α) (s : Sto) : Rs α :=
  match o with
  | some a => .ok a s
  | none => .st
@[simp] theorem bind_ok {α β : Type} (a : α) (s : Sto) (f : α → Sto → Rs β) : (Rs.ok a s).bind f = f a s := rfl
@[simp] theorem bind_ex {α β : Type} (c : Cl) (ds : List D) (s : Sto) (f : α → Sto → Rs β) : (Rs.ex c ds s : Rs α).bind f = .ex c ds s := rfl
@[simp] theorem bind_st {α β : Type} (f : α → Sto → Rs β) : (Rs.st : Rs α).bind f = .st := rfl
@[simp] theorem opt_some {α : Type} (a : α) (s : Sto) : Rs.opt (some a) s = .ok a s := rfl
@[simp] theorem opt_none {α : Type} (s : Sto) : Rs.opt (none : Option α) s = .st := rfl
end Rs

inductive Op where | add | sub | mul | fdiv | mod | pow
  deriving DecidableEq, Repr
inductive Cm where | eq | ne | lt | le | gt | ge | isin | notin | isn | notn
  deriving DecidableEq, Repr
inductive Ty where | int | bool | tuple | list | str | cls (c : Cl)
  deriving DecidableEq, Repr
inductive B1 where | len | sum | max | min | abs | int | str | list | tuple | dict
  deriving DecidableEq, Repr
inductive B2 where | max | min | split | join
  deriving DecidableEq, Repr

/-! targets -/
mutual
inductive Tg where
  | nm (i : Nat) | tp (ts : Tgs)
inductive Tgs where
  | nil | cons (t : Tg) (ts : Tgs)
end

mutual
inductive E where
  | var (i : Nat)
  | int (i : Int) | str (x : Str) | bl (b : Bool) | non
  | tup (es : Es) | lst (es : Es)
  | bin (op : Op) (a b : E)
  | neg (a : E) | nott (a : E)
  | and (a b : E) | or (a b : E)
  | cmp (op : Cm) (a b : E)
  | chain (o p : Cm) (a b c : E)
  | ifx (c a b : E)
  | ix (a i : E)
  | sl (a : E) (lo hi : Oe)
  | rev (a : E)
  | mind (a : E)
  | lzip (a b : E)
  | idx (a b : E)
  | call (f : F) (es : Es)
  | fnv (f : F)
  | callv (fs : List F) (e : E)
  | make (c : Cl) (es : Es)
  | fld (a : E) (c : Cl) (i : Nat)
  | prop (a : E) (c : Cl) (i : Nat)
  | isa (a : E) (t : Ty)
  | b1 (b : B1) (a : E)
  | lrg (a : E)
  | leno (a : E) (k : Cl)
  | eqo (k : Cl) (a b : E)
  | b2 (b : B2) (a c : E)
  | max3 (a b c : E)
  | get (d k x : E)
  | dnew (t : Bool)
  | dd1 (k v : E)
  | rep (es : Es) (b : E)
  | lc (elt : E) (t : Tg) (s : Sr)
  | lci (elt : E) (t : Tg) (s : Sr) (c : E)
  | lc2 (elt : E) (i : Nat) (s : Sr) (j : Nat) (s2 : Sr)
  | lc2i (elt : E) (i : Nat) (s : Sr) (j : Nat) (s2 : Sr) (c : E)
  | dcm (k v : E) (i : Nat) (s : Sr)
inductive Es where
  | nil | cons (e : E) (es : Es)
inductive Oe where
  | no | so (e : E)
inductive Sr where
  | of (e : E) | rg1 (e : E) | rg2 (a b : E) | en (e : E) | zp (a b : E)
end

mutual
inductive S where
  | asg (t : Tg) (e : E)
  | own (i : Nat) (e : E)
  | par (ts : List Nat) (es : Es)
  | paro (i j : Nat) (e : E)
  | paro3 (i j l : Nat) (e e2 : E)
  | aug (i : Nat) (op : Op) (e : E)
  | expr (e : E)
  | app (i : Nat) (e : E)
  | ext (i : Nat) (e : E)
  | put (i : Nat) (k e : E)
  | seta (i : Nat) (cl : Cl) (e : E)
  | ret (e : E) | retn
  | ite (c : E) (a b : Ss)
  | whl (c : E) (b : Ss)
  | for (t : Tg) (s : Sr) (b : Ss)
  | rais (c : Cl) (es : Es)
  | tri (b : Ss) (hs : Hs) (ks : List Nat)
  | frz (i : Nat)
  | pass
inductive Ss where
  | nil | cons (st : S) (r : Ss)
inductive Hs where
  | nil | cons (c : Cl) (i : Option Nat) (b : Ss) (r : Hs)
end

/-! ### operations on data -/
def lim : Nat := 16777216
/-- data without dicts and objects, of bounded depth -/
def isP : Nat → D → Bool
  | _, .non => true
  | _, .bl _ => true
  | _, .int _ => true
  | _, .str x => x.cps.all (· < 0x110000)
  | n + 1, .tup ds => ds.all (isP n)
  | n + 1, .lst ds => ds.all (isP n)
  | _, _ => false
def b2i (b : Bool) : Int := if b then 1 else 0
def eqL (f : D → D → Bool) : List D → List D → Bool
  | [], [] => true
  | x :: xs, y :: ys => f x y && eqL f xs ys
  | _, _ => false
/-- == of such data -/
def eqF : Nat → D → D → Bool
  | _, .non, .non => true
  | _, .bl a, .bl b => a == b
  | _, .bl a, .int j => b2i a == j
  | _, .int i, .bl b => i == b2i b
  | _, .int i, .int j => i == j
  | _, .str x, .str y => x == y
  | n + 1, .tup a, .tup b => eqL (eqF n) a b
  | n + 1, .lst a, .lst b => eqL (eqF n) a b
  | _, _, _ => false
def eqD (a b : D) : Option Bool := if isP 8 a && isP 8 b then some (eqF 8 a b) else none
/-- < of data: ints, tuples of such (place by place) -/
def ltL (lt eq : D → D → Bool) : List D → List D → Bool
  | [], [] => false
  | [], _ :: _ => true
  | _ :: _, [] => false
  | x :: xs, y :: ys => if eq x y then ltL lt eq xs ys else lt x y
def ltF : Nat → D → D → Bool
  | _, .int i, .int j => decide (i < j)
  | n + 1, .tup a, .tup b => ltL (ltF n) (eqF n) a b
  | _, _, _ => false

def keyD : D → Option Key
  | .int i => some (.inl i)
  | .str x => some (.inr x)
  | _ => none
def keysD : List D → Option (List Key)
  | [] => some []
  | d :: ds => match keyD d, keysD ds with
    | some k, some ks => some (k :: ks)
    | _, _ => none
section
variable {κ α : Type} [DecidableEq κ]
def lk (kvs : List (κ × α)) (k : κ) : Option α := (kvs.find? fun kv => decide (kv.1 = k)).map (·.2)
def upk (k : κ) (v : α) (kvs : List (κ × α)) : List (κ × α) :=
  if kvs.any fun kv => decide (kv.1 = k) then kvs.map fun kv => if kv.1 = k then (kv.1, v) else kv else kvs ++ [(k, v)]
end
/-- d[k], k in d: none where it isn't told -/
def dget : D → D → Option (Option D)
  | .dK kvs, k => match keyD k with
    | some k => some (lk kvs k)
    | none => none
  | .dT kvs, .tup ks => match keysD ks with
    | some k => some (lk kvs k)
    | none => none
  | _, _ => none
def isDct : D → Bool
  | .dK _ => true
  | .dT _ => true
  | _ => false
def dput : D → D → D → Option D
  | .dK kvs, k, v => match keyD k with
    | some k => if kvs.length < lim then some (.dK (upk k v kvs)) else none
    | none => none
  | .dT kvs, .tup ks, v => match keysD ks with
    | some k => if kvs.length < lim then some (.dT (upk k v kvs)) else none
    | none => none
  | _, _, _ => none
def ixD : D → D → Option D
  | .lst ds, .int i => L2.atI ds i
  | .tup ds, .int i => L2.atI ds i
  | .str z, .int i => if z.length ≤ lim then (L2.atI z.cps.toList i).map fun c => .str ⟨#[c]⟩ else none
  | d, k => (dget d k).join
def setD : D → D → D → Option D
  | .lst ds, .int i, v => (L2.ixN ds.length i).map fun j => .lst (ds.set j v)
  | d, k, v => dput d k v
def cutL {α : Type} (xs : List α) (lo hi : Option Int) : List α := (xs.drop (HT.sIx xs.length 0 lo)).take (HT.sIx xs.length xs.length hi - HT.sIx xs.length 0 lo)
def slD (x : D) (lo hi : Option Int) : Option D :=
  match x with
  | .lst ds => some (.lst (cutL ds lo hi))
  | .tup ds => some (.tup (cutL ds lo hi))
  | _ => none
def mulOk (i j : Int) : Bool := (decide (-18446744073709551616 < i) && decide (i < 18446744073709551616)) || (decide (-18446744073709551616 < j) && decide (j < 18446744073709551616))
def binD : Op → D → D → Option D
  | .add, .int i, .int j => some (.int (i + j))
  | .add, .lst a, .lst b => if a.length + b.length ≤ lim then some (.lst (a ++ b)) else none
  | .add, .tup a, .tup b => if a.length + b.length ≤ lim then some (.tup (a ++ b)) else none
  | .add, .str a, .str b => if a.length + b.length ≤ lim then some (.str (a ++ b)) else none
  | .sub, .int i, .int j => some (.int (i - j))
  | .mul, .int i, .int j => if mulOk i j then some (.int (i * j)) else none
  | .mul, .lst a, .int k => if decide (k < 16777216) && decide (0 ≤ k) && decide (a.length * k.toNat ≤ lim) then some (.lst (List.replicate k.toNat a).flatten) else none
  | .mul, .tup a, .int k => if decide (2 ≤ k) && decide (k ≤ 1000) && decide (a.length ≤ 1000) && !a.isEmpty then some (.tup (List.replicate k.toNat a).flatten) else none
  | .fdiv, .int i, .int j => if decide (0 < j) && decide (j < 1073741824) then some (.int (i / j)) else none
  | .mod, .int i, .int j => if decide (0 < j) then some (.int (i % j)) else none
  | .pow, .int i, .int j => if decide (0 ≤ j) && decide (j ≤ 1000) && decide (i.natAbs < 1000000) then some (.int (i ^ j.toNat)) else none
  | _, _, _ => none
def negD : D → Option D
  | .int i => some (.int (-i))
  | _ => none
def truD : D → Option Bool
  | .non => some false
  | .bl b => some b
  | .int i => some (i != 0)
  | .str x => if x.length ≤ lim then some (x.length != 0) else none
  | .tup ds => some (!ds.isEmpty)
  | .lst ds => some (!ds.isEmpty)
  | .dK kvs => some (!kvs.isEmpty)
  | _ => none
def isNon : D → Bool
  | .non => true
  | _ => false
def isFl : D → Bool
  | .non => true
  | .bl _ => true
  | .int _ => true
  | .str _ => true
  | _ => false
/-- in, not in: a dict's keys; a list or a tuple of flat things; one sign in a text -/
def inD (x : D) : D → Option Bool
  | .lst ds => if isFl x && ds.all isFl then some (ds.any fun y => eqF 0 y x) else if isP 7 x && ds.all (isP 7) then some (ds.any fun y => eqF 7 y x) else none
  | .tup ds => if isFl x && ds.all isFl then some (ds.any fun y => eqF 0 y x) else none
  | .str z => match x with
    | .str y => match y.cps.toList with
      | [c] => some (decide (c ∈ z.cps.toList))
      | _ => none
    | _ => none
  | d => (dget d x).map (·.isSome)
/-- comparisons; == of a book is its own -/
def cmpD : Cm → D → D → Option Bool
  | .eq, a, b => eqD a b
  | .ne, a, b => (eqD a b).map (!·)
  | .lt, .int i, .int j => some (decide (i < j))
  | .le, .int i, .int j => some (decide (i ≤ j))
  | .gt, .int i, .int j => some (decide (j < i))
  | .ge, .int i, .int j => some (decide (j ≤ i))
  | .isin, a, b => inD a b
  | .notin, a, b => (inD a b).map (!·)
  | .isn, a, .non => some (isNon a)
  | .notn, a, .non => some (!isNon a)
  | _, _, _ => none
def isaD : D → Ty → Option Bool
  | .hnd _, _ => none
  | .scr _, _ => none
  | .fn _, _ => none
  | .int _, .int => some true
  | .bl _, .int => some true
  | .bl _, .bool => some true
  | .tup _, .tuple => some true
  | .lst _, .list => some true
  | .str _, .str => some true
  | .ins c _, .cls c' => some (decide (c = c'))
  | _, _ => some false
def lenD : D → Option Int
  | .lst ds => some ds.length
  | .tup ds => some ds.length
  | .str x => if x.length ≤ lim then some x.length else none
  | .dK kvs => some kvs.length
  | .dT kvs => some kvs.length
  | _ => none
def intsOf : List D → Option (List Int)
  | [] => some []
  | .int i :: ds => match intsOf ds with
    | some is => some (i :: is)
    | none => none
  | _ :: _ => none
def maxI : List Int → Option Int
  | [] => none
  | x :: xs => some (xs.foldl (fun m y => if m < y then y else m) x)
def minI : List Int → Option Int
  | [] => none
  | x :: xs => some (xs.foldl (fun m y => if y < m then y else m) x)
/-- the two can be compared: ints, tuples place by place -/
def alkL (f : D → D → Bool) : List D → List D → Bool
  | x :: xs, y :: ys => f x y && alkL f xs ys
  | _, _ => true
def alkD : Nat → D → D → Bool
  | _, .int _, .int _ => true
  | n + 1, .tup a, .tup b => alkL (alkD n) a b
  | _, _, _ => false
def okMin (ds : List D) : Bool := ds.all fun x => isP 7 x && ds.all fun y => alkD 7 x y
/-- the first of the least -/
def minDs : List D → Option D
  | [] => none
  | x :: xs => some (xs.foldl (fun m y => if ltF 7 y m then y else m) x)
def b1D (b : B1) (x : D) : Option D :=
  match b, x with
  | .len, x => (lenD x).map D.int
  | .sum, .lst ds => (intsOf ds).map fun is => .int is.sum
  | .sum, .tup ds => (intsOf ds).map fun is => .int is.sum
  | .max, .lst ds => match intsOf ds with
    | some is => (maxI is).map D.int
    | none => none
  | .max, .tup ds => match intsOf ds with
    | some is => (maxI is).map D.int
    | none => none
  | .min, .lst ds => match intsOf ds with
    | some is => (minI is).map D.int
    | none => if okMin ds then minDs ds else none
  | .min, .tup ds => match intsOf ds with
    | some is => (minI is).map D.int
    | none => none
  | .abs, .int i => some (.int (if i < 0 then -i else i))
  | .int, .int i => some (.int i)
  | .str, .int i => if i.natAbs.log2 < 1920 then some (.str (Str.ofString (toString i))) else none
  | .list, .lst ds => some (.lst ds)
  | .list, .tup ds => some (.lst ds)
  | .list, .dK kvs => some (.lst (kvs.map fun p => match p.1 with
    | .inl i => .int i
    | .inr x => .str x))
  | .tuple, .lst ds => some (.tup ds)
  | .tuple, .tup ds => some (.tup ds)
  | .dict, .dK kvs => some (.dK kvs)
  | _, _ => none
def b2D (b : B2) (x y : D) : Option D :=
  match b, x, y with
  | .max, .int i, .int j => some (.int (if j > i then j else i))
  | .min, .int i, .int j => some (.int (if j < i then j else i))
  | _, _, _ => none
def rgD (a b : Int) : Option (List D) :=
  if decide (-(4611686018427387904 : Int) ≤ a) && decide (a < 4611686018427387904) && decide (-(4611686018427387904 : Int) ≤ b) && decide (b < 4611686018427387904)
  then some ((List.range (b - a).toNat).map fun i => .int (a + (i : Nat))) else none
def enL : Nat → List D → List D
  | _, [] => []
  | n, d :: ds => .tup [.int n, d] :: enL (n + 1) ds
def zpL : List D → List D → List D
  | a :: as, b :: bs => .tup [a, b] :: zpL as bs
  | _, _ => []
def itD : D → Option (List D)
  | .lst ds => some ds
  | .tup ds => some ds
  | _ => none

/-! ### targets -/
mutual
def bindT : Tg → D → Env → Option Env
  | .nm i, d, ρ => some (ρ.set i (some d))
  | .tp ts, .tup ds, ρ => bindTs ts ds ρ
  | .tp ts, .lst ds, ρ => bindTs ts ds ρ
  | _, _, _ => none
def bindTs : Tgs → List D → Env → Option Env
  | .nil, [], ρ => some ρ
  | .cons t ts, d :: ds, ρ => match bindT t d ρ with
    | some ρ' => bindTs ts ds ρ'
    | none => none
  | _, _, _ => none
end

mutual
def slotsT : Tg → List Nat
  | .nm i => [i]
  | .tp ts => slotsTs ts
def slotsTs : Tgs → List Nat
  | .nil => []
  | .cons t ts => slotsT t ++ slotsTs ts
end
/-- a comprehension's own names are empty at its start -/
def wipeE (ρ : Env) : List Nat → Env
  | [] => ρ
  | v :: vs => (wipeE ρ vs).set v none

/-- the reading's surroundings: what calls give, how long whiles may go -/
structure Cfg where
  call : F → List D → Sto → Rs D
  fuel : Nat

/-- what an own == may be asked of -/
def eqRt (k : Cl) : D → Bool
  | .tup _ => true
  | .ins k'' _ => decide (k'' = k)
  | _ => false
/-! ### loops of comprehensions -/
def lcL (f : D → Sto → Rs D) : List D → List D → Sto → Rs D
  | acc, [], s => .ok (.lst acc) s
  | acc, x :: xs, s => (f x s).nox.bind fun d s => if acc.length < lim then lcL f (acc ++ [d]) xs s else .st
def lciL (f : D → Sto → Rs (Option D)) : List D → List D → Sto → Rs D
  | acc, [], s => .ok (.lst acc) s
  | acc, x :: xs, s => (f x s).nox.bind fun o s => match o with
    | none => lciL f acc xs s
    | some d => if acc.length < lim then lciL f (acc ++ [d]) xs s else .st
def lc2L (f : List D → D → Sto → Rs (List D)) : List D → List D → Sto → Rs D
  | acc, [], s => .ok (.lst acc) s
  | acc, x :: xs, s => (f acc x s).nox.bind fun acc s => lc2L f acc xs s
def lc2In (f : D → Sto → Rs (Option D)) : List D → List D → Sto → Rs (List D)
  | acc, [], s => .ok acc s
  | acc, x :: xs, s => (f x s).nox.bind fun o s => match o with
    | none => lc2In f acc xs s
    | some d => if acc.length < lim then lc2In f (acc ++ [d]) xs s else .st
def dcL (f : D → Sto → Rs (D × D)) : D → List D → Sto → Rs D
  | acc, [], s => .ok acc s
  | acc, x :: xs, s => (f x s).nox.bind fun p s => match dput acc p.1 p.2 with
    | some acc => dcL f acc xs s
    | none => .st
mutual
def ev (c : Cfg) : E → Env → Sto → Rs D
  | .var i, ρ, s => match ρ[i]? with
    | some (some d) => .ok d s
    | _ => .st
  | .int i, _, s => .ok (.int i) s
  | .str x, _, s => .ok (.str x) s
  | .bl b, _, s => .ok (.bl b) s
  | .non, _, s => .ok .non s
  | .tup es, ρ, s => (evs c es ρ s).bind fun ds s => if ds.length ≤ lim then .ok (.tup ds) s else .st
  | .lst es, ρ, s => (evs c es ρ s).bind fun ds s => if ds.length ≤ lim then .ok (.lst ds) s else .st
  | .bin op a b, ρ, s => (ev c a ρ s).bind fun x s => (ev c b ρ s).bind fun y s => Rs.opt (binD op x y) s
  | .neg a, ρ, s => (ev c a ρ s).bind fun x s => Rs.opt (negD x) s
  | .nott a, ρ, s => (ev c a ρ s).bind fun x s => Rs.opt ((truD x).map fun b => .bl (!b)) s
  | .and a b, ρ, s => (ev c a ρ s).bind fun x s => match x with
    | .bl true => ev c b ρ s
    | .bl false => .ok (.bl false) s
    | _ => .st
  | .or a b, ρ, s => (ev c a ρ s).bind fun x s => match x with
    | .bl true => .ok (.bl true) s
    | .bl false => ev c b ρ s
    | _ => .st
  | .cmp op a b, ρ, s => (ev c a ρ s).bind fun x s => (ev c b ρ s).bind fun y s => Rs.opt ((cmpD op x y).map D.bl) s
  | .chain o p a b d, ρ, s => (ev c a ρ s).bind fun x s => (ev c b ρ s).bind fun y s => (Rs.opt (cmpD o x y) s).bind fun k s =>
    if k then (ev c d ρ s).bind fun z s => Rs.opt ((cmpD p y z).map D.bl) s else .ok (.bl false) s
  | .ifx t a b, ρ, s => (ev c t ρ s).bind fun x s => (Rs.opt (truD x) s).bind fun k s => if k then ev c a ρ s else ev c b ρ s
  | .ix a i, ρ, s => (ev c a ρ s).bind fun x s => (ev c i ρ s).bind fun y s => Rs.opt (ixD x y) s
  | .sl a lo hi, ρ, s => (ev c a ρ s).bind fun x s => (evo c lo ρ s).bind fun l s => (evo c hi ρ s).bind fun h s => Rs.opt (slD x l h) s
  | .rev a, ρ, s => (ev c a ρ s).bind fun x s => match x with
    | .tup ds => .ok (.tup ds.reverse) s
    | _ => .st
  | .mind a, ρ, s => (ev c a ρ s).bind fun x s => match x with
    | .lst [] => .ok .non s
    | .lst (d :: r) => if okMin (d :: r) then Rs.opt (minDs (d :: r)) s else .st
    | _ => .st
  | .lzip a b, ρ, s => (ev c a ρ s).bind fun x s => (ev c b ρ s).bind fun y s => match x, y with
    | .lst as, .lst bs => if as.length ≤ 1000 then .ok (.lst (zpL as bs)) s else .st
    | _, _ => .st
  | .idx a b, ρ, s => (ev c a ρ s).bind fun x s => (ev c b ρ s).bind fun y s => match x with
    | .lst ds => if isFl y && ds.all isFl then Rs.opt ((ds.findIdx? fun z => eqF 0 z y).map fun j => .int (j : Nat)) s else .st
    | _ => .st
  | .call f es, ρ, s => (evs c es ρ s).bind fun ds s => c.call f ds s
  | .fnv f, _, s => .ok (.fn f) s
  | .callv fs e, ρ, s => (ev c e ρ s).bind fun d s => match d with
    | .fn f => if fs.contains f then c.call f [] s else .st
    | _ => .st
  | .make k es, ρ, s => (evs c es ρ s).bind fun ds s => c.call (.ini k) ds s
  | .fld a k i, ρ, s => (ev c a ρ s).bind fun x s => match x with
    | .ins k' ds => if k' = k then Rs.opt ds[i]? s else .st
    | _ => .st
  | .prop a k i, ρ, s => (ev c a ρ s).bind fun x s => match x with
    | .ins k' ds => if k' = k then (c.call (.pr k i) [.ins k' ds] s).nox else .st
    | _ => .st
  | .isa a t, ρ, s => (ev c a ρ s).bind fun x s => Rs.opt ((isaD x t).map D.bl) s
  | .b1 b a, ρ, s => (ev c a ρ s).bind fun x s => Rs.opt (b1D b x) s
  | .leno a k, ρ, s => (ev c a ρ s).bind fun x s => match x with
    | .ins k' ds => if k' = k then match c.call (.len k) [.ins k ds] s with
        | .ok (.int i) s => if decide (0 ≤ i) && decide (i < 9223372036854775808) then .ok (.int i) s else .st
        | _ => .st
      else .st
    | _ => .st
  | .eqo k a b, ρ, s => (ev c a ρ s).bind fun x s => (ev c b ρ s).bind fun y s => match x with
    | .ins k' ds => if decide (k' = k) && eqRt k y then match c.call (.eq k) [.ins k ds, y] s with
        | .ok (.bl b) s => .ok (.bl b) s
        | _ => .st
      else .st
    | _ => .st
  | .lrg a, ρ, s => (ev c a ρ s).bind fun x s => match x with
    | .int n => if decide (0 ≤ n) && decide (n ≤ 16777216) then .ok (.lst ((List.range n.toNat).map fun i => .int ((0 : Int) + (i : Nat)))) s else .st
    | _ => .st
  | .b2 b a d, ρ, s => (ev c a ρ s).bind fun x s => (ev c d ρ s).bind fun y s => Rs.opt (b2D b x y) s
  | .max3 a b d, ρ, s => (ev c a ρ s).bind fun x s => (ev c b ρ s).bind fun y s => (ev c d ρ s).bind fun z s => match x, y, z with
    | .int i, .int j, .int k => Rs.opt ((maxI [i, j, k]).map D.int) s
    | _, _, _ => .st
  | .get d k x, ρ, s => (ev c d ρ s).bind fun d s => if isDct d then (ev c k ρ s).bind fun k s => (ev c x ρ s).bind fun x s => (Rs.opt (dget d k) s).bind fun o s => .ok (o.getD x) s else .st
  | .dnew t, _, s => .ok (if t then .dT [] else .dK []) s
  | .dd1 k v, ρ, s => (ev c k ρ s).bind fun x s => (ev c v ρ s).bind fun y s => Rs.opt (match keyD x with
    | some x => some (.dK [(x, y)])
    | none => none) s
  | .rep es b, ρ, s => (evs c es ρ s).bind fun ds s => if ds.length ≤ lim then (ev c b ρ s).bind fun y s => match y with
    | .int k => if decide (k < 16777216) && decide (0 ≤ k) && decide (ds.length * k.toNat ≤ lim) then .ok (.lst (List.replicate k.toNat ds).flatten) s else .st
    | _ => .st else .st
  | .lc e t r, ρ, s => (evr c r ρ s).bind fun xs s => lcL (fun x s => match bindT t x (wipeE ρ (slotsT t)) with
    | some ρ' => ev c e ρ' s
    | none => .st) [] xs s
  | .lci e t r i, ρ, s => (evr c r ρ s).bind fun xs s => lciL (fun x s => match bindT t x (wipeE ρ (slotsT t)) with
    | some ρ' => (ev c i ρ' s).bind fun k s => (Rs.opt (truD k) s).bind fun k s => if k then (ev c e ρ' s).bind fun d s => .ok (some d) s else .ok none s
    | none => .st) [] xs s
  | .lc2 e i r j r2, ρ, s => (evr c r ρ s).bind fun xs s => lc2L (fun acc x s =>
      (evr c r2 ((wipeE ρ [i, j]).set i (some x)) s).bind fun ys s => lc2In (fun y s => (ev c e ((wipeE ((wipeE ρ [i, j]).set i (some x)) [j]).set j (some y)) s).bind fun d s => .ok (some d) s) acc ys s) [] xs s
  | .lc2i e i r j r2 t, ρ, s => (evr c r ρ s).bind fun xs s => lc2L (fun acc x s =>
      (evr c r2 ((wipeE ρ [i, j]).set i (some x)) s).bind fun ys s => lc2In (fun y s => (ev c t ((wipeE ((wipeE ρ [i, j]).set i (some x)) [j]).set j (some y)) s).bind fun k s =>
        (Rs.opt (truD k) s).bind fun k s => if k then (ev c e ((wipeE ((wipeE ρ [i, j]).set i (some x)) [j]).set j (some y)) s).bind fun d s => .ok (some d) s else .ok none s) acc ys s) [] xs s
  | .dcm k v i r, ρ, s => (evr c r ρ s).bind fun xs s => dcL (fun x s => (ev c k ((wipeE ρ [i]).set i (some x)) s).bind fun a s => (ev c v ((wipeE ρ [i]).set i (some x)) s).bind fun b s => .ok (a, b) s) (.dK []) xs s
def evs (c : Cfg) : Es → Env → Sto → Rs (List D)
  | .nil, _, s => .ok [] s
  | .cons e es, ρ, s => (ev c e ρ s).bind fun d s => (evs c es ρ s).bind fun ds s => .ok (d :: ds) s
def evo (c : Cfg) : Oe → Env → Sto → Rs (Option Int)
  | .no, _, s => .ok none s
  | .so e, ρ, s => (ev c e ρ s).bind fun d s => match d with
    | .int i => .ok (some i) s
    | _ => .st
def evr (c : Cfg) : Sr → Env → Sto → Rs (List D)
  | .of e, ρ, s => (ev c e ρ s).bind fun d s => Rs.opt (itD d) s
  | .rg1 e, ρ, s => (ev c e ρ s).bind fun d s => match d with
    | .int i => Rs.opt (rgD 0 i) s
    | _ => .st
  | .rg2 a b, ρ, s => (ev c a ρ s).bind fun x s => (ev c b ρ s).bind fun y s => match x, y with
    | .int i, .int j => Rs.opt (rgD i j) s
    | _, _ => .st
  | .en e, ρ, s => (ev c e ρ s).bind fun d s => (Rs.opt (itD d) s).bind fun xs s => .ok (enL 0 xs) s
  | .zp a b, ρ, s => (ev c a ρ s).bind fun x s => (ev c b ρ s).bind fun y s => match x, y with
    | .lst as, .lst bs => .ok (zpL as bs) s
    | .tup as, .tup bs => .ok (zpL as bs) s
    | _, _ => .st
end

/-! ### statements -/
inductive R where
  | nx (ρ : Env) (s : Sto)
  | rt (d : D) (s : Sto)
  | ex (c : Cl) (ds : List D) (ρ : Env) (s : Sto)
  | st
def R.bind (r : R) (f : Env → Sto → R) : R :=
  match r with
  | .nx ρ s => f ρ s
  | .rt d s => .rt d s
  | .ex c ds ρ s => .ex c ds ρ s
  | .st => .st
@[simp] theorem R.bind_nx (ρ : Env) (s : Sto) (f : Env → Sto → R) : (R.nx ρ s).bind f = f ρ s := rfl
@[simp] theorem R.bind_rt (d : D) (s : Sto) (f : Env → Sto → R) : (R.rt d s).bind f = .rt d s := rfl
@[simp] theorem R.bind_st (f : Env → Sto → R) : R.st.bind f = .st := rfl
/-- from a value on -/
def Rs.go {α : Type} (r : Rs α) (ρ : Env) (f : α → Sto → R) : R :=
  match r with
  | .ok a s => f a s
  | .ex c ds s => .ex c ds ρ s
  | .st => .st
@[simp] theorem Rs.go_ok {α : Type} (a : α) (s : Sto) (ρ : Env) (f : α → Sto → R) : (Rs.ok a s).go ρ f = f a s := rfl
@[simp] theorem Rs.go_st {α : Type} (ρ : Env) (f : α → Sto → R) : (Rs.st : Rs α).go ρ f = .st := rfl
@[simp] theorem R.bind_ex (k : Cl) (ds : List D) (ρ : Env) (s : Sto) (f : Env → Sto → R) : (R.ex k ds ρ s).bind f = .ex k ds ρ s := rfl
@[simp] theorem Rs.go_ex {α : Type} (k : Cl) (ds : List D) (s : Sto) (ρ : Env) (f : α → Sto → R) : (Rs.ex k ds s : Rs α).go ρ f = .ex k ds ρ s := rfl
/-- where an error is caught -/
def R.catch (r : R) (f : Cl → List D → Env → Sto → R) : R :=
  match r with
  | .ex k ds ρ s => f k ds ρ s
  | r => r
@[simp] theorem R.catch_nx (ρ : Env) (s : Sto) (f : Cl → List D → Env → Sto → R) : (R.nx ρ s).catch f = .nx ρ s := rfl
@[simp] theorem R.catch_rt (d : D) (s : Sto) (f : Cl → List D → Env → Sto → R) : (R.rt d s).catch f = .rt d s := rfl
@[simp] theorem R.catch_st (f : Cl → List D → Env → Sto → R) : R.st.catch f = .st := rfl
@[simp] theorem R.catch_ex (k : Cl) (ds : List D) (ρ : Env) (s : Sto) (f : Cl → List D → Env → Sto → R) : (R.ex k ds ρ s).catch f = f k ds ρ s := rfl
/-- an error of class k is one of class k' -/
def exM : Cl → Cl → Bool
  | .err a, .err b => decide (b = 0) || decide (a = b)
  | _, _ => false
/-- how many fields an error has -/
def xn : Cl → Nat
  | .err 3 => 1
  | .err 12 => 1
  | .err 17 => 2
  | _ => 0
def knw (ks : List Nat) : Cl → Bool
  | .err a => ks.contains a
  | _ => false
def R.opt (o : Option Env) (s : Sto) : R :=
  match o with
  | some ρ => .nx ρ s
  | none => .st
@[simp] theorem R.opt_some (ρ : Env) (s : Sto) : R.opt (some ρ) s = .nx ρ s := rfl
def forL (f : D → Env → Sto → R) : List D → Env → Sto → R
  | [], ρ, s => .nx ρ s
  | x :: xs, ρ, s => (f x ρ s).bind fun ρ s => forL f xs ρ s
def whlL (t : Env → Sto → Rs Bool) (f : Env → Sto → R) : Nat → Env → Sto → R
  | 0, _, _ => .st
  | n + 1, ρ, s => (t ρ s).go ρ fun k s => if k then (f ρ s).bind fun ρ s => whlL t f n ρ s else .nx ρ s
def parE : List Nat → List D → Env → Option Env
  | [], [], ρ => some ρ
  | i :: is, d :: ds, ρ => parE is ds (ρ.set i (some d))
  | _, _, _ => none
def at' (ρ : Env) (i : Nat) : Option D :=
  match ρ[i]? with
  | some (some d) => some d
  | _ => none
def isFresh : D → Bool
  | .lst _ => true
  | .dK _ => true
  | .dT _ => true
  | _ => false

mutual
def exe (c : Cfg) : S → Env → Sto → R
  | .asg t e, ρ, s => (ev c e ρ s).go ρ fun d s => R.opt (bindT t d ρ) s
  | .own i e, ρ, s => (ev c e ρ s).go ρ fun d s => if isFresh d then .nx (ρ.set i (some d)) s else .st
  | .par ts es, ρ, s => (evs c es ρ s).go ρ fun ds s => R.opt (parE ts ds ρ) s
  | .paro i j e, ρ, s => (ev c e ρ s).go ρ fun d s => .nx ((ρ.set i (some d)).set j (some (.lst []))) s
  | .paro3 i j l e e2, ρ, s => (ev c e ρ s).go ρ fun d s => (ev c e2 ρ s).go ρ fun d2 s => .nx (((ρ.set i (some d)).set j (some d2)).set l (some (.lst []))) s
  | .aug i op e, ρ, s => match at' ρ i with
    | some x => (ev c e ρ s).go ρ fun y s => match op, x, y with
      | .add, .int a, .int b => .nx (ρ.set i (some (.int (a + b)))) s
      | .mul, .int a, .int b => if mulOk a b then .nx (ρ.set i (some (.int (a * b)))) s else .st
      | _, _, _ => .st
    | none => .st
  | .expr e, ρ, s => (ev c e ρ s).go ρ fun _ s => .nx ρ s
  | .app i e, ρ, s => match at' ρ i with
    | some (.lst ds) => (ev c e ρ s).go ρ fun d s => if ds.length < lim then .nx (ρ.set i (some (.lst (ds ++ [d])))) s else .st
    | _ => .st
  | .ext i e, ρ, s => match at' ρ i with
    | some (.lst ds) => (ev c e ρ s).go ρ fun d s => match d with
      | .lst es => if ds.length + es.length ≤ lim then .nx (ρ.set i (some (.lst (ds ++ es)))) s else .st
      | _ => .st
    | _ => .st
  | .put i k e, ρ, s => match at' ρ i with
    | some x => (ev c e ρ s).go ρ fun v s => (ev c k ρ s).go ρ fun y s => R.opt ((setD x y v).map fun z => ρ.set i (some z)) s
    | none => .st
  | .seta i cl e, ρ, s => match at' ρ i with
    | some (.ins cl' []) => if cl' = cl then (ev c e ρ s).go ρ fun v s => .nx (ρ.set i (some (.ins cl [v]))) s else .st
    | _ => .st
  | .ret e, ρ, s => (ev c e ρ s).go ρ fun d s => .rt d s
  | .retn, _, s => .rt .non s
  | .ite t a b, ρ, s => (ev c t ρ s).go ρ fun x s => (Rs.opt (truD x) s).go ρ fun k s => if k then exs c a ρ s else exs c b ρ s
  | .whl t b, ρ, s => whlL (fun ρ s => (ev c t ρ s).bind fun x s => Rs.opt (truD x) s) (fun ρ s => exs c b ρ s) c.fuel ρ s
  | .for t r b, ρ, s => (evr c r ρ s).go ρ fun xs s => forL (fun x ρ s => match bindT t x ρ with
    | some ρ' => exs c b ρ' s
    | none => .st) xs ρ s
  | .rais k es, ρ, s => (evs c es ρ s).go ρ fun ds s => if ds.length = xn k then .ex k ds ρ s else .st
  | .tri b hs ks, ρ, s => (exs c b ρ s).catch (exh c hs ks)
  | .frz _, ρ, s => .nx ρ s
  | .pass, ρ, s => .nx ρ s
def exs (c : Cfg) : Ss → Env → Sto → R
  | .nil, ρ, s => .nx ρ s
  | .cons st r, ρ, s => (exe c st ρ s).bind fun ρ s => exs c r ρ s
def exh (c : Cfg) : Hs → List Nat → Cl → List D → Env → Sto → R
  | .nil, _, k, ds, ρ, s => .ex k ds ρ s
  | .cons k' _ b r, ks, k, ds, ρ, s => if knw ks k then (if exM k k' then exs c b ρ s else exh c r ks k ds ρ s) else .st
end

/-- a def: its names by slot (the parameters first), how many parameters, its body; whether what it gives is its caller's own -/
structure Fn where
  names : List Str
  pars : Nat
  body : Ss
  fresh : Bool := false
def start (fn : Fn) (ds : List D) : Env := ds.map some ++ List.replicate (fn.names.length - ds.length) none
def runFn (c : Cfg) (fn : Fn) (ds : List D) (s : Sto) : Rs D :=
  if ds.length = fn.pars then match exs c fn.body (start fn ds) s with
    | .nx _ s => if fn.fresh then .st else .ok .non s
    | .rt d s => .ok d s
    | .ex k es _ s => .ex k es s
    | .st => .st
  else .st
/-- an __init__: the new object is slot 0, it is what is given -/
def runIni (c : Cfg) (k : Cl) (fn : Fn) (ds : List D) (s : Sto) : Rs D :=
  if ds.length + 1 = fn.pars then match exs c fn.body (start fn (.ins k [] :: ds)) s with
    | .nx ρ s => Rs.opt (at' ρ 0) s
    | .rt _ _ => .st
    | .ex k es _ s => .ex k es s
    | .st => .st
  else .st

/-! ### the draws -/
def mixSt (st : Int) : List Int → Int
  | [] => st
  | c :: cs => mixSt ((st * 48271 + c % 2147483629 + 1) % 2147483647) cs
def primMix : List D → Sto → Rs D
  | [.scr ns, .int seed], s => .ok (.hnd s.length) (s ++ [.dr (mixSt seed ns) ns 0])
  | _, _ => .st
/-- one draw below b -/
def drawn (st : Int) (cells : List Int) (ix b : Int) : Int × So :=
  let k := ix % (if (cells.length : Int) > 1 then cells.length else 1)
  let c := (cells ++ [0]).getD k.toNat 0
  if 1000000000000000000 ≤ c then (c % b, .dr st (cells.set k.toNat (c / b)) ix)
  else
    let st' := (st * 48271 + c * 69621 + 11) % 2147483647
    ((st' / 7) % b, .dr st' cells (ix + 1))
def primNext : List D → Sto → Rs D
  | [.hnd n, .int b], s => match s[n]? with
    | some (.dr st cells ix) => if 0 < b ∧ b < 2 ^ 2000 ∧ 0 ≤ ix ∧ cells.length < 1000 then
        let r := drawn st cells ix b
        .ok (.int r.1) (s.set n r.2) else .st
    | _ => .st
  | _, _ => .st

def callN (T : F → Option Fn) (N : Nat) : Nat → F → List D → Sto → Rs D
  | 0, _, _, _ => .st
  | n + 1, f, ds, s => match f with
    | .mix => primMix ds s
    | .next => primNext ds s
    | .ini k => match T (.ini k) with
      | some fn => runIni ⟨callN T N n, N⟩ k fn ds s
      | none => .st
    | f => match T f with
      | some fn => runFn ⟨callN T N n, N⟩ fn ds s
      | none => .st
end MP

end
section
set_option Elab.async false
set_option linter.all false
set_option maxRecDepth 100000
/-! How data stand in the abstract heap; what a step leaves as it was. -/
namespace MP
open PySem L2

/-- where classes and defs stand -/
structure Lay where
  K : PySem.W.Frag
  cls : Cl → Addr
  fad : F → Addr
  has : Cl → Bool
def fields : Cl → List Str
  | .book => [⟨#[104, 101, 108, 100]⟩]
  | .ring => [⟨#[104, 101, 108, 100]⟩]
  | .round => [⟨#[104, 101, 108, 100]⟩]
  | .desk => [⟨#[112, 97, 115, 116]⟩]
  | .err _ => []

mutual
inductive Rep (L : Lay) (m : List (Addr × Addr)) (G : Hp) : V → D → Prop
  | non : Rep L m G .non .non
  | bl (b : Bool) : Rep L m G (.bl b) (.bl b)
  | int (i : Int) : Rep L m G (.int i) (.int i)
  | str (x : Str) : Rep L m G (.str x) (.str x)
  | obj {a : Addr} {o : HO} {d : D} : G a = some o → Cont L m G o d → Rep L m G (.ref a) d
  | fn (f : F) : Rep L m G (.ref (L.fad f)) (.fn f)
  | hnd {n : Nat} {a b : Addr} : m[n]? = some (a, b) → Rep L m G (.ref a) (.hnd n)
  | scr {a : Addr} {ns : List Int} : SqL L.K G a (ns.map V.int) → Rep L m G (.ref a) (.scr ns)
inductive Cont (L : Lay) (m : List (Addr × Addr)) (G : Hp) : HO → D → Prop
  | tup {vs : List V} {ds : List D} : Reps L m G vs ds → Cont L m G (.tup vs) (.tup ds)
  | lst {vs : List V} {ds : List D} : Reps L m G vs ds → Cont L m G (.lst vs) (.lst ds)
  | dK {kvs : List (Key × V)} {kds : List (Key × D)} : kvs.map (·.1) = kds.map (·.1) → Reps L m G (kvs.map (·.2)) (kds.map (·.2)) → Cont L m G (.dK kvs) (.dK kds)
  | dT {kvs : List (List Key × V)} {kds : List (List Key × D)} : kvs.map (·.1) = kds.map (·.1) → Reps L m G (kvs.map (·.2)) (kds.map (·.2)) → Cont L m G (.dT kvs) (.dT kds)
  | ins {c : Cl} {dx : Addr} {vs : List V} {ds : List D} : Reps L m G vs ds → ds.length ≤ (fields c).length → L.has c = true → Cont L m G (.ins (L.cls c) dx ((fields c).zip vs)) (.ins c ds)
inductive Reps (L : Lay) (m : List (Addr × Addr)) (G : Hp) : List V → List D → Prop
  | nil : Reps L m G [] []
  | cons {v : V} {vs : List V} {d : D} {ds : List D} : Rep L m G v d → Reps L m G vs ds → Reps L m G (v :: vs) (d :: ds)
end

section
variable {L : Lay} {m m' : List (Addr × Addr)} {G G' : Hp}
theorem Rd.mono (e : Same G G') {a : Addr} {u : HO} (h : Rd G a u) : Rd G' a u := by
  rcases h with h | ⟨o, h⟩
  · exact .inl (e _ _ h)
  · exact .inr ⟨o, e _ _ h⟩
theorem prefix_get {α : Type} {l l' : List α} (h : l <+: l') {n : Nat} {x : α} (e : l[n]? = some x) : l'[n]? = some x := by
  obtain ⟨r, rfl⟩ := h
  rw [List.getElem?_append_left]
  · exact e
  · exact (List.getElem?_eq_some_iff.mp e).1
mutual
theorem Rep.mono (hm : m <+: m') (e : Same G G') : ∀ {v : V} {d : D}, Rep L m G v d → Rep L m' G' v d
  | _, _, .non => .non
  | _, _, .bl b => .bl b
  | _, _, .int i => .int i
  | _, _, .str x => .str x
  | _, _, .obj h c => .obj (e _ _ h) (Cont.mono hm e c)
  | _, _, .fn f => .fn f
  | _, _, .hnd h => .hnd (prefix_get hm h)
  | _, _, .scr h => .scr (e.seq h)
theorem Cont.mono (hm : m <+: m') (e : Same G G') : ∀ {o : HO} {d : D}, Cont L m G o d → Cont L m' G' o d
  | _, _, .tup h => .tup (Reps.mono hm e h)
  | _, _, .lst h => .lst (Reps.mono hm e h)
  | _, _, .dK k h => .dK k (Reps.mono hm e h)
  | _, _, .dT k h => .dT k (Reps.mono hm e h)
  | _, _, .ins h l k => .ins (Reps.mono hm e h) l k
theorem Reps.mono (hm : m <+: m') (e : Same G G') : ∀ {vs : List V} {ds : List D}, Reps L m G vs ds → Reps L m' G' vs ds
  | _, _, .nil => .nil
  | _, _, .cons h t => .cons (Rep.mono hm e h) (Reps.mono hm e t)
end
theorem Reps.length : ∀ {vs : List V} {ds : List D}, Reps L m G vs ds → vs.length = ds.length
  | _, _, .nil => rfl
  | _, _, .cons _ t => by simp [Reps.length t]
theorem Reps.append : ∀ {vs ws : List V} {ds es : List D}, Reps L m G vs ds → Reps L m G ws es → Reps L m G (vs ++ ws) (ds ++ es)
  | _, _, _, _, .nil, h => h
  | _, _, _, _, .cons h t, h' => .cons h (Reps.append t h')
theorem Reps.one {v : V} {d : D} (h : Rep L m G v d) : Reps L m G [v] [d] := .cons h .nil
theorem Reps.get : ∀ {vs : List V} {ds : List D} {i : Nat} {d : D}, Reps L m G vs ds → ds[i]? = some d → ∃ v, vs[i]? = some v ∧ Rep L m G v d
  | _, _, _, _, .nil, e => by simp at e
  | _, _, 0, _, .cons h _, e => by simp at e; subst e; exact ⟨_, rfl, h⟩
  | _, _, i + 1, d, .cons _ t, e => by
    obtain ⟨v, h1, h2⟩ := Reps.get (i := i) (d := d) t (by simpa using e)
    exact ⟨v, by simpa using h1, h2⟩
theorem Reps.getV : ∀ {vs : List V} {ds : List D} {i : Nat} {v : V}, Reps L m G vs ds → vs[i]? = some v → ∃ d, ds[i]? = some d ∧ Rep L m G v d
  | _, _, _, _, .nil, e => by simp at e
  | _, _, 0, _, .cons h _, e => by simp at e; subst e; exact ⟨_, rfl, h⟩
  | _, _, i + 1, v, .cons _ t, e => by
    obtain ⟨d, h1, h2⟩ := Reps.getV (i := i) (v := v) t (by simpa using e)
    exact ⟨d, by simpa using h1, h2⟩
theorem Reps.drop : ∀ {vs : List V} {ds : List D} (n : Nat), Reps L m G vs ds → Reps L m G (vs.drop n) (ds.drop n)
  | _, _, 0, h => h
  | _, _, _ + 1, .nil => .nil
  | _, _, n + 1, .cons _ t => Reps.drop n t
theorem Reps.take : ∀ {vs : List V} {ds : List D} (n : Nat), Reps L m G vs ds → Reps L m G (vs.take n) (ds.take n)
  | _, _, 0, _ => .nil
  | _, _, _ + 1, .nil => .nil
  | _, _, n + 1, .cons h t => .cons h (Reps.take n t)
theorem Reps.set {v : V} {d : D} (h : Rep L m G v d) : ∀ {vs : List V} {ds : List D} (i : Nat), Reps L m G vs ds → Reps L m G (vs.set i v) (ds.set i d)
  | _, _, _, .nil => .nil
  | _, _, 0, .cons _ t => .cons h t
  | _, _, i + 1, .cons q t => .cons q (Reps.set h i t)
theorem Reps.rep {vs : List V} {ds : List D} (h : Reps L m G vs ds) : ∀ k : Nat, Reps L m G (List.replicate k vs).flatten (List.replicate k ds).flatten
  | 0 => .nil
  | k + 1 => by
    rw [List.replicate_succ, List.replicate_succ, List.flatten_cons, List.flatten_cons]
    exact h.append (Reps.rep h k)
theorem Reps.ints : ∀ {vs : List V} {ds : List D} {is : List Int}, Reps L m G vs ds → intsOf ds = some is → vs = is.map V.int
  | _, _, is, .nil, e => by
    have : is = [] := by simpa [intsOf] using e.symm
    subst this; rfl
  | _, _, is, .cons h t, e => by
    rename_i v vs d ds
    cases d with
    | int i =>
      unfold intsOf at e
      split at e
      · rename_i is' e'
        cases e
        cases h with
        | int _ => rw [List.map_cons, Reps.ints t e']
        | obj hg hc => cases hc
      · cases e
    | _ => simp [intsOf] at e
end

/-- the addresses of the sources of draws -/
def hs (m : List (Addr × Addr)) : List Addr := m.flatMap fun p => [p.1, p.2]
theorem mem_hs {m : List (Addr × Addr)} {n : Nat} {a b : Addr} (h : m[n]? = some (a, b)) : a ∈ hs m ∧ b ∈ hs m := by
  have := List.mem_of_getElem? h
  unfold hs
  exact ⟨List.mem_flatMap.mpr ⟨_, this, by simp⟩, List.mem_flatMap.mpr ⟨_, this, by simp⟩⟩
theorem hs_prefix {m m' : List (Addr × Addr)} (h : m <+: m') {a : Addr} (e : a ∈ hs m) : a ∈ hs m' := by
  obtain ⟨r, rfl⟩ := h
  unfold hs at e ⊢
  rw [List.flatMap_append]
  exact List.mem_append_left _ e

/-- the world: what is settled (G) stands, each source of draws stands and is in nothing that is settled -/
structure Wd (L : Lay) (s : Sto) (m : List (Addr × Addr)) (G H : Hp) : Prop where
  sub : Same G H
  len : m.length = s.length
  hnd : ∀ (n : Nat) (st : Int) (cells : List Int) (ix : Int) (a b : Addr), s[n]? = some (So.dr st cells ix) → m[n]? = some (a, b) → H a = some (.lst [.int st, .ref b, .int ix]) ∧ H b = some (.lst (cells.map V.int))
  off : ∀ a, a ∈ hs m → G a = none ∧ H a ≠ none
  dis : (hs m).Nodup

/-- from one state to a later one: what was settled stays so, what was nobody's (and no source's) stays as it was and is not settled -/
structure Stp (m : List (Addr × Addr)) (G H : Hp) (m' : List (Addr × Addr)) (G' H' : Hp) : Prop where
  pre : m <+: m'
  keep : Same G G'
  frame : ∀ a x, H a = some x → G a = none → a ∉ hs m → H' a = some x ∧ G' a = none
  fresh : ∀ a, a ∈ hs m' → a ∉ hs m → H a = none

theorem Stp.refl (m : List (Addr × Addr)) (G H : Hp) : Stp m G H m G H := ⟨List.prefix_refl _, Same.refl _, fun _ _ h g _ => ⟨h, g⟩, fun _ h h' => absurd h h'⟩
section
variable {L : Lay} {s s1 s2 : Sto} {m m1 m2 : List (Addr × Addr)} {G H G1 H1 G2 H2 : Hp}
theorem Stp.off (t : Stp m G H m1 G1 H1) {a : Addr} {x : HO} (h : H a = some x) (n : a ∉ hs m) : a ∉ hs m1 := fun q => by
  have := t.fresh a q n
  rw [h] at this; cases this
theorem Stp.trans (w1 : Wd L s1 m1 G1 H1) (w : Wd L s m G H) (t : Stp m G H m1 G1 H1) (u : Stp m1 G1 H1 m2 G2 H2) : Stp m G H m2 G2 H2 where
  pre := t.pre.trans u.pre
  keep := t.keep.trans u.keep
  frame := fun a x h g n => by
    obtain ⟨h1, g1⟩ := t.frame a x h g n
    exact u.frame a x h1 g1 (t.off h n)
  fresh := fun a h n => by
    by_cases q : a ∈ hs m1
    · exact t.fresh a q n
    · have z := u.fresh a h q
      cases e : H a with
      | none => rfl
      | some x =>
        cases eg : G a with
        | none => rw [(t.frame a x e eg n).1] at z; cases z
        | some y => rw [w1.sub _ _ (t.keep _ _ eg)] at z; cases z
/-- a new object, settled -/
theorem Stp.new (w : Wd L s m G H) {p : Addr} (n : H p = none) (o : HO) : Stp m G H m (upd G p o) (upd H p o) where
  pre := List.prefix_refl _
  keep := fun b x h => by
    have : b ≠ p := fun e => by rw [e, w.sub.free n] at h; cases h
    rw [upd_ne this]; exact h
  frame := fun a x h g _ => by
    have : a ≠ p := fun e => by rw [e, n] at h; cases h
    rw [upd_ne this, upd_ne this]; exact ⟨h, g⟩
  fresh := fun a h h' => absurd h h'
theorem Wd.new (w : Wd L s m G H) {p : Addr} (n : H p = none) (o : HO) : Wd L s m (upd G p o) (upd H p o) where
  sub := fun b x h => by
    by_cases e : b = p
    · subst e; rw [upd_same] at h ⊢; exact h
    · rw [upd_ne e] at h ⊢; exact w.sub _ _ h
  len := w.len
  hnd := fun k st cells ix a b h1 h2 => by
    obtain ⟨e1, e2⟩ := w.hnd k st cells ix a b h1 h2
    rw [upd_ne (ne_of_none e1 n), upd_ne (ne_of_none e2 n)]
    exact ⟨e1, e2⟩
  off := fun a h => by
    obtain ⟨e1, e2⟩ := w.off a h
    have : a ≠ p := fun e => by rw [e] at e2; exact e2 n
    rw [upd_ne this, upd_ne this]; exact ⟨e1, e2⟩
  dis := w.dis
/-- a new object, nobody's yet -/
theorem Stp.lay {p : Addr} (n : H p = none) (o : HO) : Stp m G H m G (upd H p o) where
  pre := List.prefix_refl _
  keep := Same.refl _
  frame := fun a x h g _ => by
    have : a ≠ p := fun e => by rw [e, n] at h; cases h
    rw [upd_ne this]; exact ⟨h, g⟩
  fresh := fun a h h' => absurd h h'
theorem Wd.lay (w : Wd L s m G H) {p : Addr} (n : H p = none) (o : HO) : Wd L s m G (upd H p o) where
  sub := fun b x h => by
    have : b ≠ p := fun e => by rw [e, w.sub.free n] at h; cases h
    rw [upd_ne this]; exact w.sub _ _ h
  len := w.len
  hnd := fun k st cells ix a b h1 h2 => by
    obtain ⟨e1, e2⟩ := w.hnd k st cells ix a b h1 h2
    rw [upd_ne (ne_of_none e1 n), upd_ne (ne_of_none e2 n)]
    exact ⟨e1, e2⟩
  off := fun a h => by
    obtain ⟨e1, e2⟩ := w.off a h
    have : a ≠ p := fun e => by rw [e] at e2; exact e2 n
    rw [upd_ne this]; exact ⟨e1, e2⟩
  dis := w.dis
/-- what is nobody's is changed -/
theorem Wd.put (w : Wd L s m G H) {p : Addr} (g : G p = none) (n : p ∉ hs m) (o : HO) : Wd L s m G (upd H p o) where
  sub := fun b x h => by
    have : b ≠ p := fun e => by rw [e, g] at h; cases h
    rw [upd_ne this]; exact w.sub _ _ h
  len := w.len
  hnd := fun k st cells ix a b h1 h2 => by
    obtain ⟨e1, e2⟩ := w.hnd k st cells ix a b h1 h2
    obtain ⟨q1, q2⟩ := mem_hs h2
    rw [upd_ne (show a ≠ p from fun e => n (e ▸ q1)), upd_ne (show b ≠ p from fun e => n (e ▸ q2))]
    exact ⟨e1, e2⟩
  off := fun a h => by
    obtain ⟨e1, e2⟩ := w.off a h
    rw [upd_ne (show a ≠ p from fun e => n (e ▸ h))]; exact ⟨e1, e2⟩
  dis := w.dis
/-- what is nobody's is settled -/
theorem Wd.settle (w : Wd L s m G H) {p : Addr} {o : HO} (h : H p = some o) (n : p ∉ hs m) : Wd L s m (upd G p o) H where
  sub := fun b x e => by
    by_cases q : b = p
    · subst q; rw [upd_same] at e; cases e; exact h
    · rw [upd_ne q] at e; exact w.sub _ _ e
  len := w.len
  hnd := w.hnd
  off := fun a e => by
    obtain ⟨e1, e2⟩ := w.off a e
    rw [upd_ne (show a ≠ p from fun q => n (q ▸ e))]; exact ⟨e1, e2⟩
  dis := w.dis
end

/-- a value that is looked at: settled, or the frame's own -/
inductive RB (L : Lay) (m : List (Addr × Addr)) (G H : Hp) (v : V) (d : D) : Prop
  | rep (h : Rep L m G v d)
  | own {a : Addr} {o : HO} (e : v = .ref a) (g : G a = none) (n : a ∉ hs m) (h : H a = some o) (c : Cont L m G o d)
section
variable {L : Lay} {s s1 s2 : Sto} {m m1 m2 : List (Addr × Addr)} {G H G1 H1 G2 H2 : Hp} {v : V} {d : D}
theorem RB.step (r : RB L m G H v d) (t : Stp m G H m1 G1 H1) : RB L m1 G1 H1 v d := by
  cases r with
  | rep h => exact .rep (h.mono t.pre t.keep)
  | own e g n h c =>
    obtain ⟨h1, g1⟩ := t.frame _ _ h g n
    exact .own e g1 (t.off h n) h1 (c.mono t.pre t.keep)
/-- what stands there -/
theorem RB.tup {ds : List D} (r : RB L m G H v (.tup ds)) (w : Wd L s m G H) : ∃ a vs, v = .ref a ∧ H a = some (.tup vs) ∧ Reps L m G vs ds := by
  cases r with
  | rep h =>
    cases h with
    | obj hg hc => cases hc with | tup hr => exact ⟨_, _, rfl, w.sub _ _ hg, hr⟩
  | own e g n h c => cases c with | tup hr => exact ⟨_, _, e, h, hr⟩
theorem RB.lst {ds : List D} (r : RB L m G H v (.lst ds)) (w : Wd L s m G H) : ∃ a vs, v = .ref a ∧ H a = some (.lst vs) ∧ Reps L m G vs ds := by
  cases r with
  | rep h =>
    cases h with
    | obj hg hc => cases hc with | lst hr => exact ⟨_, _, rfl, w.sub _ _ hg, hr⟩
  | own e g n h c => cases c with | lst hr => exact ⟨_, _, e, h, hr⟩
theorem RB.dK {kds : List (Key × D)} (r : RB L m G H v (.dK kds)) (w : Wd L s m G H) : ∃ a kvs, v = .ref a ∧ H a = some (.dK kvs) ∧ kvs.map (·.1) = kds.map (·.1) ∧ Reps L m G (kvs.map (·.2)) (kds.map (·.2)) := by
  cases r with
  | rep h =>
    cases h with
    | obj hg hc => cases hc with | dK hk hr => exact ⟨_, _, rfl, w.sub _ _ hg, hk, hr⟩
  | own e g n h c => cases c with | dK hk hr => exact ⟨_, _, e, h, hk, hr⟩
theorem RB.dT {kds : List (List Key × D)} (r : RB L m G H v (.dT kds)) (w : Wd L s m G H) : ∃ a kvs, v = .ref a ∧ H a = some (.dT kvs) ∧ kvs.map (·.1) = kds.map (·.1) ∧ Reps L m G (kvs.map (·.2)) (kds.map (·.2)) := by
  cases r with
  | rep h =>
    cases h with
    | obj hg hc => cases hc with | dT hk hr => exact ⟨_, _, rfl, w.sub _ _ hg, hk, hr⟩
  | own e g n h c => cases c with | dT hk hr => exact ⟨_, _, e, h, hk, hr⟩
theorem RB.ins {k : Cl} {ds : List D} (r : RB L m G H v (.ins k ds)) (w : Wd L s m G H) : ∃ a dx vs, v = .ref a ∧ H a = some (.ins (L.cls k) dx ((fields k).zip vs)) ∧ Reps L m G vs ds ∧ ds.length ≤ (fields k).length ∧ L.has k = true := by
  cases r with
  | rep h =>
    cases h with
    | obj hg hc => cases hc with | ins hr hl hk => exact ⟨_, _, _, rfl, w.sub _ _ hg, hr, hl, hk⟩
  | own e g n h c => cases c with | ins hr hl hk => exact ⟨_, _, _, e, h, hr, hl, hk⟩
theorem RB.int {i : Int} (r : RB L m G H v (.int i)) : v = .int i := by
  cases r with
  | rep h =>
    cases h with
    | int => rfl
    | obj hg hc => cases hc
  | own e g n h c => cases c
theorem RB.bl {i : Bool} (r : RB L m G H v (.bl i)) : v = .bl i := by
  cases r with
  | rep h =>
    cases h with
    | bl => rfl
    | obj hg hc => cases hc
  | own e g n h c => cases c
theorem RB.str {i : Str} (r : RB L m G H v (.str i)) : v = .str i := by
  cases r with
  | rep h =>
    cases h with
    | str => rfl
    | obj hg hc => cases hc
  | own e g n h c => cases c
theorem RB.non (r : RB L m G H v .non) : v = .non := by
  cases r with
  | rep h =>
    cases h with
    | non => rfl
    | obj hg hc => cases hc
  | own e g n h c => cases c
end

/-- the slots: W are those that own what they hold -/
structure Sl (L : Lay) (W : List Nat) (ρ : Env) (σ : L2.St) (m : List (Addr × Addr)) (G H : Hp) : Prop where
  len : ρ.length = σ.length
  sh : ∀ i d, ρ[i]? = some (some d) → i ∉ W → ∃ v, σ[i]? = some (some v) ∧ Rep L m G v d
  ow : ∀ i d, ρ[i]? = some (some d) → i ∈ W → ∃ a o, σ[i]? = some (some (.ref a)) ∧ G a = none ∧ a ∉ hs m ∧ H a = some o ∧ Cont L m G o d
  dj : ∀ i j a d e, i ∈ W → j ∈ W → ρ[i]? = some (some d) → ρ[j]? = some (some e) → σ[i]? = some (some (.ref a)) → σ[j]? = some (some (.ref a)) → i = j
section
variable {L : Lay} {W : List Nat} {ρ : Env} {σ : L2.St} {s s1 : Sto} {m m1 : List (Addr × Addr)} {G H G1 H1 : Hp}
theorem Sl.step (q : Sl L W ρ σ m G H) (t : Stp m G H m1 G1 H1) : Sl L W ρ σ m1 G1 H1 where
  len := q.len
  sh := fun i d e n => by
    obtain ⟨v, h1, h2⟩ := q.sh i d e n
    exact ⟨v, h1, h2.mono t.pre t.keep⟩
  ow := fun i d e n => by
    obtain ⟨a, o, h1, h2, h3, h4, h5⟩ := q.ow i d e n
    obtain ⟨x1, x2⟩ := t.frame a o h4 h2 h3
    exact ⟨a, o, h1, x2, t.off h4 h3, x1, h5.mono t.pre t.keep⟩
  dj := q.dj
theorem Sl.look (q : Sl L W ρ σ m G H) {i : Nat} {d : D} (e : ρ[i]? = some (some d)) : ∃ v, σ[i]? = some (some v) ∧ RB L m G H v d := by
  by_cases h : i ∈ W
  · obtain ⟨a, o, h1, h2, h3, h4, h5⟩ := q.ow i d e h
    exact ⟨_, h1, .own rfl h2 h3 h4 h5⟩
  · obtain ⟨v, h1, h2⟩ := q.sh i d e h
    exact ⟨v, h1, .rep h2⟩
theorem set_get {α : Type} {l : List (Option α)} {i j : Nat} {x : Option α} {d : α} (h : (l.set i x)[j]? = some (some d)) : (j = i ∧ x = some d ∧ i < l.length) ∨ (j ≠ i ∧ l[j]? = some (some d)) := by
  by_cases e : j = i
  · subst e
    by_cases q : j < l.length
    · rw [List.getElem?_set_self q] at h; exact .inl ⟨rfl, Option.some.inj h, q⟩
    · rw [List.getElem?_eq_none (by simpa using q)] at h; cases h
  · rw [List.getElem?_set_ne (Ne.symm e)] at h; exact .inr ⟨e, h⟩
/-- a settled value goes to a slot that owns nothing -/
theorem Sl.set (q : Sl L W ρ σ m G H) {i : Nat} {v : V} {d : D} (n : i ∉ W) (r : Rep L m G v d) : Sl L W (ρ.set i (some d)) (σ.set i (some v)) m G H where
  len := by simp [q.len]
  sh := fun j d' e hj => by
    rcases set_get e with ⟨rfl, h1, h2⟩ | ⟨h1, h2⟩
    · cases h1
      exact ⟨v, List.getElem?_set_self (by rw [← q.len]; exact h2), r⟩
    · obtain ⟨w, x1, x2⟩ := q.sh j d' h2 hj
      exact ⟨w, by rw [List.getElem?_set_ne (Ne.symm h1)]; exact x1, x2⟩
  ow := fun j d' e hj => by
    rcases set_get e with ⟨rfl, _⟩ | ⟨h1, h2⟩
    · exact absurd hj n
    · obtain ⟨a, o, x1, x2⟩ := q.ow j d' h2 hj
      exact ⟨a, o, by rw [List.getElem?_set_ne (Ne.symm h1)]; exact x1, x2⟩
  dj := fun j k a d1 d2 hj hk e1 e2 f1 f2 => by
    rcases set_get e1 with ⟨rfl, _⟩ | ⟨h1, h2⟩
    · exact absurd hj n
    rcases set_get e2 with ⟨rfl, _⟩ | ⟨h3, h4⟩
    · exact absurd hk n
    rw [List.getElem?_set_ne (Ne.symm h1)] at f1
    rw [List.getElem?_set_ne (Ne.symm h3)] at f2
    exact q.dj j k a d1 d2 hj hk h2 h4 f1 f2
/-- a slot is emptied -/
theorem Sl.wipe1 (q : Sl L W ρ σ m G H) (i : Nat) : Sl L W (ρ.set i none) (σ.set i none) m G H where
  len := by simp [q.len]
  sh := fun j d' e hj => by
    rcases set_get e with ⟨_, h, _⟩ | ⟨h1, h2⟩
    · cases h
    · obtain ⟨w, x1, x2⟩ := q.sh j d' h2 hj
      exact ⟨w, by rw [List.getElem?_set_ne (Ne.symm h1)]; exact x1, x2⟩
  ow := fun j d' e hj => by
    rcases set_get e with ⟨_, h, _⟩ | ⟨h1, h2⟩
    · cases h
    · obtain ⟨a, o, x1, x2⟩ := q.ow j d' h2 hj
      exact ⟨a, o, by rw [List.getElem?_set_ne (Ne.symm h1)]; exact x1, x2⟩
  dj := fun j k a d1 d2 hj hk e1 e2 f1 f2 => by
    rcases set_get e1 with ⟨_, h, _⟩ | ⟨h1, h2⟩
    · cases h
    rcases set_get e2 with ⟨_, h, _⟩ | ⟨h3, h4⟩
    · cases h
    rw [List.getElem?_set_ne (Ne.symm h1)] at f1
    rw [List.getElem?_set_ne (Ne.symm h3)] at f2
    exact q.dj j k a d1 d2 hj hk h2 h4 f1 f2
/-- a slot comes to own a new object -/
theorem Sl.own (q : Sl L W ρ σ m G H) {i : Nat} {a : Addr} {o : HO} {d : D} (g : G a = none) (n : a ∉ hs m) (h : H a = some o) (c : Cont L m G o d)
    (new : ∀ j d, j ∈ W → j ≠ i → ρ[j]? = some (some d) → σ[j]? ≠ some (some (.ref a))) : Sl L (i :: W) (ρ.set i (some d)) (σ.set i (some (.ref a))) m G H where
  len := by simp [q.len]
  sh := fun j d' e hj => by
    rcases set_get e with ⟨rfl, _⟩ | ⟨h1, h2⟩
    · exact absurd List.mem_cons_self hj
    · obtain ⟨w, x1, x2⟩ := q.sh j d' h2 fun z => hj (List.mem_cons_of_mem _ z)
      exact ⟨w, by rw [List.getElem?_set_ne (Ne.symm h1)]; exact x1, x2⟩
  ow := fun j d' e hj => by
    rcases set_get e with ⟨rfl, h1, h2⟩ | ⟨h1, h2⟩
    · cases h1
      exact ⟨a, o, List.getElem?_set_self (by rw [← q.len]; exact h2), g, n, h, c⟩
    · obtain ⟨b, o', x1, x2⟩ := q.ow j d' h2 ((List.mem_cons.mp hj).resolve_left h1)
      exact ⟨b, o', by rw [List.getElem?_set_ne (Ne.symm h1)]; exact x1, x2⟩
  dj := fun j k b d1 d2 hj hk e1 e2 f1 f2 => by
    rcases set_get e1 with ⟨rfl, _, l1⟩ | ⟨h1, h2⟩
    · rcases set_get e2 with ⟨rfl, _⟩ | ⟨h3, h4⟩
      · rfl
      · rw [List.getElem?_set_self (by rw [← q.len]; exact l1)] at f1
        rw [List.getElem?_set_ne (Ne.symm h3)] at f2
        cases f1
        exact absurd f2 (new k d2 ((List.mem_cons.mp hk).resolve_left h3) h3 h4)
    · rcases set_get e2 with ⟨rfl, _, l1⟩ | ⟨h3, h4⟩
      · rw [List.getElem?_set_self (by rw [← q.len]; exact l1)] at f2
        rw [List.getElem?_set_ne (Ne.symm h1)] at f1
        cases f2
        exact absurd f1 (new j d1 ((List.mem_cons.mp hj).resolve_left h1) h1 h2)
      · rw [List.getElem?_set_ne (Ne.symm h1)] at f1
        rw [List.getElem?_set_ne (Ne.symm h3)] at f2
        exact q.dj j k b d1 d2 ((List.mem_cons.mp hj).resolve_left h1) ((List.mem_cons.mp hk).resolve_left h3) h2 h4 f1 f2
theorem Sl.sub {W' : List Nat} (q : Sl L W ρ σ m G H) (h1 : ∀ i, i ∈ W' → i ∈ W) (h2 : ∀ i, i ∈ W → i ∈ W') : Sl L W' ρ σ m G H :=
  ⟨q.len, fun i d e n => q.sh i d e fun z => n (h2 i z), fun i d e n => q.ow i d e (h1 i n), fun i j a d e hi hj => q.dj i j a d e (h1 i hi) (h1 j hj)⟩
/-- the object of a slot is changed -/
theorem Sl.put (q : Sl L W ρ σ m G H) {i : Nat} {a : Addr} {o : HO} {d0 d : D} (hi : i ∈ W) (e0 : ρ[i]? = some (some d0)) (ha : σ[i]? = some (some (.ref a))) (c : Cont L m G o d) : Sl L W (ρ.set i (some d)) σ m G (upd H a o) where
  len := by simp [q.len]
  sh := fun j d' e hj => by
    rcases set_get e with ⟨rfl, _⟩ | ⟨h1, h2⟩
    · exact absurd hi hj
    · exact q.sh j d' h2 hj
  ow := fun j d' e hj => by
    obtain ⟨b, ob, y1, y2, y3, y4, y5⟩ := q.ow i d0 e0 hi
    rw [ha] at y1; cases y1
    rcases set_get e with ⟨rfl, h1, h2⟩ | ⟨h1, h2⟩
    · cases h1
      exact ⟨a, o, ha, y2, y3, upd_same, c⟩
    · obtain ⟨b', o', x1, x2, x3, x4, x5⟩ := q.ow j d' h2 hj
      have : b' ≠ a := fun z => h1 (q.dj j i a d' d0 hj hi h2 e0 (z ▸ x1) ha)
      exact ⟨b', o', x1, x2, x3, by rw [upd_ne this]; exact x4, x5⟩
  dj := fun j k b d1 d2 hj hk e1 e2 f1 f2 => by
    have g : ∀ {x : Nat} {dx : D}, (ρ.set i (some d))[x]? = some (some dx) → ∃ dy, ρ[x]? = some (some dy) := fun {x dx} e => by
      rcases set_get e with ⟨rfl, _⟩ | ⟨_, h2⟩
      · exact ⟨_, e0⟩
      · exact ⟨_, h2⟩
    obtain ⟨y1, z1⟩ := g e1
    obtain ⟨y2, z2⟩ := g e2
    exact q.dj j k b y1 y2 hj hk z1 z2 f1 f2
/-- a slot gives up its object: it is settled -/
theorem Sl.give (q : Sl L W ρ σ m G H) (w : Wd L s m G H) {i : Nat} (hi : i ∈ W) : ∃ G', Same G G' ∧ (∀ a x, H a = some x → G a = none → a ∉ hs m → (∀ d, ρ[i]? = some (some d) → σ[i]? ≠ some (some (.ref a))) → G' a = none) ∧ Wd L s m G' H ∧ Sl L (W.filter (· != i)) ρ σ m G' H := by
  have mem : ∀ j, j ∈ W.filter (· != i) ↔ j ∈ W ∧ j ≠ i := fun j => by simp
  cases e : ρ[i]? with
  | none =>
    refine ⟨G, Same.refl _, fun a x _ g _ _ => g, w, q.len, fun j d' ej hj => ?_, fun j d' ej hj => q.ow j d' ej ((mem j).mp hj).1, fun j k a d1 d2 hj hk => q.dj j k a d1 d2 ((mem j).mp hj).1 ((mem k).mp hk).1⟩
    have : j ≠ i := fun z => by subst z; rw [e] at ej; cases ej
    exact q.sh j d' ej fun z => hj ((mem j).mpr ⟨z, this⟩)
  | some od =>
    cases od with
    | none =>
      refine ⟨G, Same.refl _, fun a x _ g _ _ => g, w, q.len, fun j d' ej hj => ?_, fun j d' ej hj => q.ow j d' ej ((mem j).mp hj).1, fun j k a d1 d2 hj hk => q.dj j k a d1 d2 ((mem j).mp hj).1 ((mem k).mp hk).1⟩
      have : j ≠ i := fun z => by subst z; rw [e] at ej; cases ej
      exact q.sh j d' ej fun z => hj ((mem j).mpr ⟨z, this⟩)
    | some d =>
      obtain ⟨a, o, h1, h2, h3, h4, h5⟩ := q.ow i d e hi
      have sm : Same G (upd G a o) := fun b x z => by
        have : b ≠ a := fun q => by rw [q, h2] at z; cases z
        rw [upd_ne this]; exact z
      refine ⟨upd G a o, sm, fun b x hb g hn hd => ?_, w.settle h4 h3, q.len, fun j d' ej hj => ?_, fun j d' ej hj => ?_, fun j k a d1 d2 hj hk => q.dj j k a d1 d2 ((mem j).mp hj).1 ((mem k).mp hk).1⟩
      · have : b ≠ a := fun z => hd d rfl (z ▸ h1)
        rw [upd_ne this]; exact g
      · by_cases z : j = i
        · subst z
          rw [e] at ej; cases ej
          exact ⟨_, h1, .obj upd_same (h5.mono (List.prefix_refl _) sm)⟩
        · obtain ⟨v, x1, x2⟩ := q.sh j d' ej fun y => hj ((mem j).mpr ⟨y, z⟩)
          exact ⟨v, x1, x2.mono (List.prefix_refl _) sm⟩
      · obtain ⟨y1, y2⟩ := (mem j).mp hj
        obtain ⟨b, o', x1, x2, x3, x4, x5⟩ := q.ow j d' ej y1
        have : b ≠ a := fun z => y2 (q.dj j i a d' d y1 hi ej e (z ▸ x1) h1)
        exact ⟨b, o', x1, by rw [upd_ne this]; exact x2, x3, x4, x5.mono (List.prefix_refl _) sm⟩
end
end MP

end
section
set_option Elab.async false
set_option linter.all false
set_option maxRecDepth 100000
set_option maxHeartbeats 1000000
/-! Expressions: the reading by functions is kept by the layer's readings. -/
namespace MP
open PySem L2

theorem PE.imp {X : Cx} {e : Expr} {t t' : TE} (h : PE X e t) (f : ∀ σ H Q, t' σ H Q → t σ H Q) : PE X e t' := ⟨fun pins s σ H Q I q => h.run pins s σ H Q I (f σ H Q q)⟩
theorem PE.or {X : Cx} {e : Expr} {t t' : TE} (h : PE X e t) (h' : PE X e t') : PE X e (fun σ H Q => t σ H Q ∨ t' σ H Q) := ⟨fun pins s σ H Q I q => q.elim (h.run pins s σ H Q I) (h'.run pins s σ H Q I)⟩
theorem PT.imp {X : Cx} {e : Expr} {t t' : TT} (h : PT X e t) (f : ∀ σ H Q, t' σ H Q → t σ H Q) : PT X e t' := ⟨fun pins s σ H Q I q => h.run pins s σ H Q I (f σ H Q q)⟩
theorem PT.or {X : Cx} {e : Expr} {t t' : TT} (h : PT X e t) (h' : PT X e t') : PT X e (fun σ H Q => t σ H Q ∨ t' σ H Q) := ⟨fun pins s σ H Q I q => q.elim (h.run pins s σ H Q I) (h'.run pins s σ H Q I)⟩
theorem PW.imp {X : Cx} {e : Expr} {t t' : TT} (h : PW X e t) (f : ∀ σ H Q, t' σ H Q → t σ H Q) : PW X e t' := ⟨fun wh pins s σ H Q I q => h.run wh pins s σ H Q I (f σ H Q q)⟩
theorem PC.imp {X : Cx} {op : CmpOp} {a b : Expr} {t t' : TE} (h : PC X op a b t) (f : ∀ σ H Q, t' σ H Q → t σ H Q) : PC X op a b t' := ⟨fun pins s σ H Q I q => h.run pins s σ H Q I (f σ H Q q)⟩
theorem PC.or {X : Cx} {op : CmpOp} {a b : Expr} {t t' : TE} (h : PC X op a b t) (h' : PC X op a b t') : PC X op a b (fun σ H Q => t σ H Q ∨ t' σ H Q) := ⟨fun pins s σ H Q I q => q.elim (h.run pins s σ H Q I) (h'.run pins s σ H Q I)⟩
theorem PA.imp {X : Cx} {es : List Expr} {t t' : TA} (h : PA X es t) (f : ∀ σ H Q, t' σ H Q → t σ H Q) : PA X es t' := ⟨fun pos pins s σ H Q I q => h.run pos pins s σ H Q I (f σ H Q q)⟩
theorem PS.imp {X : Cx} {st : Stmt} {t t' : TS} (h : PS X st t) (f : ∀ D σ H, t' D σ H → t D σ H) : PS X st t' := ⟨fun pins s σ H D I q => h.run pins s σ H D I (f D σ H q)⟩
theorem PSs.imp {X : Cx} {st : List Stmt} {t t' : TS} (h : PSs X st t) (f : ∀ D σ H, t' D σ H → t D σ H) : PSs X st t' := ⟨fun pins s σ H D I q => h.run pins s σ H D I (f D σ H q)⟩
theorem PO.imp {X : Cx} {e : Option Expr} {t t' : TO} (h : PO X e t) (f : ∀ σ H Q, t' σ H Q → t σ H Q) : PO X e t' := ⟨fun pins s σ H Q I q => h.run pins s σ H Q I (f σ H Q q)⟩

/-! ### behind a step -/
/-- an error's fields by class -/
def xfields : Cl → List Str
  | .err 3 => [⟨#[105, 110, 100, 101, 120]⟩]
  | .err 12 => [⟨#[105, 110, 100, 101, 120]⟩]
  | .err 17 => [⟨#[108, 105, 110, 101]⟩, ⟨#[119, 111, 114, 100]⟩]
  | _ => []
def ExR (L : Lay) (m : List (Addr × Addr)) (G H : Hp) (k : Cl) (ds : List D) (dd : Option Addr) : Prop :=
  (ds = [] ∧ dd = none) ∨ ∃ d vs, dd = some d ∧ H d = some (.xd ((xfields k).zip vs).reverse) ∧ Reps L m G vs ds ∧ ds.length = (xfields k).length ∧ ds ≠ []
def Aft {α : Type} (L : Lay) (Wx : WX) (σ : L2.St) (m : List (Addr × Addr)) (G H : Hp) (r : Rs α) (K : α → Sto → List (Addr × Addr) → Hp → Hp → Prop) : Prop :=
  match r with
  | .ok a s' => ∀ m' G' H', Stp m G H m' G' H' → Wd L s' m' G' H' → K a s' m' G' H'
  | .ex k ds s' => ∀ m' G' H' dd, Stp m G H m' G' H' → Wd L s' m' G' H' → ExR L m' G' H' k ds dd → Wx (.ref (L.cls k)) dd σ H'
  | .st => False
section
variable {α β : Type} {L : Lay} {Wx : WX} {σ : L2.St} {s s1 : Sto} {m m1 : List (Addr × Addr)} {G H G1 H1 : Hp} {r : Rs α} {K K' : α → Sto → List (Addr × Addr) → Hp → Hp → Prop} {J : β → Sto → List (Addr × Addr) → Hp → Hp → Prop}
theorem Aft.imp (A : Aft L Wx σ m G H r K) (h : ∀ a s' m' G' H', Stp m G H m' G' H' → Wd L s' m' G' H' → K a s' m' G' H' → K' a s' m' G' H') : Aft L Wx σ m G H r K' := by
  cases r with
  | ok a s' => exact fun m' G' H' t w => h a s' m' G' H' t w (A m' G' H' t w)
  | ex k ds s' => exact A
  | st => exact A
theorem Aft.step (w : Wd L s m G H) (w1 : Wd L s1 m1 G1 H1) (t : Stp m G H m1 G1 H1) (A : Aft L Wx σ m G H r K) : Aft L Wx σ m1 G1 H1 r K := by
  cases r with
  | ok a s' => exact fun m' G' H' u w' => A m' G' H' (Stp.trans w1 w t u) w'
  | ex k ds s' => exact fun m' G' H' dd u w' => A m' G' H' dd (Stp.trans w1 w t u) w'
  | st => exact A
theorem Aft.bind {f : α → Sto → Rs β} (w : Wd L s m G H) (A : Aft L Wx σ m G H (r.bind f) J) : Aft L Wx σ m G H r fun a s1 m1 G1 H1 => Aft L Wx σ m1 G1 H1 (f a s1) J := by
  cases r with
  | ok a s1 => exact fun m1 G1 H1 t w1 => Aft.step w w1 t A
  | ex k ds s' => exact A
  | st => exact A
theorem Aft.opt {o : Option α} (A : Aft L Wx σ m G H (Rs.opt o s) K) : ∃ d, o = some d ∧ ∀ m' G' H', Stp m G H m' G' H' → Wd L s m' G' H' → K d s m' G' H' := by
  cases o with
  | none => exact False.elim A
  | some d => exact ⟨d, rfl, A⟩
theorem Aft.ok {a : α} (A : Aft L Wx σ m G H (.ok a s) K) (w : Wd L s m G H) : K a s m G H := A m G H (Stp.refl _ _ _) w
end

section
variable (L : Lay) (c : Cfg) (Wx : WX) (W : List Nat)
/-- a settled value -/
def tE (e : E) : TE := fun σ H Q => ∃ ρ s m G, Wd L s m G H ∧ Sl L W ρ σ m G H ∧ Aft L Wx σ m G H (ev c e ρ s) fun d _ m' G' H' => ∀ v, Rep L m' G' v d → Q v H'
/-- a value to be looked at -/
def tB (e : E) : TE := fun σ H Q => ∃ ρ s m G, Wd L s m G H ∧ Sl L W ρ σ m G H ∧ Aft L Wx σ m G H (ev c e ρ s) fun d _ m' G' H' => ∀ v, RB L m' G' H' v d → Q v H'
/-- a new object, nobody's yet -/
def tO (e : E) : TE := fun σ H Q => ∃ ρ s m G, Wd L s m G H ∧ Sl L W ρ σ m G H ∧ Aft L Wx σ m G H (ev c e ρ s) fun d _ m' G' H' => ∀ a o, H a = none → G' a = none → a ∉ hs m' → H' a = some o → Cont L m' G' o d → Q (.ref a) H'
/-- its truth -/
def tT (e : E) : TT := fun σ H Q => ∃ ρ s m G, Wd L s m G H ∧ Sl L W ρ σ m G H ∧ Aft L Wx σ m G H ((ev c e ρ s).bind fun d s => Rs.opt (truD d) s) fun b _ m' G' H' => Q b H'
def tEs (es : Es) : TA := fun σ H Q => ∃ ρ s m G, Wd L s m G H ∧ Sl L W ρ σ m G H ∧ Aft L Wx σ m G H (evs c es ρ s) fun ds _ m' G' H' => ∀ vs, Reps L m' G' vs ds → Q vs H'
def tOe (e : Oe) : TO := fun σ H Q => ∃ ρ s m G, Wd L s m G H ∧ Sl L W ρ σ m G H ∧ Aft L Wx σ m G H (evo c e ρ s) fun o _ m' G' H' => Q o H'
end

section
variable {L : Lay} {c : Cfg} {Wx : WX} {W : List Nat} {X : Cx} {s : Sto} {m : List (Addr × Addr)} {G H : Hp} {d : D} {Q : VK}
theorem Stp.back {s1 : Sto} {m1 : List (Addr × Addr)} {G1 H1 : Hp} {p : Addr} (w1 : Wd L s1 m1 G1 H1) (t1 : Stp m G H m1 G1 H1) (np : H1 p = none) : H p = none := by
  cases e : H p with
  | none => rfl
  | some x =>
    cases eg : G p with
    | some y => rw [w1.sub _ _ (t1.keep _ _ eg)] at np; cases np
    | none =>
      by_cases z : p ∈ hs m
      · exact absurd np (w1.off p (hs_prefix t1.pre z)).2
      · rw [(t1.frame p x e eg z).1] at np; cases np
/-- a new settled value -/
theorem put_new {K : List (Addr × Addr) → Hp → Hp → Prop} {o : HO} {p : Addr} (w : Wd L s m G H) (n : H p = none) (c : Cont L m G o d)
    (q : ∀ m' G' H', Stp m G H m' G' H' → Wd L s m' G' H' → ∀ v, Rep L m' G' v d → Q v H') : Q (.ref p) (upd H p o) := by
  have t := Stp.new w n o
  exact q m (upd G p o) (upd H p o) t (w.new n o) (.ref p) (.obj upd_same (c.mono t.pre t.keep))
theorem PE.ofO {e : Expr} {e' : E} (h : PE X e (tO L c Wx W e')) : PE X e (tE L c Wx W e') := by
  refine PE.imp h fun σ H Q ⟨ρ, s, m, G, w, q, A⟩ => ⟨ρ, s, m, G, w, q, ?_⟩
  cases r : ev c e' ρ s with
  | st => rw [r] at A; exact A
  | ex k ds s' => rw [r] at A; exact A
  | ok d s' =>
    rw [r] at A
    intro m' G' H' t w' a o ha hg hn ho hc
    have t2 : Stp m G H m' (upd G' a o) H' := by
      refine ⟨t.pre, fun b x h => ?_, fun b x hb g n => ?_, t.fresh⟩
      · have : b ≠ a := fun e => by rw [e, w.sub.free ha] at h; cases h
        rw [upd_ne this]; exact t.keep _ _ h
      · have : b ≠ a := fun e => by rw [e, ha] at hb; cases hb
        rw [upd_ne this]; exact t.frame b x hb g n
    refine A m' (upd G' a o) H' t2 (w'.settle ho hn) (.ref a) (.obj upd_same (hc.mono (List.prefix_refl _) fun b x h => ?_))
    have : b ≠ a := fun e => by rw [e, hg] at h; cases h
    rw [upd_ne this]; exact h
theorem PE.look {e : Expr} {e' : E} (h : PE X e (tE L c Wx W e')) : PE X e (tB L c Wx W e') :=
  PE.imp h fun σ H Q ⟨ρ, s, m, G, w, q, A⟩ => ⟨ρ, s, m, G, w, q, A.imp fun d s' m' G' H' _ _ k v r => k v (.rep r)⟩
/-- one value on -/
theorem goB {e : E} {σ : L2.St} {ρ : Env} {R : V → Hp → Prop} {J : D → Sto → List (Addr × Addr) → Hp → Hp → Prop} (w : Wd L s m G H) (q : Sl L W ρ σ m G H) (A : Aft L Wx σ m G H (ev c e ρ s) J)
    (h : ∀ d s' m' G' H' v, Stp m G H m' G' H' → Wd L s' m' G' H' → Sl L W ρ σ m' G' H' → RB L m' G' H' v d → J d s' m' G' H' → R v H') : tB L c Wx W e σ H R :=
  ⟨ρ, s, m, G, w, q, A.imp fun d s' m' G' H' t w' j v r => h d s' m' G' H' v t w' (q.step t) r j⟩
theorem goE {e : E} {σ : L2.St} {ρ : Env} {R : V → Hp → Prop} {J : D → Sto → List (Addr × Addr) → Hp → Hp → Prop} (w : Wd L s m G H) (q : Sl L W ρ σ m G H) (A : Aft L Wx σ m G H (ev c e ρ s) J)
    (h : ∀ d s' m' G' H' v, Stp m G H m' G' H' → Wd L s' m' G' H' → Sl L W ρ σ m' G' H' → Rep L m' G' v d → J d s' m' G' H' → R v H') : tE L c Wx W e σ H R :=
  ⟨ρ, s, m, G, w, q, A.imp fun d s' m' G' H' t w' j v r => h d s' m' G' H' v t w' (q.step t) r j⟩
theorem goEs {es : Es} {σ : L2.St} {ρ : Env} {R : List V → Hp → Prop} {J : List D → Sto → List (Addr × Addr) → Hp → Hp → Prop} (w : Wd L s m G H) (q : Sl L W ρ σ m G H) (A : Aft L Wx σ m G H (evs c es ρ s) J)
    (h : ∀ d s' m' G' H' v, Stp m G H m' G' H' → Wd L s' m' G' H' → Sl L W ρ σ m' G' H' → Reps L m' G' v d → J d s' m' G' H' → R v H') : tEs L c Wx W es σ H R :=
  ⟨ρ, s, m, G, w, q, A.imp fun d s' m' G' H' t w' j v r => h d s' m' G' H' v t w' (q.step t) r j⟩
theorem goT {e : E} {σ : L2.St} {ρ : Env} {R : Bool → Hp → Prop} {J : Bool → Sto → List (Addr × Addr) → Hp → Hp → Prop} (w : Wd L s m G H) (q : Sl L W ρ σ m G H) (A : Aft L Wx σ m G H ((ev c e ρ s).bind fun d s => Rs.opt (truD d) s) J)
    (h : ∀ d s' m' G' H', Stp m G H m' G' H' → Wd L s' m' G' H' → Sl L W ρ σ m' G' H' → J d s' m' G' H' → R d H') : tT L c Wx W e σ H R :=
  ⟨ρ, s, m, G, w, q, A.imp fun d s' m' G' H' t w' j => h d s' m' G' H' t w' (q.step t) j⟩
end

theorem lim_eq : lim = sizeLine := by rw [sizeLine_eq]; rfl

/-! ### names and constants -/
section
variable {L : Lay} {c : Cfg} {Wx : WX} {W : List Nat} {X : Cx} {pos : Pos}
theorem s_varB {i : Nat} {x : Str} (hN : X.N[i]? = some x) (hv : Vis X.env.scope x) (hd : (x == ("__debug__" : Str)) = false) (hcd : (x == ("__classdict__" : Str)) = false) : PE X (.Name x pos) (tB L c Wx W (.var i)) := by
  refine PE.imp (pe_var hN hv hd hcd) fun σ H Q ⟨ρ, s, m, G, w, q, A⟩ => ?_
  unfold ev at A
  split at A
  · rename_i d e
    obtain ⟨v, h1, h2⟩ := q.look e
    exact ⟨v, h1, A.ok w v h2⟩
  · exact False.elim A
theorem s_var {i : Nat} {x : Str} (hW : i ∉ W) (hN : X.N[i]? = some x) (hv : Vis X.env.scope x) (hd : (x == ("__debug__" : Str)) = false) (hcd : (x == ("__classdict__" : Str)) = false) : PE X (.Name x pos) (tE L c Wx W (.var i)) := by
  refine PE.imp (pe_var hN hv hd hcd) fun σ H Q ⟨ρ, s, m, G, w, q, A⟩ => ?_
  unfold ev at A
  split at A
  · rename_i d e
    obtain ⟨v, h1, h2⟩ := q.sh i d e hW
    exact ⟨v, h1, A.ok w v h2⟩
  · exact False.elim A
theorem s_int {i : Int} {j : Nat} : PE X (.Constant (.int i) j pos) (tE L c Wx W (.int i)) := PE.imp pe_int fun σ H Q ⟨ρ, s, m, G, w, q, A⟩ => by unfold ev at A; exact A.ok w _ (.int i)
theorem s_str {i : Str} {j : Nat} : PE X (.Constant (.str i) j pos) (tE L c Wx W (.str i)) := PE.imp pe_str fun σ H Q ⟨ρ, s, m, G, w, q, A⟩ => by unfold ev at A; exact A.ok w _ (.str i)
theorem s_bl {i : Bool} {j : Nat} : PE X (.Constant (.bool i) j pos) (tE L c Wx W (.bl i)) := PE.imp pe_bl fun σ H Q ⟨ρ, s, m, G, w, q, A⟩ => by unfold ev at A; exact A.ok w _ (.bl i)
theorem s_non {j : Nat} : PE X (.Constant .none j pos) (tE L c Wx W .non) := PE.imp pe_non fun σ H Q ⟨ρ, s, m, G, w, q, A⟩ => by unfold ev at A; exact A.ok w _ (.non)
theorem s_gint {x : Str} {i : Int} {t : Tok} (hg : Gl X x) (hm : X.mg x = some (.int i t)) (hd : (x == ("__debug__" : Str)) = false) : PE X (.Name x pos) (tE L c Wx W (.int i)) :=
  PE.imp (pe_glob (v := .int i) hg hm ⟨t, rfl⟩ hd) fun σ H Q ⟨ρ, s, m, G, w, q, A⟩ => by unfold ev at A; exact A.ok w _ (.int i)
theorem s_gstr {x : Str} {i : Str} {t : Tok} (hg : Gl X x) (hm : X.mg x = some (.str i t)) (hd : (x == ("__debug__" : Str)) = false) : PE X (.Name x pos) (tE L c Wx W (.str i)) :=
  PE.imp (pe_glob (v := .str i) hg hm ⟨t, rfl⟩ hd) fun σ H Q ⟨ρ, s, m, G, w, q, A⟩ => by unfold ev at A; exact A.ok w _ (.str i)

/-! ### lists of expressions, displays -/
def noStar : Expr → Bool
  | .Starred .. => false
  | _ => true
theorem starEach_cons {e : Expr} {es : List Expr} {env : PySem.Env} (h : noStar e = true) : starEach (e :: es) env = (false, eval e env) :: starEach es env := by
  cases e <;> first | rfl | cases h
theorem s_nil : PA X [] (tEs L c Wx W .nil) := PA.imp pa_nil fun σ H Q ⟨ρ, s, m, G, w, q, A⟩ => by unfold evs at A; exact A.ok w _ (.nil)
theorem s_cons {e : Expr} {es : List Expr} {e' : E} {es' : Es} (h1 : PE X e (tE L c Wx W e')) (h2 : PA X es (tEs L c Wx W es')) (hs : noStar e = true) : PA X (e :: es) (tEs L c Wx W (.cons e' es')) := by
  refine PA.imp (pa_cons h1 h2 (starEach_cons hs)) fun σ H Q ⟨ρ, s, m, G, w, q, A⟩ => ?_
  unfold evs at A
  refine goE w q (Aft.bind w A) fun d s1 m1 G1 H1 v t1 w1 q1 r1 A1 => ?_
  refine goEs w1 q1 (Aft.bind w1 A1) fun ds s2 m2 G2 H2 vs t2 w2 q2 r2 A2 => ?_
  exact A2.ok w2 _ (.cons (r1.mono t2.pre t2.keep) r2)
theorem s_tup {es : List Expr} {k : Nat} {es' : Es} (h : PA X es (tEs L c Wx W es')) : PE X (.Tuple es k pos) (tE L c Wx W (.tup es')) := by
  refine PE.imp (pe_tup h) fun σ H Q ⟨ρ, s, m, G, w, q, A⟩ => ?_
  unfold ev at A
  refine goEs w q (Aft.bind w A) fun ds s1 m1 G1 H1 vs t1 w1 q1 r1 A1 => ?_
  split at A1
  · rename_i hl
    refine ⟨by rw [r1.length, ← lim_eq]; exact hl, fun p np => ?_⟩
    exact put_new (K := fun _ _ _ => True) w1 np (.tup r1) A1
  · exact False.elim A1
theorem s_lst {es : List Expr} {es' : Es} (h : PA X es (tEs L c Wx W es')) : PE X (.List es pos) (tO L c Wx W (.lst es')) := by
  refine PE.imp (pe_lst h) fun σ H Q ⟨ρ, s, m, G, w, q, A⟩ => ?_
  unfold ev at A
  refine goEs w q (Aft.bind w A) fun ds s1 m1 G1 H1 vs t1 w1 q1 r1 A1 => ?_
  split at A1
  · rename_i hl
    refine ⟨by rw [r1.length, ← lim_eq]; exact hl, fun p np => ?_⟩
    have hp : H p = none := Stp.back w1 t1 np
    exact A1 m1 G1 (upd H1 p (.lst vs)) (Stp.lay np _) (w1.lay np _) p (.lst vs) hp (w1.sub.free np) (fun z => (w1.off p z).2 np) upd_same (.lst r1)
  · exact False.elim A1
end
end MP

end
section
set_option Elab.async false
set_option linter.all false
set_option maxRecDepth 100000
set_option maxHeartbeats 1000000
/-! Operators, comparisons, tests, subscripts. -/
namespace MP
open PySem L2

theorem Rs.bind_assoc {α β γ : Type} (r : Rs α) (f : α → Sto → Rs β) (g : β → Sto → Rs γ) : (r.bind f).bind g = r.bind fun a s => (f a s).bind g := by cases r <;> rfl
theorem Reps.nil_of {L : Lay} {m : List (Addr × Addr)} {G : Hp} {ds : List D} (h : Reps L m G [] ds) : ds = [] := by cases h; rfl
/-! ### data as the library's data -/
def toP : Nat → D → PyData
  | _, .bl b => .bool b
  | _, .int i => .int i
  | _, .str x => .str x
  | n + 1, .tup ds => .tuple (ds.map (toP n))
  | n + 1, .lst ds => .list (ds.map (toP n))
  | _, _ => .none
section
variable {L : Lay} {s : Sto} {m : List (Addr × Addr)} {G H : Hp}
theorem dps_of {n : Nat} (ih : ∀ {v : V} {d : D}, isP n d = true → Rep L m G v d → Dp L.K H v (toP n d)) : ∀ {vs : List V} {ds : List D}, ds.all (isP n) = true → Reps L m G vs ds → DpAll L.K H vs (ds.map (toP n))
  | _, _, _, .nil => .nil
  | _, _, h, .cons r t => by
    rw [List.all_cons, Bool.and_eq_true] at h
    exact .cons (ih h.1 r) (dps_of ih h.2 t)
theorem dp_of (w : Wd L s m G H) : ∀ (n : Nat) {v : V} {d : D}, isP n d = true → Rep L m G v d → Dp L.K H v (toP n d)
  | 0, _, d, h, r => by
    cases r with
    | non => exact .non
    | bl b => exact .bl b
    | int i => exact .int i
    | str x => exact .str x
    | obj hg hc => cases hc <;> simp [isP] at h
    | fn f => simp [isP] at h
    | hnd e => simp [isP] at h
    | scr e => simp [isP] at h
  | n + 1, _, d, h, r => by
    cases r with
    | non => exact .non
    | bl b => exact .bl b
    | int i => exact .int i
    | str x => exact .str x
    | obj hg hc =>
      cases hc with
      | tup hr => exact .tup (.of (w.sub _ _ hg)) (dps_of (dp_of w n) (by simpa [isP] using h) hr)
      | lst hr => exact .lst (.of (w.sub _ _ hg)) (dps_of (dp_of w n) (by simpa [isP] using h) hr)
      | _ => simp [isP] at h
    | fn f => simp [isP] at h
    | hnd e => simp [isP] at h
    | scr e => simp [isP] at h
theorem dp_look (w : Wd L s m G H) {n : Nat} {v : V} {d : D} (h : isP (n + 1) d = true) (r : RB L m G H v d) : Dp L.K H v (toP (n + 1) d) := by
  cases r with
  | rep r => exact dp_of w _ h r
  | own e g nn ho hc =>
    subst e
    cases hc with
    | tup hr => exact .tup (.of ho) (dps_of (dp_of w n) (by simpa [isP] using h) hr)
    | lst hr => exact .lst (.of ho) (dps_of (dp_of w n) (by simpa [isP] using h) hr)
    | _ => simp [isP] at h
end
theorem canLayAll_of {n : Nat} (ih : ∀ d, isP n d = true → (toP n d).canLay0 = true ∧ (toP n d).depth ≤ n) : ∀ ds : List D, ds.all (isP n) = true → PyData.canLayAll0 (ds.map (toP n)) = true ∧ PyData.depthAll (ds.map (toP n)) ≤ n
  | [], _ => ⟨rfl, Nat.zero_le _⟩
  | d :: ds, h => by
    rw [List.all_cons, Bool.and_eq_true] at h
    obtain ⟨h1, h2⟩ := ih d h.1
    obtain ⟨h3, h4⟩ := canLayAll_of ih ds h.2
    rw [List.map_cons]
    unfold PyData.canLayAll0 PyData.depthAll
    exact ⟨by rw [h1, h3]; rfl, Nat.max_le.mpr ⟨h2, h4⟩⟩
theorem canLay_of : ∀ (n : Nat) (d : D), isP n d = true → (toP n d).canLay0 = true ∧ (toP n d).depth ≤ n
  | 0, d, h => by
    cases d <;> first
      | (simp [isP] at h; done)
      | (refine ⟨?_, by simp [toP, PyData.depth]⟩; simp [toP, PyData.canLay0]; done)
      | (refine ⟨?_, by simp [toP, PyData.depth]⟩; simpa [toP, PyData.canLay0, isP, PyData.strOk] using h)
  | n + 1, d, h => by
    cases d with
    | tup ds =>
      obtain ⟨h1, h2⟩ := canLayAll_of (canLay_of n) ds (by simpa [isP] using h)
      unfold toP PyData.canLay0 PyData.depth
      exact ⟨h1, Nat.succ_le_succ h2⟩
    | lst ds =>
      obtain ⟨h1, h2⟩ := canLayAll_of (canLay_of n) ds (by simpa [isP] using h)
      unfold toP PyData.canLay0 PyData.depth
      exact ⟨h1, Nat.succ_le_succ h2⟩
    | str x => exact ⟨by simpa [toP, PyData.canLay0, isP, PyData.strOk] using h, by simp [toP, PyData.depth]⟩
    | non => exact ⟨by simp [toP, PyData.canLay0], by simp [toP, PyData.depth]⟩
    | bl b => exact ⟨by simp [toP, PyData.canLay0], by simp [toP, PyData.depth]⟩
    | int i => exact ⟨by simp [toP, PyData.canLay0], by simp [toP, PyData.depth]⟩
    | _ => simp [isP] at h
theorem shaped_of {n : Nat} {d : D} (hn : n ≤ 64) (h : isP n d = true) : SeqAt.shaped (toP n d) = true := by
  obtain ⟨h1, h2⟩ := canLay_of n d h
  unfold SeqAt.shaped
  rw [h1, decide_eq_true (Nat.le_trans h2 hn)]; rfl
theorem eqvAll_of {n : Nat} (ih : ∀ a b, isP n a = true → isP n b = true → PyData.eqv (toP n a) (toP n b) = eqF n a b) : ∀ as bs : List D, as.all (isP n) = true → bs.all (isP n) = true → PyData.eqvAll (as.map (toP n)) (bs.map (toP n)) = eqL (eqF n) as bs
  | [], [], _, _ => rfl
  | [], _ :: _, _, _ => rfl
  | _ :: _, [], _, _ => rfl
  | a :: as, b :: bs, h1, h2 => by
    rw [List.all_cons, Bool.and_eq_true] at h1 h2
    rw [List.map_cons, List.map_cons]
    unfold PyData.eqvAll eqL
    rw [ih a b h1.1 h2.1, eqvAll_of ih as bs h1.2 h2.2]
theorem eqv_of : ∀ (n : Nat) (a b : D), isP n a = true → isP n b = true → PyData.eqv (toP n a) (toP n b) = eqF n a b
  | 0, a, b, ha, hb => by
    cases a <;> cases b <;> first
      | (simp [isP] at ha; done)
      | (simp [isP] at hb; done)
      | (simp [toP, PyData.eqv, eqF, b2i]; done)
  | n + 1, a, b, ha, hb => by
    cases a with
    | tup as =>
      cases b with
      | tup bs =>
        unfold toP PyData.eqv eqF
        exact eqvAll_of (eqv_of n) as bs (by simpa [isP] using ha) (by simpa [isP] using hb)
      | _ => first | (simp [isP] at hb; done) | (simp [toP, PyData.eqv, eqF]; done)
    | lst as =>
      cases b with
      | lst bs =>
        unfold toP PyData.eqv eqF
        exact eqvAll_of (eqv_of n) as bs (by simpa [isP] using ha) (by simpa [isP] using hb)
      | _ => first | (simp [isP] at hb; done) | (simp [toP, PyData.eqv, eqF]; done)
    | _ => first
      | (simp [isP] at ha; done)
      | (cases b <;> first | (simp [isP] at hb; done) | (simp [toP, PyData.eqv, eqF, b2i]; done))

/-! ### what is known where the reading stands -/
def bnames : List Str := ["isinstance", "int", "bool", "tuple", "list", "str", "len", "sum", "max", "min", "abs", "range", "enumerate", "zip", "dict", "sorted", "set"]
/-- a class of one's own: what isinstance asks -/
structure ClF (L : Lay) (k : Cl) : Prop where
  cl : Cls L.K (L.cls k)
  ha : PySem.W.findIn L.K (.ref (L.cls k)) "__class__" = some (some (.builtin "object.__class__"))
  hn : PySem.W.specialIn L.K (.builtin "object.__class__") "__get__" = some (some (.builtin "getset_descriptor.__get__"))
  htk : PySem.W.takesIn L.K (.builtin "object.__class__") = some true
  hm : PySem.W.mroIn L.K (L.cls k) (.type "object") = some true
  kT : ∀ T ∈ ["NoneType", "bool", "int", "str", "list", "tuple", "dict"], PySem.W.kitOne L.K (.type T) (.ref (L.cls k)) = some false
  kU : ∀ T ∈ ["bool", "int", "str", "list", "tuple"], PySem.W.kitOne L.K (.ref (L.cls k)) (.type T) = some false
theorem room100 {k : Nat} {A : Around} (r : Room k A) : A.units + 100 < cLine := by have := r.un; omega
structure Gd (L : Lay) (X : Cx) (Wx : WX) : Prop where
  cls : ∀ k, L.has k = true → ClF L k
  kk : ∀ k k', L.has k = true → L.has k' = true → PySem.W.kitOne L.K (.ref (L.cls k)) (.ref (L.cls k')) = some (decide (k = k'))
  blt : ∀ x ∈ bnames, X.mg x = none
  K : X.K = L.K
  nd : X.N.Nodup
  calm : X.calm = true
  units : X.A.units + 100 < cLine
  tk : Takes X Wx

section
variable {L : Lay} {c : Cfg} {Wx : WX} {W : List Nat} {X : Cx} {pos : Pos} {s : Sto} {m : List (Addr × Addr)} {G H : Hp}
/-! ### arithmetic -/
def opOf : Op → Operator
  | .add => .Add
  | .sub => .Sub
  | .mul => .Mult
  | .fdiv => .FloorDiv
  | .mod => .Mod
  | .pow => .Pow
theorem Rep.look {v : V} {d : D} (r : Rep L m G v d) : RB L m G H v d := .rep r
/-- the operator on settled values -/
def rBin (L : Lay) (op : Op) : R2 := fun x y H Q => ∃ s m G dx dy d, Wd L s m G H ∧ Rep L m G x dx ∧ Rep L m G y dy ∧ binD op dx dy = some d ∧ ∀ m' G' H', Stp m G H m' G' H' → Wd L s m' G' H' → ∀ v, Rep L m' G' v d → Q v H'
theorem op_bin (g : Gd L X Wx) (op : Op) : OpR X (binaryOp (opOf op)) (rBin L op) := by
  intro pins s σ H x y v u Q I rx ry h
  obtain ⟨st, m, G, dx, dy, d, w, r1, r2, e, q⟩ := h
  have now := q m G H (Stp.refl _ _ _) w
  have L1 : RB L m G H x dx := .rep r1
  have L2' : RB L m G H y dy := .rep r2
  cases op with
  | add =>
    unfold binD at e
    split at e
    · cases e
      have e1 := L1.int; have e2 := L2'.int; subst e1; subst e2
      exact op_add pins s σ H _ _ v u Q I rx ry ⟨_, _, rfl, rfl, now _ (.int _)⟩
    · split at e
      · rename_i hl
        cases e
        obtain ⟨a, vs, rfl, ha, ra⟩ := L1.lst w
        obtain ⟨b, ws, rfl, hb, rb⟩ := L2'.lst w
        refine op_cat pins s σ H _ _ v u Q I rx ry ⟨a, b, vs, ws, rfl, rfl, ha, hb, by rw [ra.length, rb.length, ← lim_eq]; exact hl, fun p np => ?_⟩
        exact put_new (K := fun _ _ _ => True) w np (.lst (ra.append rb)) q
      · cases e
    · split at e
      · rename_i hl
        cases e
        obtain ⟨a, vs, rfl, ha, ra⟩ := L1.tup w
        obtain ⟨b, ws, rfl, hb, rb⟩ := L2'.tup w
        have hra := ra.length; have hrb := rb.length
        refine op_catA pins s σ H _ _ v u Q I rx ry ⟨a, b, vs, ws, rfl, rfl, .of ha, .of hb, by rw [ra.length, rb.length, ← lim_eq]; exact hl, fun z => ?_, fun z z' => ?_, fun z z' p np => ?_⟩
        · subst z
          obtain rfl := ra.nil_of
          exact now _ r2
        · subst z'
          obtain rfl := rb.nil_of
          exact now _ (by rw [List.append_nil]; exact r1)
        · exact put_new (K := fun _ _ _ => True) w np (.tup (ra.append rb)) q
      · cases e
    · split at e
      · rename_i hl
        cases e
        have e1 := L1.str; have e2 := L2'.str; subst e1; subst e2
        exact op_add_str pins s σ H _ _ v u Q I rx ry ⟨_, _, rfl, rfl, by rw [← lim_eq]; exact hl, now _ (.str _)⟩
      · cases e
    all_goals first | contradiction | cases e
  | sub =>
    unfold binD at e
    split at e
    all_goals first | contradiction | skip
    · cases e
      have e1 := L1.int; have e2 := L2'.int; subst e1; subst e2
      exact op_sub pins s σ H _ _ v u Q I rx ry ⟨_, _, rfl, rfl, now _ (.int _)⟩
  | mul =>
    unfold binD at e
    split at e
    all_goals first | contradiction | skip
    · split at e
      · rename_i hl
        cases e
        have e1 := L1.int; have e2 := L2'.int; subst e1; subst e2
        refine op_mul pins s σ H _ _ v u Q I rx ry ⟨_, _, rfl, rfl, ?_, now _ (.int _)⟩
        unfold mulOk at hl
        unfold CMul
        simp only [Bool.or_eq_true, Bool.and_eq_true, decide_eq_true_eq] at hl
        exact hl
      · cases e
    · split at e
      · rename_i hl
        cases e
        simp only [Bool.and_eq_true, decide_eq_true_eq] at hl
        obtain ⟨a, vs, rfl, ha, ra⟩ := L1.lst w
        have e2 := L2'.int; subst e2
        refine op_rep pins s σ H _ _ v u Q I rx ry ⟨a, _, vs, rfl, rfl, ha, by omega, by omega, by rw [ra.length, ← lim_eq]; exact hl.2, fun p np => ?_⟩
        exact put_new (K := fun _ _ _ => True) w np (.lst (ra.rep _)) q
      · cases e
    · split at e
      · rename_i hl
        cases e
        simp only [Bool.and_eq_true, decide_eq_true_eq] at hl
        obtain ⟨a, vs, rfl, ha, ra⟩ := L1.tup w
        have e2 := L2'.int; subst e2
        have hra := ra.length
        refine op_repT pins s σ H _ _ v u Q I rx ry ⟨a, _, vs, rfl, rfl, .of ha, ?_, by omega, by omega, by omega, fun p np => ?_⟩
        · intro z
          subst z
          obtain rfl := ra.nil_of
          simp at hl
        · exact put_new (K := fun _ _ _ => True) w np (.tup (ra.rep _)) q
      · cases e
  | fdiv =>
    unfold binD at e
    split at e
    all_goals first | contradiction | skip
    · split at e
      · rename_i hl
        cases e
        simp only [Bool.and_eq_true, decide_eq_true_eq] at hl
        have e1 := L1.int; have e2 := L2'.int; subst e1; subst e2
        exact op_fdiv pins s σ H _ _ v u Q I rx ry ⟨_, _, rfl, rfl, hl, now _ (.int _)⟩
      · cases e
  | mod =>
    unfold binD at e
    split at e
    all_goals first | contradiction | skip
    · split at e
      · rename_i hl
        cases e
        simp only [decide_eq_true_eq] at hl
        have e1 := L1.int; have e2 := L2'.int; subst e1; subst e2
        exact op_mod pins s σ H _ _ v u Q I rx ry ⟨_, _, rfl, rfl, hl, now _ (.int _)⟩
      · cases e
  | pow =>
    unfold binD at e
    split at e
    all_goals first | contradiction | skip
    · split at e
      · rename_i hl
        cases e
        simp only [Bool.and_eq_true, decide_eq_true_eq] at hl
        have e1 := L1.int; have e2 := L2'.int; subst e1; subst e2
        exact op_pow pins s σ H _ _ v u Q I rx ry ⟨_, _, rfl, rfl, ⟨hl.1.1, by omega, by omega⟩, now _ (.int _)⟩
      · cases e
theorem s_bin (g : Gd L X Wx) {op : Op} {a b : Expr} {a' b' : E} (ha : PE X a (tE L c Wx W a')) (hb : PE X b (tE L c Wx W b')) : PE X (.BinOp a (opOf op) b pos) (tE L c Wx W (.bin op a' b')) := by
  refine PE.imp (pe_op (op_bin g op) ha hb) fun σ H Q ⟨ρ, s, m, G, w, q, A⟩ => ?_
  unfold ev at A
  refine goE w q (Aft.bind w A) fun d s1 m1 G1 H1 v t1 w1 q1 r1 A1 => ?_
  refine goE w1 q1 (Aft.bind w1 A1) fun d2 s2 m2 G2 H2 v2 t2 w2 q2 r2 A2 => ?_
  obtain ⟨z, ez, A3⟩ := A2.opt
  exact ⟨s2, m2, G2, d, d2, z, w2, r1.mono t2.pre t2.keep, r2, ez, A3⟩
theorem s_neg (g : Gd L X Wx) {a : Expr} {a' : E} (ha : PE X a (tB L c Wx W a')) : PE X (.UnaryOp .USub a pos) (tE L c Wx W (.neg a')) := by
  refine PE.imp (pe_un un_neg ha) fun σ H Q ⟨ρ, s, m, G, w, q, A⟩ => ?_
  unfold ev at A
  refine goB w q (Aft.bind w A) fun d s1 m1 G1 H1 v t1 w1 q1 r1 A1 => ?_
  obtain ⟨z, ez, A3⟩ := A1.opt
  unfold negD at ez
  split at ez
  · cases ez
    have e := r1.int; subst e
    exact ⟨_, rfl, A3 _ _ _ (Stp.refl _ _ _) w1 _ (.int _)⟩
  · cases ez

/-! ### truth -/
theorem tru_of {v : V} {d : D} {k : Bool} (w : Wd L s m G H) (r : RB L m G H v d) (e : truD d = some k) : TruV L.K v H k := by
  unfold truD at e
  split at e
  · cases e; have z := r.non; subst z; rfl
  · cases e; have z := r.bl; subst z; rfl
  · cases e; have z := r.int; subst z; rfl
  · split at e
    · rename_i hl
      cases e; have z := r.str; subst z
      refine ⟨by rw [← lim_eq]; exact hl, ?_⟩
      rename_i x
      cases x.length <;> rfl
    · cases e
  · cases e
    obtain ⟨a, vs, rfl, ha, ra⟩ := r.tup w
    refine .inr (.inl ⟨vs, .of ha, ?_⟩)
    have := ra.length
    rename_i ds
    cases ds <;> cases vs <;> simp_all
  · cases e
    obtain ⟨a, vs, rfl, ha, ra⟩ := r.lst w
    refine .inl ⟨vs, .of ha, ?_⟩
    have := ra.length
    rename_i ds
    cases ds <;> cases vs <;> simp_all
  · cases e
    obtain ⟨a, kvs, rfl, ha, hk, ra⟩ := r.dK w
    refine .inr (.inr ⟨kvs, ha, ?_⟩)
    have := congrArg List.length hk
    rename_i kds
    cases kds <;> cases kvs <;> simp_all
  · cases e
theorem s_nott (g : Gd L X Wx) {a : Expr} {a' : E} (ha : PE X a (tB L c Wx W a')) : PE X (.UnaryOp .Not a pos) (tE L c Wx W (.nott a')) := by
  refine PE.imp (pe_notT ha) fun σ H Q ⟨ρ, s, m, G, w, q, A⟩ => ?_
  unfold ev at A
  refine goB w q (Aft.bind w A) fun d s1 m1 G1 H1 v t1 w1 q1 r1 A1 => ?_
  obtain ⟨z, ez, A3⟩ := A1.opt
  cases e : truD d with
  | none => rw [e] at ez; cases ez
  | some k =>
    rw [e] at ez; cases ez
    exact ⟨k, by rw [g.K]; exact tru_of w1 r1 e, A3 _ _ _ (Stp.refl _ _ _) w1 _ (.bl _)⟩
/-- a test by the value's truth -/
def plainT : Expr → Bool
  | .UnaryOp .Not _ _ => false
  | .BoolOp .. => false
  | .IfExp .. => false
  | .Compare .. => false
  | _ => true
theorem plainT_is {e : Expr} {env : PySem.Env} (h : plainT e = true) (whole : Sem Value) : isTrue e env whole = (do let v ← whole; standAt e.pos; holding [v] (truthy v)) := by
  cases e <;> first | rfl | (cases h; done) | (rename_i op _ _; cases op <;> first | rfl | cases h)
theorem s_test (g : Gd L X Wx) {a : Expr} {a' : E} (ha : PE X a (tB L c Wx W a')) (hp : plainT a = true) : PT X a (tT L c Wx W a') := by
  refine PT.imp (pt_truth ha (plainT_is hp)) fun σ H Q ⟨ρ, s, m, G, w, q, A⟩ => ?_
  refine goB w q (Aft.bind w A) fun d s1 m1 G1 H1 v t1 w1 q1 r1 A1 => ?_
  obtain ⟨k, ek, A3⟩ := A1.opt
  exact ⟨k, by rw [g.K]; exact tru_of w1 r1 ek, A3 _ _ _ (Stp.refl _ _ _) w1⟩
theorem s_tnot {a : Expr} {a' : E} (ha : PT X a (tT L c Wx W a')) : PT X (.UnaryOp .Not a pos) (tT L c Wx W (.nott a')) := by
  refine PT.imp (pt_not ha) fun σ H Q ⟨ρ, s, m, G, w, q, A⟩ => ⟨ρ, s, m, G, w, q, ?_⟩
  unfold ev at A
  cases r : ev c a' ρ s with
  | st => rw [r] at A; exact A
  | ex k ds s' => rw [r] at A; exact A
  | ok d s' =>
    rw [r] at A
    simp only [Rs.bind_ok] at A ⊢
    cases e : truD d with
    | none => rw [e] at A; exact A
    | some k =>
      rw [e] at A
      exact A

/-! ### and, or -/
theorem s_one {op} {a : Expr} {t : TE} (h : PE X a t) : PE X (.BoolOp op [a] pos) t := pe_one h
theorem s_and {a b : Expr} {rest : List Expr} {a' b' : E} (ha : PE X a (tB L c Wx W a')) (hb : PE X (.BoolOp .And (b :: rest) pos) (tE L c Wx W b')) : PE X (.BoolOp .And (a :: b :: rest) pos) (tE L c Wx W (.and a' b')) := by
  refine PE.imp (pe_and ha hb) fun σ H Q ⟨ρ, s, m, G, w, q, A⟩ => ?_
  unfold ev at A
  refine goB w q (Aft.bind w A) fun d s1 m1 G1 H1 v t1 w1 q1 r1 A1 => ?_
  split at A1
  · have e := r1.bl; subst e
    exact ⟨true, rfl, ρ, s1, m1, G1, w1, q1, A1⟩
  · have e := r1.bl; subst e
    exact ⟨false, rfl, A1.ok w1 _ (.bl _)⟩
  · exact False.elim A1
theorem s_or {a b : Expr} {rest : List Expr} {a' b' : E} (ha : PE X a (tB L c Wx W a')) (hb : PE X (.BoolOp .Or (b :: rest) pos) (tE L c Wx W b')) : PE X (.BoolOp .Or (a :: b :: rest) pos) (tE L c Wx W (.or a' b')) := by
  refine PE.imp (pe_or ha hb) fun σ H Q ⟨ρ, s, m, G, w, q, A⟩ => ?_
  unfold ev at A
  refine goB w q (Aft.bind w A) fun d s1 m1 G1 H1 v t1 w1 q1 r1 A1 => ?_
  split at A1
  · have e := r1.bl; subst e
    exact ⟨true, rfl, A1.ok w1 _ (.bl _)⟩
  · have e := r1.bl; subst e
    exact ⟨false, rfl, ρ, s1, m1, G1, w1, q1, A1⟩
  · exact False.elim A1
theorem s_tand {a b : Expr} {rest : List Expr} {a' b' : E} (ha : PT X a (tT L c Wx W a')) (hb : PW X (.BoolOp .And (b :: rest) pos) (tT L c Wx W b')) : PW X (.BoolOp .And (a :: b :: rest) pos) (tT L c Wx W (.and a' b')) := by
  refine PW.imp (pw_and ha hb) fun σ H Q ⟨ρ, s, m, G, w, q, A⟩ => ⟨ρ, s, m, G, w, q, ?_⟩
  unfold ev at A
  cases r : ev c a' ρ s with
  | st => rw [r] at A; exact A
  | ex k ds s' => rw [r] at A; exact A
  | ok d s' =>
    rw [r] at A
    simp only [Rs.bind_ok] at A ⊢
    split at A
    · exact fun m1 G1 H1 t1 w1 => ⟨ρ, s', m1, G1, w1, q.step t1, Aft.step w w1 t1 A⟩
    · exact fun m1 G1 H1 t1 w1 => A m1 G1 H1 t1 w1
    · exact False.elim A
theorem s_tor {a b : Expr} {rest : List Expr} {a' b' : E} (ha : PT X a (tT L c Wx W a')) (hb : PW X (.BoolOp .Or (b :: rest) pos) (tT L c Wx W b')) : PW X (.BoolOp .Or (a :: b :: rest) pos) (tT L c Wx W (.or a' b')) := by
  refine PW.imp (pw_or ha hb) fun σ H Q ⟨ρ, s, m, G, w, q, A⟩ => ⟨ρ, s, m, G, w, q, ?_⟩
  unfold ev at A
  cases r : ev c a' ρ s with
  | st => rw [r] at A; exact A
  | ex k ds s' => rw [r] at A; exact A
  | ok d s' =>
    rw [r] at A
    simp only [Rs.bind_ok] at A ⊢
    split at A
    · exact fun m1 G1 H1 t1 w1 => A m1 G1 H1 t1 w1
    · exact fun m1 G1 H1 t1 w1 => ⟨ρ, s', m1, G1, w1, q.step t1, Aft.step w w1 t1 A⟩
    · exact False.elim A
theorem s_ifx {t a b : Expr} {t' a' b' : E} (ht : PT X t (tT L c Wx W t')) (ha : PE X a (tE L c Wx W a')) (hb : PE X b (tE L c Wx W b')) : PE X (.IfExp t a b pos) (tE L c Wx W (.ifx t' a' b')) := by
  refine PE.imp (pe_ifExp ht ha hb) fun σ H Q ⟨ρ, s, m, G, w, q, A⟩ => ?_
  unfold ev at A
  rw [← Rs.bind_assoc (ev c t' ρ s) (fun x s => Rs.opt (truD x) s)] at A
  refine goT w q (Aft.bind w A) fun k s1 m1 G1 H1 t1 w1 q1 A1 => ?_
  cases k with
  | true => exact ⟨ρ, s1, m1, G1, w1, q1, A1⟩
  | false => exact ⟨ρ, s1, m1, G1, w1, q1, A1⟩
end
end MP

end
section
set_option Elab.async false
set_option linter.all false
set_option maxRecDepth 100000
set_option maxHeartbeats 1000000
/-! Comparisons, subscripts, slices, isinstance, built-in calls. -/
namespace MP
open PySem L2

section
variable {L : Lay} {c : Cfg} {Wx : WX} {W : List Nat} {X : Cx} {pos : Pos} {s : Sto} {m : List (Addr × Addr)} {G H : Hp}

theorem sign_of {y : Str} {c : Nat} (h : y.cps.toList = [c]) : y = ⟨#[c]⟩ := by
  obtain ⟨cps⟩ := y
  have : cps = #[c] := by
    have := congrArg List.toArray h
    simpa using this
  rw [this]
/-! ### in -/
theorem flat_rep {v : V} {d : D} (h : isFl d = true) (r : Rep L m G v d) : flatV v = true := by
  cases r with
  | obj _ hc => cases hc <;> simp [isFl] at h
  | fn => simp [isFl] at h
  | hnd => simp [isFl] at h
  | scr => simp [isFl] at h
  | _ => rfl
theorem flat_reps : ∀ {vs : List V} {ds : List D}, ds.all isFl = true → Reps L m G vs ds → vs.all flatV = true
  | _, _, _, .nil => rfl
  | _, _, h, .cons r t => by
    rw [List.all_cons, Bool.and_eq_true] at h
    rw [List.all_cons, flat_rep h.1 r, flat_reps h.2 t]; rfl
theorem eqV_rep {v u : V} {d e : D} (hd : isFl d = true) (he : isFl e = true) (r : Rep L m G v d) (q : Rep L m G u e) : eqV v u = eqF 0 d e := by
  cases r with
  | obj _ hc => cases hc <;> simp [isFl] at hd
  | fn => simp [isFl] at hd
  | hnd => simp [isFl] at hd
  | scr => simp [isFl] at hd
  | _ =>
    cases q with
    | obj _ hc => cases hc <;> simp [isFl] at he
    | fn => simp [isFl] at he
    | hnd => simp [isFl] at he
    | scr => simp [isFl] at he
    | _ => simp [eqV, eqF, b2i]
theorem inV_reps {u : V} {e : D} (he : isFl e = true) (q : Rep L m G u e) : ∀ {vs : List V} {ds : List D}, ds.all isFl = true → Reps L m G vs ds → inV u vs = ds.any fun y => eqF 0 y e
  | _, _, _, .nil => rfl
  | _, _, h, .cons r t => by
    rw [List.all_cons, Bool.and_eq_true] at h
    have ih := inV_reps he q h.2 t
    unfold inV at ih ⊢
    rw [List.any_cons, List.any_cons, eqV_rep h.1 he r q, ih]
theorem RB.flat {v : V} {d : D} (r : RB L m G H v d) (h : isFl d = true) : Rep L m G v d := by
  cases r with
  | rep r => exact r
  | own e g n ho hc => cases hc <;> simp [isFl] at h

/-! ### dicts -/
theorem key_of' {v : V} {d : D} {k : Key} (e : keyD d = some k) (r : Rep L m G v d) : v = kV k := by
  cases r with
  | int i => simp [keyD] at e; subst e; rfl
  | str x => simp [keyD] at e; subst e; rfl
  | obj _ hc => cases hc <;> simp [keyD] at e
  | _ => simp [keyD] at e
theorem keys_of' : ∀ {vs : List V} {ds : List D} {ks : List Key}, keysD ds = some ks → Reps L m G vs ds → vs = ks.map kV
  | _, _, ks, e, .nil => by simp [keysD] at e; subst e; rfl
  | _, _, ks, e, .cons r t => by
    unfold keysD at e
    split at e
    · rename_i k ks' h1 h2
      cases e
      rw [List.map_cons, key_of' h1 r, keys_of' h2 t]
    · cases e
theorem isFl_key {d : D} {k : Key} (e : keyD d = some k) : isFl d = true := by
  cases d <;> simp [keyD] at e <;> rfl
section
variable {κ : Type} [DecidableEq κ]
theorem val_lk : ∀ {kvs : List (κ × V)} {kds : List (κ × D)} (k : κ), kvs.map (·.1) = kds.map (·.1) → Reps L m G (kvs.map (·.2)) (kds.map (·.2)) →
    (lk kds k = none ∧ valV kvs k = none) ∨ ∃ d v, lk kds k = some d ∧ valV kvs k = some v ∧ Rep L m G v d
  | [], [], k, _, _ => .inl ⟨rfl, rfl⟩
  | [], _ :: _, _, h, _ => by simp at h
  | _ :: _, [], _, h, _ => by simp at h
  | (a, v) :: kvs, (b, d) :: kds, k, h, r => by
    simp only [List.map_cons, List.cons.injEq] at h
    obtain ⟨h1, h2⟩ := h
    subst h1
    simp only [List.map_cons] at r
    cases r with
    | cons r t =>
      by_cases e : a = k
      · refine .inr ⟨d, v, ?_, ?_, r⟩
        · simp [lk, List.find?_cons, e]
        · simp [valV, List.find?_cons, e]
      · have ih := val_lk k h2 t
        have e1 : lk ((a, d) :: kds) k = lk kds k := by simp [lk, List.find?_cons, e]
        have e2 : valV ((a, v) :: kvs) k = valV kvs k := by simp [valV, List.find?_cons, e]
        rw [e1, e2]; exact ih
theorem any_keys {α β : Type} : ∀ {kvs : List (κ × α)} {kds : List (κ × β)} (k : κ), kvs.map (·.1) = kds.map (·.1) → (kvs.any fun kv => decide (kv.1 = k)) = kds.any fun kv => decide (kv.1 = k)
  | [], [], _, _ => rfl
  | [], _ :: _, _, h => by simp at h
  | _ :: _, [], _, h => by simp at h
  | (a, v) :: kvs, (b, d) :: kds, k, h => by
    simp only [List.map_cons, List.cons.injEq] at h
    rw [List.any_cons, List.any_cons, any_keys k h.2, h.1]
theorem repl_keys {k : κ} {y : V} {e : D} (re : Rep L m G y e) : ∀ {kvs : List (κ × V)} {kds : List (κ × D)}, kvs.map (·.1) = kds.map (·.1) → Reps L m G (kvs.map (·.2)) (kds.map (·.2)) →
    (kvs.map fun kv => if kv.1 = k then (kv.1, y) else kv).map (·.1) = (kds.map fun kv => if kv.1 = k then (kv.1, e) else kv).map (·.1) ∧
      Reps L m G ((kvs.map fun kv => if kv.1 = k then (kv.1, y) else kv).map (·.2)) ((kds.map fun kv => if kv.1 = k then (kv.1, e) else kv).map (·.2))
  | [], [], _, _ => ⟨rfl, .nil⟩
  | [], _ :: _, h, _ => by simp at h
  | _ :: _, [], h, _ => by simp at h
  | (a, v) :: kvs, (b, d) :: kds, h, r => by
    simp only [List.map_cons, List.cons.injEq] at h
    obtain ⟨h1, h2⟩ := h
    subst h1
    simp only [List.map_cons] at r
    cases r with
    | cons r t =>
      obtain ⟨i1, i2⟩ := repl_keys re h2 t
      by_cases q : a = k
      · simp only [List.map_cons, q, if_true]
        exact ⟨by rw [i1], .cons re i2⟩
      · simp only [List.map_cons, q, if_false]
        exact ⟨by rw [i1], .cons r i2⟩
theorem put_keys {kvs : List (κ × V)} {kds : List (κ × D)} {k : κ} {y : V} {e : D} (h : kvs.map (·.1) = kds.map (·.1)) (r : Reps L m G (kvs.map (·.2)) (kds.map (·.2))) (re : Rep L m G y e) :
    (putK kvs k y).map (·.1) = (upk k e kds).map (·.1) ∧ Reps L m G ((putK kvs k y).map (·.2)) ((upk k e kds).map (·.2)) := by
  unfold putK upk
  rw [any_keys k h]
  cases (kds.any fun kv => decide (kv.1 = k)) with
  | true => exact repl_keys re h r
  | false =>
    simp only [Bool.false_eq_true, if_false, List.map_append, List.map_cons, List.map_nil]
    exact ⟨by rw [h], r.append (.one re)⟩
end
/-- what a dict holds -/
theorem dget_of {v y : V} {d k : D} {o : Option D} (w : Wd L s m G H) (r : RB L m G H v d) (rk : RB L m G H y k) (e : dget d k = some o) :
    ∃ a, v = .ref a ∧ ((o = none ∧ DGet H a y none) ∨ ∃ x u, o = some x ∧ DGet H a y (some u) ∧ Rep L m G u x) := by
  unfold dget at e
  split at e
  · split at e
    · rename_i kvs key k' hk
      obtain ⟨a, kvs', rfl, ha, e1, r1⟩ := r.dK w
      cases e
      have hy := key_of' hk (rk.flat (isFl_key hk))
      subst hy
      refine ⟨a, rfl, ?_⟩
      rcases val_lk k' e1 r1 with ⟨h1, h2⟩ | ⟨x, u, h1, h2, h3⟩
      · exact .inl ⟨h1, by have := DGet.k (k := k') ha; rw [h2] at this; exact this⟩
      · exact .inr ⟨x, u, h1, by have := DGet.k (k := k') ha; rw [h2] at this; exact this, h3⟩
    · cases e
  · split at e
    · rename_i kvs ks k' hk
      obtain ⟨a, kvs', rfl, ha, e1, r1⟩ := r.dT w
      obtain ⟨b, vs, rfl, hb, r2⟩ := rk.tup w
      cases e
      have hy := keys_of' hk r2
      subst hy
      refine ⟨a, rfl, ?_⟩
      rcases val_lk k' e1 r1 with ⟨h1, h2⟩ | ⟨x, u, h1, h2, h3⟩
      · exact .inl ⟨h1, by have := DGet.t (k := k') ha hb; rw [h2] at this; exact this⟩
      · exact .inr ⟨x, u, h1, by have := DGet.t (k := k') ha hb; rw [h2] at this; exact this, h3⟩
    · cases e
  · cases e

/-! ### comparisons -/
def cmOf : Cm → CmpOp
  | .eq => .Eq
  | .ne => .NotEq
  | .lt => .Lt
  | .le => .LtE
  | .gt => .Gt
  | .ge => .GtE
  | .isin => .In
  | .notin => .NotIn
  | .isn => .Is
  | .notn => .IsNot
def rCm (L : Lay) (op : Cm) : R2 := fun x y H Q => ∃ s m G dx dy b, Wd L s m G H ∧ RB L m G H x dx ∧ RB L m G H y dy ∧ cmpD op dx dy = some b ∧ Q (.bl b) H
theorem isNon_iff {v : V} {d : D} (r : RB L m G H v d) : decide (v = .non) = isNon d := by
  cases r with
  | rep r =>
    cases r with
    | non => rfl
    | obj _ hc => cases hc <;> rfl
    | _ => rfl
  | own e g n ho hc => subst e; cases hc <;> rfl
theorem any_congr {α : Type} {f g : α → Bool} : ∀ {l : List α}, (∀ x ∈ l, f x = g x) → l.any f = l.any g
  | [], _ => rfl
  | x :: l, h => by rw [List.any_cons, List.any_cons, h x (List.mem_cons_self ..), any_congr fun y hy => h y (List.mem_cons_of_mem _ hy)]
theorem dp_look7 (w : Wd L s m G H) {v : V} {d : D} (h : isP 7 d = true) (r : RB L m G H v d) : Dp L.K H v (toP 7 d) := dp_look (n := 6) w h r
theorem op_inD (g : Gd L X Wx) : OpR X (compareOp .In) (fun x y H Q => ∃ s m G dx dy b, Wd L s m G H ∧ RB L m G H x dx ∧ RB L m G H y dy ∧ inD dx dy = some b ∧ Q (.bl b) H) := by
  intro pins sh σ H x y v u Q I rx ry h
  obtain ⟨s, m, G, dx, dy, b, w, r1, r2, e, q⟩ := h
  unfold inD at e
  split at e
  · split at e
    · rename_i hf
      rw [Bool.and_eq_true] at hf
      cases e
      obtain ⟨a, vs, rfl, ha, ra⟩ := r2.lst w
      exact op_in_seq pins sh σ H _ _ v u Q I rx ry ⟨a, vs, rfl, .inl (.of ha), flat_rep hf.1 (r1.flat hf.1), flat_reps hf.2 ra, by rw [inV_reps hf.1 (r1.flat hf.1) hf.2 ra]; exact q⟩
    · split at e
      · rename_i hf
        rw [Bool.and_eq_true] at hf
        cases e
        rename_i ds _
        have hp : isP 8 (.lst ds) = true := by unfold isP; exact hf.2
        have e1 : Dp L.K H y (.list (ds.map (toP 7))) := dp_look (n := 7) w hp r2
        have e2 : Dp L.K H x (toP 7 _) := dp_look7 w hf.1 r1
        refine L2.op_inD (by have := g.units; omega) pins sh σ H _ _ v u Q I rx ry ⟨_, _, by rw [g.K]; exact e2, by rw [g.K]; exact e1, shaped_of (n := 7) (by omega) hf.1, shaped_of (n := 8) (d := .lst ds) (by omega) hp, ?_⟩
        simp only [List.any_map, Function.comp_def]
        rw [any_congr (g := fun z => eqF 7 z _) fun z hz => eqv_of 7 z _ (List.all_eq_true.mp hf.2 z hz) hf.1]
        exact q
      · cases e
  · split at e
    · rename_i hf
      rw [Bool.and_eq_true] at hf
      cases e
      obtain ⟨a, vs, rfl, ha, ra⟩ := r2.tup w
      exact op_in_seq pins sh σ H _ _ v u Q I rx ry ⟨a, vs, rfl, .inr (.of ha), flat_rep hf.1 (r1.flat hf.1), flat_reps hf.2 ra, by rw [inV_reps hf.1 (r1.flat hf.1) hf.2 ra]; exact q⟩
    · cases e
  · split at e
    · split at e
      · rename_i hc
        cases e
        have e1 := r1.str; have e2 := r2.str; subst e1; subst e2
        obtain rfl := sign_of hc
        exact op_in_sign pins sh σ H _ _ v u Q I rx ry ⟨_, _, rfl, rfl, q⟩
      · cases e
    · cases e
  · cases ed : dget dy dx with
    | none => rw [ed] at e; cases e
    | some o =>
      rw [ed] at e; cases e
      obtain ⟨a, rfl, hg⟩ := dget_of w r2 r1 ed
      cases ry
      have hu : X.A.units + 1 < cLine := by have := g.units; omega
      rcases hg with ⟨rfl, hg⟩ | ⟨x', u', rfl, hg, _⟩
      · exact d_in hu I hg rx fun s' I' => ⟨.bl false, H, I', rfl, q⟩
      · exact d_in hu I hg rx fun s' I' => ⟨.bl true, H, I', rfl, q⟩
theorem op_notinD (g : Gd L X Wx) : OpR X (compareOp .NotIn) (fun x y H Q => ∃ s m G dx dy b, Wd L s m G H ∧ RB L m G H x dx ∧ RB L m G H y dy ∧ inD dx dy = some b ∧ Q (.bl (!b)) H) := by
  intro pins sh σ H x y v u Q I rx ry h
  obtain ⟨s, m, G, dx, dy, b, w, r1, r2, e, q⟩ := h
  unfold inD at e
  split at e
  · split at e
    · rename_i hf
      rw [Bool.and_eq_true] at hf
      cases e
      obtain ⟨a, vs, rfl, ha, ra⟩ := r2.lst w
      exact op_notIn_seq pins sh σ H _ _ v u Q I rx ry ⟨a, vs, rfl, .inl (.of ha), flat_rep hf.1 (r1.flat hf.1), flat_reps hf.2 ra, by rw [inV_reps hf.1 (r1.flat hf.1) hf.2 ra]; exact q⟩
    · split at e
      · rename_i hf
        rw [Bool.and_eq_true] at hf
        cases e
        rename_i ds _
        have hp : isP 8 (.lst ds) = true := by unfold isP; exact hf.2
        have e1 : Dp L.K H y (.list (ds.map (toP 7))) := dp_look (n := 7) w hp r2
        have e2 : Dp L.K H x (toP 7 _) := dp_look7 w hf.1 r1
        refine L2.op_notInD (by have := g.units; omega) pins sh σ H _ _ v u Q I rx ry ⟨_, _, by rw [g.K]; exact e2, by rw [g.K]; exact e1, shaped_of (n := 7) (by omega) hf.1, shaped_of (n := 8) (d := .lst ds) (by omega) hp, ?_⟩
        simp only [List.any_map, Function.comp_def]
        rw [any_congr (g := fun z => eqF 7 z _) fun z hz => eqv_of 7 z _ (List.all_eq_true.mp hf.2 z hz) hf.1]
        exact q
      · cases e
  · split at e
    · rename_i hf
      rw [Bool.and_eq_true] at hf
      cases e
      obtain ⟨a, vs, rfl, ha, ra⟩ := r2.tup w
      exact op_notIn_seq pins sh σ H _ _ v u Q I rx ry ⟨a, vs, rfl, .inr (.of ha), flat_rep hf.1 (r1.flat hf.1), flat_reps hf.2 ra, by rw [inV_reps hf.1 (r1.flat hf.1) hf.2 ra]; exact q⟩
    · cases e
  · split at e
    · split at e
      · rename_i hc
        cases e
        have e1 := r1.str; have e2 := r2.str; subst e1; subst e2
        obtain rfl := sign_of hc
        exact op_notIn_sign pins sh σ H _ _ v u Q I rx ry ⟨_, _, rfl, rfl, q⟩
      · cases e
    · cases e
  · cases ed : dget dy dx with
    | none => rw [ed] at e; cases e
    | some o =>
      rw [ed] at e; cases e
      obtain ⟨a, rfl, hg⟩ := dget_of w r2 r1 ed
      cases ry
      have hu : X.A.units + 1 < cLine := by have := g.units; omega
      rcases hg with ⟨rfl, hg⟩ | ⟨x', u', rfl, hg, _⟩
      · exact d_notIn hu I hg rx fun s' I' => ⟨.bl true, H, I', rfl, q⟩
      · exact d_notIn hu I hg rx fun s' I' => ⟨.bl false, H, I', rfl, q⟩
theorem op_cm (g : Gd L X Wx) (op : Cm) : OpR X (compareOp (cmOf op)) (rCm L op) := by
  intro pins sh σ H x y v u Q I rx ry h
  obtain ⟨s, m, G, dx, dy, b, w, r1, r2, e, q⟩ := h
  cases op with
  | eq =>
    simp only [cmpD, eqD] at e
    split at e
    · rename_i hp
      rw [Bool.and_eq_true] at hp
      cases e
      refine op_eqD (by have := g.units; omega) pins sh σ H _ _ v u Q I rx ry ⟨toP 8 dx, toP 8 dy, by rw [g.K]; exact dp_look w hp.1 r1, by rw [g.K]; exact dp_look w hp.2 r2, shaped_of (by decide) hp.1, shaped_of (by decide) hp.2, ?_⟩
      rw [eqv_of 8 dx dy hp.1 hp.2]; exact q
    · cases e
  | ne =>
    simp only [cmpD, eqD] at e
    split at e
    · rename_i hp
      rw [Bool.and_eq_true] at hp
      cases e
      refine op_neD (by have := g.units; omega) pins sh σ H _ _ v u Q I rx ry ⟨toP 8 dx, toP 8 dy, by rw [g.K]; exact dp_look w hp.1 r1, by rw [g.K]; exact dp_look w hp.2 r2, shaped_of (by decide) hp.1, shaped_of (by decide) hp.2, ?_⟩
      rw [eqv_of 8 dx dy hp.1 hp.2]; exact q
    · cases e
  | lt =>
    cases dx <;> cases dy <;> simp only [cmpD, reduceCtorEq, Option.some.injEq] at e
    subst e
    have e1 := r1.int; have e2 := r2.int; subst e1; subst e2
    exact op_lt pins sh σ H _ _ v u Q I rx ry ⟨_, _, rfl, rfl, q⟩
  | le =>
    cases dx <;> cases dy <;> simp only [cmpD, reduceCtorEq, Option.some.injEq] at e
    subst e
    have e1 := r1.int; have e2 := r2.int; subst e1; subst e2
    exact op_le pins sh σ H _ _ v u Q I rx ry ⟨_, _, rfl, rfl, q⟩
  | gt =>
    cases dx <;> cases dy <;> simp only [cmpD, reduceCtorEq, Option.some.injEq] at e
    subst e
    have e1 := r1.int; have e2 := r2.int; subst e1; subst e2
    exact op_gt pins sh σ H _ _ v u Q I rx ry ⟨_, _, rfl, rfl, q⟩
  | ge =>
    cases dx <;> cases dy <;> simp only [cmpD, reduceCtorEq, Option.some.injEq] at e
    subst e
    have e1 := r1.int; have e2 := r2.int; subst e1; subst e2
    exact op_ge pins sh σ H _ _ v u Q I rx ry ⟨_, _, rfl, rfl, q⟩
  | isin =>
    simp only [cmpD] at e
    exact op_inD g pins sh σ H _ _ v u Q I rx ry ⟨s, m, G, dx, dy, b, w, r1, r2, e, q⟩
  | notin =>
    simp only [cmpD] at e
    cases ei : inD dx dy with
    | none => rw [ei] at e; cases e
    | some k =>
      rw [ei] at e; cases e
      exact op_notinD g pins sh σ H _ _ v u Q I rx ry ⟨s, m, G, dx, dy, k, w, r1, r2, ei, q⟩
  | isn =>
    cases dy <;> simp only [cmpD, reduceCtorEq, Option.some.injEq] at e
    subst e
    exact op_isN pins sh σ H _ _ v u Q I rx ry ⟨r2.non, by rw [isNon_iff r1]; exact q⟩
  | notn =>
    cases dy <;> simp only [cmpD, reduceCtorEq, Option.some.injEq] at e
    subst e
    exact op_notN pins sh σ H _ _ v u Q I rx ry ⟨r2.non, by rw [isNon_iff r1]; exact q⟩
end
end MP

end
section
set_option Elab.async false
set_option linter.all false
set_option maxRecDepth 100000
set_option maxHeartbeats 1000000
/-! Comparisons as values and tests, subscripts, slices, isinstance, built-in calls. -/
namespace MP
open PySem PySem.Spec PyProof.Rows L2

section
variable {L : Lay} {c : Cfg} {Wx : WX} {W : List Nat} {X : Cx} {pos : Pos} {s : Sto} {m : List (Addr × Addr)} {G H : Hp}
/-- where the right side of in is no set display -/
def noSet : Expr → Bool
  | .Set .. => false
  | _ => true
theorem noSet_is {op : CmpOp} {b : Expr} (h : noSet b = true) : behindInMarks op b = false := by
  cases b <;> first | rfl | cases h
theorem s_cmp (g : Gd L X Wx) {op : Cm} {a b : Expr} {a' b' : E} (ha : PE X a (tB L c Wx W a')) (hb : PE X b (tB L c Wx W b')) (hs : noSet b = true) :
    PE X (.Compare a [cmOf op] [b] pos) (tE L c Wx W (.cmp op a' b')) := by
  refine PE.imp (pe_cmpR (op_cm g op) ha hb (noSet_is hs)) fun σ H Q ⟨ρ, s, m, G, w, q, A⟩ => ?_
  unfold ev at A
  refine goB w q (Aft.bind w A) fun d s1 m1 G1 H1 v t1 w1 q1 r1 A1 => ?_
  refine goB w1 q1 (Aft.bind w1 A1) fun d2 s2 m2 G2 H2 v2 t2 w2 q2 r2 A2 => ?_
  obtain ⟨z, e, A3⟩ := A2.opt
  cases ec : cmpD op d d2 with
  | none => rw [ec] at e; cases e
  | some b =>
    rw [ec] at e; cases e
    exact ⟨s2, m2, G2, d, d2, b, w2, r1.step t2, r2, ec, A3 m2 G2 H2 (Stp.refl _ _ _) w2 _ (.bl b)⟩
theorem s_tcmp (g : Gd L X Wx) {op : Cm} {a b : Expr} {a' b' : E} (ha : PE X a (tB L c Wx W a')) (hb : PE X b (tB L c Wx W b')) (hs : noSet b = true) :
    PT X (.Compare a [cmOf op] [b] pos) (tT L c Wx W (.cmp op a' b')) := by
  refine PT.imp (pt_cmpR (op_cm g op) ha hb (noSet_is hs)) fun σ H Q ⟨ρ, s, m, G, w, q, A⟩ => ?_
  unfold ev at A
  rw [Rs.bind_assoc] at A
  refine goB w q (Aft.bind w A) fun d s1 m1 G1 H1 v t1 w1 q1 r1 A1 => ?_
  rw [Rs.bind_assoc] at A1
  refine goB w1 q1 (Aft.bind w1 A1) fun d2 s2 m2 G2 H2 v2 t2 w2 q2 r2 A2 => ?_
  cases ec : cmpD op d d2 with
  | none => rw [ec] at A2; exact False.elim A2
  | some b =>
    rw [ec] at A2
    exact ⟨s2, m2, G2, d, d2, b, w2, r1.step t2, r2, ec, b, rfl, A2.ok w2⟩
theorem lastMarks_two {o p : CmpOp} {b d : Expr} (h : noSet d = true) : lastMarks [o, p] [b, d] = false := by
  show behindInMarks p d = false
  exact noSet_is h
theorem s_chain (g : Gd L X Wx) {o p : Cm} {a b d : Expr} {a' b' d' : E} (ha : PE X a (tB L c Wx W a')) (hb : PE X b (tB L c Wx W b')) (hd : PE X d (tB L c Wx W d')) (hs : noSet d = true) :
    PE X (.Compare a [cmOf o, cmOf p] [b, d] pos) (tE L c Wx W (.chain o p a' b' d')) := by
  refine PE.imp (pe_chain (op_cm g o) (op_cm g p) ha hb hd (lastMarks_two hs)) fun σ H Q ⟨ρ, s, m, G, w, q, A⟩ => ?_
  unfold ev at A
  refine goB w q (Aft.bind w A) fun x s1 m1 G1 H1 v t1 w1 q1 r1 A1 => ?_
  refine goB w1 q1 (Aft.bind w1 A1) fun y s2 m2 G2 H2 v2 t2 w2 q2 r2 A2 => ?_
  obtain ⟨k, e, A3⟩ := Aft.opt (Aft.bind w2 A2)
  refine ⟨s2, m2, G2, x, y, k, w2, r1.step t2, r2, e, k, rfl, ?_⟩
  have A4 := A3 m2 G2 H2 (Stp.refl _ _ _) w2
  cases k with
  | false => exact A4.ok w2 _ (.bl false)
  | true =>
    refine goB w2 q2 (Aft.bind w2 A4) fun z s3 m3 G3 H3 v3 t3 w3 q3 r3 A5 => ?_
    obtain ⟨u, eu, A6⟩ := A5.opt
    cases ec : cmpD p y z with
    | none => rw [ec] at eu; cases eu
    | some b =>
      rw [ec] at eu; cases eu
      exact ⟨s3, m3, G3, y, z, b, w3, r2.step t3, r3, ec, A6 m3 G3 H3 (Stp.refl _ _ _) w3 _ (.bl b)⟩
theorem s_tchain (g : Gd L X Wx) {o p : Cm} {a b d : Expr} {a' b' d' : E} (ha : PE X a (tB L c Wx W a')) (hb : PE X b (tB L c Wx W b')) (hd : PE X d (tB L c Wx W d')) (hs : noSet d = true) :
    PT X (.Compare a [cmOf o, cmOf p] [b, d] pos) (tT L c Wx W (.chain o p a' b' d')) := by
  refine PT.imp (pt_chain (op_cm g o) (op_cm g p) ha hb hd (lastMarks_two hs)) fun σ H Q ⟨ρ, s, m, G, w, q, A⟩ => ?_
  unfold ev at A
  rw [Rs.bind_assoc] at A
  refine goB w q (Aft.bind w A) fun x s1 m1 G1 H1 v t1 w1 q1 r1 A1 => ?_
  rw [Rs.bind_assoc] at A1
  refine goB w1 q1 (Aft.bind w1 A1) fun y s2 m2 G2 H2 v2 t2 w2 q2 r2 A2 => ?_
  rw [Rs.bind_assoc] at A2
  obtain ⟨k, e, A3⟩ := Aft.opt (Aft.bind w2 A2)
  refine ⟨s2, m2, G2, x, y, k, w2, r1.step t2, r2, e, k, rfl, ?_⟩
  have A4 := A3 m2 G2 H2 (Stp.refl _ _ _) w2
  cases k with
  | false => exact ⟨false, rfl, A4.ok w2⟩
  | true =>
    simp only [if_true] at A4
    rw [Rs.bind_assoc] at A4
    refine goB w2 q2 (Aft.bind w2 A4) fun z s3 m3 G3 H3 v3 t3 w3 q3 r3 A5 => ?_
    cases ec : cmpD p y z with
    | none => rw [ec] at A5; exact False.elim A5
    | some b =>
      rw [ec] at A5
      exact ⟨s3, m3, G3, y, z, b, w3, r2.step t3, r3, ec, b, rfl, A5.ok w3⟩

/-! ### subscripts -/
def noSlice : Expr → Bool
  | .Slice .. => false
  | _ => true
theorem noSlice_is {b : Expr} (h : noSlice b = true) : PlainIx b := fun o i => by
  cases b <;> first | rfl | cases h
def rIxD (L : Lay) : R2 := fun x y H Q => ∃ s m G dx dy d, Wd L s m G H ∧ RB L m G H x dx ∧ RB L m G H y dy ∧ ixD dx dy = some d ∧ ∀ v, Rep L m G v d → Q v H
theorem atI_rep {vs : List V} {ds : List D} {i : Int} {d : D} (r : Reps L m G vs ds) (h : atI ds i = some d) : ∃ v, atI vs i = some v ∧ Rep L m G v d := by
  unfold atI at h ⊢
  rw [r.length]
  cases e : ixN ds.length i with
  | none => rw [e] at h; cases h
  | some j =>
    rw [e] at h
    exact r.get h
theorem ix_dict (hu : X.A.units + 1 < cLine) : IxR X (fun x y H Q => ∃ a v, x = .ref a ∧ DGet H a y (some v) ∧ Q v H) := by
  intro value slice pins s σ H x y v u Q I rx ry q hs
  obtain ⟨a, z, rfl, hg, q⟩ := q
  obtain rfl : v = Value.ref a := rx
  have hT := dict_typeIs I hg
  have h2 : wpAny (model X.prog X.w) X.A (getItem (.ref a) u) (EP X pins σ Q) X.xe s := d_getItem hu I hg ry fun w' s3 I3 rw' => ⟨z, H, I3, rw', q⟩
  unfold subscriptTail
  refine wpAny_bind ?_
  rw [getitemInPython_of_ne hT.not_modules]
  refine wpAny_bind (wpAny_specialOf hT PySem.F.slot_dict_getitem.lookup ?_)
  have fin : wpAny (model X.prog X.w) X.A (subscripted slice false (.ref a) u) (fun r s₃ => wpAny (model X.prog X.w) X.A (letTemporaryGo value (.ref a) r >>= fun _ => pure r) (EP X pins σ Q) X.xe s₃) X.xe s := by
    rw [hs]
    exact wpAny_operating (wpAny_mono h2 (fun r s₃ h₃ => wpAny_bind (wpAny_letTemporaryGo (wpAny_pure h₃))) fun _ _ x => x)
  first
    | exact wpAny_pure (wpAny_bind fin)
    | exact wpAny_bind (wpAny_pure (wpAny_bind fin))
    | exact wpAny_bind fin
theorem ix_all (g : Gd L X Wx) : IxR X (rIxD L) := by
  have hu : X.A.units + 1 < cLine := by have := g.units; omega
  intro value slice pins sh σ H x y v u Q I rx ry h hs
  obtain ⟨s, m, G, dx, dy, d, w, r1, r2, ed, q⟩ := h
  have dict : ∀ o, dget dx dy = some o → o = some d → wpAny (model X.prog X.w) X.A (subscriptTail value slice v u) (EP X pins σ Q) X.xe sh := fun o eo e => by
    subst e
    obtain ⟨a, rfl, hg⟩ := dget_of w r1 r2 eo
    rcases hg with ⟨z, _⟩ | ⟨z, u', e1, h1, h2⟩
    · cases z
    · cases e1
      exact ix_dict hu value slice pins sh σ H _ y v u Q I rx ry ⟨a, u', rfl, h1, q u' h2⟩ hs
  have dj : ixD dx dy = (dget dx dy).join → wpAny (model X.prog X.w) X.A (subscriptTail value slice v u) (EP X pins σ Q) X.xe sh := fun e => by
    rw [ed] at e
    cases eo : dget dx dy with
    | none => rw [eo] at e; cases e
    | some o =>
      rw [eo] at e
      exact dict o eo (by simpa using e.symm)
  cases dx with
  | lst ds =>
    cases dy with
    | int i =>
      simp only [ixD] at ed
      obtain ⟨p, vs, rfl, hp, rp⟩ := r1.lst w
      have e2 := r2.int; subst e2
      obtain ⟨z, h1, h2⟩ := atI_rep rp ed
      exact ix_seq value slice pins sh σ H _ _ v u Q I rx ry (.inl ⟨p, vs, _, z, rfl, rfl, .of hp, h1, q z h2⟩) hs
    | _ => exact dj rfl
  | tup ds =>
    cases dy with
    | int i =>
      simp only [ixD] at ed
      obtain ⟨p, vs, rfl, hp, rp⟩ := r1.tup w
      have e2 := r2.int; subst e2
      obtain ⟨z, h1, h2⟩ := atI_rep rp ed
      exact ix_seq value slice pins sh σ H _ _ v u Q I rx ry (.inr (.inl ⟨p, vs, _, z, rfl, rfl, .of hp, h1, q z h2⟩)) hs
    | _ => exact dj rfl
  | str z =>
    cases dy with
    | int i =>
      simp only [ixD] at ed
      split at ed
      · rename_i hl
        have e1 := r1.str; subst e1
        have e2 := r2.int; subst e2
        cases ec : atI z.cps.toList i with
        | none => rw [ec] at ed; cases ed
        | some ch =>
          rw [ec] at ed; cases ed
          exact ix_seq value slice pins sh σ H _ _ v u Q I rx ry (.inr (.inr ⟨z, _, ch, rfl, rfl, by rw [← lim_eq]; exact hl, ec, q _ (.str _)⟩)) hs
      · cases ed
    | _ => exact dj rfl
  | _ => exact dj rfl
theorem s_ix (g : Gd L X Wx) {a b : Expr} {a' b' : E} (ha : PE X a (tB L c Wx W a')) (hb : PE X b (tB L c Wx W b')) (hs : noSlice b = true) : PE X (.Subscript a b pos) (tE L c Wx W (.ix a' b')) := by
  refine PE.imp (pe_ix (ix_all g) ha hb (noSlice_is hs)) fun σ H Q ⟨ρ, s, m, G, w, q, A⟩ => ?_
  unfold ev at A
  refine goB w q (Aft.bind w A) fun x s1 m1 G1 H1 v t1 w1 q1 r1 A1 => ?_
  refine goB w1 q1 (Aft.bind w1 A1) fun y s2 m2 G2 H2 v2 t2 w2 q2 r2 A2 => ?_
  obtain ⟨d, ed, A3⟩ := A2.opt
  exact ⟨s2, m2, G2, x, y, d, w2, r1.step t2, r2, ed, A3 m2 G2 H2 (Stp.refl _ _ _) w2⟩

/-! ### slices -/
theorem s_no : PO X none (tOe L c Wx W .no) := PO.imp po_none fun σ H Q ⟨ρ, s, m, G, w, q, A⟩ => by unfold evo at A; exact A.ok w
theorem s_so {e : Expr} {e' : E} (h : PE X e (tB L c Wx W e')) : PO X (some e) (tOe L c Wx W (.so e')) := by
  refine PO.imp (po_some h) fun σ H Q ⟨ρ, s, m, G, w, q, A⟩ => ?_
  unfold evo at A
  refine goB w q (Aft.bind w A) fun x s1 m1 G1 H1 v t1 w1 q1 r1 A1 => ?_
  split at A1
  · have e1 := r1.int; subst e1
    exact ⟨_, rfl, A1.ok w1⟩
  · exact False.elim A1
theorem goOe {e : Oe} {σ : L2.St} {ρ : Env} {R : Option Int → Hp → Prop} {J : Option Int → Sto → List (Addr × Addr) → Hp → Hp → Prop} (w : Wd L s m G H) (q : Sl L W ρ σ m G H) (A : Aft L Wx σ m G H (evo c e ρ s) J)
    (h : ∀ d s' m' G' H', Stp m G H m' G' H' → Wd L s' m' G' H' → Sl L W ρ σ m' G' H' → J d s' m' G' H' → R d H') : tOe L c Wx W e σ H R :=
  ⟨ρ, s, m, G, w, q, A.imp fun d s' m' G' H' t w' j => h d s' m' G' H' t w' (q.step t) j⟩
theorem cut_whole {vs : List V} {lo hi : Option Int} (h : HT.sIx vs.length 0 lo = 0 ∧ HT.sIx vs.length vs.length hi = vs.length) {ds : List D} (e : vs.length = ds.length) : cutL ds lo hi = ds := by
  unfold cutL
  rw [← e, h.1, h.2]
  simp [e]
theorem cut_reps {vs : List V} {ds : List D} {lo hi : Option Int} (r : Reps L m G vs ds) : Reps L m G (cutV vs lo hi) (cutL ds lo hi) := by
  unfold cutV cutL
  rw [r.length]
  exact (r.drop _).take _
theorem s_sl (g : Gd L X Wx) {a : Expr} {lo hi : Option Expr} {a' : E} {lo' hi' : Oe} {p2 : Pos} (ha : PE X a (tE L c Wx W a')) (hl : PO X lo (tOe L c Wx W lo')) (hh : PO X hi (tOe L c Wx W hi')) :
    PE X (.Subscript a (.Slice lo hi none p2) pos) (tE L c Wx W (.sl a' lo' hi')) := by
  refine PE.imp (pe_slice (SlR.or sl_list sl_tupA) ha hl hh) fun σ H Q ⟨ρ, s, m, G, w, q, A⟩ => ?_
  unfold ev at A
  refine goE w q (Aft.bind w A) fun x s1 m1 G1 H1 v t1 w1 q1 r1 A1 => ?_
  refine goOe w1 q1 (Aft.bind w1 A1) fun l s2 m2 G2 H2 t2 w2 q2 A2 => ?_
  refine goOe w2 q2 (Aft.bind w2 A2) fun h s3 m3 G3 H3 t3 w3 q3 A3 => ?_
  obtain ⟨d, ed, A4⟩ := A3.opt
  have r1' : Rep L m3 G3 v x := (r1.mono t2.pre t2.keep).mono t3.pre t3.keep
  have rb : RB L m3 G3 H3 v x := .rep r1'
  unfold slD at ed
  split at ed
  · cases ed
    obtain ⟨p, vs, rfl, hp, rp⟩ := rb.lst w3
    refine .inl ⟨p, vs, rfl, .of hp, fun p' np => ?_⟩
    exact put_new (K := fun _ _ _ => True) w3 np (.lst (cut_reps rp)) A4
  · cases ed
    obtain ⟨p, vs, rfl, hp, rp⟩ := rb.tup w3
    refine .inr ⟨p, vs, rfl, .of hp, fun hw => ?_, fun _ p' np => ?_⟩
    · rw [cut_whole hw rp.length] at A4
      exact A4 m3 G3 H3 (Stp.refl _ _ _) w3 _ r1'
    · exact put_new (K := fun _ _ _ => True) w3 np (.tup (cut_reps rp)) A4
  · cases ed
end
end MP

end
section
set_option Elab.async false
set_option linter.all false
set_option maxRecDepth 100000
set_option maxHeartbeats 1000000
/-! The least of data that are alike: ints and tuples. -/
namespace MP
open PySem PySem.Spec PyProof.Rows L2 PySem.W

theorem alkL_of {n : Nat} (ih : ∀ x y, alkD n x y = true → alike (toP n x) (toP n y) = true) : ∀ as bs : List D, alkL (alkD n) as bs = true → alikeAll (as.map (toP n)) (bs.map (toP n)) = true
  | [], _, _ => by simp [alikeAll]
  | _ :: _, [], _ => by simp [alikeAll]
  | a :: as, b :: bs, h => by
    unfold alkL at h
    rw [Bool.and_eq_true] at h
    rw [List.map_cons, List.map_cons, alikeAll, Bool.and_eq_true]
    exact ⟨ih a b h.1, alkL_of ih as bs h.2⟩
theorem alike_of : ∀ (n : Nat) (x y : D), alkD n x y = true → alike (toP n x) (toP n y) = true
  | 0, x, y, h => by
    cases x <;> cases y <;> first | (simp [alkD] at h; done) | (simp [toP, alike]; done)
  | n + 1, x, y, h => by
    cases x <;> cases y <;> try first | (simp [alkD] at h; done) | (simp [toP, alike]; done)
    rename_i as bs
    unfold alkD at h
    unfold toP alike
    exact alkL_of (alike_of n) as bs h
theorem ltL_of {n : Nat} (ih : ∀ x y, alkD n x y = true → isP n x = true → isP n y = true → dataLt (toP n x) (toP n y) = ltF n x y) : ∀ as bs : List D, alkL (alkD n) as bs = true → as.all (isP n) = true → bs.all (isP n) = true → PyProof.Rows.lexLt itemOrd (keyToksAll (as.map (toP n))) (keyToksAll (bs.map (toP n))) = ltL (ltF n) (eqF n) as bs
  | [], [], _, _, _ => by
    simp [keyToksAll, ltL]
    exact lex_irrefl (O := itemOrd) _
  | [], b :: bs, _, _, _ => by
    simp only [List.map_nil, List.map_cons, keyToksAll, ltL]
    rw [lex_atom (by simp)]
    rfl
  | a :: as, [], _, _, _ => by
    simp only [List.map_nil, List.map_cons, keyToksAll, ltL]
    rw [lex_atom (by simp)]
    rfl
  | a :: as, b :: bs, h, h1, h2 => by
    unfold alkL at h
    rw [Bool.and_eq_true] at h
    rw [List.all_cons, Bool.and_eq_true] at h1 h2
    rw [List.map_cons, List.map_cons, dataLt_cons (alike_of n a b h.1), ltL_of ih as bs h.2 h1.2 h2.2, ih a b h.1 h1.1 h2.1, eqv_of n a b h1.1 h2.1]
    rfl
theorem lt_of : ∀ (n : Nat) (x y : D), alkD n x y = true → isP n x = true → isP n y = true → dataLt (toP n x) (toP n y) = ltF n x y
  | 0, x, y, h, _, _ => by
    cases x <;> cases y <;> first | (simp [alkD] at h; done) | skip
    simp only [toP, ltF]
    exact dataLt_int _ _
  | n + 1, x, y, h, h1, h2 => by
    cases x <;> cases y <;> try first | (simp [alkD] at h; done) | (simp only [toP, ltF]; exact dataLt_int _ _)
    rename_i as bs
    unfold alkD at h
    unfold toP ltF
    rw [dataLt_tuple]
    exact ltL_of (lt_of n) as bs h (by simpa [isP] using h1) (by simpa [isP] using h2)
theorem depthAll_of {n : Nat} (ih : ∀ d : D, (toP n d).depth ≤ n + 1) : ∀ ds : List D, PyData.depthAll (ds.map (toP n)) ≤ n + 1
  | [] => by simp [PyData.depthAll]
  | d :: ds => by
    rw [List.map_cons, PyData.depthAll]
    exact Nat.max_le.mpr ⟨ih d, depthAll_of ih ds⟩
theorem depth_of : ∀ (n : Nat) (d : D), (toP n d).depth ≤ n + 1
  | 0, d => by cases d <;> simp [toP, PyData.depth]
  | n + 1, d => by
    cases d <;> simp only [toP, PyData.depth] <;> try omega
    all_goals
      have := depthAll_of (depth_of n) (by assumption)
      omega
theorem toP_injL {n : Nat} (ih : ∀ x y, alkD n x y = true → toP n x = toP n y → x = y) : ∀ as bs : List D, alkL (alkD n) as bs = true → as.map (toP n) = bs.map (toP n) → as = bs
  | [], [], _, _ => rfl
  | [], _ :: _, _, e => by simp at e
  | _ :: _, [], _, e => by simp at e
  | a :: as, b :: bs, h, e => by
    unfold alkL at h
    rw [Bool.and_eq_true] at h
    simp only [List.map_cons, List.cons.injEq] at e
    rw [ih a b h.1 e.1, toP_injL ih as bs h.2 e.2]
theorem toP_inj : ∀ (n : Nat) (x y : D), alkD n x y = true → toP n x = toP n y → x = y
  | 0, x, y, h, e => by
    cases x <;> cases y <;> first | (simp [alkD] at h; done) | skip
    simp only [toP, PyData.int.injEq] at e
    rw [e]
  | n + 1, x, y, h, e => by
    cases x <;> cases y <;> try first | (simp [alkD] at h; done) | (simp only [toP, PyData.int.injEq] at e; rw [e]; done)
    rename_i as bs
    unfold alkD at h
    simp only [toP, PyData.tuple.injEq] at e
    rw [toP_injL (toP_inj n) as bs h e]
theorem okMin_at {ds : List D} (h : okMin ds = true) : (∀ x ∈ ds, isP 7 x = true) ∧ ∀ x ∈ ds, ∀ y ∈ ds, alkD 7 x y = true := by
  unfold okMin at h
  rw [List.all_eq_true] at h
  refine ⟨fun x hx => ?_, fun x hx y hy => ?_⟩
  · have := h x hx
    rw [Bool.and_eq_true] at this
    exact this.1
  · have := h x hx
    rw [Bool.and_eq_true, List.all_eq_true] at this
    exact this.2 y hy
theorem minF_mem : ∀ (xs : List D) (x : D), xs.foldl (fun m y => if ltF 7 y m then y else m) x ∈ x :: xs
  | [], x => List.mem_singleton.mpr rfl
  | z :: xs, x => by
    rw [List.foldl_cons]
    rcases List.mem_cons.mp (minF_mem xs (if ltF 7 z x then z else x)) with e | e
    · rw [e]; split <;> simp
    · exact List.mem_cons_of_mem _ (List.mem_cons_of_mem _ e)
theorem minD_of {ds : List D} : ∀ (xs : List D) (x : D), (∀ y ∈ x :: xs, y ∈ ds) → okMin ds = true → minD (toP 7 x) (xs.map (toP 7)) = toP 7 (xs.foldl (fun m y => if ltF 7 y m then y else m) x)
  | [], x, _, _ => rfl
  | z :: xs, x, hm, hk => by
    obtain ⟨k1, k2⟩ := okMin_at hk
    have hx := hm x (List.mem_cons_self ..)
    have hz := hm z (by simp)
    unfold minD
    rw [List.map_cons, List.foldl_cons, List.foldl_cons, lt_of 7 z x (k2 z hz x hx) (k1 z hz) (k1 x hx)]
    have := minD_of (ds := ds) xs (if ltF 7 z x then z else x) (fun y hy => by
      rcases List.mem_cons.mp hy with e | e
      · rw [e]; split
        · exact hz
        · exact hx
      · exact hm y (by simp [e])) hk
    unfold minD at this
    rw [← this]
    congr 1
    split <;> rfl
theorem not_none {d : D} (h : alkD 7 d d = true) : toP 7 d ≠ .none := by
  cases d <;> simp [alkD] at h <;> simp [toP]
theorem alikeAll_of {ds : List D} (hk : okMin ds = true) : AlikeAll (ds.map (toP 7)) := by
  obtain ⟨k1, k2⟩ := okMin_at hk
  refine ⟨fun x hx y hy => ?_, fun x hx => ?_⟩
  · obtain ⟨a, ha, rfl⟩ := List.mem_map.mp hx
    obtain ⟨b, hb, rfl⟩ := List.mem_map.mp hy
    exact alike_of 7 a b (k2 a ha b hb)
  · obtain ⟨a, ha, rfl⟩ := List.mem_map.mp hx
    exact not_none (k2 a ha a ha)
theorem paired_at : ∀ {vs : List V} {us : List Value} {i : Nat} {x : V} {u : Value}, Vals vs us → vs[i]? = some x → us[i]? = some u → RelV x u
  | _, _, _, _, _, .nil, h, _ => by simp at h
  | _, _, 0, _, _, .cons r _, h, k => by
    simp at h k
    subst h k
    exact r
  | _, _, i + 1, _, _, .cons _ t, h, k => paired_at (i := i) t (by simpa using h) (by simpa using k)
section
variable {L : Lay} {Wx : WX} {X : Cx} {s : Sto} {m : List (Addr × Addr)} {G H : Hp}
/-- what min gives: one of the items, the least -/
theorem min_item (w : Wd L s m G H) (hK : X.K = L.K) {pins : List (Addr × Obj)} {σ : L2.St} {sh : Shared} (I : Inv X pins σ H sh) {vs : List V} {its : List Value} (rv : Vals vs its) {d0 : D} {dr : List D} (hr : Reps L m G vs (d0 :: dr)) (hk : okMin (d0 :: dr) = true)
    {i : Nat} {v : Value} {h' : Heap} {bs : List Addr} (hv : its[i]? = some v) (hrd : Reads h' v (minD (toP 7 d0) (dr.map (toP 7))) bs) (hkp : ∀ b o, sh.heap.get? b = some o → h'.get? b = some o) :
    ∃ x, RelV x v ∧ Rep L m G x (dr.foldl (fun m y => if ltF 7 y m then y else m) d0) := by
  obtain ⟨k1, k2⟩ := okMin_at hk
  have hi : i < its.length := (List.getElem?_eq_some_iff.mp hv).1
  have hl := rv.length
  have hx : vs[i]? = some (vs[i]'(by omega)) := List.getElem?_eq_getElem (by omega)
  obtain ⟨d, hd, rd⟩ := hr.getV hx
  have hrel : RelV (vs[i]'(by omega)) v := paired_at rv hx hv
  refine ⟨_, hrel, ?_⟩
  have hdm : d ∈ d0 :: dr := List.mem_of_getElem? hd
  have hdp : Dp X.K H (vs[i]'(by omega)) (toP 7 d) := by rw [hK]; exact dp_of w 7 (k1 d hdm) rd
  obtain ⟨as, r1⟩ := Dp.reads I _ _ _ hdp hrel
  have e := (Reads.unique (reads_keeps hkp r1) _ _ hrd).1
  rw [minD_of dr d0 (fun y hy => hy) hk] at e
  rw [← toP_inj 7 _ _ (k2 d hdm _ (minF_mem dr d0)) e]
  exact rd
theorem min_units (g : Gd L X Wx) {ds : List D} : X.A.units + 1 + PyData.depthAll (ds.map (toP 7)) < cLine := by
  have h1 := depthAll_of (depth_of 7) ds
  have h2 := g.units
  omega
theorem cr_minL (g : Gd L X Wx) (w : Wd L s m G H) {pins : List (Addr × Obj)} {σ : L2.St} {sh : Shared} (I : Inv X pins σ H sh) {us : List Value} {a : Addr} (r : Vals [V.ref a] us) {vs : List V} {d0 : D} {dr : List D} (ha : H a = some (.lst vs)) (hr : Reps L m G vs (d0 :: dr)) (hk : okMin (d0 :: dr) = true) {Q : VK}
    (q : ∀ v, Rep L m G v (dr.foldl (fun m y => if ltF 7 y m then y else m) d0) → Q v H) : wpAny (model X.prog X.w) X.A (call (.builtin "min") us) (EP X pins σ Q) X.xe sh := by
  have hs : SqL X.K H a vs := .of ha
  obtain ⟨its, rv, hl, _⟩ := I.list hs
  rw [Vals.ref1 r]
  have hdp : DpAll X.K H vs ((d0 :: dr).map (toP 7)) := by
    rw [g.K]
    exact dps_of (dp_of w 7) (List.all_eq_true.mpr (okMin_at hk).1) hr
  obtain ⟨as, ra⟩ := Dp.readsAll I _ _ _ hdp rv
  refine min_list_data (vs := its.toArray) (x := toP 7 d0) (xs := dr.map (toP 7)) (as := as) (I.ok.hd g.calm) hl.isList ra (alikeAll_of hk) (min_units (ds := d0 :: dr) g) fun i v h' tk bs hv hrd hkp => ?_
  obtain ⟨x, h1, h2⟩ := min_item w g.K I rv hr hk (by simpa using hv) hrd hkp
  exact ⟨x, H, I.kept hkp, h1, q x h2⟩
theorem cr_minT (g : Gd L X Wx) (w : Wd L s m G H) {pins : List (Addr × Obj)} {σ : L2.St} {sh : Shared} (I : Inv X pins σ H sh) {us : List Value} {a : Addr} (r : Vals [V.ref a] us) {vs : List V} {d0 : D} {dr : List D} (ha : H a = some (.tup vs)) (hr : Reps L m G vs (d0 :: dr)) (hk : okMin (d0 :: dr) = true) {Q : VK}
    (q : ∀ v, Rep L m G v (dr.foldl (fun m y => if ltF 7 y m then y else m) d0) → Q v H) : wpAny (model X.prog X.w) X.A (call (.builtin "min") us) (EP X pins σ Q) X.xe sh := by
  have hs : SqT X.K H a vs := .of ha
  obtain ⟨its, rv, hl, _⟩ := I.tuple hs
  rw [Vals.ref1 r]
  have hdp : DpAll X.K H vs ((d0 :: dr).map (toP 7)) := by
    rw [g.K]
    exact dps_of (dp_of w 7) (List.all_eq_true.mpr (okMin_at hk).1) hr
  obtain ⟨as, ra⟩ := Dp.readsAll I _ _ _ hdp rv
  refine min_tuple_data (vs := its.toArray) (x := toP 7 d0) (xs := dr.map (toP 7)) (as := as) (I.ok.hd g.calm) hl ra (alikeAll_of hk) (min_units (ds := d0 :: dr) g) fun i v h' tk bs hv hrd hkp => ?_
  obtain ⟨x, h1, h2⟩ := min_item w g.K I rv hr hk (by simpa using hv) hrd hkp
  exact ⟨x, H, I.kept hkp, h1, q x h2⟩
end
end MP

end
section
set_option Elab.async false
set_option linter.all false
set_option maxRecDepth 100000
set_option maxHeartbeats 1000000
/-! isinstance, built-in calls. -/
namespace MP
open PySem PySem.Spec PyProof.Rows L2 PySem.W

theorem starOne {e : Expr} {env : PySem.Env} (h : noStar e = true) : starEach [e] env = (false, eval e env) :: starEach [] env := starEach_cons h
theorem backNil {pos : Pos} {env : PySem.Env} : (backTo pos (starEach [] env)).any (·.1) = false := rfl
theorem backAny : ∀ {pos : Pos} {env : PySem.Env} {es : List Expr}, es.all noStar = true → (backTo pos (starEach es env)).any (·.1) = false
  | _, _, [], _ => rfl
  | pos, env, e :: es, h => by
    rw [List.all_cons, Bool.and_eq_true] at h
    rw [starEach_cons h.1]
    show (false || (backTo pos (starEach es env)).any (·.1)) = false
    rw [Bool.false_or]
    exact backAny h.2
section
variable {L : Lay} {c : Cfg} {Wx : WX} {W : List Nat} {X : Cx} {pos p : Pos} {s : Sto} {m : List (Addr × Addr)} {G H : Hp}
/-! ### isinstance -/
def tyN : D → String
  | .non => "NoneType"
  | .bl _ => "bool"
  | .int _ => "int"
  | .str _ => "str"
  | .lst _ => "list"
  | .tup _ => "tuple"
  | .dK _ => "dict"
  | .dT _ => "dict"
  | _ => "object"
theorem tyx_of {v : V} {d : D} (w : Wd L s m G H) (r : RB L m G H v d) (hn : tyN d ≠ "object") : TyX L.K H v (.type (tyN d)) := by
  cases d with
  | non => have e := r.non; subst e; exact .base .non
  | bl b => have e := r.bl; subst e; exact .base (.bl b)
  | int b => have e := r.int; subst e; exact .base (.int b)
  | str b => have e := r.str; subst e; exact .base (.str b)
  | lst ds => obtain ⟨a, vs, rfl, ha, _⟩ := r.lst w; exact .base (.lst ha)
  | tup ds => obtain ⟨a, vs, rfl, ha, _⟩ := r.tup w; exact .base (.tup ha)
  | dK ds => obtain ⟨a, vs, rfl, ha, _⟩ := r.dK w; exact .base (.dK ha)
  | dT ds => obtain ⟨a, vs, rfl, ha, _⟩ := r.dT w; exact .base (.dT ha)
  | _ => exact absurd rfl hn
def tyName : Ty → String
  | .int => "int"
  | .bool => "bool"
  | .tuple => "tuple"
  | .list => "list"
  | .str => "str"
  | .cls _ => "object"
/-- the class that is asked, as a value -/
def clsV (L : Lay) : Ty → V
  | .cls k => .ref (L.cls k)
  | t => .ty (tyName t)
theorem isi_of (g : Gd L X Wx) {v : V} {d : D} {t : Ty} {b : Bool} (w : Wd L s m G H) (r : RB L m G H v d) (hk : ∀ k, t = .cls k → L.has k = true) (e : isaD d t = some b) {Q : VK} (q : Q (.bl b) H) : rIsi X.K [v, clsV L t] H Q := by
  rw [g.K]
  cases t with
  | cls k =>
    have hk' := hk k rfl
    have F := g.cls k hk'
    cases d with
    | ins k' ds =>
      obtain ⟨a, dx, vs, rfl, ha, _, _, hh⟩ := r.ins w
      have F' := g.cls k' hh
      simp [isaD] at e
      refine ⟨_, _, .ref (L.cls k'), .ref (L.cls k), b, rfl, .own _, .base (.ins ha F'.cl F'.ha F'.hn F'.htk F'.hm), ?_, q⟩
      rw [g.kk k' k hh hk', ← e]
    | hnd _ => cases e
    | scr _ => cases e
    | fn _ => cases e
    | _ =>
      simp [isaD] at e
      subst e
      exact ⟨_, _, _, .ref (L.cls k), false, rfl, .own _, tyx_of w r (by simp [tyN]), F.kT _ (by simp [tyN]), q⟩
  | _ =>
    cases d with
    | ins k' ds =>
      obtain ⟨a, dx, vs, rfl, ha, _, _, hh⟩ := r.ins w
      have F' := g.cls k' hh
      simp [isaD] at e
      subst e
      exact ⟨_, _, .ref (L.cls k'), .type _, false, rfl, .ty _, .base (.ins ha F'.cl F'.ha F'.hn F'.htk F'.hm), F'.kU _ (by simp [tyName]), q⟩
    | hnd _ => cases e
    | scr _ => cases e
    | fn _ => cases e
    | _ =>
      simp [isaD] at e
      subst e
      exact ⟨_, _, _, .type _, _, rfl, .ty _, tyx_of w r (by simp [tyN]), kit_ty (by simp only [tyN, tyName]; decide +kernel), q⟩
theorem blt (g : Gd L X Wx) {x : Str} (h : x ∈ bnames) : X.mg x = none := g.blt x h
theorem s_isa (g : Gd L X Wx) {a tn : Expr} {a' : E} {t : Ty} (hg : Gl X "isinstance") (ha : PE X a (tB L c Wx W a')) (ht : PE X tn (tC (clsV L t))) (hk : ∀ k, t = .cls k → L.has k = true) (ns : noStar a = true) (nt : noStar tn = true) :
    PE X (.Call (.Name "isinstance" p) [a, tn] [] pos) (tE L c Wx W (.isa a' t)) := by
  refine PE.imp (pe_callB call_isi hg (blt g (by decide +kernel)) (by decide +kernel) (pa_cons ha (pa_cons ht pa_nil (starOne nt)) (starEach_cons ns)) (by decide +kernel) (by decide +kernel) (starEach_cons ns) (backAny (by simp [nt]))) fun σ H Q ⟨ρ, s, m, G, w, q, A⟩ => ?_
  unfold ev at A
  refine goB w q (Aft.bind w A) fun d s1 m1 G1 H1 v t1 w1 q1 r1 A1 => ?_
  obtain ⟨z, ez, A3⟩ := A1.opt
  cases e : isaD d t with
  | none => rw [e] at ez; cases ez
  | some b =>
    rw [e] at ez; cases ez
    exact isi_of g w1 r1 hk e (A3 m1 G1 H1 (Stp.refl _ _ _) w1 _ (.bl b))

/-! ### built-in functions of one argument -/
theorem sum_tup {prog : Program} {w : World} {A : Around} {E : Value → Shared → Prop} {s : Shared} {l : Addr} {its : List Value} {ns : List Int} {Q : Value → Shared → Prop} (hh : A.handled = none) (hl : IsTup s.heap l its.toArray) (hi : IntsAre its ns)
    (h : ∀ h' tk t', (∀ b o, s.heap.get? b = some o → h'.get? b = some o) → Q (.int ns.sum t') { s with heap := h', toks := tk }) : wpAny (model prog w) A (call (.builtin "sum") [.ref l]) Q E s := by
  obtain ⟨xs, e⟩ := hi.allInts.items
  have hn : numsOf (intItems xs).toList = ns := by rw [← e]; exact hi.numsOf
  rw [nums_intItems] at hn
  rw [e] at hl
  have hlt : l < s.heap.objs.size := hl.lt
  have ht : s.heap.IsTuple l (intItems xs) := hl
  refine call_sum_walkG (wpAny_pyIter_tuple ht ?_)
  refine ⟨_, [s.heap.objs.size, l], [s.heap.objs.size], _, _, _, numAt xs, rfl, Walks.tuple (A := A.in1) hh _ l (Nat.ne_of_lt hlt) (intItems xs), ⟨⟨_, Heap.get?_push_size _ rfl, rfl, rfl⟩, ht.push _⟩, fun b hb => ?_, (fun _ _ => intItems_at), fun h' tk t' hk => ?_⟩
  · rw [Heap.size_push]
    rcases List.mem_cons.mp hb with e1 | hb
    · rw [e1]; exact Nat.lt_succ_self _
    · rcases List.mem_cons.mp hb with e1 | hb
      · rw [e1]; exact Nat.lt_succ_of_lt hlt
      · cases hb
  · have q := h h' tk t' fun b o eb => hk b o (fun hm => by
      rcases List.mem_cons.mp hm with e1 | hm
      · exact absurd (e1 ▸ Heap.lt_size eb) (Nat.lt_irrefl _)
      · cases hm) (Heap.get?_push_of_some _ eb)
    have sz : (intItems xs).size = xs.size := by simp [intItems]
    rw [sz, preSum_eq, List.take_of_length_le (by simp), hn]; exact q
def rSumT (K : PySem.W.Frag) : List V → Hp → VK → Prop := fun vs H Q => ∃ (a : Addr) (ns : List Int), vs = [V.ref a] ∧ SqT K H a (ns.map V.int) ∧ Q (.int ns.sum) H
theorem cr_sumT (hc : X.calm = true) : CallR X (.builtin "sum") (rSumT X.K) := by
  intro pins s σ H xs us Q I r h
  obtain ⟨a, ns, rfl, hs, q⟩ := h
  obtain ⟨its, rv, hp, _⟩ := I.tuple hs
  obtain rfl := Vals.ref1 r
  exact sum_tup (I.ok.hd hc) hp rv.ints fun h' tk t' hk => ⟨.int _, H, I.kept (t' := tk) hk, ⟨_, rfl⟩, q⟩
def rB1 (L : Lay) (b : B1) : List V → Hp → VK → Prop := fun xs H Q => ∃ x s m G dx d, xs = [x] ∧ Wd L s m G H ∧ RB L m G H x dx ∧ b1D b dx = some d ∧ ∀ m' G' H', Stp m G H m' G' H' → Wd L s m' G' H' → ∀ v, Rep L m' G' v d → Q v H'
theorem foldMax : ∀ (xs : List Int) (x : Int), (xs.foldl (fun m y => if m < y then y else m) x ∈ x :: xs) ∧ ∀ y ∈ x :: xs, y ≤ xs.foldl (fun m y => if m < y then y else m) x
  | [], x => ⟨List.mem_singleton.mpr rfl, fun y h => by rw [List.mem_singleton.mp h]; exact Int.le_refl _⟩
  | z :: xs, x => by
    rw [List.foldl_cons]
    obtain ⟨h1, h2⟩ := foldMax xs (if x < z then z else x)
    refine ⟨?_, fun y hy => ?_⟩
    · rcases List.mem_cons.mp h1 with e | e
      · rw [e]; split <;> simp
      · exact List.mem_cons_of_mem _ (List.mem_cons_of_mem _ e)
    · have hx := h2 _ List.mem_cons_self
      rcases List.mem_cons.mp hy with rfl | hy
      · refine Int.le_trans ?_ hx; split <;> omega
      · rcases List.mem_cons.mp hy with rfl | hy
        · refine Int.le_trans ?_ hx; split <;> omega
        · exact h2 y (List.mem_cons_of_mem _ hy)
theorem foldMin : ∀ (xs : List Int) (x : Int), (xs.foldl (fun m y => if y < m then y else m) x ∈ x :: xs) ∧ ∀ y ∈ x :: xs, xs.foldl (fun m y => if y < m then y else m) x ≤ y
  | [], x => ⟨List.mem_singleton.mpr rfl, fun y h => by rw [List.mem_singleton.mp h]; exact Int.le_refl _⟩
  | z :: xs, x => by
    rw [List.foldl_cons]
    obtain ⟨h1, h2⟩ := foldMin xs (if z < x then z else x)
    refine ⟨?_, fun y hy => ?_⟩
    · rcases List.mem_cons.mp h1 with e | e
      · rw [e]; split <;> simp
      · exact List.mem_cons_of_mem _ (List.mem_cons_of_mem _ e)
    · have hx := h2 _ List.mem_cons_self
      rcases List.mem_cons.mp hy with rfl | hy
      · refine Int.le_trans hx ?_; split <;> omega
      · rcases List.mem_cons.mp hy with rfl | hy
        · refine Int.le_trans hx ?_; split <;> omega
        · exact h2 y (List.mem_cons_of_mem _ hy)
theorem maxI_spec {ns : List Int} {k : Int} (e : maxI ns = some k) : 0 < ns.length ∧ k ∈ ns ∧ ∀ y ∈ ns, y ≤ k := by
  cases ns with
  | nil => cases e
  | cons x xs =>
    have e' := Option.some.inj e
    subst e'
    exact ⟨by simp, foldMax xs x⟩
theorem minI_spec {ns : List Int} {k : Int} (e : minI ns = some k) : 0 < ns.length ∧ k ∈ ns ∧ ∀ y ∈ ns, k ≤ y := by
  cases ns with
  | nil => cases e
  | cons x xs =>
    have e' := Option.some.inj e
    subst e'
    exact ⟨by simp, foldMin xs x⟩
theorem cr_len (g : Gd L X Wx) : CallR X (.builtin "len") (rB1 L .len) := by
  intro pins sh σ H xs us Q I r h
  obtain ⟨x, s, m, G, dx, d, rfl, w, rx, e, q⟩ := h
  have now := q m G H (Stp.refl _ _ _) w
  simp only [b1D] at e
  cases el : lenD dx with
  | none => rw [el] at e; cases e
  | some n =>
    rw [el] at e; cases e
    have now' := now _ (.int n)
    unfold lenD at el
    split at el
    · cases el
      obtain ⟨a, vs, rfl, ha, ra⟩ := rx.lst w
      exact call_len_seq pins sh σ H _ us Q I r ⟨a, vs, rfl, .inl (.of ha), by rw [ra.length]; exact now'⟩
    · cases el
      obtain ⟨a, vs, rfl, ha, ra⟩ := rx.tup w
      exact call_len_seq pins sh σ H _ us Q I r ⟨a, vs, rfl, .inr (.of ha), by rw [ra.length]; exact now'⟩
    · split at el
      · rename_i hl
        cases el
        have e1 := rx.str; subst e1
        exact call_len_str pins sh σ H _ us Q I r ⟨_, rfl, by rw [← lim_eq]; exact hl, now'⟩
      · cases el
    · cases el
      obtain ⟨a, kvs, rfl, ha, hk, ra⟩ := rx.dK w
      have := congrArg List.length hk
      rw [List.length_map, List.length_map] at this
      exact call_lenD pins sh σ H _ us Q I r ⟨a, kvs, rfl, ha, by rw [this]; exact now'⟩
    · cases el
      obtain ⟨a, kvs, rfl, ha, hk, ra⟩ := rx.dT w
      have := congrArg List.length hk
      rw [List.length_map, List.length_map] at this
      exact call_len_dT pins sh σ H _ us Q I r ⟨a, kvs, rfl, ha, by rw [this]; exact now'⟩
    · cases el
theorem cr_sumD (g : Gd L X Wx) : CallR X (.builtin "sum") (rB1 L .sum) := by
  intro pins sh σ H xs us Q I r h
  obtain ⟨x, s, m, G, dx, d, rfl, w, rx, e, q⟩ := h
  have now := q m G H (Stp.refl _ _ _) w
  cases dx with
  | lst ds =>
    simp only [b1D] at e
    cases ei : intsOf ds with
    | none => rw [ei] at e; cases e
    | some is =>
      rw [ei] at e; cases e
      obtain ⟨a, vs, rfl, ha, ra⟩ := rx.lst w
      have ev := ra.ints ei; subst ev
      exact cr_sum g.calm pins sh σ H _ us Q I r ⟨a, is, rfl, .of ha, now _ (.int _)⟩
  | tup ds =>
    simp only [b1D] at e
    cases ei : intsOf ds with
    | none => rw [ei] at e; cases e
    | some is =>
      rw [ei] at e; cases e
      obtain ⟨a, vs, rfl, ha, ra⟩ := rx.tup w
      have ev := ra.ints ei; subst ev
      exact cr_sumT g.calm pins sh σ H _ us Q I r ⟨a, is, rfl, .of ha, now _ (.int _)⟩
  | _ => simp [b1D] at e
/-! the greatest, the least of a tuple of ints -/
theorem ints_get {ns : List Int} {i : Nat} {x : V} (h : (ns.map V.int)[i]? = some x) : ∃ n, n ∈ ns ∧ x = .int n := by
  rw [List.getElem?_map] at h
  cases e : ns[i]? with
  | none => rw [e] at h; cases h
  | some n => rw [e] at h; cases h; exact ⟨n, List.mem_of_getElem? e, rfl⟩
theorem dps_ints {K : PySem.W.Frag} : ∀ (ns : List Int), DpAll K H (ns.map V.int) (ns.map PyData.int)
  | [] => .nil
  | n :: ns => .cons (.int n) (dps_ints ns)
theorem alike_ints {ns : List Int} : AlikeAll (ns.map PyData.int) := ⟨fun x hx y hy => by
  obtain ⟨a, _, rfl⟩ := List.mem_map.mp hx
  obtain ⟨b, _, rfl⟩ := List.mem_map.mp hy
  simp [alike], fun x hx => by
  obtain ⟨a, _, rfl⟩ := List.mem_map.mp hx
  simp⟩
theorem depth_ints : ∀ (ns : List Int), PyData.depthAll (ns.map PyData.int) = 0
  | [] => by simp [PyData.depthAll]
  | n :: ns => by simp [PyData.depthAll, PyData.depth, depth_ints ns]
theorem maxD_maxI (n : Int) : ∀ ns : List Int, maxD (.int n) (ns.map .int) = .int (ns.foldl (fun m y => if m < y then y else m) n)
  | [] => rfl
  | k :: ns => by
    unfold maxD
    rw [List.map_cons, List.foldl_cons, List.foldl_cons, dataLt_int]
    by_cases h : n < k
    · have := maxD_maxI k ns
      unfold maxD at this
      simp [h, this]
    · have := maxD_maxI n ns
      unfold maxD at this
      simp [h, this]
theorem minD_minI (n : Int) : ∀ ns : List Int, minD (.int n) (ns.map .int) = .int (ns.foldl (fun m y => if y < m then y else m) n)
  | [] => rfl
  | k :: ns => by
    unfold minD
    rw [List.map_cons, List.foldl_cons, List.foldl_cons, dataLt_int]
    by_cases h : k < n
    · have := minD_minI k ns
      unfold minD at this
      simp [h, this]
    · have := minD_minI n ns
      unfold minD at this
      simp [h, this]
theorem cr_maxTi (hc : X.calm = true) (hu : X.A.units + 64 < cLine) : CallR X (.builtin "max") (fun vs H Q => ∃ (a : Addr) (ns : List Int), vs = [V.ref a] ∧ SqT X.K H a (ns.map V.int) ∧ ∃ k, maxI ns = some k ∧ Q (.int k) H) := by
  intro pins sh σ H vs us Q I r h
  obtain ⟨a, ns, rfl, hs, k, em, q⟩ := h
  cases ns with
  | nil => cases em
  | cons n ns =>
    cases em
    obtain ⟨its, rv, hl, _⟩ := I.tuple hs
    rw [Vals.ref1 r]
    obtain ⟨as, ra⟩ := Dp.readsAll I _ _ _ (dps_ints (n :: ns)) rv
    refine max_tuple_data (vs := its.toArray) (x := .int n) (xs := ns.map .int) (as := as) (I.ok.hd hc) hl ra (alike_ints (ns := n :: ns)) (by have := depth_ints (n :: ns); rw [List.map_cons] at this; omega) fun i v h' tk bs hv hrd hkp => ?_
    rw [maxD_maxI] at hrd
    cases hrd with
    | int _ t => exact ⟨.int _, H, I.kept hkp, ⟨_, rfl⟩, q⟩
theorem cr_minTi (hc : X.calm = true) (hu : X.A.units + 64 < cLine) : CallR X (.builtin "min") (fun vs H Q => ∃ (a : Addr) (ns : List Int), vs = [V.ref a] ∧ SqT X.K H a (ns.map V.int) ∧ ∃ k, minI ns = some k ∧ Q (.int k) H) := by
  intro pins sh σ H vs us Q I r h
  obtain ⟨a, ns, rfl, hs, k, em, q⟩ := h
  cases ns with
  | nil => cases em
  | cons n ns =>
    cases em
    obtain ⟨its, rv, hl, _⟩ := I.tuple hs
    rw [Vals.ref1 r]
    obtain ⟨as, ra⟩ := Dp.readsAll I _ _ _ (dps_ints (n :: ns)) rv
    refine min_tuple_data (vs := its.toArray) (x := .int n) (xs := ns.map .int) (as := as) (I.ok.hd hc) hl ra (alike_ints (ns := n :: ns)) (by have := depth_ints (n :: ns); rw [List.map_cons] at this; omega) fun i v h' tk bs hv hrd hkp => ?_
    rw [minD_minI] at hrd
    cases hrd with
    | int _ t => exact ⟨.int _, H, I.kept hkp, ⟨_, rfl⟩, q⟩
theorem cr_maxD (g : Gd L X Wx) : CallR X (.builtin "max") (rB1 L .max) := by
  intro pins sh σ H xs us Q I r h
  obtain ⟨x, s, m, G, dx, d, rfl, w, rx, e, q⟩ := h
  have now := q m G H (Stp.refl _ _ _) w
  cases dx with
  | lst ds =>
    simp only [b1D] at e
    cases ei : intsOf ds with
    | none => rw [ei] at e; cases e
    | some is =>
      rw [ei] at e
      cases em : maxI is with
      | none => simp [em] at e
      | some k =>
        simp [em] at e; subst e
        obtain ⟨a, vs, rfl, ha, ra⟩ := rx.lst w
        have ev := ra.ints ei; subst ev
        obtain ⟨h1, h2, h3⟩ := maxI_spec em
        refine cr_max g.calm pins sh σ H _ us Q I r ⟨a, is, rfl, .of ha, h1, fun k' hk hl => ?_⟩
        have : k' = k := Int.le_antisymm (h3 k' hk) (hl k h2)
        rw [this]; exact now _ (.int _)
  | tup ds =>
    simp only [b1D] at e
    cases ei : intsOf ds with
    | none => rw [ei] at e; cases e
    | some is =>
      rw [ei] at e
      cases em : maxI is with
      | none => simp [em] at e
      | some k =>
        simp [em] at e; subst e
        obtain ⟨a, vs, rfl, ha, ra⟩ := rx.tup w
        have ev := ra.ints ei; subst ev
        exact cr_maxTi g.calm (by have := g.units; omega) pins sh σ H _ us Q I r ⟨a, is, rfl, .of ha, k, em, now _ (.int _)⟩
  | _ => simp [b1D] at e
theorem cr_minD (g : Gd L X Wx) : CallR X (.builtin "min") (rB1 L .min) := by
  intro pins sh σ H xs us Q I r h
  obtain ⟨x, s, m, G, dx, d, rfl, w, rx, e, q⟩ := h
  have now := q m G H (Stp.refl _ _ _) w
  cases dx with
  | lst ds =>
    simp only [b1D] at e
    cases ei : intsOf ds with
    | none =>
      rw [ei] at e
      simp only at e
      split at e
      · rename_i hk
        cases ds with
        | nil => cases e
        | cons d0 dr =>
          cases e
          obtain ⟨a, vs, rfl, ha, ra⟩ := rx.lst w
          exact cr_minL g w I r ha ra hk now
      · cases e
    | some is =>
      rw [ei] at e
      cases em : minI is with
      | none => simp [em] at e
      | some k =>
        simp [em] at e; subst e
        obtain ⟨a, vs, rfl, ha, ra⟩ := rx.lst w
        have ev := ra.ints ei; subst ev
        obtain ⟨h1, h2, h3⟩ := minI_spec em
        refine cr_min g.calm pins sh σ H _ us Q I r ⟨a, is, rfl, .of ha, h1, fun k' hk hl => ?_⟩
        have : k' = k := Int.le_antisymm (hl k h2) (h3 k' hk)
        rw [this]; exact now _ (.int _)
  | tup ds =>
    simp only [b1D] at e
    cases ei : intsOf ds with
    | none => rw [ei] at e; cases e
    | some is =>
      rw [ei] at e
      cases em : minI is with
      | none => simp [em] at e
      | some k =>
        simp [em] at e; subst e
        obtain ⟨a, vs, rfl, ha, ra⟩ := rx.tup w
        have ev := ra.ints ei; subst ev
        exact cr_minTi g.calm (by have := g.units; omega) pins sh σ H _ us Q I r ⟨a, is, rfl, .of ha, k, em, now _ (.int _)⟩
  | _ => simp [b1D] at e
theorem cr_absD (g : Gd L X Wx) : CallR X (.builtin "abs") (rB1 L .abs) := by
  intro pins sh σ H xs us Q I r h
  obtain ⟨x, s, m, G, dx, d, rfl, w, rx, e, q⟩ := h
  have now := q m G H (Stp.refl _ _ _) w
  cases dx with
  | int i =>
    simp [b1D] at e; subst e
    have e1 := rx.int; subst e1
    exact call_abs pins sh σ H _ us Q I r ⟨i, rfl, now _ (.int _)⟩
  | _ => simp [b1D] at e
theorem cr_intD (g : Gd L X Wx) : CallR X (.type "int") (rB1 L .int) := by
  intro pins sh σ H xs us Q I r h
  obtain ⟨x, s, m, G, dx, d, rfl, w, rx, e, q⟩ := h
  have now := q m G H (Stp.refl _ _ _) w
  cases dx with
  | int i =>
    simp [b1D] at e; subst e
    have e1 := rx.int; subst e1
    exact call_int1 pins sh σ H _ us Q I r (.inl ⟨i, rfl, now _ (.int _)⟩)
  | _ => simp [b1D] at e
theorem cr_strD (g : Gd L X Wx) : CallR X (.type "str") (rB1 L .str) := by
  intro pins sh σ H xs us Q I r h
  obtain ⟨x, s, m, G, dx, d, rfl, w, rx, e, q⟩ := h
  have now := q m G H (Stp.refl _ _ _) w
  cases dx with
  | int i =>
    simp only [b1D] at e
    split at e
    · rename_i hl
      cases e
      have e1 := rx.int; subst e1
      exact call_str_int pins sh σ H _ us Q I r ⟨i, rfl, hl, now _ (.str _)⟩
    · cases e
  | _ => simp [b1D] at e
theorem cr_tupleD (g : Gd L X Wx) : CallR X (.type "tuple") (fun xs H Q => ∃ x s m G dx d, xs = [x] ∧ Wd L s m G H ∧ Rep L m G x dx ∧ b1D .tuple dx = some d ∧ ∀ m' G' H', Stp m G H m' G' H' → Wd L s m' G' H' → ∀ v, Rep L m' G' v d → Q v H') := by
  intro pins sh σ H xs us Q I r h
  obtain ⟨x, s, m, G, dx, d, rfl, w, rx, e, q⟩ := h
  have rb : RB L m G H x dx := .rep rx
  cases dx with
  | lst ds =>
    simp [b1D] at e; subst e
    obtain ⟨a, vs, rfl, ha, ra⟩ := rb.lst w
    exact call_tuple_of pins sh σ H _ us Q I r ⟨a, vs, rfl, .inl ⟨.of ha, fun l nl => put_new (K := fun _ _ _ => True) w nl (.tup ra) q⟩⟩
  | tup ds =>
    simp [b1D] at e; subst e
    obtain ⟨a, vs, rfl, ha, ra⟩ := rb.tup w
    exact call_tuple_of pins sh σ H _ us Q I r ⟨a, vs, rfl, .inr ⟨.of ha, q m G H (Stp.refl _ _ _) w _ rx⟩⟩
  | _ => simp [b1D] at e
/-- list(x), dict(d): a new object -/
def rCopy (L : Lay) (b : B1) : List V → Hp → VK → Prop := fun xs H Q => ∃ x s m G dx d, xs = [x] ∧ Wd L s m G H ∧ RB L m G H x dx ∧ b1D b dx = some d ∧ ∀ p o, H p = none → Cont L m G o d → Q (.ref p) (upd H p o)
theorem kV_reps : ∀ {kvs : List (Key × V)} {kds : List (Key × D)}, kvs.map (·.1) = kds.map (·.1) → Reps L m G (kvs.map fun kv => kV kv.1) (kds.map fun p => match p.1 with
    | .inl i => D.int i
    | .inr x => D.str x)
  | [], [], _ => .nil
  | [], _ :: _, h => by simp at h
  | _ :: _, [], h => by simp at h
  | (a, v) :: kvs, (b, d) :: kds, h => by
    simp only [List.map_cons, List.cons.injEq] at h
    obtain ⟨h1, h2⟩ := h
    subst h1
    simp only [List.map_cons]
    refine .cons ?_ (kV_reps h2)
    cases a with
    | inl i => exact .int i
    | inr x => exact .str x
theorem cr_listD (g : Gd L X Wx) : CallR X (.type "list") (rCopy L .list) := by
  intro pins sh σ H xs us Q I r h
  obtain ⟨x, s, m, G, dx, d, rfl, w, rx, e, q⟩ := h
  cases dx with
  | lst ds =>
    simp [b1D] at e; subst e
    obtain ⟨a, vs, rfl, ha, ra⟩ := rx.lst w
    exact call_list_of pins sh σ H _ us Q I r ⟨a, vs, rfl, .inl (.of ha), fun l nl => q l _ nl (.lst ra)⟩
  | tup ds =>
    simp [b1D] at e; subst e
    obtain ⟨a, vs, rfl, ha, ra⟩ := rx.tup w
    exact call_list_of pins sh σ H _ us Q I r ⟨a, vs, rfl, .inr (.of ha), fun l nl => q l _ nl (.lst ra)⟩
  | dK kds =>
    simp [b1D] at e; subst e
    obtain ⟨a, kvs, rfl, ha, hk, ra⟩ := rx.dK w
    exact call_list_dK g.calm pins sh σ H _ us Q I r ⟨a, kvs, rfl, ha, fun l nl => q l _ nl (.lst (kV_reps hk))⟩
  | _ => simp [b1D] at e
theorem cr_dictD (g : Gd L X Wx) : CallR X (.type "dict") (rCopy L .dict) := by
  intro pins sh σ H xs us Q I r h
  obtain ⟨x, s, m, G, dx, d, rfl, w, rx, e, q⟩ := h
  cases dx with
  | dK kds =>
    simp [b1D] at e; subst e
    obtain ⟨a, kvs, rfl, ha, hk, ra⟩ := rx.dK w
    exact call_dictD pins sh σ H _ us Q I r ⟨a, kvs, rfl, .inl ha, fun l nl => q l _ nl (.dK hk ra)⟩
  | _ => simp [b1D] at e
/-- the reading of such a call -/
theorem b1_go {b : B1} {a' : E} {Q : VK} {σ : L2.St} {ρ : Env} (w : Wd L s m G H) (q : Sl L W ρ σ m G H) (A : Aft L Wx σ m G H (ev c (.b1 b a') ρ s) fun d _ m' G' H' => ∀ v, Rep L m' G' v d → Q v H') :
    tCons (tB L c Wx W a') tNil σ H fun vs H1 => rB1 L b vs H1 Q := by
  unfold ev at A
  refine goB w q (Aft.bind w A) fun d s1 m1 G1 H1 v t1 w1 q1 r1 A1 => ?_
  obtain ⟨z, ez, A3⟩ := A1.opt
  exact ⟨v, s1, m1, G1, d, z, rfl, w1, r1, ez, A3⟩
theorem s_len (g : Gd L X Wx) {a : Expr} {a' : E} (hg : Gl X "len") (ha : PE X a (tB L c Wx W a')) (ns : noStar a = true) : PE X (.Call (.Name "len" p) [a] [] pos) (tE L c Wx W (.b1 .len a')) :=
  PE.imp (pe_callB (cr_len g) hg (blt g (by decide +kernel)) (by decide +kernel) (pa_cons ha pa_nil (starOne ns)) (by decide +kernel) (by decide +kernel) (starOne ns) backNil) fun σ H Q ⟨ρ, s, m, G, w, q, A⟩ => b1_go w q A
theorem s_sum (g : Gd L X Wx) {a : Expr} {a' : E} (hg : Gl X "sum") (ha : PE X a (tB L c Wx W a')) (ns : noStar a = true) : PE X (.Call (.Name "sum" p) [a] [] pos) (tE L c Wx W (.b1 .sum a')) :=
  PE.imp (pe_callB (cr_sumD g) hg (blt g (by decide +kernel)) (by decide +kernel) (pa_cons ha pa_nil (starOne ns)) (by decide +kernel) (by decide +kernel) (starOne ns) backNil) fun σ H Q ⟨ρ, s, m, G, w, q, A⟩ => b1_go w q A
theorem s_max (g : Gd L X Wx) {a : Expr} {a' : E} (hg : Gl X "max") (ha : PE X a (tB L c Wx W a')) (ns : noStar a = true) : PE X (.Call (.Name "max" p) [a] [] pos) (tE L c Wx W (.b1 .max a')) :=
  PE.imp (pe_callB (cr_maxD g) hg (blt g (by decide +kernel)) (by decide +kernel) (pa_cons ha pa_nil (starOne ns)) (by decide +kernel) (by decide +kernel) (starOne ns) backNil) fun σ H Q ⟨ρ, s, m, G, w, q, A⟩ => b1_go w q A
theorem s_min (g : Gd L X Wx) {a : Expr} {a' : E} (hg : Gl X "min") (ha : PE X a (tB L c Wx W a')) (ns : noStar a = true) : PE X (.Call (.Name "min" p) [a] [] pos) (tE L c Wx W (.b1 .min a')) :=
  PE.imp (pe_callB (cr_minD g) hg (blt g (by decide +kernel)) (by decide +kernel) (pa_cons ha pa_nil (starOne ns)) (by decide +kernel) (by decide +kernel) (starOne ns) backNil) fun σ H Q ⟨ρ, s, m, G, w, q, A⟩ => b1_go w q A
theorem s_abs (g : Gd L X Wx) {a : Expr} {a' : E} (hg : Gl X "abs") (ha : PE X a (tB L c Wx W a')) (ns : noStar a = true) : PE X (.Call (.Name "abs" p) [a] [] pos) (tE L c Wx W (.b1 .abs a')) :=
  PE.imp (pe_callB (cr_absD g) hg (blt g (by decide +kernel)) (by decide +kernel) (pa_cons ha pa_nil (starOne ns)) (by decide +kernel) (by decide +kernel) (starOne ns) backNil) fun σ H Q ⟨ρ, s, m, G, w, q, A⟩ => b1_go w q A
theorem s_intc (g : Gd L X Wx) {a : Expr} {a' : E} (hg : Gl X "int") (ha : PE X a (tB L c Wx W a')) (ns : noStar a = true) : PE X (.Call (.Name "int" p) [a] [] pos) (tE L c Wx W (.b1 .int a')) :=
  PE.imp (pe_callTy (cr_intD g) hg (blt g (by decide +kernel)) (by decide +kernel) (pa_cons ha pa_nil (starOne ns)) (by decide +kernel) (by decide +kernel) (starOne ns) backNil) fun σ H Q ⟨ρ, s, m, G, w, q, A⟩ => b1_go w q A
theorem s_strc (g : Gd L X Wx) {a : Expr} {a' : E} (hg : Gl X "str") (ha : PE X a (tB L c Wx W a')) (ns : noStar a = true) : PE X (.Call (.Name "str" p) [a] [] pos) (tE L c Wx W (.b1 .str a')) :=
  PE.imp (pe_callTy (cr_strD g) hg (blt g (by decide +kernel)) (by decide +kernel) (pa_cons ha pa_nil (starOne ns)) (by decide +kernel) (by decide +kernel) (starOne ns) backNil) fun σ H Q ⟨ρ, s, m, G, w, q, A⟩ => b1_go w q A
theorem s_tuplec (g : Gd L X Wx) {a : Expr} {a' : E} (hg : Gl X "tuple") (ha : PE X a (tE L c Wx W a')) (ns : noStar a = true) : PE X (.Call (.Name "tuple" p) [a] [] pos) (tE L c Wx W (.b1 .tuple a')) := by
  refine PE.imp (pe_callTy (cr_tupleD g) hg (blt g (by decide +kernel)) (by decide +kernel) (pa_cons ha pa_nil (starOne ns)) (by decide +kernel) (by decide +kernel) (starOne ns) backNil) fun σ H Q ⟨ρ, s, m, G, w, q, A⟩ => ?_
  unfold ev at A
  refine goE w q (Aft.bind w A) fun d s1 m1 G1 H1 v t1 w1 q1 r1 A1 => ?_
  obtain ⟨z, ez, A3⟩ := A1.opt
  exact ⟨v, s1, m1, G1, d, z, rfl, w1, r1, ez, A3⟩
theorem copy_go {b : B1} {a' : E} {Q : VK} {σ : L2.St} {ρ : Env} (w : Wd L s m G H) (q : Sl L W ρ σ m G H) (A : Aft L Wx σ m G H (ev c (.b1 b a') ρ s) fun d _ m' G' H' => ∀ a o, H a = none → G' a = none → a ∉ hs m' → H' a = some o → Cont L m' G' o d → Q (.ref a) H') :
    tCons (tB L c Wx W a') tNil σ H fun vs H1 => rCopy L b vs H1 Q := by
  unfold ev at A
  refine goB w q (Aft.bind w A) fun d s1 m1 G1 H1 v t1 w1 q1 r1 A1 => ?_
  obtain ⟨z, ez, A3⟩ := A1.opt
  exact ⟨v, s1, m1, G1, d, z, rfl, w1, r1, ez, fun p o np hc => A3 m1 G1 (upd H1 p o) (Stp.lay np o) (w1.lay np o) p o (Stp.back w1 t1 np) (w1.sub.free np) (fun z => (w1.off p z).2 np) upd_same hc⟩
theorem s_listc (g : Gd L X Wx) {a : Expr} {a' : E} (hg : Gl X "list") (ha : PE X a (tB L c Wx W a')) (ns : noStar a = true) : PE X (.Call (.Name "list" p) [a] [] pos) (tO L c Wx W (.b1 .list a')) :=
  PE.imp (pe_callTy (cr_listD g) hg (blt g (by decide +kernel)) (by decide +kernel) (pa_cons ha pa_nil (starOne ns)) (by decide +kernel) (by decide +kernel) (starOne ns) backNil) fun σ H Q ⟨ρ, s, m, G, w, q, A⟩ => copy_go w q A
theorem s_dictc (g : Gd L X Wx) {a : Expr} {a' : E} (hg : Gl X "dict") (ha : PE X a (tB L c Wx W a')) (ns : noStar a = true) : PE X (.Call (.Name "dict" p) [a] [] pos) (tO L c Wx W (.b1 .dict a')) :=
  PE.imp (pe_callTy (cr_dictD g) hg (blt g (by decide +kernel)) (by decide +kernel) (pa_cons ha pa_nil (starOne ns)) (by decide +kernel) (by decide +kernel) (starOne ns) backNil) fun σ H Q ⟨ρ, s, m, G, w, q, A⟩ => copy_go w q A
/-- max, min of two -/
def rB2 (L : Lay) (b : B2) : List V → Hp → VK → Prop := fun xs H Q => ∃ x y s m G dx dy d, xs = [x, y] ∧ Wd L s m G H ∧ RB L m G H x dx ∧ RB L m G H y dy ∧ b2D b dx dy = some d ∧ ∀ v, Rep L m G v d → Q v H
theorem cr_max2 (g : Gd L X Wx) : CallR X (.builtin "max") (rB2 L .max) := by
  intro pins sh σ H xs us Q I r h
  obtain ⟨x, y, s, m, G, dx, dy, d, rfl, w, rx, ry, e, q⟩ := h
  cases dx <;> cases dy <;> simp [b2D] at e
  subst e
  have e1 := rx.int; subst e1
  have e2 := ry.int; subst e2
  exact call_max2 g.calm pins sh σ H _ us Q I r ⟨_, _, rfl, q _ (.int _)⟩
theorem cr_min2 (g : Gd L X Wx) : CallR X (.builtin "min") (rB2 L .min) := by
  intro pins sh σ H xs us Q I r h
  obtain ⟨x, y, s, m, G, dx, dy, d, rfl, w, rx, ry, e, q⟩ := h
  cases dx <;> cases dy <;> simp [b2D] at e
  subst e
  have e1 := rx.int; subst e1
  have e2 := ry.int; subst e2
  exact call_min2 g.calm pins sh σ H _ us Q I r ⟨_, _, rfl, q _ (.int _)⟩
theorem b2_go {b : B2} {a' b' : E} {Q : VK} {σ : L2.St} {ρ : Env} (w : Wd L s m G H) (q : Sl L W ρ σ m G H) (A : Aft L Wx σ m G H (ev c (.b2 b a' b') ρ s) fun d _ m' G' H' => ∀ v, Rep L m' G' v d → Q v H') :
    tCons (tB L c Wx W a') (tCons (tB L c Wx W b') tNil) σ H fun vs H1 => rB2 L b vs H1 Q := by
  unfold ev at A
  refine goB w q (Aft.bind w A) fun d s1 m1 G1 H1 v t1 w1 q1 r1 A1 => ?_
  refine goB w1 q1 (Aft.bind w1 A1) fun d2 s2 m2 G2 H2 v2 t2 w2 q2 r2 A2 => ?_
  obtain ⟨z, ez, A3⟩ := A2.opt
  exact ⟨v, v2, s2, m2, G2, d, d2, z, rfl, w2, r1.step t2, r2, ez, A3 m2 G2 H2 (Stp.refl _ _ _) w2⟩
theorem s_max2 (g : Gd L X Wx) {a b : Expr} {a' b' : E} (hg : Gl X "max") (ha : PE X a (tB L c Wx W a')) (hb : PE X b (tB L c Wx W b')) (ns : noStar a = true) (nt : noStar b = true) : PE X (.Call (.Name "max" p) [a, b] [] pos) (tE L c Wx W (.b2 .max a' b')) :=
  PE.imp (pe_callB (cr_max2 g) hg (blt g (by decide +kernel)) (by decide +kernel) (pa_cons ha (pa_cons hb pa_nil (starOne nt)) (starEach_cons ns)) (by decide +kernel) (by decide +kernel) (starEach_cons ns) (backAny (by simp [nt]))) fun σ H Q ⟨ρ, s, m, G, w, q, A⟩ => b2_go w q A
theorem s_min2 (g : Gd L X Wx) {a b : Expr} {a' b' : E} (hg : Gl X "min") (ha : PE X a (tB L c Wx W a')) (hb : PE X b (tB L c Wx W b')) (ns : noStar a = true) (nt : noStar b = true) : PE X (.Call (.Name "min" p) [a, b] [] pos) (tE L c Wx W (.b2 .min a' b')) :=
  PE.imp (pe_callB (cr_min2 g) hg (blt g (by decide +kernel)) (by decide +kernel) (pa_cons ha (pa_cons hb pa_nil (starOne nt)) (starEach_cons ns)) (by decide +kernel) (by decide +kernel) (starEach_cons ns) (backAny (by simp [nt]))) fun σ H Q ⟨ρ, s, m, G, w, q, A⟩ => b2_go w q A
end
end MP

end
section
set_option Elab.async false
set_option linter.all false
set_option maxRecDepth 100000
set_option maxHeartbeats 1000000
/-! Calls: what a def promises, f(..), C(..), e.f. -/
namespace MP
open PySem PySem.Spec PyProof.Rows L2

/-- a def's promise: what the reading by functions gives -/
def spF (L : Lay) (n : Nat) (fr : Bool) (φ : List D → Sto → Rs D) : Sp := fun vs H Q E => vs.length = n ∧ ∃ ds s m G, Wd L s m G H ∧ Reps L m G vs ds ∧
  Aft L (fun cl d _ H => E cl d H) [] m G H (φ ds s) fun d _ m' G' H' => if fr = true then ∀ a o, H a = none → G' a = none → a ∉ hs m' → H' a = some o → Cont L m' G' o d → Q (.ref a) H' else ∀ v, Rep L m' G' v d → Q v H'
/-- .. of an __init__: x is the new object -/
def wout (H : Hp) (x : Addr) : Hp := fun b => if b = x then none else H b
def spI (L : Lay) (n : Nat) (k : Cl) (φ : List D → Sto → Rs D) : Sp := fun vs H Q E => ∃ x dx us, vs = .ref x :: us ∧ us.length = n ∧ H x = some (.ins (L.cls k) dx []) ∧ H dx = some (.own x) ∧ dx ≠ x ∧
  ∃ ds s m G, Wd L s m G H ∧ G x = none ∧ x ∉ hs m ∧ Reps L m G us ds ∧
  Aft L (fun cl d _ H => E cl d H) [] m G (wout H x) (φ ds s) fun d _ m' G' H' => ∀ o, G' x = none → x ∉ hs m' → H' x = some o → Cont L m' G' o d → Q .non H'

/-- a def of the text where the reading stands -/
structure FnH (L : Lay) (X : Cx) (n : Nat) (f : F) (nm : Str) (np : Nat) (fr : Bool) (φ : List D → Sto → Rs D) : Prop where
  ok : ∃ fd ps, FnOk X.prog X.w X.K X.mg X.base (CX X.prog X.w) (2 * n) (L.fad f) fd ps (spF L np fr φ) ∧ Binds X.K fd ps []
  mg : X.mg nm = some (.ref (L.fad f))
  kp : PySem.W.keepIn X.K (.ref (L.fad f)) = true
section
variable {L : Lay} {c : Cfg} {Wx : WX} {W : List Nat} {X : Cx} {pos p : Pos} {s : Sto} {m : List (Addr × Addr)} {G H : Hp} {n : Nat}
theorem call_go {es' : Es} {f : F} {np : Nat} {Q : VK} {σ : L2.St} {ρ : Env} {fr : Bool} (hl : ∀ ds s, ds.length ≠ np → c.call f ds s = .st) (w : Wd L s m G H) (q : Sl L W ρ σ m G H)
    (A : Aft L Wx σ m G H (ev c (.call f es') ρ s) fun d _ m' G' H' => if fr = true then ∀ a o, H a = none → G' a = none → a ∉ hs m' → H' a = some o → Cont L m' G' o d → Q (.ref a) H' else ∀ v, Rep L m' G' v d → Q v H') :
    tEs L c Wx W es' σ H fun vs H1 => spF L np fr (c.call f) (vs ++ []) H1 Q (WE Wx σ) := by
  unfold ev at A
  refine goEs w q (Aft.bind w A) fun ds s1 m1 G1 H1 vs t1 w1 q1 r1 A1 => ?_
  have hlen : ds.length = np := by
    refine Decidable.byContradiction fun z => ?_
    rw [hl ds s1 z] at A1
    exact A1
  refine ⟨by rw [List.append_nil, r1.length]; exact hlen, ds, s1, m1, G1, w1, by rw [List.append_nil]; exact r1, ?_⟩
  cases e : c.call f ds s1 with
  | st => rw [e] at A1; exact A1
  | ex k es s2 => rw [e] at A1; exact A1
  | ok d s2 =>
    rw [e] at A1
    intro m' G' H' t w'
    have := A1 m' G' H' t w'
    cases fr with
    | false => exact this
    | true => exact fun a o h1 h2 h3 h4 h5 => this a o (Stp.back w1 t1 h1) h2 h3 h4 h5
theorem s_call {e : Expr} {es : List Expr} {es' : Es} {f : F} {x : Str} {np : Nat} (F : FnH L X n f x np false (c.call f)) (tk : Takes X Wx) (hr : Room (2 * n) X.A) (hl : ∀ ds s, ds.length ≠ np → c.call f ds s = .st) (hg : Gl X x) (hdb : (x == ("__debug__" : Str)) = false)
    (ha : PA X (e :: es) (tEs L c Wx W es')) (ns : (e :: es).all noStar = true) : PE X (.Call (.Name x p) (e :: es) [] pos) (tE L c Wx W (.call f es')) := by
  obtain ⟨fd, ps, ok, hb⟩ := F.ok
  rw [List.all_cons, Bool.and_eq_true] at ns
  refine PE.imp (pe_callSD (E := WE Wx) ok hr hg F.mg F.kp hb .nil (fun σ => passAt tk σ) ha hdb (starEach_cons ns.1) (backAny ns.2)) fun σ H Q ⟨ρ, s, m, G, w, q, A⟩ => ?_
  exact call_go (fr := false) hl w q A
theorem s_callO {e : Expr} {es : List Expr} {es' : Es} {f : F} {x : Str} {np : Nat} (F : FnH L X n f x np true (c.call f)) (tk : Takes X Wx) (hr : Room (2 * n) X.A) (hl : ∀ ds s, ds.length ≠ np → c.call f ds s = .st) (hg : Gl X x) (hdb : (x == ("__debug__" : Str)) = false)
    (ha : PA X (e :: es) (tEs L c Wx W es')) (ns : (e :: es).all noStar = true) : PE X (.Call (.Name x p) (e :: es) [] pos) (tO L c Wx W (.call f es')) := by
  obtain ⟨fd, ps, ok, hb⟩ := F.ok
  rw [List.all_cons, Bool.and_eq_true] at ns
  refine PE.imp (pe_callSD (E := WE Wx) ok hr hg F.mg F.kp hb .nil (fun σ => passAt tk σ) ha hdb (starEach_cons ns.1) (backAny ns.2)) fun σ H Q ⟨ρ, s, m, G, w, q, A⟩ => ?_
  exact call_go (fr := true) hl w q A

/-! ### C(..) -/
theorem run_makeS {CX : CXT} {k : Nat} {f C : Addr} {fd : FuncData} {ps : List Str} {sp : Sp} {dvs : List V} {ds : List Value} {E : L2.St → XK} {pins : List (Addr × Obj)} {σ : L2.St} {H : Hp} {s : Shared} {Q : VK} {us : List Value} {vs : List V} (M : Mk X.K C f) (F : FnOk X.prog X.w X.K X.mg X.base CX k f fd ps sp) (hr : Room (k + 1) X.A) (hb : Binds X.K fd ps ds) (hd : Vals dvs ds)
    (hx : PassesAt CX X σ (E σ)) (I : L2.Inv X pins σ H s) (r : Vals vs us)
    (h : ∀ x dx, H x = none → H dx = none → dx ≠ x → sp (.ref x :: (vs ++ dvs)) (upd (upd H dx (.own x)) x (.ins C dx [])) (fun v H2 => v = .non ∧ Q (.ref x) H2) (E σ)) :
    wpAny (model X.prog X.w) X.A (call (.ref C) us) (EP X pins σ Q) X.xe s := by
  have hq := h (s.heap.objs.size + 1) s.heap.objs.size (I.hok.fresh (Nat.le_succ _)) (I.hok.fresh (Nat.le_refl _)) (Nat.ne_of_lt (Nat.lt_succ_self _))
  have I2 := Inv.made (C := C) I
  have r2 : Vals (V.ref (s.heap.objs.size + 1) :: (vs ++ dvs)) (Value.ref (s.heap.objs.size + 1) :: (us ++ ds)) := .cons rfl (r.append hd)
  have hl : (Value.ref (s.heap.objs.size + 1) :: us ++ ds).length = ps.length := by
    have e := r2.length
    rw [F.len _ _ _ _ hq] at e
    exact e.symm
  refine wpAny_call (make_map (f := f) I.kIn M.makes M.init (beq_iff_eq.mp M.fn) (codeAny_mono (F.run _ X.stack _ _ ⟨Value.ref (s.heap.objs.size + 1) :: us, []⟩ (Value.ref (s.heap.objs.size + 1) :: (us ++ ds)) _ _ (E σ) (hr.make C us [])
    (I2.env0.make C us []) (hb _ (Value.ref (s.heap.objs.size + 1) :: us) I2.kIn hl) r2 hq) fun r s' hq' => ?_))
  cases r with
  | error e => exact hx pins _ _ e s' I2 hq'
  | ok fl =>
    cases fl with
    | ret u =>
      obtain ⟨v, H', I3, rv, ev, q3⟩ := I2.after hq'
      subst ev
      exact ⟨rv, ⟨V.ref (s.heap.objs.size + 1), H', I3, rfl, q3⟩⟩
    | next => exact False.elim hq'
    | brk => exact False.elim hq'
    | cont => exact False.elim hq'
def tMakeS (C : Addr) (sp : Sp) (E : L2.St → XK) (t : TA) : TE := fun σ H Q => t σ H fun vs H1 => ∀ x dx, H1 x = none → H1 dx = none → dx ≠ x →
  sp (.ref x :: (vs ++ [])) (upd (upd H1 dx (.own x)) x (.ins C dx [])) (fun v H2 => v = .non ∧ Q (.ref x) H2) (E σ)
theorem pe_makeS {CX : CXT} {k : Nat} {f C : Addr} {fd : FuncData} {ps : List Str} {sp : Sp} {E : L2.St → XK} {x : Str} {e : Expr} {es : List Expr} {t : TA} (M : Mk X.K C f) (F : FnOk X.prog X.w X.K X.mg X.base CX k f fd ps sp) (hr : Room (k + 1) X.A) (hg : Gl X x) (hm : X.mg x = some (.ref C)) (hb : Binds X.K fd ps []) (hx : ∀ σ, PassesAt CX X σ (E σ))
    (ha : PA X (e :: es) t) (hdb : (x == ("__debug__" : Str)) = false) (he : starEach (e :: es) X.env = (false, eval e X.env) :: starEach es X.env) (hpl : (backTo pos (starEach es X.env)).any (·.1) = false) :
    PE X (.Call (.Name x p) (e :: es) [] pos) (tMakeS C sp E t) := by
  refine ⟨fun pins s σ H Q I h => ?_⟩
  refine wpAny_Call_Name_kw (ld_glob I hg hm ?_ hdb)
  refine PySem.W.callWith_K (h₀ := X.base) I.ok.mod.kin M.kp (thn (ha.run pos pins s σ H _ I h) fun us s1 ⟨vs, H1, I1, r, q⟩ => ⟨I1.kIn, ?_⟩) he hpl
  exact run_makeS M F hr hb .nil (hx σ) I1 r q
/-- a class of the text where the reading stands -/
structure ClH (L : Lay) (X : Cx) (n : Nat) (k : Cl) (nm : Str) (np : Nat) (φ : List D → Sto → Rs D) : Prop where
  ok : ∃ fd ps, FnOk X.prog X.w X.K X.mg X.base (CX X.prog X.w) (2 * n) (L.fad (.ini k)) fd ps (spI L np k φ) ∧ Binds X.K fd ps []
  mkk : Mk X.K (L.cls k) (L.fad (.ini k))
  mg : X.mg nm = some (.ref (L.cls k))
theorem wout_upd {H : Hp} {x dx : Addr} {o : HO} (hx : H x = none) (ne : dx ≠ x) : wout (upd (upd H dx (.own x)) x o) x = upd H dx (.own x) := by
  funext b
  unfold wout
  by_cases e : b = x
  · subst e; rw [if_pos rfl, upd_ne (Ne.symm ne)]; exact hx.symm
  · rw [if_neg e, upd_ne e]
theorem s_make {e : Expr} {es : List Expr} {es' : Es} {k : Cl} {x : Str} {np : Nat} (F : ClH L X n k x np (c.call (.ini k))) (tk : Takes X Wx) (hr : Room (2 * n + 1) X.A) (hl : ∀ ds s, ds.length ≠ np → c.call (.ini k) ds s = .st) (hg : Gl X x) (hdb : (x == ("__debug__" : Str)) = false)
    (ha : PA X (e :: es) (tEs L c Wx W es')) (ns : (e :: es).all noStar = true) : PE X (.Call (.Name x p) (e :: es) [] pos) (tE L c Wx W (.make k es')) := by
  obtain ⟨fd, ps, ok, hb⟩ := F.ok
  rw [List.all_cons, Bool.and_eq_true] at ns
  refine PE.imp (pe_makeS (E := WE Wx) F.mkk ok hr hg F.mg hb (fun σ => passAt tk σ) ha hdb (starEach_cons ns.1) (backAny ns.2)) fun σ H Q ⟨ρ, s, m, G, w, q, A⟩ => ?_
  unfold ev at A
  refine goEs w q (Aft.bind w A) fun ds s1 m1 G1 H1 vs t1 w1 q1 r1 A1 => ?_
  have hlen : ds.length = np := by
    refine Decidable.byContradiction fun z => ?_
    rw [hl ds s1 z] at A1
    exact A1
  intro x dx hx hdx ne
  have w2 := (w1.lay hdx (.own x)).lay (p := x) (by rw [upd_ne (Ne.symm ne)]; exact hx) (.ins (L.cls k) dx [])
  refine ⟨x, dx, vs, by rw [List.append_nil], by rw [r1.length]; exact hlen, upd_same, by rw [upd_ne ne, upd_same], ne, ds, s1, m1, G1, w2, w1.sub.free hx, fun z => (w1.off x z).2 hx, r1, ?_⟩
  rw [wout_upd hx ne]
  have back : ∀ {m' G' H'}, Stp m1 G1 (upd H1 dx (.own x)) m' G' H' → Stp m1 G1 H1 m' G' H' := fun {m' G' H'} t =>
    ⟨t.pre, t.keep, fun a y h g z => t.frame a y (by rw [upd_ne (ne_of_none h hdx)]; exact h) g z, fun a h z => by
      have := t.fresh a h z
      by_cases e : a = dx
      · rw [e]; exact hdx
      · rw [upd_ne e] at this; exact this⟩
  cases ec : c.call (.ini k) ds s1 with
  | st => rw [ec] at A1; exact A1
  | ex k' es s2 =>
    rw [ec] at A1
    exact fun m' G' H' dd t w' x => A1 m' G' H' dd (back t) w' x
  | ok d s2 =>
    rw [ec] at A1
    intro m' G' H' t w' o hg' hn' ho hc
    refine ⟨rfl, ?_⟩
    have t' := back t
    have t2 : Stp m1 G1 H1 m' (upd G' x o) H' := by
      refine ⟨t'.pre, fun b y h => ?_, fun b y hb g z => ?_, t'.fresh⟩
      · have : b ≠ x := fun e => by rw [e, w1.sub.free hx] at h; cases h
        rw [upd_ne this]; exact t'.keep _ _ h
      · have : b ≠ x := fun e => by rw [e, hx] at hb; cases hb
        rw [upd_ne this]; exact t'.frame b y hb g z
    refine A1 m' (upd G' x o) H' t2 (w'.settle ho hn') (.ref x) (.obj upd_same (hc.mono (List.prefix_refl _) fun b y h => ?_))
    have : b ≠ x := fun e => by rw [e, hg'] at h; cases h
    rw [upd_ne this]; exact h

/-! ### e.f -/
def notCall0 : Expr → Bool
  | .Call (.Name _ _) [] [] _ => false
  | _ => true
theorem base_is {e : Expr} {f : Str} {env : PySem.Env} {whole : Sem Value} (h : notCall0 e = true) : attributeBase e f env whole = whole := by
  unfold attributeBase
  split
  · cases h
  · rfl
theorem look_field {k : Cl} {i : Nat} {f : Str} {vs : List V} {v : V} (hf : (fields k)[i]? = some f) (hv : vs[i]? = some v) : ((fields k).zip vs).lookup f = some v := by
  have one : ∀ z : Str, [z][i]? = some f → ([z].zip vs).lookup f = some v := fun z hz => by
    cases i with
    | zero =>
      simp at hz; subst hz
      cases vs with
      | nil => simp at hv
      | cons u us => simp at hv; subst hv; simp
    | succ j => simp at hz
  cases k with
  | err j => simp [fields] at hf
  | _ => exact one _ hf
theorem s_fld (g : Gd L X Wx) {e : Expr} {e' : E} {k : Cl} {i : Nat} {f : Str} (hf : (fields k)[i]? = some f) (na : L.has k = true → NoAttr L.K (L.cls k) f) (he : PE X e (tB L c Wx W e')) (hb : notCall0 e = true) : PE X (.Attribute e f pos) (tE L c Wx W (.fld e' k i)) := by
  refine PE.imp (pe_fld he (base_is hb)) fun σ H Q ⟨ρ, s, m, G, w, q, A⟩ => ?_
  unfold ev at A
  refine goB w q (Aft.bind w A) fun d s1 m1 G1 H1 v t1 w1 q1 r1 A1 => ?_
  split at A1
  · split at A1
    · rename_i e; subst e
      obtain ⟨z, ez, A3⟩ := A1.opt
      obtain ⟨a, dx, vs, rfl, ha, ra, _, hk⟩ := r1.ins w1
      obtain ⟨u, hu, ru⟩ := ra.get ez
      exact ⟨a, _, dx, _, u, rfl, ha, by rw [g.K]; exact (g.cls _ hk).cl, by rw [g.K]; exact na hk, look_field hf hu, A3 m1 G1 H1 (Stp.refl _ _ _) w1 u ru⟩
    · exact False.elim A1
  · exact False.elim A1
/-- a property of the text where the reading stands -/
structure PrH (L : Lay) (X : Cx) (n : Nat) (k : Cl) (i : Nat) (nm : Str) (φ : List D → Sto → Rs D) : Prop where
  ok : ∃ fd ps, FnOk X.prog X.w X.K X.mg X.base (CX X.prog X.w) (2 * n) (L.fad (.pr k i)) fd ps (spF L 1 false φ) ∧ Binds X.K fd ps []
  pr : ∃ pa, PropOf X.K (L.cls k) nm pa (L.fad (.pr k i))
theorem s_prop (g : Gd L X Wx) {e : Expr} {e' : E} {k : Cl} {i : Nat} {f : Str} (F : PrH L X n k i f (c.call (.pr k i))) (hr : Room (2 * n + 1) X.A) (hk : L.has k = true) (he : PE X e (tE L c Wx W e')) (hb : notCall0 e = true) : PE X (.Attribute e f pos) (tE L c Wx W (.prop e' k i)) := by
  obtain ⟨fd, ps, ok, hbd⟩ := F.ok
  obtain ⟨pa, pr⟩ := F.pr
  refine PE.imp (pe_prop (E := fun _ _ _ => False) he (by rw [g.K]; exact (g.cls k hk).cl) pr ok hr hbd .nil (passes_call (takes0 (X := X.nox)) fun _ _ _ _ z => z) (base_is hb)) fun σ H Q ⟨ρ, s, m, G, w, q, A⟩ => ?_
  unfold ev at A
  refine goE w q (Aft.bind w A) fun d s1 m1 G1 H1 v t1 w1 q1 r1 A1 => ?_
  split at A1
  · split at A1
    · rename_i e; subst e
      have rb : RB L m1 G1 H1 v _ := .rep r1
      obtain ⟨a, dx, vs, rfl, ha, ra, _, _⟩ := rb.ins w1
      refine ⟨a, dx, _, rfl, ha, rfl, _, s1, m1, G1, w1, .one r1, ?_⟩
      cases ec : c.call (.pr _ i) [.ins _ _] s1 with
      | st => rw [ec] at A1; exact False.elim A1
      | ex k' es s2 => rw [ec] at A1; exact False.elim A1
      | ok z s2 =>
        rw [ec] at A1
        exact A1
    · exact False.elim A1
  · exact False.elim A1
end
end MP

end
section
set_option Elab.async false
set_option linter.all false
set_option maxRecDepth 100000
set_option maxHeartbeats 1000000
/-! What loops walk; targets; comprehensions. -/
namespace MP
open PySem PySem.Spec PyProof.Rows L2

/-- what is walked gives xs while P stands -/
structure Src (L : Lay) (xs : List D) (J : It) (P : List (Addr × Addr) → Hp → Prop) : Prop where
  mono : ∀ {m m' : List (Addr × Addr)} {G G' : Hp}, P m G → m <+: m' → Same G G' → P m' G'
  go : ∀ {i : Nat} {s : Sto} {m : List (Addr × Addr)} {G H : Hp}, P m G → Wd L s m G H → i < xs.length → J.go i H
  stop : ∀ {i : Nat} {s : Sto} {m : List (Addr × Addr)} {G H : Hp}, P m G → Wd L s m G H → xs.length ≤ i → J.stop i H
  yld : ∀ {i : Nat} {s : Sto} {m : List (Addr × Addr)} {G H H' : Hp} {x : V}, P m G → Wd L s m G H → J.yld i H x H' → i < xs.length →
    ∃ G' d, Stp m G H m G' H' ∧ Wd L s m G' H' ∧ xs[i]? = some d ∧ Rep L m G' x d
def tSr (L : Lay) (c : Cfg) (Wx : WX) (W : List Nat) (r : Sr) : TI := fun σ H R => ∃ ρ s m G, Wd L s m G H ∧ Sl L W ρ σ m G H ∧ Aft L Wx σ m G H (evr c r ρ s) fun xs _ m' G' H' => ∀ J P, Src L xs J P → P m' G' → R J H'
theorem PI.imp {X : Cx} {tg e : Expr} {t t' : TI} (h : PI X tg e t) (f : ∀ σ H R, t' σ H R → t σ H R) : PI X tg e t' := ⟨fun pins s σ H R I q => h.run pins s σ H R I (f σ H R q)⟩
theorem PI.or {X : Cx} {tg e : Expr} {t t' : TI} (h : PI X tg e t) (h' : PI X tg e t') : PI X tg e (fun σ H R => t σ H R ∨ t' σ H R) := ⟨fun pins s σ H R I q => q.elim (h.run pins s σ H R I) (h'.run pins s σ H R I)⟩
section
variable {L : Lay} {c : Cfg} {Wx : WX} {W : List Nat} {X : Cx} {pos p : Pos} {s : Sto} {m : List (Addr × Addr)} {G H : Hp} {tg : Expr}
theorem src_list {a : Addr} {xs : List D} : Src L xs (Itl L.K a) (fun m G => ∃ vs, G a = some (.lst vs) ∧ Reps L m G vs xs) where
  mono := fun ⟨vs, h, r⟩ hm hg => ⟨vs, hg _ _ h, r.mono hm hg⟩
  go := fun {i s m G H} ⟨vs, h, r⟩ w hi => ⟨vs, vs[i]'(by rw [r.length]; exact hi), .of (w.sub _ _ h), by simp⟩
  stop := fun ⟨vs, h, r⟩ w hi => ⟨vs, .of (w.sub _ _ h), by rw [r.length]; exact hi⟩
  yld := fun {i s m G H H' x} ⟨vs, h, r⟩ w y hi => by
    obtain ⟨e, y⟩ := y
    subst e
    have hx := y vs (.of (w.sub _ _ h))
    obtain ⟨d, h1, h2⟩ := r.getV hx
    exact ⟨G, d, Stp.refl _ _ _, w, h1, h2⟩
theorem src_tup {a : Addr} {xs : List D} : Src L xs (Itt L.K a) (fun m G => ∃ vs, G a = some (.tup vs) ∧ Reps L m G vs xs) where
  mono := fun ⟨vs, h, r⟩ hm hg => ⟨vs, hg _ _ h, r.mono hm hg⟩
  go := fun {i s m G H} ⟨vs, h, r⟩ w hi => ⟨vs, vs[i]'(by rw [r.length]; exact hi), .of (w.sub _ _ h), by simp⟩
  stop := fun ⟨vs, h, r⟩ w hi => ⟨vs, .of (w.sub _ _ h), by rw [r.length]; exact hi⟩
  yld := fun {i s m G H H' x} ⟨vs, h, r⟩ w y hi => by
    obtain ⟨e, y⟩ := y
    subst e
    have hx := y vs (.of (w.sub _ _ h))
    obtain ⟨d, h1, h2⟩ := r.getV hx
    exact ⟨G, d, Stp.refl _ _ _, w, h1, h2⟩
theorem src_range {lo : Int} {n : Nat} : Src L ((List.range n).map fun i => D.int (lo + (i : Nat))) (Itr lo n) (fun _ _ => True) where
  mono := fun _ _ _ => trivial
  go := fun {i s m G H} _ _ hi => by
    show i < n
    simpa using hi
  stop := fun {i s m G H} _ _ hi => by
    show n ≤ i
    simpa using hi
  yld := fun {i s m G H H' x} _ w y hi => by
    obtain ⟨e, y⟩ := y
    subst e; subst y
    have hi' : i < n := by simpa using hi
    exact ⟨G, .int (lo + (i : Nat)), Stp.refl _ _ _, w, by simp [hi'], .int _⟩
theorem s_of (g : Gd L X Wx) {e : Expr} {e' : E} (h : PE X e (tE L c Wx W e')) : PI X tg e (tSr L c Wx W (.of e')) := by
  have both : PI X tg e (fun σ H R => (iList X.K (tE L c Wx W e') σ H R) ∨ (iTup X.K (tE L c Wx W e') σ H R)) := PI.or (pi_list h) (pi_tup h)
  refine PI.imp both fun σ H R ⟨ρ, s, m, G, w, q, A⟩ => ?_
  unfold evr at A
  cases ee : ev c e' ρ s with
  | st => rw [ee] at A; exact False.elim A
  | ex k ds s' => rw [ee] at A; exact .inl ⟨ρ, s, m, G, w, q, by rw [ee]; exact A⟩
  | ok d s1 =>
    rw [ee] at A
    simp only [Rs.bind_ok] at A
    cases d with
    | lst ds =>
      refine .inl ⟨ρ, s, m, G, w, q, ?_⟩
      rw [ee]
      intro m1 G1 H1 t1 w1 v r1
      cases r1 with
      | obj hg hc =>
        cases hc with
        | lst hr => exact ⟨_, rfl, ⟨_, .of (w1.sub _ _ hg)⟩, A m1 G1 H1 t1 w1 _ (fun m G => ∃ vs, G _ = some (.lst vs) ∧ Reps L m G vs ds) (by rw [g.K]; exact src_list) ⟨_, hg, hr⟩⟩
    | tup ds =>
      refine .inr ⟨ρ, s, m, G, w, q, ?_⟩
      rw [ee]
      intro m1 G1 H1 t1 w1 v r1
      cases r1 with
      | obj hg hc =>
        cases hc with
        | tup hr => exact ⟨_, rfl, ⟨_, .of (w1.sub _ _ hg)⟩, A m1 G1 H1 t1 w1 _ (fun m G => ∃ vs, G _ = some (.tup vs) ∧ Reps L m G vs ds) (by rw [g.K]; exact src_tup) ⟨_, hg, hr⟩⟩
    | _ => exact False.elim A
theorem s_rg1 (g : Gd L X Wx) {a : Expr} {a' : E} (hg : Gl X "range") (ha : PE X a (tB L c Wx W a')) (ns : noStar a = true) : PI X tg (.Call (.Name "range" p) [a] [] pos) (tSr L c Wx W (.rg1 a')) := by
  refine PI.imp (pi_range1 hg (blt g (by decide +kernel)) (pa_cons ha pa_nil (starOne ns)) (starOne ns)) fun σ H R ⟨ρ, s, m, G, w, q, A⟩ => ?_
  unfold evr at A
  refine goB w q (Aft.bind w A) fun d s1 m1 G1 H1 v t1 w1 q1 r1 A1 => ?_
  split at A1
  · obtain ⟨xs, ex, A2⟩ := A1.opt
    unfold rgD at ex
    split at ex
    · rename_i hb
      simp only [Bool.and_eq_true, decide_eq_true_eq] at hb
      cases ex
      have e1 := r1.int; subst e1
      refine ⟨_, rfl, by omega, by omega, ?_⟩
      have := A2 m1 G1 H1 (Stp.refl _ _ _) w1
      rw [Int.sub_zero] at this
      exact this _ _ src_range trivial
    · cases ex
  · exact False.elim A1
theorem s_rg2 (g : Gd L X Wx) {a b : Expr} {a' b' : E} (hg : Gl X "range") (ha : PE X a (tB L c Wx W a')) (hb : PE X b (tB L c Wx W b')) (ns : noStar a = true) (nt : noStar b = true) : PI X tg (.Call (.Name "range" p) [a, b] [] pos) (tSr L c Wx W (.rg2 a' b')) := by
  refine PI.imp (pi_range2 hg (blt g (by decide +kernel)) (pa_cons ha (pa_cons hb pa_nil (starOne nt)) (starEach_cons ns)) (by rw [starEach_cons ns, starOne nt]; rfl) (starOne nt)) fun σ H R ⟨ρ, s, m, G, w, q, A⟩ => ?_
  unfold evr at A
  refine goB w q (Aft.bind w A) fun d s1 m1 G1 H1 v t1 w1 q1 r1 A1 => ?_
  refine goB w1 q1 (Aft.bind w1 A1) fun d2 s2 m2 G2 H2 v2 t2 w2 q2 r2 A2 => ?_
  split at A2
  · obtain ⟨xs, ex, A3⟩ := A2.opt
    unfold rgD at ex
    split at ex
    · rename_i hb
      simp only [Bool.and_eq_true, decide_eq_true_eq] at hb
      cases ex
      have e1 := r1.int; subst e1
      have e2 := r2.int; subst e2
      exact ⟨_, _, rfl, ⟨by omega, by omega, by omega, by omega⟩, A3 m2 G2 H2 (Stp.refl _ _ _) w2 _ _ src_range trivial⟩
    · cases ex
  · exact False.elim A2

/-! ### targets -/
def offT (S : List Nat) (σ σ' : L2.St) : Prop := σ'.length = σ.length ∧ ∀ j, j ∉ S → σ'[j]? = σ[j]?
theorem offT.refl {S : List Nat} {σ : L2.St} : offT S σ σ := ⟨rfl, fun _ _ => rfl⟩
theorem offT.trans {S T : List Nat} {σ σ1 σ2 : L2.St} (a : offT S σ σ1) (b : offT T σ1 σ2) : offT (S ++ T) σ σ2 :=
  ⟨b.1.trans a.1, fun j hj => (b.2 j fun z => hj (List.mem_append_right _ z)).trans (a.2 j fun z => hj (List.mem_append_left _ z))⟩
def gT (L : Lay) (W : List Nat) (t : Tg) : TG := fun v σ H Q => ∃ ρ s m G d ρ', Wd L s m G H ∧ Sl L W ρ σ m G H ∧ Rep L m G v d ∧ bindT t d ρ = some ρ' ∧ ∀ σ', Sl L W ρ' σ' m G H → offT (slotsT t) σ σ' → Q σ' H
def gTs (L : Lay) (W : List Nat) (ts : Tgs) : TGs := fun vs σ H Q => ∃ ρ s m G ds ρ', Wd L s m G H ∧ Sl L W ρ σ m G H ∧ Reps L m G vs ds ∧ bindTs ts ds ρ = some ρ' ∧ ∀ σ', Sl L W ρ' σ' m G H → offT (slotsTs ts) σ σ' → Q σ' H
theorem PG.imp {X : Cx} {e : Expr} {t t' : TG} (h : PG X e t) (f : ∀ v σ H Q, t' v σ H Q → t v σ H Q) : PG X e t' := ⟨fun pins s σ H v u Q I r q => h.run pins s σ H v u Q I r (f v σ H Q q)⟩
theorem PG.or {X : Cx} {e : Expr} {t t' : TG} (h : PG X e t) (h' : PG X e t') : PG X e (fun v σ H Q => t v σ H Q ∨ t' v σ H Q) := ⟨fun pins s σ H v u Q I r q => q.elim (h.run pins s σ H v u Q I r) (h'.run pins s σ H v u Q I r)⟩
theorem PGs.imp {X : Cx} {e : List Expr} {t t' : TGs} (h : PGs X e t) (f : ∀ v σ H Q, t' v σ H Q → t v σ H Q) : PGs X e t' := ⟨fun pins s σ H v u Q I r q => h.run pins s σ H v u Q I r (f v σ H Q q)⟩
theorem g_nm {i : Nat} {x : Str} (hN : X.N.Nodup) (hi : X.N[i]? = some x) (hx : Loc X.env.scope x) (hf : X.fn x = true ∨ X.env.scope.names.lookup x = some .local) (hW : i ∉ W) : PG X (.Name x pos) (gT L W (.nm i)) := by
  refine PG.imp (pg_name hN hi hx hf) fun v σ H Q ⟨ρ, s, m, G, d, ρ', w, q, r, e, k⟩ => ?_
  simp only [bindT, Option.some.injEq] at e
  subst e
  exact k _ (q.set hW r) ⟨by simp, fun j hj => List.getElem?_set_ne (fun z => hj (by simp [slotsT, z]))⟩
theorem g_nil : PGs X [] (gTs L W .nil) := by
  refine PGs.imp pgs_nil fun vs σ H Q ⟨ρ, s, m, G, ds, ρ', w, q, r, e, k⟩ => ?_
  cases r with
  | nil =>
    simp only [bindTs, Option.some.injEq] at e
    subst e
    exact ⟨rfl, k _ q offT.refl⟩
  | cons _ _ => simp [bindTs] at e
def noStarT : Expr → Bool
  | .Starred .. => false
  | _ => true
theorem assignEach_cons {e : Expr} {es : List Expr} {env : PySem.Env} (h : noStarT e = true) : assignEach (e :: es) env = (false, assign e env) :: assignEach es env := by
  cases e <;> first | rfl | cases h
theorem g_cons {e : Expr} {es : List Expr} {t : Tg} {ts : Tgs} (h1 : PG X e (gT L W t)) (h2 : PGs X es (gTs L W ts)) (hs : noStarT e = true) : PGs X (e :: es) (gTs L W (.cons t ts)) := by
  refine PGs.imp (pgs_cons h1 h2 (by rw [assignEach_cons hs]; rfl)) fun vs σ H Q ⟨ρ, s, m, G, ds, ρ', w, q, r, e, k⟩ => ?_
  cases r with
  | nil => simp [bindTs] at e
  | cons r1 rr =>
    unfold bindTs at e
    split at e
    · rename_i ρ1 e1
      exact ⟨_, _, rfl, ρ, s, m, G, _, ρ1, w, q, r1, e1, fun σ1 q1 o1 => ⟨ρ1, s, m, G, _, ρ', w, q1, rr, e, fun σ2 q2 o2 => k σ2 q2 (by unfold slotsTs; exact o1.trans o2)⟩⟩
    · cases e
theorem assignEach_len : ∀ {es : List Expr} {env : PySem.Env}, es.all noStarT = true → (assignEach es env).length = es.length ∧ (assignEach es env).findIdx? (·.1) = none
  | [], _, _ => ⟨rfl, rfl⟩
  | e :: es, env, h => by
    rw [List.all_cons, Bool.and_eq_true] at h
    rw [assignEach_cons h.1]
    obtain ⟨h1, h2⟩ := assignEach_len (env := env) h.2
    exact ⟨by rw [List.length_cons, List.length_cons, h1], by rw [List.findIdx?_cons]; simp [h2]⟩
theorem bindTs_len : ∀ {ts : Tgs} {ds : List D} {ρ ρ' : Env}, bindTs ts ds ρ = some ρ' → ∃ n, ds.length = n
  | _, ds, _, _, _ => ⟨_, rfl⟩
def lenTs : Tgs → Nat
  | .nil => 0
  | .cons _ ts => lenTs ts + 1
theorem bindTs_n : ∀ {ts : Tgs} {ds : List D} {ρ ρ' : Env}, bindTs ts ds ρ = some ρ' → ds.length = lenTs ts
  | .nil, [], _, _, _ => rfl
  | .nil, _ :: _, _, _, h => by simp [bindTs] at h
  | .cons _ _, [], _, _, h => by simp [bindTs] at h
  | .cons t ts, d :: ds, ρ, ρ', h => by
    unfold bindTs at h
    split at h
    · rw [List.length_cons, bindTs_n h]; rfl
    · cases h
theorem g_tp (g : Gd L X Wx) {es : List Expr} {k : Nat} {ts : Tgs} (h : PGs X es (gTs L W ts)) (hs : es.all noStarT = true) (hn : es.length = lenTs ts) : PG X (.Tuple es k pos) (gT L W (.tp ts)) := by
  obtain ⟨l1, l2⟩ := assignEach_len (env := X.env) hs
  refine PG.imp (PG.or (pg_tup (n := lenTs ts) g.calm h (by rw [l1, hn]) l2) (pg_lst (n := lenTs ts) g.calm h (by rw [l1, hn]) l2)) fun v σ H Q ⟨ρ, s, m, G, d, ρ', w, q, r, e, k⟩ => ?_
  cases d with
  | tup ds =>
    have rb : RB L m G H v (.tup ds) := .rep r
    obtain ⟨a, vs, rfl, ha, ra⟩ := rb.tup w
    simp only [bindT] at e
    exact .inl ⟨a, vs, rfl, .of ha, by rw [ra.length]; exact bindTs_n e, ρ, s, m, G, ds, ρ', w, q, ra, e, k⟩
  | lst ds =>
    have rb : RB L m G H v (.lst ds) := .rep r
    obtain ⟨a, vs, rfl, ha, ra⟩ := rb.lst w
    simp only [bindT] at e
    exact .inr ⟨a, vs, rfl, .of ha, by rw [ra.length]; exact bindTs_n e, ρ, s, m, G, ds, ρ', w, q, ra, e, k⟩
  | _ => simp [bindT] at e
end
end MP

end
section
set_option Elab.async false
set_option linter.all false
set_option maxRecDepth 100000
set_option maxHeartbeats 1000000
/-! Comprehensions. -/
namespace MP
open PySem PySem.Spec PyProof.Rows L2

abbrev WF : WX := fun _ _ _ _ => False
theorem Aft.nox {α : Type} {L : Lay} {Wx : WX} {σ σ' : L2.St} {m : List (Addr × Addr)} {G H : Hp} {r : Rs α} {K : α → Sto → List (Addr × Addr) → Hp → Hp → Prop} (A : Aft L Wx σ m G H r.nox K) : Aft L WF σ' m G H r K := by
  cases r with
  | ok a s => exact A
  | ex k ds s => exact False.elim A
  | st => exact A
theorem Sl.wipe {L : Lay} {W : List Nat} {ρ : Env} {σ : L2.St} {m : List (Addr × Addr)} {G H : Hp} (q : Sl L W ρ σ m G H) : ∀ vs : List Nat, Sl L W (wipeE ρ vs) (L2.wipe σ vs) m G H
  | [] => q
  | v :: vs => (Sl.wipe q vs).wipe1 v
theorem wipe_get_in {σ : L2.St} {j : Nat} : ∀ {vs : List Nat}, j ∈ vs → j < σ.length → (L2.wipe σ vs)[j]? = some none
  | [], h, _ => by cases h
  | v :: vs, h, hl => by
    unfold L2.wipe
    by_cases e : v = j
    · subst e
      exact List.getElem?_set_self (by rw [wipe_length]; exact hl)
    · rw [List.getElem?_set_ne e]
      exact wipe_get_in ((List.mem_cons.mp h).resolve_left fun z => e z.symm) hl
theorem wipe_get_out {σ : L2.St} {j : Nat} : ∀ {vs : List Nat}, j ∉ vs → (L2.wipe σ vs)[j]? = σ[j]?
  | [], _ => rfl
  | v :: vs, h => by
    unfold L2.wipe
    rw [List.getElem?_set_ne (fun z => h (by simp [z]))]
    exact wipe_get_out fun z => h (List.mem_cons_of_mem _ z)
theorem wipe_off {σ σ' : L2.St} {vs : List Nat} (o : offT vs (L2.wipe σ vs) σ') : L2.wipe σ' vs = L2.wipe σ vs := by
  have hl : σ'.length = σ.length := o.1.trans (wipe_length σ vs)
  apply List.ext_getElem?
  intro j
  by_cases hj : j ∈ vs
  · by_cases hlt : j < σ.length
    · rw [wipe_get_in hj hlt, wipe_get_in hj (by rw [hl]; exact hlt)]
    · rw [List.getElem?_eq_none (by rw [wipe_length, hl]; omega), List.getElem?_eq_none (by rw [wipe_length]; omega)]
  · rw [wipe_get_out hj, o.2 j hj]

section
variable {L : Lay} {c : Cfg} {Wx : WX} {W : List Nat} {X : Cx} {pos p : Pos} {s : Sto} {m : List (Addr × Addr)} {G H : Hp} {tg : Expr}
/-- the state of a comprehension: what is made so far stands at D, nobody's -/
structure Made (L : Lay) (Da : Addr) (acc : List D) (s : Sto) (m : List (Addr × Addr)) (G H : Hp) : Prop where
  w : Wd L s m G H
  g : G Da = none
  n : Da ∉ hs m
  at_ : ∃ vs, H Da = some (.lst vs) ∧ Reps L m G vs acc
theorem Made.step {Da : Addr} {acc : List D} {s1 : Sto} {m1 : List (Addr × Addr)} {G1 H1 : Hp} (d : Made L Da acc s m G H) (t : Stp m G H m1 G1 H1) (w1 : Wd L s1 m1 G1 H1) : Made L Da acc s1 m1 G1 H1 := by
  obtain ⟨vs, h, r⟩ := d.at_
  obtain ⟨h1, g1⟩ := t.frame Da _ h d.g d.n
  exact ⟨w1, g1, t.off h d.n, vs, h1, r.mono t.pre t.keep⟩
theorem Made.put {Da : Addr} {acc : List D} {x : D} {v : V} (d : Made L Da acc s m G H) (r : Rep L m G v x) : ∃ vs, H Da = some (.lst vs) ∧ vs.length = acc.length ∧ Made L Da (acc ++ [x]) s m G (upd H Da (.lst (vs ++ [v]))) := by
  obtain ⟨vs, h, ra⟩ := d.at_
  exact ⟨vs, h, ra.length, d.w.put d.g d.n _, d.g, d.n, vs ++ [v], upd_same, ra.append (.one r)⟩
/-- from the start to a state of the comprehension -/
structure From (m : List (Addr × Addr)) (G H : Hp) (Da : Addr) (m' : List (Addr × Addr)) (G' H' : Hp) : Prop where
  pre : m <+: m'
  keep : Same G G'
  frame : ∀ a x, a ≠ Da → H a = some x → G a = none → a ∉ hs m → H' a = some x ∧ G' a = none
  fresh : ∀ a, a ∈ hs m' → a ∉ hs m → H a = none
theorem From.stp {Da : Addr} {m' : List (Addr × Addr)} {G' H' : Hp} (f : From m G H Da m' G' H') (hD : H Da = none) : Stp m G H m' G' H' :=
  ⟨f.pre, f.keep, fun a x h => f.frame a x (fun e => by rw [e, hD] at h; cases h) h, f.fresh⟩
theorem From.step {Da : Addr} {s1 : Sto} {m1 m2 : List (Addr × Addr)} {G1 H1 G2 H2 : Hp} (hD : H Da = none) (w : Wd L s m G H) (w1 : Wd L s1 m1 G1 H1) (f : From m G H Da m1 G1 H1) (t : Stp m1 G1 H1 m2 G2 H2) : From m G H Da m2 G2 H2 := by
  have := Stp.trans w1 w (f.stp hD) t
  exact ⟨this.pre, this.keep, fun a x _ => this.frame a x, this.fresh⟩
theorem From.put {Da : Addr} {m1 : List (Addr × Addr)} {G1 H1 : Hp} {o : HO} (f : From m G H Da m1 G1 H1) : From m G H Da m1 G1 (upd H1 Da o) :=
  ⟨f.pre, f.keep, fun a x e h g n => by rw [upd_ne e]; exact f.frame a x e h g n, f.fresh⟩

theorem lc_walk {xs : List D} {J : It} {P : List (Addr × Addr) → Hp → Prop} (S : Src L xs J P) {t : Tg} {ρ : Env} {σ : L2.St} {Q : VK} {f : D → Sto → Rs (Option D)} {Da : Addr} {tt : TT} {te : TE} {vs : List Nat}
    (hD : H Da = none) (w : Wd L s m G H) (hP : P m G) (q : Sl L W ρ σ m G H)
    (hvs : vs = slotsT t)
    (turn : ∀ {x : D} {s1 : Sto} {m1 : List (Addr × Addr)} {G1 H1 : Hp} {v : V} {R : Option V → Hp → Prop}, Wd L s1 m1 G1 H1 → Sl L W (wipeE ρ vs) (L2.wipe σ vs) m1 G1 H1 → Rep L m1 G1 v x →
      (Aft L WF (L2.wipe σ vs) m1 G1 H1 (f x s1) fun o _ m' G' H' => match o with
        | none => R none H'
        | some d => ∀ u, Rep L m' G' u d → R (some u) H') →
      gT L W t v (L2.wipe σ vs) H1 fun σ2 H2 => L2.wipe σ2 vs = L2.wipe σ vs ∧ tt σ2 H2 fun b H3 => if b = true then te σ2 H3 fun y H4 => R (some y) H4 else R none H3)
    (A : Aft L Wx σ m G H (lciL f [] xs s) fun d _ m' G' H' => ∀ a o, H a = none → G' a = none → a ∉ hs m' → H' a = some o → Cont L m' G' o d → Q (.ref a) H') :
    ∃ Wv : Nat → Nat → Hp → Prop, (∃ k, Wv 0 k (upd H Da (.lst []))) ∧ ∀ i k H', Wv i k H' →
      (J.stop i H' ∧ Q (.ref Da) H') ∨ (J.go i H' ∧ ∃ Nx : Hp → Prop, (∀ H'', Nx H'' → ∃ k', k' < k ∧ Wv (i + 1) k' H'') ∧ ∀ x H'', J.yld i H' x H'' → gT L W t x (L2.wipe σ vs) H'' fun σ2 H2 => L2.wipe σ2 vs = L2.wipe σ vs ∧ tt σ2 H2 fun b H3 =>
        if b = true then te σ2 H3 fun y H4 => ∃ acc, H4 Da = some (.lst acc) ∧ acc.length < sizeLine ∧ Nx (upd H4 Da (.lst (acc ++ [y]))) else Nx H3) := by
  refine ⟨fun i k H' => k = xs.length - i ∧ i ≤ xs.length ∧ ∃ s1 m1 G1 acc, Made L Da acc s1 m1 G1 H' ∧ From m G H Da m1 G1 H' ∧ P m1 G1 ∧ Aft L Wx σ m G H (lciL f acc (xs.drop i) s1) fun d _ m' G' H' => ∀ a o, H a = none → G' a = none → a ∉ hs m' → H' a = some o → Cont L m' G' o d → Q (.ref a) H',
    ⟨xs.length, by simp, Nat.zero_le _, s, m, G, [], ⟨w.lay hD _, w.sub.free hD, fun z => (w.off Da z).2 hD, [], upd_same, .nil⟩, ⟨List.prefix_refl _, Same.refl _, fun a x e h g _ => by rw [upd_ne e]; exact ⟨h, g⟩, fun a h h' => absurd h h'⟩, hP, A⟩, ?_⟩
  rintro i k H' ⟨rfl, hle, s1, m1, G1, acc, M, F, hP1, A1⟩
  by_cases hlt : i < xs.length
  · refine .inr ⟨S.go hP1 M.w hlt, fun H'' => i + 1 ≤ xs.length ∧ ∃ s1 m1 G1 acc, Made L Da acc s1 m1 G1 H'' ∧ From m G H Da m1 G1 H'' ∧ P m1 G1 ∧ Aft L Wx σ m G H (lciL f acc (xs.drop (i + 1)) s1) fun d _ m' G' H' => ∀ a o, H a = none → G' a = none → a ∉ hs m' → H' a = some o → Cont L m' G' o d → Q (.ref a) H', fun H'' h => ⟨xs.length - (i + 1), by omega, rfl, h.1, h.2⟩, fun x H'' y => ?_⟩
    obtain ⟨G2, d, t2, w2, hd, r2⟩ := S.yld hP1 M.w y hlt
    have M2 := M.step t2 w2
    have F2 := F.step hD w M.w t2
    have hdrop : xs.drop i = d :: xs.drop (i + 1) := by
      have h1 := List.drop_eq_getElem_cons hlt
      have h2 : xs[i] = d := by
        have := List.getElem?_eq_getElem hlt
        rw [hd] at this
        exact (Option.some.inj this).symm
      rw [h1, h2]
    rw [hdrop] at A1
    unfold lciL at A1
    cases hf : f d s1 with
    | st => rw [hf] at A1; exact False.elim A1
    | ex k ds s' => rw [hf] at A1; exact False.elim A1
    | ok o s3 =>
      rw [hf] at A1
      simp only [Rs.nox_ok, Rs.bind_ok] at A1
      refine turn w2 ((q.step (F2.stp hD)).wipe vs) r2 (R := fun ov H4 => match ov with
        | none => i + 1 ≤ xs.length ∧ ∃ s1 m1 G1 acc, Made L Da acc s1 m1 G1 H4 ∧ From m G H Da m1 G1 H4 ∧ P m1 G1 ∧ Aft L Wx σ m G H (lciL f acc (xs.drop (i + 1)) s1) fun d _ m' G' H' => ∀ a o, H a = none → G' a = none → a ∉ hs m' → H' a = some o → Cont L m' G' o d → Q (.ref a) H'
        | some y => ∃ acc, H4 Da = some (.lst acc) ∧ acc.length < sizeLine ∧ (i + 1 ≤ xs.length ∧ ∃ s1 m1 G1 acc', Made L Da acc' s1 m1 G1 (upd H4 Da (.lst (acc ++ [y]))) ∧ From m G H Da m1 G1 (upd H4 Da (.lst (acc ++ [y]))) ∧ P m1 G1 ∧ Aft L Wx σ m G H (lciL f acc' (xs.drop (i + 1)) s1) fun d _ m' G' H' => ∀ a o, H a = none → G' a = none → a ∉ hs m' → H' a = some o → Cont L m' G' o d → Q (.ref a) H')) ?_
      rw [hf]
      intro m3 G3 H3 t3 w3
      have M3 := M2.step t3 w3
      have F3 := F2.step hD w w2 t3
      have P3 : P m3 G3 := S.mono (S.mono hP1 t2.pre t2.keep) t3.pre t3.keep
      cases o with
      | none => exact ⟨hlt, s3, m3, G3, acc, M3, F3, P3, A1⟩
      | some d' =>
        intro u ru
        obtain ⟨vs', h1, h2, M4⟩ := M3.put ru
        simp only at A1
        split at A1
        · rename_i hl
          exact ⟨vs', h1, by rw [h2, ← lim_eq]; exact hl, hlt, s3, m3, G3, acc ++ [d'], M4, F3.put, P3, A1⟩
        · exact False.elim A1
  · have e : i = xs.length := by omega
    subst e
    rw [List.drop_length] at A1
    unfold lciL at A1
    obtain ⟨vs', h1, r1⟩ := M.at_
    exact .inl ⟨S.stop hP1 M.w (Nat.le_refl _), A1 m1 G1 H' (F.stp hD) M.w Da (.lst vs') hD M.g M.n h1 (.lst r1)⟩
theorem lcL_is {f : D → Sto → Rs D} : ∀ (xs acc : List D) (s : Sto), lcL f acc xs s = lciL (fun x s => (f x s).bind fun d s => .ok (some d) s) acc xs s
  | [], acc, s => rfl
  | x :: xs, acc, s => by
    unfold lcL lciL
    cases f x s with
    | st => rfl
    | ex k ds s' => rfl
    | ok d s' =>
      simp only [Rs.nox_ok, Rs.bind_ok]
      split
      · exact lcL_is xs _ _
      · rfl
def noSetI : Expr → Bool
  | .Set .. => false
  | _ => true
theorem noSetI_is {e : Expr} {env : PySem.Env} (h : noSetI e = true) (x : Value) : foldedSetIterable e env x = pure x := by
  cases e <;> first | rfl | cases h
/-- what a comprehension's block knows -/
abbrev blkX (X : Cx) (scope : Scope) (s : Shared) (H : Hp) (C : Addr) (cl : List (Str × Addr)) (fp : List Addr) : Cx := X.blk s H scope (compEnvC scope cl C X.env) fp
theorem blk_tk {scope : Scope} {s : Shared} {H : Hp} {C : Addr} {cl : List (Str × Addr)} {fp : List Addr} : Takes (blkX X scope s H C cl fp) WF := takes0
theorem lc_imp {t : Tg} {r : Sr} {e' : E} {vs : List Nat} (ho : vs = slotsT t) {σ : L2.St} {Q : VK} (h : tO L c Wx W (.lc e' t r) σ H Q) : tLc (tSr L c Wx W r) (gT L W t) tYes (tE L c WF W e') vs σ H Q := by
  obtain ⟨ρ, s, m, G, w, q, A⟩ := h
  unfold ev at A
  refine ⟨ρ, s, m, G, w, q, (Aft.bind w A).imp fun xs s1 m1 G1 H1 t1 w1 A1 J P S hP Da hD => ?_⟩
  rw [lcL_is] at A1
  have A2 : Aft L Wx σ m1 G1 H1 _ fun d _ m' G' H' => ∀ a o, H1 a = none → G' a = none → a ∉ hs m' → H' a = some o → Cont L m' G' o d → Q (.ref a) H' := A1.imp fun d s' m' G' H' _ _ k a o h1 => k a o (Stp.back w1 t1 h1)
  refine lc_walk S hD w1 hP (q.step t1) ho (fun {x s2 m2 G2 H2 v R} w2 q2 r2 B => ?_) A2
  rw [ho] at q2 B ⊢
  cases eb : bindT t x (wipeE ρ (slotsT t)) with
  | none => simp only [eb] at B; exact False.elim B
  | some ρ' =>
    simp only [eb] at B
    refine ⟨_, s2, m2, G2, x, ρ', w2, q2, r2, eb, fun σ' q' o' => ⟨wipe_off o', ρ', s2, m2, G2, w2, q', ?_⟩⟩
    revert B
    cases ev c e' ρ' s2 with
    | st => exact id
    | ex k ds s' => exact fun B => B
    | ok d s' => exact fun B m' G' H' t' w' u ru => B m' G' H' t' w' u ru
theorem lci_imp {t : Tg} {r : Sr} {e' c' : E} {vs : List Nat} (ho : vs = slotsT t) {σ : L2.St} {Q : VK} (h : tO L c Wx W (.lci e' t r c') σ H Q) : tLc (tSr L c Wx W r) (gT L W t) (tT L c WF W c') (tE L c WF W e') vs σ H Q := by
  obtain ⟨ρ, s, m, G, w, q, A⟩ := h
  unfold ev at A
  refine ⟨ρ, s, m, G, w, q, (Aft.bind w A).imp fun xs s1 m1 G1 H1 t1 w1 A1 J P S hP Da hD => ?_⟩
  have A2 : Aft L Wx σ m1 G1 H1 _ fun d _ m' G' H' => ∀ a o, H1 a = none → G' a = none → a ∉ hs m' → H' a = some o → Cont L m' G' o d → Q (.ref a) H' := A1.imp fun d s' m' G' H' _ _ k a o h1 => k a o (Stp.back w1 t1 h1)
  refine lc_walk S hD w1 hP (q.step t1) ho (fun {x s2 m2 G2 H2 v R} w2 q2 r2 B => ?_) A2
  rw [ho] at q2 B ⊢
  cases eb : bindT t x (wipeE ρ (slotsT t)) with
  | none => simp only [eb] at B; exact False.elim B
  | some ρ' =>
    simp only [eb] at B
    rw [← Rs.bind_assoc (ev c c' ρ' s2) (fun x s => Rs.opt (truD x) s)] at B
    refine ⟨_, s2, m2, G2, x, ρ', w2, q2, r2, eb, fun σ' q' o' => ⟨wipe_off o', ?_⟩⟩
    refine goT w2 q' (Aft.bind w2 B) fun k s3 m3 G3 H3 t3 w3 q3 B3 => ?_
    cases k with
    | false => exact Aft.ok B3 w3
    | true =>
      simp only [if_true] at B3 ⊢
      refine ⟨ρ', s3, m3, G3, w3, q3, ?_⟩
      revert B3
      cases ev c e' ρ' s3 with
      | st => exact id
      | ex k ds s' => exact fun B => B
      | ok d s' => exact fun B m' G' H' t' w' u ru => B m' G' H' t' w' u ru
theorem s_lc (g : Gd L X Wx) {elt iter : Expr} {scope : Scope} {own : List (Str × Nat)} {t : Tg} {r : Sr} {e' : E} (ho : own.map (·.2) = slotsT t) (hi : PI X tg iter (tSr L c Wx W r)) (ok : BlkOk X.N X.env.scope scope own)
    (hg : ∀ (s : Shared) (H : Hp) (C : Addr) (cl : List (Str × Addr)) (fp : List Addr), PG (blkX X scope s H C cl fp) tg (gT L W t))
    (he : ∀ (s : Shared) (H : Hp) (C : Addr) (cl : List (Str × Addr)) (fp : List Addr), PE (blkX X scope s H C cl fp) elt (tE L c WF W e')) (hns : noSetI iter = true) :
    PE X (.ListComp elt [⟨tg, iter, [], 0⟩] scope pos) (tO L c Wx W (.lc e' t r)) :=
  PE.imp (pe_lc g.calm g.nd hi ok hg (fun _ _ _ _ _ => pts_nil) he (noSetI_is hns)) fun σ H Q h => lc_imp ho h
theorem s_lci (g : Gd L X Wx) {elt iter cnd : Expr} {scope : Scope} {own : List (Str × Nat)} {t : Tg} {r : Sr} {e' c' : E} (ho : own.map (·.2) = slotsT t) (hi : PI X tg iter (tSr L c Wx W r)) (ok : BlkOk X.N X.env.scope scope own)
    (hg : ∀ (s : Shared) (H : Hp) (C : Addr) (cl : List (Str × Addr)) (fp : List Addr), PG (blkX X scope s H C cl fp) tg (gT L W t))
    (hc : ∀ (s : Shared) (H : Hp) (C : Addr) (cl : List (Str × Addr)) (fp : List Addr), PT (blkX X scope s H C cl fp) cnd (tT L c WF W c'))
    (he : ∀ (s : Shared) (H : Hp) (C : Addr) (cl : List (Str × Addr)) (fp : List Addr), PE (blkX X scope s H C cl fp) elt (tE L c WF W e')) (hns : noSetI iter = true) :
    PE X (.ListComp elt [⟨tg, iter, [cnd], 0⟩] scope pos) (tO L c Wx W (.lci e' t r c')) :=
  PE.imp (pe_lc g.calm g.nd hi ok hg (fun s H C cl fp => pts_one (hc s H C cl fp)) he (noSetI_is hns)) fun σ H Q h => lci_imp ho h
/-- y = [..] -/
theorem s_setLc (g : Gd L X Wx) {i : Nat} {y : Str} {py spos : Pos} {elt iter : Expr} {scope : Scope} {own : List (Str × Nat)} {t : Tg} {r : Sr} {e' : E} (hy : X.N[i]? = some y) (hyl : X.env.scope.names.lookup y = some .local)
    (hsw : swapsWith (.ListComp elt [⟨tg, iter, [], 0⟩] scope pos) (some (.Name y py)) spos.line X.env = pure true) (ho : own.map (·.2) = slotsT t) (hi : PI X tg iter (tSr L c Wx W r)) (ok : BlkOk X.N X.env.scope scope own)
    (hg : ∀ (s : Shared) (H : Hp) (C : Addr) (cl : List (Str × Addr)) (fp : List Addr), PG (blkX X scope s H C cl fp) tg (gT L W t))
    (he : ∀ (s : Shared) (H : Hp) (C : Addr) (cl : List (Str × Addr)) (fp : List Addr), PE (blkX X scope s H C cl fp) elt (tE L c WF W e')) (hns : noSetI iter = true) :
    PS X (.Assign [.Name y py] (.ListComp elt [⟨tg, iter, [], 0⟩] scope pos) spos) (tAsg (tO L c Wx W (.lc e' t r)) (gName i)) :=
  PS.imp (ps_setLc g.calm g.nd hy hyl hsw hi ok hg (fun _ _ _ _ _ => pts_nil) he (noSetI_is hns)) fun Dn σ H h => lc_imp ho h
theorem s_setLci (g : Gd L X Wx) {i : Nat} {y : Str} {py spos : Pos} {elt iter cnd : Expr} {scope : Scope} {own : List (Str × Nat)} {t : Tg} {r : Sr} {e' c' : E} (hy : X.N[i]? = some y) (hyl : X.env.scope.names.lookup y = some .local)
    (hsw : swapsWith (.ListComp elt [⟨tg, iter, [cnd], 0⟩] scope pos) (some (.Name y py)) spos.line X.env = pure true) (ho : own.map (·.2) = slotsT t) (hi : PI X tg iter (tSr L c Wx W r)) (ok : BlkOk X.N X.env.scope scope own)
    (hg : ∀ (s : Shared) (H : Hp) (C : Addr) (cl : List (Str × Addr)) (fp : List Addr), PG (blkX X scope s H C cl fp) tg (gT L W t))
    (hc : ∀ (s : Shared) (H : Hp) (C : Addr) (cl : List (Str × Addr)) (fp : List Addr), PT (blkX X scope s H C cl fp) cnd (tT L c WF W c'))
    (he : ∀ (s : Shared) (H : Hp) (C : Addr) (cl : List (Str × Addr)) (fp : List Addr), PE (blkX X scope s H C cl fp) elt (tE L c WF W e')) (hns : noSetI iter = true) :
    PS X (.Assign [.Name y py] (.ListComp elt [⟨tg, iter, [cnd], 0⟩] scope pos) spos) (tAsg (tO L c Wx W (.lci e' t r c')) (gName i)) :=
  PS.imp (ps_setLc g.calm g.nd hy hyl hsw hi ok hg (fun s H C cl fp => pts_one (hc s H C cl fp)) he (noSetI_is hns)) fun Dn σ H h => lci_imp ho h
end
end MP

end
section
set_option Elab.async false
set_option linter.all false
set_option maxRecDepth 100000
set_option maxHeartbeats 1000000
/-! Statements. -/
namespace MP
open PySem PySem.Spec PyProof.Rows L2

/-- where a def's body began -/
structure Org where
  s : Sto
  m : List (Addr × Addr)
  G : Hp
  H : Hp
  /-- in an __init__: the new object, slot 0 -/
  slf : Option Addr := none
/-- a state of the body -/
structure At (L : Lay) (O : Org) (W : List Nat) (ρ : Env) (s : Sto) (m : List (Addr × Addr)) (G : Hp) (σ : L2.St) (H : Hp) : Prop where
  w0 : Wd L O.s O.m O.G O.H
  w : Wd L s m G H
  t : Stp O.m O.G O.H m G H
  q : Sl L W ρ σ m G H
  nw : ∀ i d a, i ∈ W → ρ[i]? = some (some d) → σ[i]? = some (some (.ref a)) → O.H a = none
  fx : ∀ x, O.slf = some x → σ[0]? = some (some (.ref x)) ∧ 0 ∈ W
abbrev WE' (Xk : XK) : WX := fun cl d _ H => Xk cl d H
def AftS (L : Lay) (O : Org) (Xk : XK) (W : List Nat) (fr : Bool) (Dn : Ends) (m0 : List (Addr × Addr)) (G0 : Hp) (r : R) : Prop :=
  match r with
  | .nx ρ s => ∀ σ m G H, m0 <+: m → Same G0 G → At L O W ρ s m G σ H → Dn.nx σ H
  | .rt d s => ∀ m G H, Stp O.m O.G O.H m G H → Wd L s m G H → if fr = true then ∀ a o, O.H a = none → G a = none → a ∉ hs m → H a = some o → Cont L m G o d → Dn.rt (.ref a) H else ∀ v, Rep L m G v d → Dn.rt v H
  | .ex k ds _ s => ∀ m G H dd, Stp O.m O.G O.H m G H → Wd L s m G H → ExR L m G H k ds dd → Xk (.ref (L.cls k)) dd H
  | .st => False
section
variable (L : Lay) (c : Cfg) (O : Org) (Xk : XK) (W W' : List Nat) (fr : Bool)
def tS (st : S) : TS := fun Dn σ H => ∃ ρ s m G, At L O W ρ s m G σ H ∧ AftS L O Xk W' fr Dn m G (exe c st ρ s)
def tSs (st : Ss) : TS := fun Dn σ H => ∃ ρ s m G, At L O W ρ s m G σ H ∧ AftS L O Xk W' fr Dn m G (exs c st ρ s)
end
section
variable {L : Lay} {c : Cfg} {O : Org} {Xk : XK} {W W' W'' : List Nat} {fr : Bool} {X : Cx} {pos p : Pos} {s s1 : Sto} {m m1 : List (Addr × Addr)} {G H G1 H1 : Hp} {σ : L2.St} {ρ : Env} {Dn : Ends}
theorem At.step (a : At L O W ρ s m G σ H) (t : Stp m G H m1 G1 H1) (w1 : Wd L s1 m1 G1 H1) : At L O W ρ s1 m1 G1 σ H1 := ⟨a.w0, w1, Stp.trans a.w a.w0 a.t t, a.q.step t, a.nw, a.fx⟩
theorem AftS.mono {r : R} {m' : List (Addr × Addr)} {G' : Hp} (A : AftS L O Xk W fr Dn m G r) (hm : m <+: m') (hg : Same G G') : AftS L O Xk W fr Dn m' G' r := by
  cases r with
  | nx ρ s => exact fun σ m2 G2 H2 h1 h2 => A σ m2 G2 H2 (hm.trans h1) (hg.trans h2)
  | rt d s => exact A
  | ex k ds ρ s => exact A
  | st => exact A
/-- a value on, in a statement -/
theorem sE {e : E} {Rp : V → Hp → Prop} {f : D → Sto → R} (a : At L O W ρ s m G σ H) (A : AftS L O Xk W' fr Dn m G ((ev c e ρ s).go ρ f))
    (h : ∀ d s1 m1 G1 H1 v, At L O W ρ s1 m1 G1 σ H1 → Rep L m1 G1 v d → AftS L O Xk W' fr Dn m1 G1 (f d s1) → Rp v H1) : tE L c (WE' Xk) W e σ H Rp := by
  refine ⟨ρ, s, m, G, a.w, a.q, ?_⟩
  cases ee : ev c e ρ s with
  | st => rw [ee] at A; exact A
  | ex k ds s' => rw [ee] at A; exact fun m' G' H' dd t w' x => A m' G' H' dd (Stp.trans a.w a.w0 a.t t) w' x
  | ok d s1 => rw [ee] at A; exact fun m' G' H' t w' v r => h d s1 m' G' H' v (a.step t w') r (A.mono t.pre t.keep)
theorem sB {e : E} {Rp : V → Hp → Prop} {f : D → Sto → R} (a : At L O W ρ s m G σ H) (A : AftS L O Xk W' fr Dn m G ((ev c e ρ s).go ρ f))
    (h : ∀ d s1 m1 G1 H1 v, At L O W ρ s1 m1 G1 σ H1 → RB L m1 G1 H1 v d → AftS L O Xk W' fr Dn m1 G1 (f d s1) → Rp v H1) : tB L c (WE' Xk) W e σ H Rp := by
  refine ⟨ρ, s, m, G, a.w, a.q, ?_⟩
  cases ee : ev c e ρ s with
  | st => rw [ee] at A; exact A
  | ex k ds s' => rw [ee] at A; exact fun m' G' H' dd t w' x => A m' G' H' dd (Stp.trans a.w a.w0 a.t t) w' x
  | ok d s1 => rw [ee] at A; exact fun m' G' H' t w' v r => h d s1 m' G' H' v (a.step t w') r (A.mono t.pre t.keep)
theorem sO {e : E} {Rp : V → Hp → Prop} {f : D → Sto → R} (a : At L O W ρ s m G σ H) (A : AftS L O Xk W' fr Dn m G ((ev c e ρ s).go ρ f))
    (h : ∀ d s1 m1 G1 H1 x o, At L O W ρ s1 m1 G1 σ H1 → H x = none → G1 x = none → x ∉ hs m1 → H1 x = some o → Cont L m1 G1 o d → AftS L O Xk W' fr Dn m1 G1 (f d s1) → Rp (.ref x) H1) : tO L c (WE' Xk) W e σ H Rp := by
  refine ⟨ρ, s, m, G, a.w, a.q, ?_⟩
  cases ee : ev c e ρ s with
  | st => rw [ee] at A; exact A
  | ex k ds s' => rw [ee] at A; exact fun m' G' H' dd t w' x => A m' G' H' dd (Stp.trans a.w a.w0 a.t t) w' x
  | ok d s1 => rw [ee] at A; exact fun m' G' H' t w' x o h1 h2 h3 h4 h5 => h d s1 m' G' H' x o (a.step t w') h1 h2 h3 h4 h5 (A.mono t.pre t.keep)
theorem sEs {es : Es} {Rp : List V → Hp → Prop} {f : List D → Sto → R} (a : At L O W ρ s m G σ H) (A : AftS L O Xk W' fr Dn m G ((evs c es ρ s).go ρ f))
    (h : ∀ d s1 m1 G1 H1 v, At L O W ρ s1 m1 G1 σ H1 → Reps L m1 G1 v d → AftS L O Xk W' fr Dn m1 G1 (f d s1) → Rp v H1) : tEs L c (WE' Xk) W es σ H Rp := by
  refine ⟨ρ, s, m, G, a.w, a.q, ?_⟩
  cases ee : evs c es ρ s with
  | st => rw [ee] at A; exact A
  | ex k ds s' => rw [ee] at A; exact fun m' G' H' dd t w' x => A m' G' H' dd (Stp.trans a.w a.w0 a.t t) w' x
  | ok d s1 => rw [ee] at A; exact fun m' G' H' t w' v r => h d s1 m' G' H' v (a.step t w') r (A.mono t.pre t.keep)
theorem go_assoc {α β : Type} (r : Rs α) (g : α → Sto → Rs β) (f : β → Sto → R) : (r.bind g).go ρ f = r.go ρ fun a s => (g a s).go ρ f := by cases r <;> rfl
theorem sT {e : E} {Rp : Bool → Hp → Prop} {f : Bool → Sto → R} (a : At L O W ρ s m G σ H) (A : AftS L O Xk W' fr Dn m G (((ev c e ρ s).bind fun x s => Rs.opt (truD x) s).go ρ f))
    (h : ∀ d s1 m1 G1 H1, At L O W ρ s1 m1 G1 σ H1 → AftS L O Xk W' fr Dn m1 G1 (f d s1) → Rp d H1) : tT L c (WE' Xk) W e σ H Rp := by
  refine ⟨ρ, s, m, G, a.w, a.q, ?_⟩
  cases ee : (ev c e ρ s).bind fun x s => Rs.opt (truD x) s with
  | st => rw [ee] at A; exact A
  | ex k ds s' => rw [ee] at A; exact fun m' G' H' dd t w' x => A m' G' H' dd (Stp.trans a.w a.w0 a.t t) w' x
  | ok d s1 => rw [ee] at A; exact fun m' G' H' t w' => h d s1 m' G' H' (a.step t w') (A.mono t.pre t.keep)
/-- a slot that owns nothing is set by a target -/
theorem At.bind (a : At L O W ρ s m G σ H) {t : Tg} {ρ' : Env} {σ' : L2.St} (hd : ∀ i, i ∈ slotsT t → i ∉ W) (q : Sl L W ρ' σ' m G H) (o : offT (slotsT t) σ σ') (he : ∀ j, j ∉ slotsT t → ρ'[j]? = ρ[j]?) : At L O W ρ' s m G σ' H :=
  ⟨a.w0, a.w, a.t, q, fun i d x hi h1 h2 => by
    have hn : i ∉ slotsT t := fun z => hd i z hi
    rw [o.2 i hn] at h2
    rw [he i hn] at h1
    exact a.nw i d x hi h1 h2, fun x h => by
    obtain ⟨h1, h2⟩ := a.fx x h
    exact ⟨by rw [o.2 0 fun z => hd 0 z h2]; exact h1, h2⟩⟩
mutual
theorem bindT_off : ∀ {t : Tg} {d : D} {ρ ρ' : Env}, bindT t d ρ = some ρ' → ∀ j, j ∉ slotsT t → ρ'[j]? = ρ[j]?
  | .nm i, d, ρ, ρ', h, j, hj => by
    simp only [bindT, Option.some.injEq] at h
    subst h
    exact List.getElem?_set_ne (fun z => hj (by simp [slotsT, z]))
  | .tp ts, .tup ds, ρ, ρ', h, j, hj => by
    simp only [bindT] at h
    exact bindTs_off h j (by unfold slotsT at hj; exact hj)
  | .tp ts, .lst ds, ρ, ρ', h, j, hj => by
    simp only [bindT] at h
    exact bindTs_off h j (by unfold slotsT at hj; exact hj)
  | .tp ts, .non, ρ, ρ', h, j, hj => by simp [bindT] at h
  | .tp ts, .bl _, ρ, ρ', h, j, hj => by simp [bindT] at h
  | .tp ts, .int _, ρ, ρ', h, j, hj => by simp [bindT] at h
  | .tp ts, .str _, ρ, ρ', h, j, hj => by simp [bindT] at h
  | .tp ts, .dK _, ρ, ρ', h, j, hj => by simp [bindT] at h
  | .tp ts, .dT _, ρ, ρ', h, j, hj => by simp [bindT] at h
  | .tp ts, .ins _ _, ρ, ρ', h, j, hj => by simp [bindT] at h
  | .tp ts, .fn _, ρ, ρ', h, j, hj => by simp [bindT] at h
  | .tp ts, .hnd _, ρ, ρ', h, j, hj => by simp [bindT] at h
  | .tp ts, .scr _, ρ, ρ', h, j, hj => by simp [bindT] at h
theorem bindTs_off : ∀ {ts : Tgs} {ds : List D} {ρ ρ' : Env}, bindTs ts ds ρ = some ρ' → ∀ j, j ∉ slotsTs ts → ρ'[j]? = ρ[j]?
  | .nil, [], ρ, ρ', h, j, hj => by simp only [bindTs, Option.some.injEq] at h; rw [h]
  | .nil, _ :: _, _, _, h, _, _ => by simp [bindTs] at h
  | .cons _ _, [], _, _, h, _, _ => by simp [bindTs] at h
  | .cons t ts, d :: ds, ρ, ρ', h, j, hj => by
    unfold bindTs at h
    unfold slotsTs at hj
    split at h
    · rename_i ρ1 e1
      rw [bindTs_off h j fun z => hj (List.mem_append_right _ z), bindT_off e1 j fun z => hj (List.mem_append_left _ z)]
    · cases h
end
/-! ### blocks -/
theorem AftS.bind {r : R} {f : Env → Sto → R} (A : AftS L O Xk W' fr Dn m G (r.bind f)) : AftS L O Xk W'' fr { Dn with nx := fun σ H => ∃ ρ s m G, At L O W'' ρ s m G σ H ∧ AftS L O Xk W' fr Dn m G (f ρ s) } m G r := by
  cases r with
  | nx ρ s => exact fun σ m G H h1 h2 a => ⟨ρ, s, m, G, a, A.mono h1 h2⟩
  | rt d s => exact A
  | ex k ds ρ s => exact A
  | st => exact A
theorem ss_nil : PSs X [] (tSs L c O Xk W W fr .nil) := PSs.imp pss_nil fun Dn σ H ⟨ρ, s, m, G, a, A⟩ => by
  unfold exs at A
  exact A σ m G H (List.prefix_refl _) (Same.refl _) a
theorem ss_cons {st : Stmt} {r : List Stmt} {st' : S} {r' : Ss} (h1 : PS X st (tS L c O Xk W W'' fr st')) (h2 : PSs X r (tSs L c O Xk W'' W' fr r')) : PSs X (st :: r) (tSs L c O Xk W W' fr (.cons st' r')) := by
  refine PSs.imp (pss_cons h1 h2) fun Dn σ H ⟨ρ, s, m, G, a, A⟩ => ?_
  unfold exs at A
  refine ⟨ρ, s, m, G, a, ?_⟩
  have := AftS.bind (W'' := W'') A
  exact this
theorem ss_frz {r : List Stmt} {r' : Ss} {i : Nat} (h2 : PSs X r (tSs L c O Xk (W.filter (· != i)) W' fr r')) (hi : i ∈ W) (h0 : O.slf = none ∨ i ≠ 0) : PSs X r (tSs L c O Xk W W' fr (.cons (.frz i) r')) := by
  refine PSs.imp h2 fun Dn σ H ⟨ρ, s, m, G, a, A⟩ => ?_
  unfold exs exe at A
  simp only [R.bind_nx] at A
  obtain ⟨G', h1, h2, h3, h4⟩ := a.q.give a.w hi
  refine ⟨ρ, s, m, G', ⟨a.w0, h3, ⟨a.t.pre, a.t.keep.trans h1, fun b x hb g n => ?_, a.t.fresh⟩, h4, fun j d x hj => a.nw j d x (List.mem_filter.mp hj).1, fun x h => ?_⟩, A.mono (List.prefix_refl _) h1⟩
  · obtain ⟨y1, y2⟩ := a.t.frame b x hb g n
    refine ⟨y1, h2 b x y1 y2 (a.t.off hb n) fun d e z => ?_⟩
    have := a.nw i d b hi e z
    rw [hb] at this; cases this
  · obtain ⟨z1, z2⟩ := a.fx x h
    refine ⟨z1, List.mem_filter.mpr ⟨z2, ?_⟩⟩
    rcases h0 with h0 | h0
    · rw [h0] at h; cases h
    · simp only [bne_iff_ne, ne_eq]; exact fun e => h0 e.symm

/-! ### assignments -/
def isComp : Expr → Bool
  | .ListComp .. => true
  | .SetComp .. => true
  | .DictComp .. => true
  | _ => false
theorem noComp_sw {e : Expr} {t : Option Expr} {l : Nat} {env : PySem.Env} (h : isComp e = false) : swapsWith e t l env = pure false := by
  cases e <;> first | rfl | cases h
/-- no swapped stores: not both are tuples -/
def noPair : Expr → Expr → Bool
  | .Tuple .., .Tuple .. => false
  | .List .., .Tuple .. => false
  | _, _ => true
theorem noPair_is {tg e : Expr} {env : PySem.Env} (h : noPair tg e = true) : swappedStores [tg] e env = pure none := by
  cases tg <;> cases e <;> first | rfl | cases h
theorem one_target {tg : Expr} {env : PySem.Env} (h : noStarT tg = true) : (assignEach [tg] env).map (·.2) = [assign tg env] := by
  rw [assignEach_cons h]; rfl
theorem ss_asg {tg e : Expr} {t : Tg} {e' : E} (hd : ∀ i, i ∈ slotsT t → i ∉ W) (he : PE X e (tE L c (WE' Xk) W e')) (hg : PG X tg (gT L W t)) (hc : swapsWith e (some tg) pos.line X.env = pure false) (hp : swappedStores [tg] e X.env = pure none) (ht : noStarT tg = true) :
    PS X (.Assign [tg] e pos) (tS L c O Xk W W fr (.asg t e')) := by
  refine PS.imp (ps_asg he hg hc hp (one_target ht)) fun Dn σ H ⟨ρ, s, m, G, a, A⟩ => ?_
  unfold exe at A
  refine sE a A fun d s1 m1 G1 H1 v a1 r1 A1 => ?_
  cases eb : bindT t d ρ with
  | none => rw [eb] at A1; exact False.elim A1
  | some ρ' =>
    rw [eb] at A1
    exact ⟨ρ, s1, m1, G1, d, ρ', a1.w, a1.q, r1, eb, fun σ' q' o' => A1 σ' m1 G1 H1 (List.prefix_refl _) (Same.refl _) (a1.bind hd q' o' (bindT_off eb))⟩
/-- x = [..] with the store inside -/
theorem lc_asg {i : Nat} {st : Stmt} {e' : E} (hW : i ∉ W) (h : PS X st (tAsg (tO L c (WE' Xk) W e') (gName i))) : PS X st (tS L c O Xk W W fr (.asg (.nm i) e')) := by
  refine PS.imp h fun Dn σ H ⟨ρ, s, m, G, a, A⟩ => ?_
  unfold exe at A
  refine sO a A fun d s1 m1 G1 H1 x o a1 h1 h2 h3 h4 h5 A1 => ?_
  simp only [bindT, R.opt_some] at A1
  have sm : Same G1 (upd G1 x o) := fun b y z => by
    have : b ≠ x := fun e => by rw [e, h2] at z; cases z
    rw [upd_ne this]; exact z
  have nx : ∀ b y, H1 b = some y → G1 b = none → H b = some y → upd G1 x o b = none := fun b y hb g z => by
    have : b ≠ x := fun e => by rw [e, h1] at z; cases z
    rw [upd_ne this]; exact g
  have ox : O.H x = none := Stp.back a.w a.t h1
  have w2 := a1.w.settle h4 h3
  have q2 : Sl L W ρ σ m1 (upd G1 x o) H1 := by
    refine ⟨a1.q.len, fun j d' e n => ?_, fun j d' e n => ?_, a1.q.dj⟩
    · obtain ⟨v, y1, y2⟩ := a1.q.sh j d' e n
      exact ⟨v, y1, y2.mono (List.prefix_refl _) sm⟩
    · obtain ⟨b, ob, y1, y2, y3, y4, y5⟩ := a1.q.ow j d' e n
      obtain ⟨b', ob', z1, z2, z3, z4, z5⟩ := a.q.ow j d' e n
      have eb : b' = b := by rw [y1] at z1; cases z1; rfl
      subst eb
      have : b' ≠ x := fun e => by rw [e, h1] at z4; cases z4
      exact ⟨b', ob, y1, by rw [upd_ne this]; exact y2, y3, y4, y5.mono (List.prefix_refl _) sm⟩
  refine A1 _ m1 (upd G1 x o) H1 (List.prefix_refl _) sm ⟨a1.w0, w2, ⟨a1.t.pre, a1.t.keep.trans sm, fun b y hb g n => ?_, a1.t.fresh⟩, q2.set hW (.obj upd_same (h5.mono (List.prefix_refl _) sm)), fun j d' y hj e1 e2 => ?_, fun y h => ?_⟩
  · obtain ⟨z1, z2⟩ := a1.t.frame b y hb g n
    have : b ≠ x := fun e => by rw [e, ox] at hb; cases hb
    exact ⟨z1, by rw [upd_ne this]; exact z2⟩
  · have hji : j ≠ i := fun e => hW (e ▸ hj)
    rw [List.getElem?_set_ne (Ne.symm hji)] at e1 e2
    exact a1.nw j d' y hj e1 e2
  · obtain ⟨z1, z2⟩ := a1.fx y h
    exact ⟨by rw [List.getElem?_set_ne (fun e => hW (by rw [e]; exact z2))]; exact z1, z2⟩
/-- x = a new object, its owner from now on -/
theorem own_at {i : Nat} {x : Addr} {o : HO} {d : D} (hW : i ∉ W) (a : At L O W ρ s m G σ H) (a1 : At L O W ρ s1 m1 G1 σ H1) (h1 : H x = none) (h2 : G1 x = none) (h3 : x ∉ hs m1) (h4 : H1 x = some o) (h5 : Cont L m1 G1 o d) :
    At L O (i :: W) (ρ.set i (some d)) s1 m1 G1 (σ.set i (some (.ref x))) H1 := by
  have ox : O.H x = none := Stp.back a.w a.t h1
  refine ⟨a1.w0, a1.w, a1.t, a1.q.own h2 h3 h4 h5 fun j d' hj hji e1 e2 => ?_, fun j d' y hj e1 e2 => ?_, fun y h => ?_⟩
  · obtain ⟨b', ob', z1, z2, z3, z4, z5⟩ := a.q.ow j d' e1 hj
    rw [e2] at z1; cases z1
    rw [h1] at z4; cases z4
  · rcases set_get e1 with ⟨rfl, z1, z2⟩ | ⟨z1, z2⟩
    · rw [List.getElem?_set_self (by rw [← a1.q.len]; exact z2)] at e2
      cases e2
      exact ox
    · rw [List.getElem?_set_ne (Ne.symm z1)] at e2
      exact a1.nw j d' y ((List.mem_cons.mp hj).resolve_left z1) z2 e2
  · obtain ⟨z1, z2⟩ := a1.fx y h
    exact ⟨by rw [List.getElem?_set_ne (fun e => hW (by rw [e]; exact z2))]; exact z1, List.mem_cons_of_mem _ z2⟩
theorem ss_own {i : Nat} {st : Stmt} {e' : E} (hW : i ∉ W) (h : PS X st (tAsg (tO L c (WE' Xk) W e') (gName i))) : PS X st (tS L c O Xk W (i :: W) fr (.own i e')) := by
  refine PS.imp h fun Dn σ H ⟨ρ, s, m, G, a, A⟩ => ?_
  unfold exe at A
  refine sO a A fun d s1 m1 G1 H1 x o a1 h1 h2 h3 h4 h5 A1 => ?_
  split at A1
  · exact A1 _ m1 G1 H1 (List.prefix_refl _) (Same.refl _) (own_at hW a a1 h1 h2 h3 h4 h5)
  · exact False.elim A1
theorem ss_expr {e : Expr} {e' : E} (he : PE X e (tE L c (WE' Xk) W e')) (hc : isComp e = false) : PS X (.Expr e pos) (tS L c O Xk W W fr (.expr e')) := by
  refine PS.imp (ps_expr he (noComp_sw hc)) fun Dn σ H ⟨ρ, s, m, G, a, A⟩ => ?_
  unfold exe at A
  exact sE a A fun d s1 m1 G1 H1 v a1 r1 A1 => A1 σ m1 G1 H1 (List.prefix_refl _) (Same.refl _) a1
theorem ss_ret {e : Expr} {e' : E} (he : PE X e (tE L c (WE' Xk) W e')) : PS X (.Return (some e) pos) (tS L c O Xk W W' false (.ret e')) := by
  refine PS.imp (ps_ret he) fun Dn σ H ⟨ρ, s, m, G, a, A⟩ => ?_
  unfold exe at A
  exact sE a A fun d s1 m1 G1 H1 v a1 r1 A1 => A1 m1 G1 H1 a1.t a1.w v r1
theorem ss_retO {e : Expr} {e' : E} (he : PE X e (tO L c (WE' Xk) W e')) : PS X (.Return (some e) pos) (tS L c O Xk W W' true (.ret e')) := by
  refine PS.imp (ps_ret he) fun Dn σ H ⟨ρ, s, m, G, a, A⟩ => ?_
  unfold exe at A
  exact sO a A fun d s1 m1 G1 H1 x o a1 h1 h2 h3 h4 h5 A1 => A1 m1 G1 H1 a1.t a1.w x o (Stp.back a.w a.t h1) h2 h3 h4 h5
/-- return x, x the owner of what it gives -/
theorem ss_retV {i : Nat} {x : Str} {p : Pos} (hi : i ∈ W) (hN : X.N[i]? = some x) (hv : Vis X.env.scope x) (hd : (x == ("__debug__" : Str)) = false) (hcd : (x == ("__classdict__" : Str)) = false) : PS X (.Return (some (.Name x p)) pos) (tS L c O Xk W W' true (.ret (.var i))) := by
  refine PS.imp (ps_ret (pe_var hN hv hd hcd)) fun Dn σ H ⟨ρ, s, m, G, a, A⟩ => ?_
  unfold exe ev at A
  cases e : ρ[i]? with
  | none => rw [e] at A; exact False.elim A
  | some od =>
    cases od with
    | none => rw [e] at A; exact False.elim A
    | some d =>
      rw [e] at A
      obtain ⟨b, o, h1, h2, h3, h4, h5⟩ := a.q.ow i d e hi
      exact ⟨_, h1, A m G H a.t a.w b o (a.nw i d b hi e h1) h2 h3 h4 h5⟩
theorem ss_retn : PS X (.Return none pos) (tS L c O Xk W W' false .retn) := by
  refine PS.imp ps_retN fun Dn σ H ⟨ρ, s, m, G, a, A⟩ => ?_
  unfold exe at A
  exact A m G H a.t a.w _ .non
theorem ss_pass : PS X (.Pass pos) (tS L c O Xk W W fr .pass) := by
  refine PS.imp ps_pass fun Dn σ H ⟨ρ, s, m, G, a, A⟩ => ?_
  unfold exe at A
  exact A σ m G H (List.prefix_refl _) (Same.refl _) a
theorem ss_if {t : Expr} {x y : List Stmt} {t' : E} {x' y' : Ss} (ht : PT X t (tT L c (WE' Xk) W t')) (hx : PSs X x (tSs L c O Xk W W' fr x')) (hy : PSs X y (tSs L c O Xk W W' fr y')) : PS X (.If t x y pos) (tS L c O Xk W W' fr (.ite t' x' y')) := by
  refine PS.imp (ps_if ht hx hy) fun Dn σ H ⟨ρ, s, m, G, a, A⟩ => ?_
  unfold exe at A
  rw [← go_assoc (ev c t' ρ s) (fun x s => Rs.opt (truD x) s)] at A
  refine sT a A fun k s1 m1 G1 H1 a1 A1 => ?_
  cases k with
  | true => exact ⟨ρ, s1, m1, G1, a1, A1⟩
  | false => exact ⟨ρ, s1, m1, G1, a1, A1⟩
/-- code behind which nothing comes on -/
theorem ss_any {st : List Stmt} {st' : Ss} (h : PSs X st (tSs L c O Xk W W' fr st')) (hn : ∀ ρ s ρ' s', exs c st' ρ s ≠ .nx ρ' s') : PSs X st (tSs L c O Xk W W'' fr st') := by
  refine PSs.imp h fun Dn σ H ⟨ρ, s, m, G, a, A⟩ => ⟨ρ, s, m, G, a, ?_⟩
  revert A
  cases e : exs c st' ρ s with
  | nx ρ' s' => exact absurd e (hn ρ s ρ' s')
  | rt d s' => exact id
  | ex k ds ρ' s' => exact id
  | st => exact id
/-! ### loops -/
theorem ss_for (hp : PassesOwn (model X.prog X.w) X.A X.env X.xe) (g : Gd L X (WE' Xk)) {tg iter : Expr} {body : List Stmt} {t : Tg} {r : Sr} {b : Ss} (hd : ∀ i, i ∈ slotsT t → i ∉ W) (hi : PI X tg iter (tSr L c (WE' Xk) W r)) (hg : PG X tg (gT L W t)) (hb : PSs X body (tSs L c O Xk W W fr b)) (hns : noSetI iter = true) :
    PS X (.For tg iter body [] pos) (tS L c O Xk W W fr (.for t r b)) := by
  refine PS.imp (ps_for hp g.calm hi hg hb (noSetI_is hns)) fun Dn σ H ⟨ρ, s, m, G, a, A⟩ => ?_
  unfold exe at A
  refine ⟨ρ, s, m, G, a.w, a.q, ?_⟩
  cases ee : evr c r ρ s with
  | st => rw [ee] at A; exact A
  | ex k ds s' => rw [ee] at A; exact fun m' G' H' dd t w' x => A m' G' H' dd (Stp.trans a.w a.w0 a.t t) w' x
  | ok xs s1 =>
    rw [ee] at A
    simp only [Rs.go_ok] at A
    intro m1 G1 H1 t1 w1 J P S hP
    refine ⟨fun i k σ' H' => k = xs.length - i ∧ i ≤ xs.length ∧ ∃ ρ' s' m' G', At L O W ρ' s' m' G' σ' H' ∧ P m' G' ∧ AftS L O Xk W fr Dn m' G' (forL (fun x ρ s => match bindT t x ρ with
        | some ρ' => exs c b ρ' s
        | none => .st) (xs.drop i) ρ' s'), ⟨xs.length, by simp, Nat.zero_le _, ρ, s1, m1, G1, a.step t1 w1, hP, A.mono t1.pre t1.keep⟩, ?_⟩
    rintro i k σ' H' ⟨rfl, hle, ρ', s', m', G', a', hP', A'⟩
    by_cases hlt : i < xs.length
    · refine .inr ⟨S.go hP' a'.w hlt, fun σ'' H'' => i + 1 ≤ xs.length ∧ ∃ ρ' s' m' G', At L O W ρ' s' m' G' σ'' H'' ∧ P m' G' ∧ AftS L O Xk W fr Dn m' G' (forL (fun x ρ s => match bindT t x ρ with
        | some ρ' => exs c b ρ' s
        | none => .st) (xs.drop (i + 1)) ρ' s'), fun σ'' H'' h => ⟨xs.length - (i + 1), by omega, rfl, h.1, h.2⟩, fun x H'' y => ?_⟩
      obtain ⟨G2, d, t2, w2, hd', r2⟩ := S.yld hP' a'.w y hlt
      have a2 := a'.step t2 w2
      have P2 := S.mono hP' t2.pre t2.keep
      have hdrop : xs.drop i = d :: xs.drop (i + 1) := by
        have h1 := List.drop_eq_getElem_cons hlt
        have h2 : xs[i] = d := by
          have := List.getElem?_eq_getElem hlt
          rw [hd'] at this
          exact (Option.some.inj this).symm
        rw [h1, h2]
      rw [hdrop] at A'
      unfold forL at A'
      cases eb : bindT t d ρ' with
      | none => simp only [eb] at A'; exact False.elim A'
      | some ρ2 =>
        simp only [eb] at A'
        refine ⟨ρ', s', m', G2, d, ρ2, w2, a2.q, r2, eb, fun σ2 q2 o2 => ⟨ρ2, s', m', G2, a2.bind hd q2 o2 (bindT_off eb), ?_⟩⟩
        revert A'
        cases exs c b ρ2 s' with
        | nx ρ3 s3 =>
          intro A' σ3 m3 G3 H3 h1 h2 a3
          exact ⟨hlt, ρ3, s3, m3, G3, a3, S.mono P2 h1 h2, A'.mono (t2.pre.trans h1) (t2.keep.trans h2)⟩
        | rt d s3 => exact id
        | ex k ds ρ3 s3 => exact id
        | st => exact id
    · have e : i = xs.length := by omega
      subst e
      rw [List.drop_length] at A'
      unfold forL at A'
      exact .inl ⟨S.stop hP' a'.w (Nat.le_refl _), A' σ' m' G' H' (List.prefix_refl _) (Same.refl _) a'⟩
end
end MP

end
section
set_option Elab.async false
set_option linter.all false
set_option maxRecDepth 100000
set_option maxHeartbeats 1000000
/-! Further statements: while, methods of lists, stores into lists, dicts and objects, parallel assignments. -/
namespace MP
open PySem PySem.Spec PyProof.Rows L2
section
variable {L : Lay} {c : Cfg} {O : Org} {Xk : XK} {W W' W'' : List Nat} {fr : Bool} {X : Cx} {pos p : Pos} {s s1 : Sto} {m m1 : List (Addr × Addr)} {G H G1 H1 : Hp} {σ : L2.St} {ρ : Env} {Dn : Ends}
theorem ss_while (hp : PassesOwn (model X.prog X.w) X.A X.env X.xe) {t : Expr} {body : List Stmt} {t' : E} {b : Ss} (ht : PT X t (tT L c (WE' Xk) W t')) (hb : PSs X body (tSs L c O Xk W W fr b)) : PS X (.While t body [] pos) (tS L c O Xk W W fr (.whl t' b)) := by
  refine PS.imp (ps_while hp ht hb) fun Dn σ H ⟨ρ, s, m, G, a, A⟩ => ?_
  unfold exe at A
  refine ⟨fun k σ H => ∃ ρ s m G, At L O W ρ s m G σ H ∧ AftS L O Xk W fr Dn m G (whlL (fun ρ s => (ev c t' ρ s).bind fun x s => Rs.opt (truD x) s) (fun ρ s => exs c b ρ s) k ρ s), ⟨c.fuel, ρ, s, m, G, a, A⟩, ?_⟩
  rintro k σ' H' ⟨ρ', s', m', G', a', A'⟩
  cases k with
  | zero => exact False.elim A'
  | succ k =>
    unfold whlL at A'
    refine sT a' A' fun z s1 m1 G1 H1 a1 A1 => ?_
    cases z with
    | false => exact A1 σ' m1 G1 H1 (List.prefix_refl _) (Same.refl _) a1
    | true =>
      simp only [if_true] at A1 ⊢
      refine ⟨fun σ H => ∃ ρ s m G, At L O W ρ s m G σ H ∧ AftS L O Xk W fr Dn m G (whlL (fun ρ s => (ev c t' ρ s).bind fun x s => Rs.opt (truD x) s) (fun ρ s => exs c b ρ s) k ρ s), fun σ'' H'' h => ⟨k, Nat.lt_succ_self k, h⟩, ρ', s1, m1, G1, a1, ?_⟩
      revert A1
      cases exs c b ρ' s1 with
      | nx ρ2 s2 => exact fun A1 σ2 m2 G2 H2 h1 h2 a2 => ⟨ρ2, s2, m2, G2, a2, A1.mono h1 h2⟩
      | rt d s2 => exact id
      | ex k ds ρ2 s2 => exact id
      | st => exact id

/-! ### the methods append, extend -/
theorem few_one {e : Expr} {env : PySem.Env} {cpos : Pos} (h : noStar e = true) : ((backTo cpos (starEach [e] env)).all (fun x => !x.1) && (backToKw cpos (keywordEach [] env)).all (fun x => x.1.isSome)
      && decide (([e] : List Expr).length + ([] : List Keyword).length + (if ([] : List Keyword).isEmpty then 0 else 1) < 30)) = true := by
  rw [starOne h]; rfl
theorem name_base {x f : Str} {p : Pos} {env : PySem.Env} : attributeBase (.Name x p) f env (eval (.Name x p) env) = eval (.Name x p) env := base_is rfl
theorem At.put (a : At L O W ρ s m G σ H) {i : Nat} {x : Addr} {o : HO} {d0 d : D} (hi : i ∈ W) (e0 : ρ[i]? = some (some d0)) (hx : σ[i]? = some (some (.ref x))) (c : Cont L m G o d) : At L O W (ρ.set i (some d)) s m G σ (upd H x o) := by
  obtain ⟨b, ob, y1, y2, y3, y4, y5⟩ := a.q.ow i d0 e0 hi
  rw [hx] at y1; cases y1
  have ox := a.nw i d0 x hi e0 hx
  refine ⟨a.w0, a.w.put y2 y3 o, ⟨a.t.pre, a.t.keep, fun b y hb g n => ?_, a.t.fresh⟩, a.q.put hi e0 hx c, fun j d' y hj e1 e2 => ?_, a.fx⟩
  · have : b ≠ x := fun e => by rw [e, ox] at hb; cases hb
    rw [upd_ne this]; exact a.t.frame b y hb g n
  · rcases set_get e1 with ⟨rfl, _, _⟩ | ⟨_, z2⟩
    · rw [hx] at e2; cases e2; exact ox
    · exact a.nw j d' y hj z2 e2
theorem at'_some {ρ : Env} {i : Nat} {d : D} (h : at' ρ i = some d) : ρ[i]? = some (some d) := by
  unfold at' at h
  split at h
  · cases h; assumption
  · cases h
theorem ss_app (g : Gd L X (WE' Xk)) {i : Nat} {x : Str} {e : Expr} {e' : E} {px apos cpos : Pos} (hi : i ∈ W) (hN : X.N[i]? = some x) (hv : Vis X.env.scope x) (hd : (x == ("__debug__" : Str)) = false) (hcd : (x == ("__classdict__" : Str)) = false)
    (he : PE X e (tE L c (WE' Xk) W e')) (ns : noStar e = true) (hl : (apos.endLine == cpos.line) = true) : PS X (.Expr (.Call (.Attribute (.Name x px) "append" apos) [e] [] cpos) pos) (tS L c O Xk W W fr (.app i e')) := by
  refine PS.imp (ps_expr (pe_bm PySem.F.plainAttrs_list PySem.F.slot_list_append PySem.F.type_list_append mt_append (pe_var hN hv hd hcd) (pa_cons he pa_nil (starOne ns)) name_base (few_one ns) hl (starOne ns) backNil) (noComp_sw rfl)) fun Dn σ H ⟨ρ, s, m, G, a, A⟩ => ?_
  unfold exe at A
  cases e0 : at' ρ i with
  | none => rw [e0] at A; exact False.elim A
  | some d0 =>
    rw [e0] at A
    have e1 := at'_some e0
    obtain ⟨b, o, y1, y2, y3, y4, y5⟩ := a.q.ow i d0 e1 hi
    cases d0 with
    | lst ds =>
      cases y5 with
      | lst hr =>
        refine ⟨_, y1, .inl ⟨rfl, _, .of y4⟩, ?_⟩
        refine sE a A fun d s1 m1 G1 H1 v a1 r1 A1 => ?_
        split at A1
        · rename_i hl
          obtain ⟨b', o', z1, z2, z3, z4, z5⟩ := a1.q.ow i _ e1 hi
          rw [y1] at z1; cases z1
          cases z5 with
          | lst hr' => exact ⟨b, _, v, rfl, rfl, z4, by rw [hr'.length, ← lim_eq]; exact hl, A1 σ m1 G1 _ (List.prefix_refl _) (Same.refl _) (a1.put hi e1 y1 (.lst (hr'.append (.one r1))))⟩
        · exact False.elim A1
    | _ => exact False.elim A
theorem ss_ext (g : Gd L X (WE' Xk)) {i : Nat} {x : Str} {e : Expr} {e' : E} {px apos cpos : Pos} (hi : i ∈ W) (hN : X.N[i]? = some x) (hv : Vis X.env.scope x) (hd : (x == ("__debug__" : Str)) = false) (hcd : (x == ("__classdict__" : Str)) = false)
    (he : PE X e (tE L c (WE' Xk) W e')) (ns : noStar e = true) (hl : (apos.endLine == cpos.line) = true) : PS X (.Expr (.Call (.Attribute (.Name x px) "extend" apos) [e] [] cpos) pos) (tS L c O Xk W W fr (.ext i e')) := by
  refine PS.imp (ps_expr (pe_bm PySem.F.plainAttrs_list PySem.F.slot_list_extend PySem.F.type_list_extend mt_extend (pe_var hN hv hd hcd) (pa_cons he pa_nil (starOne ns)) name_base (few_one ns) hl (starOne ns) backNil) (noComp_sw rfl)) fun Dn σ H ⟨ρ, s, m, G, a, A⟩ => ?_
  unfold exe at A
  cases e0 : at' ρ i with
  | none => rw [e0] at A; exact False.elim A
  | some d0 =>
    rw [e0] at A
    have e1 := at'_some e0
    obtain ⟨b, o, y1, y2, y3, y4, y5⟩ := a.q.ow i d0 e1 hi
    cases d0 with
    | lst ds =>
      cases y5 with
      | lst hr =>
        refine ⟨_, y1, .inl ⟨rfl, _, .of y4⟩, ?_⟩
        refine sE a A fun d s1 m1 G1 H1 v a1 r1 A1 => ?_
        split at A1
        · split at A1
          · rename_i hl
            obtain ⟨b', o', z1, z2, z3, z4, z5⟩ := a1.q.ow i _ e1 hi
            rw [y1] at z1; cases z1
            have rb : RB L m1 G1 H1 v _ := .rep r1
            obtain ⟨b2, vs, rfl, h2, r2⟩ := rb.lst a1.w
            cases z5 with
            | lst hr' => exact ⟨b, b2, _, vs, rfl, rfl, z4, h2, by rw [hr'.length, r2.length, ← lim_eq]; exact hl, A1 σ m1 G1 _ (List.prefix_refl _) (Same.refl _) (a1.put hi e1 y1 (.lst (hr'.append r2)))⟩
          · exact False.elim A1
        · exact False.elim A1
    | _ => exact False.elim A

/-! ### x[k] = e -/
def rSetA : V → V → V → Hp → (Hp → Prop) → Prop := fun o i v H Q => rSetL o i v H Q ∨ ∃ a H', o = .ref a ∧ DPut H a i v H' ∧ Q H'
theorem set_all (hu : X.A.units + 1 < cLine) : PSet X rSetA := by
  intro pins s σ H o i v ov iv u Q I ro ri rv h
  rcases h with h | ⟨a, H', rfl, hp, q⟩
  · exact set_list pins s σ H o i v ov iv u Q I ro ri rv h
  · cases ro
    exact d_setItem hu I hp ri rv fun s' I' => ⟨H', I', q⟩
theorem sub_assign {o i : Expr} {env : PySem.Env} (h : noSlice i = true) (v : Value) : assign (.Subscript o i pos) env v = (do
      let ov ← holding [v] (eval o env)
      let iv ← holding [v, ov] (eval i env)
      standAt pos
      holding [v, ov, iv] (setItem ov iv v)
      release [v, ov, iv] []) := by
  cases i <;> first | rfl | cases h
theorem setD_of {x y v : D} {z : D} {b : Addr} {o : HO} {vy vv : V} {Q : Hp → Prop} (w : Wd L s m G H) (hb : H b = some o) (c : Cont L m G o x) (ry : RB L m G H vy y) (rv : Rep L m G vv v) (e : setD x y v = some z)
    (q : ∀ o', Cont L m G o' z → Q (upd H b o')) : rSetA (.ref b) vy vv H Q := by
  have dict : ∀ z', dput x y v = some z' → z' = z → rSetA (.ref b) vy vv H Q := fun z' ez' hz => by
    subst hz
    unfold dput at ez'
    split at ez'
    · split at ez'
      · split at ez'
        · rename_i kvs key v' k' hk hl
          cases ez'
          cases c with
          | dK h1 h2 =>
            have hy := key_of' hk (ry.flat (isFl_key hk))
            subst hy
            obtain ⟨p1, p2⟩ := put_keys (k := k') h1 h2 rv
            have hl' := congrArg List.length h1
            rw [List.length_map, List.length_map] at hl'
            exact .inr ⟨b, _, rfl, DPut.k hb (by rw [hl', ← lim_eq]; exact hl), q _ (.dK p1 p2)⟩
        · cases ez'
      · cases ez'
    · split at ez'
      · split at ez'
        · rename_i kvs ks v' k' hk hl
          cases ez'
          cases c with
          | dT h1 h2 =>
            obtain ⟨b2, vs, rfl, h3, r2⟩ := ry.tup w
            have hy := keys_of' hk r2
            subst hy
            obtain ⟨p1, p2⟩ := put_keys (k := k') h1 h2 rv
            have hl' := congrArg List.length h1
            rw [List.length_map, List.length_map] at hl'
            exact .inr ⟨b, _, rfl, DPut.t hb h3 (by rw [hl', ← lim_eq]; exact hl), q _ (.dT p1 p2)⟩
        · cases ez'
      · cases ez'
    · cases ez'
  cases x with
  | lst ds =>
    cases y with
    | int i =>
      simp only [setD] at e
      cases c with
      | lst hr =>
        cases ei : ixN ds.length i with
        | none => rw [ei] at e; cases e
        | some j =>
          rw [ei] at e; cases e
          have e1 := ry.int; subst e1
          exact .inl ⟨b, _, i, j, rfl, rfl, hb, by rw [hr.length]; exact ei, q _ (.lst (hr.set rv j))⟩
    | _ => exact dict z e rfl
  | _ => exact dict z e rfl
theorem ss_put (g : Gd L X (WE' Xk)) {i : Nat} {x : Str} {k e : Expr} {k' e' : E} {px tp : Pos} (hi : i ∈ W) (hN : X.N[i]? = some x) (hv : Vis X.env.scope x) (hd : (x == ("__debug__" : Str)) = false) (hcd : (x == ("__classdict__" : Str)) = false)
    (he : PE X e (tE L c (WE' Xk) W e')) (hk : PE X k (tB L c (WE' Xk) W k')) (hs : noSlice k = true) : PS X (.Assign [.Subscript (.Name x px) k tp] e pos) (tS L c O Xk W W fr (.put i k' e')) := by
  have hu : X.A.units + 1 < cLine := by have := g.units; omega
  have hsw : swapsWith e (some (.Subscript (.Name x px) k tp)) pos.line X.env = pure false := by
    cases e <;> rfl
  refine PS.imp (ps_asg he (pg_sub (pe_var hN hv hd hcd) hk (set_all hu) (fun v => sub_assign hs v)) hsw (by cases e <;> rfl) (one_target rfl)) fun Dn σ H ⟨ρ, s, m, G, a, A⟩ => ?_
  unfold exe at A
  cases e0 : at' ρ i with
  | none => rw [e0] at A; exact False.elim A
  | some d0 =>
    rw [e0] at A
    have e1 := at'_some e0
    obtain ⟨b, o, y1, y2, y3, y4, y5⟩ := a.q.ow i d0 e1 hi
    refine sE a A fun d s1 m1 G1 H1 v a1 r1 A1 => ⟨_, y1, ?_⟩
    refine ⟨ρ, s1, m1, G1, a1.w, a1.q, ?_⟩
    cases ek : ev c k' ρ s1 with
    | st => rw [ek] at A1; exact A1
    | ex k ds s' => rw [ek] at A1; exact fun m' G' H' dd t w' x => A1 m' G' H' dd (Stp.trans a1.w a1.w0 a1.t t) w' x
    | ok y s2 =>
      rw [ek] at A1
      intro m2 G2 H2 t2 w2 v2 r2
      have a2 := a1.step t2 w2
      have A2 := A1.mono t2.pre t2.keep
      simp only [Rs.go_ok] at A2
      obtain ⟨b', o', z1, z2, z3, z4, z5⟩ := a2.q.ow i _ e1 hi
      rw [y1] at z1; cases z1
      cases es : setD d0 y d with
      | none => rw [es] at A2; exact False.elim A2
      | some z =>
        rw [es] at A2
        exact setD_of w2 z4 z5 r2 (r1.mono t2.pre t2.keep) es fun o'' hc => A2 σ m2 G2 _ (List.prefix_refl _) (Same.refl _) (a2.put hi e1 y1 hc)

/-! ### x op= e -/
theorem ss_aug (g : Gd L X (WE' Xk)) {i : Nat} {x : Str} {e : Expr} {e' : E} {px : Pos} (hW : i ∉ W) (hN : X.N[i]? = some x) (hx : Loc X.env.scope x) (hf : X.fn x = true ∨ X.env.scope.names.lookup x = some .local)
    (he : PE X e (tB L c (WE' Xk) W e')) : PS X (.AugAssign (.Name x px) .Add e pos) (tS L c O Xk W W fr (.aug i .add e')) := by
  refine PS.imp (ps_aug g.nd hN hx he ip_add hf) fun Dn σ H ⟨ρ, s, m, G, a, A⟩ => ?_
  unfold exe at A
  cases e0 : at' ρ i with
  | none => rw [e0] at A; exact False.elim A
  | some d0 =>
    rw [e0] at A
    have e1 := at'_some e0
    obtain ⟨v0, y1, y2⟩ := a.q.sh i d0 e1 hW
    refine ⟨v0, y1, ?_⟩
    refine sB a A fun d s1 m1 G1 H1 v a1 r1 A1 => ?_
    cases d0 <;> cases d <;> simp only at A1 <;> first | (exact False.elim A1; done) | skip
    have z1 := RB.int (H := H) (.rep y2); subst z1
    have z2 := r1.int; subst z2
    refine ⟨_, _, rfl, rfl, A1 _ m1 G1 H1 (List.prefix_refl _) (Same.refl _) ⟨a1.w0, a1.w, a1.t, a1.q.set hW (.int _), fun j d' y hj f1 f2 => ?_, fun y h => ⟨by rw [List.getElem?_set_ne (fun e => hW (by rw [e]; exact (a1.fx y h).2))]; exact (a1.fx y h).1, (a1.fx y h).2⟩⟩⟩
    have hji : j ≠ i := fun e => hW (e ▸ hj)
    rw [List.getElem?_set_ne (Ne.symm hji)] at f1 f2
    exact a1.nw j d' y hj f1 f2
theorem ss_augm (g : Gd L X (WE' Xk)) {i : Nat} {x : Str} {e : Expr} {e' : E} {px : Pos} (hW : i ∉ W) (hN : X.N[i]? = some x) (hx : Loc X.env.scope x) (hf : X.fn x = true ∨ X.env.scope.names.lookup x = some .local)
    (he : PE X e (tB L c (WE' Xk) W e')) : PS X (.AugAssign (.Name x px) .Mult e pos) (tS L c O Xk W W fr (.aug i .mul e')) := by
  refine PS.imp (ps_aug g.nd hN hx he (show PIp X .Mult _ from iop_mul) hf) fun Dn σ H ⟨ρ, s, m, G, a, A⟩ => ?_
  unfold exe at A
  cases e0 : at' ρ i with
  | none => rw [e0] at A; exact False.elim A
  | some d0 =>
    rw [e0] at A
    have e1 := at'_some e0
    obtain ⟨v0, y1, y2⟩ := a.q.sh i d0 e1 hW
    refine ⟨v0, y1, ?_⟩
    refine sB a A fun d s1 m1 G1 H1 v a1 r1 A1 => ?_
    cases d0 <;> cases d <;> simp only at A1 <;> first | (exact False.elim A1; done) | skip
    split at A1
    · rename_i hl
      have z1 := RB.int (H := H) (.rep y2); subst z1
      have z2 := r1.int; subst z2
      unfold mulOk at hl
      simp only [Bool.or_eq_true, Bool.and_eq_true, decide_eq_true_eq] at hl
      refine ⟨_, _, rfl, rfl, hl, A1 _ m1 G1 H1 (List.prefix_refl _) (Same.refl _) ⟨a1.w0, a1.w, a1.t, a1.q.set hW (.int _), fun j d' y hj f1 f2 => ?_, fun y h => ⟨by rw [List.getElem?_set_ne (fun e => hW (by rw [e]; exact (a1.fx y h).2))]; exact (a1.fx y h).1, (a1.fx y h).2⟩⟩⟩
      have hji : j ≠ i := fun e => hW (e ▸ hj)
      rw [List.getElem?_set_ne (Ne.symm hji)] at f1 f2
      exact a1.nw j d' y hj f1 f2
    · exact False.elim A1

/-! ### self.f = e -/
theorem lookup_none {k : Cl} : (fields k).zip ([] : List V) = [] := by cases fields k <;> rfl
theorem ss_seta (g : Gd L X (WE' Xk)) {i : Nat} {x : Str} {cl : Cl} {f : Str} {e : Expr} {e' : E} {px tp : Pos} (hf : fields cl = [f]) (na : L.has cl = true → NoAttr L.K (L.cls cl) f) (hi : i ∈ W) (hN : X.N[i]? = some x) (hv : Vis X.env.scope x) (hd : (x == ("__debug__" : Str)) = false) (hcd : (x == ("__classdict__" : Str)) = false)
    (he : PE X e (tE L c (WE' Xk) W e')) : PS X (.Assign [.Attribute (.Name x px) f tp] e pos) (tS L c O Xk W W fr (.seta i cl e')) := by
  have hsw : swapsWith e (some (.Attribute (.Name x px) f tp)) pos.line X.env = pure false := by
    cases e <;> rfl
  refine PS.imp (ps_fld (pe_var hN hv hd hcd) he hsw) fun Dn σ H ⟨ρ, s, m, G, a, A⟩ => ?_
  unfold exe at A
  split at A
  · rename_i cl' e0
    have e1 := at'_some e0
    split at A
    · rename_i ek
      subst ek
      refine sE a A fun d s1 m1 G1 H1 v a1 r1 A1 => ?_
      obtain ⟨b, o, y1, y2, y3, y4, y5⟩ := a1.q.ow i _ e1 hi
      cases y5 with
      | @ins _ dx _ _ hr hl hh =>
        cases hr
        rw [hf] at y4
        refine ⟨_, y1, b, _, _, _, rfl, y4, by rw [g.K]; exact (g.cls _ hh).cl, by rw [g.K]; exact na hh, by simp, ?_⟩
        refine A1 σ m1 G1 _ (List.prefix_refl _) (Same.refl _) (a1.put hi e1 y1 ?_)
        have := Cont.ins (L := L) (m := m1) (G := G1) (c := cl') (dx := dx) (Reps.one r1) (by rw [hf]; exact Nat.le_refl _) hh
        rw [hf] at this
        exact this
    · exact False.elim A
  · exact False.elim A

/-! ### a, b = x, y -/
/-- the stores of a, b = x, y are turned round: what is looked at -/
def parB (sc : Scope) (ts : List (Str × Pos)) (vs : List Expr) : Bool :=
  (match sc.kind with | .function => true | _ => false) && vs.all noStar && (ts.all fun t => decide (sc.names.lookup t.1 = some .local)) && (ts.all fun t => t.2.line == ((ts.head?.map fun t => t.2.line).getD 0)) &&
    decide ((ts.map (·.1)).eraseDups.length = ts.length) && !(vs.all (foldedForSure 8)) && !(vs.all (constantsAlone 8))
theorem par2_sw {x y : Str} {px py pt pt2 : Pos} {kt k2 : Nat} {a b : Expr} (h : parB X.env.scope [(x, px), (y, py)] [a, b] = true) : swappedStores [.Tuple [.Name x px, .Name y py] kt pt] (.Tuple [a, b] k2 pt2) X.env = pure (some [x, y]) := by
  unfold parB at h
  simp only [Bool.and_eq_true, Bool.not_eq_true', List.all_cons, List.all_nil, decide_eq_true_eq, Bool.and_true, List.head?_cons, Option.map_some, Option.getD_some, List.map_cons, List.map_nil, List.length_cons, List.length_nil] at h
  obtain ⟨⟨⟨⟨⟨⟨h1, h2⟩, h3⟩, h4⟩, h5⟩, h6⟩, h7⟩ := h
  have hk : X.env.scope.kind = .function := by
    split at h1
    · assumption
    · cases h1
  have hb : X.env.blockKind = .function := by unfold Env.blockKind; rw [hk]; rfl
  have kx : X.env.kindOf x = some .local := h3.1
  have ky : X.env.kindOf y = some .local := h3.2
  unfold swappedStores
  simp only [List.length_cons, List.length_nil, hb, List.head?_cons, Option.map_some, Option.getD_some, Expr.pos, List.filterMap_cons, List.filterMap_nil, kx, ky, h4.2, h5, List.all_cons, List.all_nil, Bool.and_true]
  simp [h6, h7, h5]
  intro h
  rcases h with h | h
  · cases a <;> first | (cases h; done) | cases h2.1
  · cases b <;> first | (cases h; done) | cases h2.2
theorem par3_sw {x y z : Str} {px py pz pt pt2 : Pos} {kt k2 : Nat} {a b d : Expr} (h : parB X.env.scope [(x, px), (y, py), (z, pz)] [a, b, d] = true) : swappedStores [.Tuple [.Name x px, .Name y py, .Name z pz] kt pt] (.Tuple [a, b, d] k2 pt2) X.env = pure (some [x, y, z]) := by
  unfold parB at h
  simp only [Bool.and_eq_true, Bool.not_eq_true', List.all_cons, List.all_nil, decide_eq_true_eq, Bool.and_true, List.head?_cons, Option.map_some, Option.getD_some, List.map_cons, List.map_nil, List.length_cons, List.length_nil] at h
  obtain ⟨⟨⟨⟨⟨⟨h1, h2⟩, h3⟩, h4⟩, h5⟩, h6⟩, h7⟩ := h
  have hk : X.env.scope.kind = .function := by
    split at h1
    · assumption
    · cases h1
  have hb : X.env.blockKind = .function := by unfold Env.blockKind; rw [hk]; rfl
  have kx : X.env.kindOf x = some .local := h3.1
  have ky : X.env.kindOf y = some .local := h3.2.1
  have kz : X.env.kindOf z = some .local := h3.2.2
  unfold swappedStores
  simp only [List.length_cons, List.length_nil, hb, List.head?_cons, Option.map_some, Option.getD_some, Expr.pos, List.filterMap_cons, List.filterMap_nil, kx, ky, kz, h4.2.1, h4.2.2, h5, List.all_cons, List.all_nil, Bool.and_true]
  simp [h6, h7, h5]
  intro h
  rcases h with h | h | h
  · cases a <;> first | (cases h; done) | cases h2.1
  · cases b <;> first | (cases h; done) | cases h2.2.1
  · cases d <;> first | (cases h; done) | cases h2.2.2
theorem At.set1 (a : At L O W ρ s m G σ H) {i : Nat} {v : V} {d : D} (hW : i ∉ W) (r : Rep L m G v d) : At L O W (ρ.set i (some d)) s m G (σ.set i (some v)) H :=
  ⟨a.w0, a.w, a.t, a.q.set hW r, fun j d' y hj f1 f2 => by
    have hji : j ≠ i := fun e => hW (e ▸ hj)
    rw [List.getElem?_set_ne (Ne.symm hji)] at f1 f2
    exact a.nw j d' y hj f1 f2, fun y h => ⟨by rw [List.getElem?_set_ne (fun e => hW (by rw [e]; exact (a.fx y h).2))]; exact (a.fx y h).1, (a.fx y h).2⟩⟩
theorem ss_par2 (g : Gd L X (WE' Xk)) {i j : Nat} {x y : Str} {px py pt pt2 : Pos} {kt k2 : Nat} {a b : Expr} {es : Es} (hi : X.N[i]? = some x) (hj : X.N[j]? = some y) (hij : i ≠ j) (h : parB X.env.scope [(x, px), (y, py)] [a, b] = true) (Wi : i ∉ W) (Wj : j ∉ W)
    (ha : PA X [a, b] (tEs L c (WE' Xk) W es)) : PS X (.Assign [.Tuple [.Name x px, .Name y py] kt pt] (.Tuple [a, b] k2 pt2) pos) (tS L c O Xk W W fr (.par [i, j] es)) := by
  have h3 : X.env.scope.names.lookup x = some .local ∧ X.env.scope.names.lookup y = some .local := by
    unfold parB at h
    simp only [Bool.and_eq_true, List.all_cons, List.all_nil, decide_eq_true_eq, Bool.and_true] at h
    exact h.1.1.1.1.2
  refine PS.imp (ps_par g.calm g.nd hi hj hij h3.1 h3.2 ha (par2_sw h) rfl) fun Dn σ H ⟨ρ, s, m, G, a, A⟩ => ?_
  unfold exe at A
  refine sEs a A fun ds s1 m1 G1 H1 vs a1 r1 A1 => ?_
  cases e : parE [i, j] ds ρ with
  | none => rw [e] at A1; exact False.elim A1
  | some ρ' =>
    rw [e] at A1
    cases r1 with
    | nil => simp [parE] at e
    | cons r1 r2 =>
      cases r2 with
      | nil => simp [parE] at e
      | cons r2 r3 =>
        cases r3 with
        | cons _ _ => simp [parE] at e
        | nil =>
          simp [parE] at e
          subst e
          exact ⟨_, _, rfl, A1 _ m1 G1 H1 (List.prefix_refl _) (Same.refl _) ((a1.set1 Wi r1).set1 Wj r2)⟩
theorem ss_par3 (g : Gd L X (WE' Xk)) {i j l : Nat} {x y z : Str} {px py pz pt pt2 : Pos} {kt k2 : Nat} {a b d : Expr} {es : Es} (hi : X.N[i]? = some x) (hj : X.N[j]? = some y) (hl : X.N[l]? = some z) (hij : i ≠ j) (hil : i ≠ l) (hjl : j ≠ l) (h : parB X.env.scope [(x, px), (y, py), (z, pz)] [a, b, d] = true) (Wi : i ∉ W) (Wj : j ∉ W) (Wl : l ∉ W)
    (ha : PA X [a, b, d] (tEs L c (WE' Xk) W es)) : PS X (.Assign [.Tuple [.Name x px, .Name y py, .Name z pz] kt pt] (.Tuple [a, b, d] k2 pt2) pos) (tS L c O Xk W W fr (.par [i, j, l] es)) := by
  have h3 : X.env.scope.names.lookup x = some .local ∧ X.env.scope.names.lookup y = some .local ∧ X.env.scope.names.lookup z = some .local := by
    unfold parB at h
    simp only [Bool.and_eq_true, List.all_cons, List.all_nil, decide_eq_true_eq, Bool.and_true] at h
    exact h.1.1.1.1.2
  refine PS.imp (ps_par3 g.calm g.nd hi hj hl hij hil hjl h3.1 h3.2.1 h3.2.2 ha (par3_sw h) rfl) fun Dn σ H ⟨ρ, s, m, G, a, A⟩ => ?_
  unfold exe at A
  refine sEs a A fun ds s1 m1 G1 H1 vs a1 r1 A1 => ?_
  cases e : parE [i, j, l] ds ρ with
  | none => rw [e] at A1; exact False.elim A1
  | some ρ' =>
    rw [e] at A1
    cases r1 with
    | nil => simp [parE] at e
    | cons r1 r2 =>
      cases r2 with
      | nil => simp [parE] at e
      | cons r2 r3 =>
        cases r3 with
        | nil => simp [parE] at e
        | cons r3 r4 =>
          cases r4 with
          | cons _ _ => simp [parE] at e
          | nil =>
            simp [parE] at e
            subst e
            exact ⟨_, _, _, rfl, A1 _ m1 G1 H1 (List.prefix_refl _) (Same.refl _) (((a1.set1 Wi r1).set1 Wj r2).set1 Wl r3)⟩
/-- what isn't reached -/
theorem ss_never {st : Stmt} {st' : S} (h : ∀ ρ s, exe c st' ρ s = .st) : PS X st (tS L c O Xk W W' fr st') := by
  refine PS.imp ps_never fun Dn σ H ⟨ρ, s, m, G, a, A⟩ => ?_
  rw [h] at A
  exact A
theorem sEt {e : E} {Rp : V → Hp → Prop} {f : D → Sto → R} {W' : List Nat} {Dn : Ends} (a : At L O W ρ s m G σ H) (A : AftS L O Xk W' fr Dn m G ((ev c e ρ s).go ρ f))
    (h : ∀ d s1 m1 G1 H1 v, At L O W ρ s1 m1 G1 σ H1 → Stp m G H m1 G1 H1 → Rep L m1 G1 v d → AftS L O Xk W' fr Dn m1 G1 (f d s1) → Rp v H1) : tE L c (WE' Xk) W e σ H Rp := by
  refine ⟨ρ, s, m, G, a.w, a.q, ?_⟩
  cases ee : ev c e ρ s with
  | st => rw [ee] at A; exact A
  | ex k ds s' => rw [ee] at A; exact fun m' G' H' dd t w' x => A m' G' H' dd (Stp.trans a.w a.w0 a.t t) w' x
  | ok d s1 => rw [ee] at A; exact fun m' G' H' t w' v r => h d s1 m' G' H' v (a.step t w') t r (A.mono t.pre t.keep)
/-- x, y = e, [] -/
theorem ss_paro (g : Gd L X (WE' Xk)) {i j : Nat} {x y : Str} {px py pt pt2 lp : Pos} {kt k2 : Nat} {a : Expr} {e' : E} (hi : X.N[i]? = some x) (hj : X.N[j]? = some y) (hij : i ≠ j) (h : parB X.env.scope [(x, px), (y, py)] [a, .List [] lp] = true) (Wi : i ∉ W) (Wj : j ∉ W)
    (ha : PE X a (tE L c (WE' Xk) W e')) : PS X (.Assign [.Tuple [.Name x px, .Name y py] kt pt] (.Tuple [a, .List [] lp] k2 pt2) pos) (tS L c O Xk W (j :: W) fr (.paro i j e')) := by
  have h4 := h
  unfold parB at h4
  simp only [Bool.and_eq_true, List.all_cons, List.all_nil, decide_eq_true_eq, Bool.and_true] at h4
  have h3 : X.env.scope.names.lookup x = some .local ∧ X.env.scope.names.lookup y = some .local := h4.1.1.1.1.2
  have ns : noStar a = true := h4.1.1.1.1.1.2.1
  refine PS.imp (ps_par g.calm g.nd hi hj hij h3.1 h3.2 (pa_cons ha (pa_cons (pe_lst pa_nil) pa_nil (starOne rfl)) (starEach_cons ns)) (par2_sw h) rfl) fun Dn σ H ⟨ρ, s, m, G, a, A⟩ => ?_
  unfold exe at A
  refine sE a A fun d s1 m1 G1 H1 v a1 r1 A1 => ⟨Nat.zero_le _, fun p hp => ⟨_, _, rfl, ?_⟩⟩
  have st := Stp.lay (m := m1) (G := G1) hp (.lst [])
  have b1 := a1.set1 Wi r1
  exact A1 _ m1 G1 _ (List.prefix_refl _) (Same.refl _) (own_at Wj b1 (b1.step st (a1.w.lay hp _)) hp (a1.w.sub.free hp) (fun z => (a1.w.off p z).2 hp) upd_same (.lst .nil))
/-- x, y, z = e, e2, [] -/
theorem ss_paro3 (g : Gd L X (WE' Xk)) {i j l : Nat} {x y z : Str} {px py pz pt pt2 lp : Pos} {kt k2 : Nat} {a b : Expr} {e' e2' : E} (hi : X.N[i]? = some x) (hj : X.N[j]? = some y) (hl : X.N[l]? = some z) (hij : i ≠ j) (hil : i ≠ l) (hjl : j ≠ l) (h : parB X.env.scope [(x, px), (y, py), (z, pz)] [a, b, .List [] lp] = true) (Wi : i ∉ W) (Wj : j ∉ W) (Wl : l ∉ W)
    (ha : PE X a (tE L c (WE' Xk) W e')) (hb : PE X b (tE L c (WE' Xk) W e2')) : PS X (.Assign [.Tuple [.Name x px, .Name y py, .Name z pz] kt pt] (.Tuple [a, b, .List [] lp] k2 pt2) pos) (tS L c O Xk W (l :: W) fr (.paro3 i j l e' e2')) := by
  have h4 := h
  unfold parB at h4
  simp only [Bool.and_eq_true, List.all_cons, List.all_nil, decide_eq_true_eq, Bool.and_true] at h4
  have h3 : X.env.scope.names.lookup x = some .local ∧ X.env.scope.names.lookup y = some .local ∧ X.env.scope.names.lookup z = some .local := h4.1.1.1.1.2
  have ns : noStar a = true ∧ noStar b = true ∧ _ := h4.1.1.1.1.1.2
  refine PS.imp (ps_par3 g.calm g.nd hi hj hl hij hil hjl h3.1 h3.2.1 h3.2.2 (pa_cons ha (pa_cons hb (pa_cons (pe_lst pa_nil) pa_nil (starOne rfl)) (starEach_cons ns.2.1)) (starEach_cons ns.1)) (par3_sw h) rfl) fun Dn σ H ⟨ρ, s, m, G, a, A⟩ => ?_
  unfold exe at A
  refine sE a A fun d s1 m1 G1 H1 v a1 r1 A1 => ?_
  refine sEt a1 A1 fun d2 s2 m2 G2 H2 v2 a2 t2 r2 A2 => ⟨Nat.zero_le _, fun p hp => ⟨_, _, _, rfl, ?_⟩⟩
  have st := Stp.lay (m := m2) (G := G2) hp (.lst [])
  have b1 := (a2.set1 Wi (r1.mono t2.pre t2.keep)).set1 Wj r2
  exact A2 _ m2 G2 _ (List.prefix_refl _) (Same.refl _) (own_at Wl b1 (b1.step st (a2.w.lay hp _)) hp (a2.w.sub.free hp) (fun z => (a2.w.off p z).2 hp) upd_same (.lst .nil))
end
end MP

end
section
set_option Elab.async false
set_option linter.all false
set_option maxRecDepth 100000
set_option maxHeartbeats 1000000
/-! == and len by a class's own defs; enumerate. -/
namespace MP
open PySem PySem.Spec PyProof.Rows L2
section
variable {L : Lay} {c : Cfg} {Wx : WX} {W : List Nat} {X : Cx} {pos p : Pos} {s : Sto} {m : List (Addr × Addr)} {G H : Hp} {n : Nat} {tg : Expr}
/-- a class's own == where the reading stands -/
structure EqH (L : Lay) (X : Cx) (n : Nat) (k : Cl) (φ : List D → Sto → Rs D) : Prop where
  ok : ∃ fd ps, FnOk X.prog X.w X.K X.mg X.base (CX X.prog X.w) (2 * n) (L.fad (.eq k)) fd ps (spF L 2 false φ) ∧ Binds X.K fd ps []
  at_ : PySem.W.findIn X.K (.ref (L.cls k)) "__eq__" = some (some (.ref (L.fad (.eq k))))
  fn : PySem.W.isFn X.K (.ref (L.fad (.eq k))) = true
  no : PySem.W.subIn X.K (.type "tuple") (.ref (L.cls k)) = some false
structure LenH (L : Lay) (X : Cx) (n : Nat) (k : Cl) (φ : List D → Sto → Rs D) : Prop where
  ok : ∃ fd ps, FnOk X.prog X.w X.K X.mg X.base (CX X.prog X.w) (2 * n) (L.fad (.len k)) fd ps (spF L 1 false φ) ∧ Binds X.K fd ps []
  at_ : PySem.W.findIn X.K (.ref (L.cls k)) "__len__" = some (some (.ref (L.fad (.len k))))
  fn : PySem.W.isFn X.K (.ref (L.fad (.len k))) = true
def rOwnE (L : Lay) (c : Cfg) (has : Cl → Bool) : R2 := fun x y H Q => ∃ s m G k ds dy b s', Wd L s m G H ∧ has k = true ∧ Rep L m G x (.ins k ds) ∧ Rep L m G y dy ∧ ((∃ es, dy = .tup es) ∨ ∃ es, dy = .ins k es) ∧
  c.call (.eq k) [.ins k ds, dy] s = .ok (.bl b) s' ∧ ∀ m' G' H', Stp m G H m' G' H' → Wd L s' m' G' H' → Q (.bl b) H'
theorem op_ownE {has : Cl → Bool} (hE : ∀ k, has k = true → EqH L X n k (c.call (.eq k))) (hr : Room (2 * n) X.A) : OpR X (compareOp .Eq) (rOwnE L c has) := by
  intro pins sh σ H x y u v Q I rx ry h
  obtain ⟨s, m, G, k, ds, dy, b, s', w, hk, r1, r2, hy, ec, q⟩ := h
  have F := hE k hk
  obtain ⟨fd, ps, ok, hb⟩ := F.ok
  have rb1 : RB L m G H x (.ins k ds) := .rep r1
  obtain ⟨a, dx, vs, rfl, ha, ra, _, _⟩ := rb1.ins w
  obtain rfl : u = Value.ref a := rx
  obtain ⟨mA, J, _⟩ := ins_get I.hok ha
  obtain ⟨od, J, _⟩ := J.look
  obtain ⟨m', hF⟩ := I.fr
  have ht : ∃ (z : Addr) (tb : Value), v = .ref z ∧ y = .ref z ∧ PySem.W.Looks (model X.prog X.w) sh.heap (typeOf v) tb ∧ PySem.W.notFirst X.K (L.cls k) tb = true := by
    rcases hy with ⟨es, rfl⟩ | ⟨es, rfl⟩
    · have rb2 : RB L m G H y (.tup es) := .rep r2
      obtain ⟨z, ws, rfl, hz, _⟩ := rb2.tup w
      obtain rfl : v = Value.ref z := ry
      obtain ⟨_, its, rv, o, h1, h2, _⟩ := (show ObjOk X.prog X.w H sh.heap z (.tup ws) from I.hok z _ hz)
      refine ⟨z, .type "tuple", rfl, rfl, ?_, ?_⟩
      · rw [← h2]; exact (PySem.W.Looks.ld h1).andThen .now
      · unfold PySem.W.notFirst
        rw [F.no]; simp
    · have rb2 : RB L m G H y (.ins k es) := .rep r2
      obtain ⟨z, dz, ws, rfl, hz, _⟩ := rb2.ins w
      obtain rfl : v = Value.ref z := ry
      obtain ⟨mB, J', _⟩ := ins_get I.hok hz
      obtain ⟨od', J', _⟩ := J'.look
      exact ⟨z, .ref (L.cls k), rfl, rfl, J'.type, by simp [PySem.W.notFirst]⟩
  obtain ⟨z, tb, rfl, rfl, hL, hn⟩ := ht
  show wpAny (model X.prog X.w) X.A (richCompare .Eq (.ref a) (.ref z)) (EP X pins σ Q) X.xe sh
  refine PySem.W.cmp_K (op := .Eq) (tb := tb) hr.units0 hF I.ok.mod.kin J hL hn F.at_ F.fn ?_
  have hsp : spF L 2 false (c.call (.eq k)) [.ref a, .ref z] H (fun v H' => v = .bl b ∧ Q (.bl b) H') (fun _ _ _ => False) :=
    ⟨rfl, [.ins k ds, dy], s, m, G, w, .cons r1 (.cons r2 .nil), by
      rw [ec]
      exact fun m' G' H' t w' v r => ⟨RB.bl (H := H') (.rep r), q m' G' H' t w'⟩⟩
  have hl := ok.len _ _ _ _ hsp
  refine wpAny_call (codeAny_mono (ok.run X.A X.stack sh H ⟨[.ref a, .ref z], []⟩ [.ref a, .ref z] [.ref a, .ref z] _ _ hr I.env0 (by
    have := hb sh [.ref a, .ref z] I.kIn (by simpa using hl)
    simpa using this) (.cons rfl (.cons rfl .nil)) hsp) fun r s2 hq => ?_)
  cases r with
  | error e =>
    obtain ⟨_, _, _, _, _, _, _, _, _, _, _, _, z⟩ := hq
    exact z.elim
  | ok fl =>
    cases fl with
    | ret w2 =>
      obtain ⟨z2, H', I', rz, ez, q'⟩ := I.after hq
      subst ez
      cases rz
      exact ⟨.bl b, H', I', rfl, q'⟩
    | next => exact False.elim hq
    | brk => exact False.elim hq
    | cont => exact False.elim hq
def rLenO (L : Lay) (c : Cfg) (has : Cl → Bool) : List V → Hp → VK → Prop := fun xs H Q => ∃ x s m G k ds i s', xs = [x] ∧ Wd L s m G H ∧ has k = true ∧ Rep L m G x (.ins k ds) ∧ c.call (.len k) [.ins k ds] s = .ok (.int i) s' ∧ (0 ≤ i ∧ i < 2 ^ 63) ∧
  ∀ m' G' H', Stp m G H m' G' H' → Wd L s' m' G' H' → Q (.int i) H'
theorem cr_lenO {has : Cl → Bool} (hE : ∀ k, has k = true → LenH L X n k (c.call (.len k))) (hr : Room (2 * n + 1) X.A) : CallR X (.builtin "len") (rLenO L c has) := by
  intro pins sh σ H xs us Q I rv h
  obtain ⟨x, s, m, G, k, ds, i, s', rfl, w, hk, r1, ec, hi, q⟩ := h
  have F := hE k hk
  obtain ⟨fd, ps, ok, hb⟩ := F.ok
  have rb1 : RB L m G H x (.ins k ds) := .rep r1
  obtain ⟨a, dx, vs, rfl, ha, ra, _, _⟩ := rb1.ins w
  obtain rfl := Vals.ref1 rv
  obtain ⟨mA, J, _⟩ := ins_get I.hok ha
  obtain ⟨od, J, _⟩ := J.look
  obtain ⟨m', hF⟩ := I.fr
  refine PySem.W.len_K hF I.ok.mod.kin J F.at_ F.fn ?_
  have hsp : spF L 1 false (c.call (.len k)) [.ref a] H (fun v H' => v = .int i ∧ Q (.int i) H') (fun _ _ _ => False) :=
    ⟨rfl, [.ins k ds], s, m, G, w, .cons r1 .nil, by
      rw [ec]
      exact fun m' G' H' t w' v r => ⟨RB.int (H := H') (.rep r), q m' G' H' t w'⟩⟩
  have hl := ok.len _ _ _ _ hsp
  refine wpAny_call (codeAny_mono (ok.run X.A.in1 X.stack sh H ⟨[.ref a], []⟩ [.ref a] [.ref a] _ _ hr.in1 I.env0.in1 (by
    have := hb sh [.ref a] I.kIn (by simpa using hl)
    simpa using this) (.cons rfl .nil) hsp) fun r s2 hq => ?_)
  cases r with
  | error e =>
    obtain ⟨_, _, _, _, _, _, _, _, _, _, _, _, z⟩ := hq
    exact z.elim
  | ok fl =>
    cases fl with
    | ret w2 =>
      obtain ⟨z2, H', I', rz, ez, q'⟩ := I.after hq
      subst ez
      obtain ⟨t, rfl⟩ := rz
      exact ⟨hi, .int i, H', I'.tok _, ⟨_, rfl⟩, q'⟩
    | next => exact False.elim hq
    | brk => exact False.elim hq
    | cont => exact False.elim hq
/-- len(x) of an object -/
theorem s_leno (g : Gd L X Wx) {has : Cl → Bool} (hE : ∀ k, has k = true → LenH L X n k (c.call (.len k))) (hr : Room (2 * n + 1) X.A) {a : Expr} {a' : E} {k : Cl} (hk : has k = true) (hg : Gl X "len") (ha : PE X a (tE L c Wx W a')) (ns : noStar a = true) : PE X (.Call (.Name "len" p) [a] [] pos) (tE L c Wx W (.leno a' k)) := by
  refine PE.imp (pe_callB (cr_lenO hE hr) hg (blt g (by decide +kernel)) (by decide +kernel) (pa_cons ha pa_nil (starOne ns)) (by decide +kernel) (by decide +kernel) (starOne ns) backNil) fun σ H Q ⟨ρ, s, m, G, w, q, A⟩ => ?_
  unfold ev at A
  refine goE w q (Aft.bind w A) fun d s1 m1 G1 H1 v t1 w1 q1 r1 A1 => ?_
  split at A1
  · split at A1
    · rename_i e; subst e
      split at A1
      · rename_i ec
        split at A1
        · rename_i hb
          simp only [Bool.and_eq_true, decide_eq_true_eq] at hb
          exact ⟨v, s1, m1, G1, _, _, _, _, rfl, w1, hk, r1, ec, ⟨hb.1, by omega⟩, fun m' G' H' t w' => A1 m' G' H' t w' _ (.int _)⟩
        · exact False.elim A1
      · exact False.elim A1
    · exact False.elim A1
  · exact False.elim A1
/-- x == y by the class's own -/
theorem eqo_go {has : Cl → Bool} {a' b' : E} {k : Cl} {Q : VK} {σ : L2.St} {ρ : Env} (hk : has k = true) (w : Wd L s m G H) (q : Sl L W ρ σ m G H) (A : Aft L Wx σ m G H (ev c (.eqo k a' b') ρ s) fun d _ m' G' H' => ∀ v, Rep L m' G' v d → Q v H') :
    tOp (rOwnE L c has) (tE L c Wx W a') (tE L c Wx W b') σ H Q := by
  unfold ev at A
  refine goE w q (Aft.bind w A) fun x s1 m1 G1 H1 v t1 w1 q1 r1 A1 => ?_
  refine goE w1 q1 (Aft.bind w1 A1) fun y s2 m2 G2 H2 v2 t2 w2 q2 r2 A2 => ?_
  split at A2
  · split at A2
    · rename_i hc
      rw [Bool.and_eq_true, decide_eq_true_eq] at hc
      obtain ⟨e, hy⟩ := hc
      subst e
      split at A2
      · rename_i ec
        refine ⟨s2, m2, G2, _, _, y, _, _, w2, hk, r1.mono t2.pre t2.keep, r2, ?_, ec, fun m' G' H' t w' => A2 m' G' H' t w' _ (.bl _)⟩
        cases y with
        | tup es => exact .inl ⟨es, rfl⟩
        | ins k'' es =>
          simp only [eqRt, decide_eq_true_eq] at hy
          subst hy
          exact .inr ⟨es, rfl⟩
        | _ => simp [eqRt] at hy
      · exact False.elim A2
    · exact False.elim A2
  · exact False.elim A2
theorem s_eqo (g : Gd L X Wx) {has : Cl → Bool} (hE : ∀ k, has k = true → EqH L X n k (c.call (.eq k))) (hr : Room (2 * n) X.A) {a b : Expr} {a' b' : E} {k : Cl} (hk : has k = true) (ha : PE X a (tE L c Wx W a')) (hb : PE X b (tE L c Wx W b')) (hs : noSet b = true) : PE X (.Compare a [.Eq] [b] pos) (tE L c Wx W (.eqo k a' b')) :=
  PE.imp (pe_cmpR (op_ownE hE hr) ha hb (noSet_is hs)) fun σ H Q ⟨ρ, s, m, G, w, q, A⟩ => eqo_go hk w q A
theorem s_teqo (g : Gd L X Wx) {has : Cl → Bool} (hE : ∀ k, has k = true → EqH L X n k (c.call (.eq k))) (hr : Room (2 * n) X.A) {a b : Expr} {a' b' : E} {k : Cl} (hk : has k = true) (ha : PE X a (tE L c Wx W a')) (hb : PE X b (tE L c Wx W b')) (hs : noSet b = true) : PT X (.Compare a [.Eq] [b] pos) (tT L c Wx W (.eqo k a' b')) := by
  refine PT.imp (pt_cmpR (op_ownE hE hr) ha hb (noSet_is hs)) fun σ H Q ⟨ρ, s, m, G, w, q, A⟩ => ?_
  refine eqo_go (Q := fun x H' => ∃ k, x = .bl k ∧ Q k H') hk w q ?_
  revert A
  have hb : ∀ d s', ev c (.eqo k a' b') ρ s = .ok d s' → ∃ z, d = .bl z := fun d s' e => by
    unfold ev at e
    cases e1 : ev c a' ρ s with
    | st => rw [e1] at e; cases e
    | ex _ _ _ => rw [e1] at e; cases e
    | ok x s1 =>
      rw [e1] at e
      simp only [Rs.bind_ok] at e
      cases e2 : ev c b' ρ s1 with
      | st => rw [e2] at e; cases e
      | ex _ _ _ => rw [e2] at e; cases e
      | ok y s2 =>
        rw [e2] at e
        simp only [Rs.bind_ok] at e
        split at e
        · split at e
          · split at e
            · cases e; exact ⟨_, rfl⟩
            · cases e
          · cases e
        · cases e
  cases e : ev c (.eqo k a' b') ρ s with
  | st => exact id
  | ex _ _ _ => exact id
  | ok d s' =>
    obtain ⟨z, rfl⟩ := hb d s' e
    exact fun A m' G' H' t w' v r => ⟨z, RB.bl (H := H') (.rep r), A m' G' H' t w'⟩
end
end MP

end
section
set_option Elab.async false
set_option linter.all false
set_option maxRecDepth 100000
set_option maxHeartbeats 1000000
/-! enumerate over tuples and lists. -/
namespace PySem
open Sem (wp)
open AutoSeq1 (wpAny_loadPart')
theorem meets_enumerate_newT (l : Addr) (items : Array Value) (n : Nat) (dct : Option Addr) (sl : Array (Option Value)) :
    Meets (Builtin.«enumerate.__new__» ⟨[.type "enumerate", .ref l], []⟩) (fun _ R s => s.heap.get? l = some { cls := .type "tuple", dict := dct, data := .seq items n, slots := sl } ∧
      R (.ok (.ret (.ref (s.heap.push { cls := .type "tuple_iterator", data := .fields #[.ref l, .int 0 0] }).objs.size)))
        { s with heap := (s.heap.push { cls := .type "tuple_iterator", data := .fields #[.ref l, .int 0 0] }).push { cls := .type "enumerate", data := .fields #[.none, .bool false, .ref s.heap.objs.size, rawInt 0, .none, .none] } }) :=
  .of_wp fun prog w A R s h => by
    obtain ⟨hp, g, d, tk, os⟩ := s; obtain ⟨hl, h⟩ := h
    have hsub := sub_enumerate
    have hL : Heap.IsTuple (Shared.heap ⟨hp, g, d, tk, os⟩) l items := ⟨_, hl, rfl, n, rfl⟩
    wp_walk using wpAny_loadPart' hl
    refine wpAny_stack_any fun st => wpAny_pure ?_
    split
    · rename_i c _ _ _ _ _
      cases (c == Value.type "enumerate")
      · wp_walk using wpAny_loadPart' hl, wpAny_pyIter_tuple hL
        exact ⟨_, rfl, h⟩
      · wp_walk using wpAny_loadPart' hl, wpAny_pyIter_tuple hL
        exact ⟨_, rfl, h⟩
    · wp_walk using wpAny_loadPart' hl, wpAny_pyIter_tuple hL
      exact ⟨_, rfl, h⟩
theorem call_enumerate_tup {prog : Program} {w : World} {A : Around} {E : Value → Shared → Prop} {s : Shared} {l : Addr} {items : Array Value} {Q : Value → Shared → Prop} (hL : s.heap.IsTuple l items)
    (h : ∀ h', IsEnum h' (s.heap.objs.size + 1) s.heap.objs.size 0 .none → h'.IsTupleIter s.heap.objs.size l 0 → h'.objs.size = s.heap.objs.size + 2 →
      (∀ b o, s.heap.get? b = some o → h'.get? b = some o) → Q (.ref (s.heap.objs.size + 1)) { s with heap := h' }) :
    wpAny (model prog w) A (call (.type "enumerate") [.ref l]) Q E s := by
  obtain ⟨⟨c, dct, dt, sl⟩, hl, hc, n, hd⟩ := hL
  replace hc : c = .type "tuple" := hc
  replace hd : dt = .seq items n := hd
  subst hc hd
  refine callType_new F.called_enumerate (by decide) (F.typeCall_enumerate_1 _) (F.newCall_enumerate_1 _) (fun obj => F.args_object_init_2 obj _) F.entry_enumerate_new
    (meets_enumerate_newT l items n dct sl) ⟨hl, ?_⟩
  have hz : (s.heap.push { cls := .type "tuple_iterator", data := .fields #[.ref l, .int 0 0] }).objs.size = s.heap.objs.size + 1 := Heap.size_push ..
  show _ ∧ _
  rw [hz]
  have he : IsEnum ((s.heap.push { cls := .type "tuple_iterator", data := .fields #[.ref l, .int 0 0] }).push
      { cls := .type "enumerate", data := .fields #[.none, .bool false, .ref s.heap.objs.size, rawInt 0, .none, .none] }) (s.heap.objs.size + 1) s.heap.objs.size 0 .none := by
    have := Heap.get?_push_size (s.heap.push { cls := .type "tuple_iterator", data := .fields #[.ref l, .int 0 0] })
      (o := { cls := .type "enumerate", data := .fields #[.none, .bool false, .ref s.heap.objs.size, rawInt 0, .none, .none] }) rfl
    rw [hz] at this; exact this
  refine ⟨⟨_, he, rfl⟩, h _ he ⟨_, Heap.get?_push_of_some _ (Heap.get?_push_size _ rfl), rfl, rfl⟩ (by rw [Heap.size_push, hz]) fun b o x => Heap.get?_push_of_some _ (Heap.get?_push_of_some _ x)⟩
theorem enum_end_tup {prog : Program} {w : World} {A : Around} {E : Value → Shared → Prop} {s : Shared} {e it l : Addr} {i : Nat} {items : Array Value} {old : Value} {Q : Option Value → Shared → Prop} (hh : A.handled = none)
    (he : IsEnum s.heap e it i old) (hit : s.heap.IsTupleIter it l i) (hl : s.heap.IsTuple l items) (hx : items[i]? = none)
    (hQ : ∀ h', Heap.ExtBut it s.heap h' → Q none { s with heap := h' }) : wpAny (model prog w) A (pyNext (.ref e)) Q E s := by
  have hT : s.TypeIs (.ref e) "enumerate" := ⟨_, he, rfl⟩
  unfold pyNext
  refine wpAny_bind (wpAny_attempt (wpAny_callSpecial?_slot (name := Str.ofString "__next__") hT F.slot_enumerate_next
    (wpAny_call_entry F.slot_enumerate_next hT F.entry_enumerate_next ?_ (F.args_enumerate_next_1 _))))
  show wpAny _ _ (field (.ref e) 2 >>= _) _ _ _
  refine wpAny_bind (wpAny_field he rfl (x := .ref it) rfl ?_)
  refine wpAny_bind (wpAny_nextOf_tuple_end hh hit hl hx fun h' x he' hx' => ?_)
  obtain ⟨o, ho, hc⟩ := hx'
  refine wpAny_bind (wpAny_isInstance (T := "StopIteration") (b := true) ⟨o, ho, hc⟩ isSubtype_stop ?_)
  exact wpAny_pure (hQ _ he')
end PySem
namespace MP
open PySem PySem.Spec PyProof.Rows L2
def IteT (K : PySem.W.Frag) (a : Addr) : It :=
  ⟨fun i H => ∃ (xs : List V) (x : V), H a = some (.tup xs) ∧ xs[i]? = some x, fun i H v H' => ∃ T x, v = .ref T ∧ H T = none ∧ H' = upd H T (.tup [.int (i : Nat), x]) ∧ ∀ xs, H a = some (.tup xs) → xs[i]? = some x, fun i H => ∃ xs : List V, H a = some (.tup xs) ∧ xs.length ≤ i⟩
theorem turn_enumT {P : Program} {w : World} {K : PySem.W.Frag} {elts : List Expr} {kk : Nat} {tpos : Pos} (a e it : Addr) :
    Turn P w K (.Tuple elts kk tpos) (IteT K a) [e, it] e (fun i h => (∃ old, IsEnum h e it ((i : Nat) : Int) old) ∧ h.IsTupleIter it a i ∧ e ≠ it) where
  mem := by simp
  obj := fun i h st b hb => by
    obtain ⟨⟨old, he⟩, ⟨o, ho, hc, hd⟩, _⟩ := st
    have e' : b = e ∨ b = it := by simpa using hb
    rcases e' with z | z
    · rw [z]; exact ⟨_, he, fun v q => nomatch q⟩
    · rw [z]; exact ⟨o, ho, fun v q => by rw [hd] at q; cases q⟩
  keep := fun i h h' st k => let ⟨⟨old, he⟩, hi, hne⟩ := st; ⟨⟨old, k e (by simp) _ he⟩, hi.at fun o q => k it (by simp) o q, hne⟩
  item := by
    intro X hP hw hK hc i pins s σ H E I hf st hg
    subst hP hw hK
    obtain ⟨⟨old, he⟩, hit, hne⟩ := st
    obtain ⟨xs, x, hq, hx⟩ := hg
    obtain ⟨its, rv, p, hz⟩ := I.tuple (.of hq)
    obtain ⟨u, hu, ru⟩ := rv.get hx
    have hel : e < s.heap.objs.size := Heap.lt_size he
    have hil : it < s.heap.objs.size := by obtain ⟨_, q, _⟩ := hit; exact Heap.lt_size q
    have hai : a ≠ it := fun z => by
      have := (hf it (by simp)).1
      rw [← z, hq] at this; cases this
    have hae : a ≠ e := fun z => by
      have := (hf e (by simp)).1
      rw [← z, hq] at this; cases this
    have hlt : i < its.toArray.size := by
      have := (List.getElem?_eq_some_iff.mp hu).1
      simpa using this
    have hh := I.ok.hd hc
    refine wpAny_pyNext_enum_itemD (Draws.tuple (A := X.A.in1) hh it a hai its.toArray) he ⟨hit, p⟩ hlt hne (by simp; exact ⟨hne, Ne.symm hae⟩) fun x' h' tk hx' ho hit' hT hsz hk => ?_
    have ex : x' = u := by
      have : its.toArray[i]? = some x' := hx'
      simp only [List.getElem?_toArray] at this
      rw [hu] at this; cases this; rfl
    subst ex
    refine ⟨_, rfl, wpAny_letOwnedTupleGo_enum (s := { s with heap := h', toks := tk + 1 }) ho fun h'' he' sb => ?_⟩
    have hT2 : h''.get? s.heap.objs.size = some { cls := .type "tuple", data := .seq #[.int i tk, x'] } := (sb.2 _ (Nat.ne_of_gt hel)).trans hT
    have new : ObjOk X.prog X.w (upd H s.heap.objs.size (.tup [.int (i : Nat), x])) h'' s.heap.objs.size (.tup [.int (i : Nat), x]) :=
      ⟨by show 2 ≤ sizeLine; decide, [.int i tk, x'], .cons ⟨_, rfl⟩ (.cons ru .nil), ⟨_, hT2, rfl, _, rfl⟩⟩
    have I1 : L2.Inv X pins σ (upd H s.heap.objs.size (.tup [.int (i : Nat), x])) { s with heap := h'', toks := tk + 1 } :=
      I.turnedNew (ch := [e, it]) (fun b ob hb q => (sb.2 b (fun z => hb (by simp [z]))).trans (hk b ob (fun z => hb (by simp [z])) (fun z => hb (by simp [z])) q)) hf (Nat.le_refl _) new
    refine ⟨.ref s.heap.objs.size, _, I1, rfl, ⟨_, x, rfl, I.hok.fresh (Nat.le_refl _), rfl, fun ys hy => by rw [hq] at hy; cases hy; exact hx⟩, ⟨⟨x', ?_⟩, hit'.1.at fun o q => (sb.2 it (Ne.symm hne)).trans q, hne⟩, fun b hb => ?_⟩
    · have e1 : ((i + 1 : Nat) : Int) = (i : Int) + 1 := by omega
      rw [e1]; exact he'
    · have hb' : b < s.heap.objs.size := by
        have e' : b = e ∨ b = it := by simpa using hb
        rcases e' with z | z
        · rw [z]; exact hel
        · rw [z]; exact hil
      rw [upd_ne (Nat.ne_of_lt hb')]
      exact (hf b hb).1
  done := by
    intro X hP hw hK hc i pins s σ H E I hf st hg
    subst hP hw hK
    obtain ⟨⟨old, he⟩, hit, hne⟩ := st
    obtain ⟨xs, hq, hx⟩ := hg
    obtain ⟨its, rv, p, hz⟩ := I.tuple (.of hq)
    obtain ⟨f0, f1, f2, f3, f4, f5⟩ := hf it (by simp)
    have hai : a ≠ it := fun z => by
      rw [← z, hq] at f0; cases f0
    have hl := rv.length
    exact enum_end_tup (I.ok.hd hc) he hit p (by simp; omega) fun h' eb => ⟨rfl, I.turned (t' := s.toks) (fun b o hb q => eb b o hb q) f0 f1 f3 f4 f5⟩
  self := fun A i s Q E st h => let ⟨⟨_, he⟩, _⟩ := st; wpAny_pyIter_enum he h
def iEnumT (K : PySem.W.Frag) (ta : TA) : TI := fun σ H R => ta σ H fun vs H1 => ∃ a xs, vs = [.ref a] ∧ H1 a = some (.tup xs) ∧ R (IteT K a) H1
theorem pi_enumT {X : Cx} {e : Expr} {ta : TA} {p pos tpos : Pos} {elts : List Expr} {kk : Nat} (hg : Gl X "enumerate") (hm : X.mg "enumerate" = none) (ha : PA X [e] ta) (hs : starEach [e] X.env = [(false, eval e X.env)]) :
    PI X (.Tuple elts kk tpos) (.Call (.Name "enumerate" p) [e] [] pos) (iEnumT X.K ta) := by
  refine ⟨fun pins s σ H R I h => ?_⟩
  refine Call_ (ld_blt I hg hm boot_enumerate (PyProof.Rows.callWith_type1 (thn (ha.run pos pins s σ H _ I h) fun us s1 ⟨vs, H1, I1, r1, q1⟩ => ?_) hs rfl))
  obtain ⟨a, xs, ex, hq, q⟩ := q1
  subst ex
  cases r1 with
  | cons r rr =>
    cases rr
    cases r
    obtain ⟨its, rv, p', hz⟩ := I1.tuple (.of hq)
    refine call_enumerate_tup (show s1.heap.IsTuple a its.toArray from p') fun h' he hit hsz hk => wpAny_pyIter_enum he ?_
    have I2 : L2.Inv X pins σ H1 { s1 with heap := h' } := I1.kept (t' := s1.toks) hk
    refine ⟨s1.heap.objs.size + 1, [s1.heap.objs.size + 1, s1.heap.objs.size], _, _, H1, rfl, I2, turn_enumT a (s1.heap.objs.size + 1) s1.heap.objs.size, ⟨⟨.none, he⟩, hit, Nat.succ_ne_self _⟩, fun b hb => ?_, q⟩
    have e' : b = s1.heap.objs.size + 1 ∨ b = s1.heap.objs.size := by simpa using hb
    have hle : s1.heap.objs.size ≤ b := by
      rcases e' with z | z
      · rw [z]; exact Nat.le_add_right _ _
      · rw [z]; exact Nat.le_refl _
    exact I1.fpOk hle (I1.hok.fresh hle)
theorem enL_get : ∀ (xs : List D) (n i : Nat), (enL n xs)[i]? = (xs[i]?).map fun d => D.tup [.int ((n + i : Nat) : Int), d]
  | [], n, i => by simp [enL]
  | x :: xs, n, 0 => by simp [enL]
  | x :: xs, n, i + 1 => by
    have := enL_get xs (n + 1) i
    unfold enL
    simp only [List.getElem?_cons_succ]
    rw [this]
    congr 1
    funext d
    rw [show n + 1 + i = n + (i + 1) by omega]
theorem enL_length : ∀ (xs : List D) (n : Nat), (enL n xs).length = xs.length
  | [], n => rfl
  | x :: xs, n => by unfold enL; rw [List.length_cons, List.length_cons, enL_length xs]
section
variable {L : Lay} {c : Cfg} {Wx : WX} {W : List Nat} {X : Cx} {pos p tpos : Pos} {s : Sto} {m : List (Addr × Addr)} {G H : Hp} {elts : List Expr} {kk : Nat}
theorem src_enumT {K : PySem.W.Frag} {a : Addr} {xs : List D} : Src L (enL 0 xs) (IteT K a) (fun m G => ∃ vs, G a = some (.tup vs) ∧ Reps L m G vs xs) where
  mono := fun ⟨vs, h, r⟩ hm hg => ⟨vs, hg _ _ h, r.mono hm hg⟩
  go := fun {i s m G H} ⟨vs, h, r⟩ w hi => ⟨vs, vs[i]'(by rw [r.length]; rw [enL_length] at hi; exact hi), w.sub _ _ h, by simp⟩
  stop := fun ⟨vs, h, r⟩ w hi => ⟨vs, w.sub _ _ h, by rw [r.length]; rw [enL_length] at hi; exact hi⟩
  yld := fun {i s m G H H' x} ⟨vs, h, r⟩ w y hi => by
    obtain ⟨T, x, rfl, hT, rfl, y⟩ := y
    have hx := y vs (w.sub _ _ h)
    obtain ⟨d, h1, h2⟩ := r.getV hx
    have t := Stp.new w hT (.tup [.int (i : Nat), x])
    refine ⟨upd G T (.tup [.int (i : Nat), x]), .tup [.int (i : Nat), d], t, w.new hT _, by rw [enL_get, h1]; simp, .obj upd_same (.tup ?_)⟩
    exact .cons (.int _) (.one (h2.mono t.pre t.keep))
theorem src_enumL {a : Addr} {xs : List D} : Src L (enL 0 xs) (Ite L.K a) (fun m G => ∃ vs, G a = some (.lst vs) ∧ Reps L m G vs xs) where
  mono := fun ⟨vs, h, r⟩ hm hg => ⟨vs, hg _ _ h, r.mono hm hg⟩
  go := fun {i s m G H} ⟨vs, h, r⟩ w hi => ⟨vs, vs[i]'(by rw [r.length]; rw [enL_length] at hi; exact hi), .of (w.sub _ _ h), by simp⟩
  stop := fun ⟨vs, h, r⟩ w hi => ⟨vs, .of (w.sub _ _ h), by rw [r.length]; rw [enL_length] at hi; exact hi⟩
  yld := fun {i s m G H H' x} ⟨vs, h, r⟩ w y hi => by
    obtain ⟨T, x, rfl, hT, rfl, y⟩ := y
    have hx := y vs (.of (w.sub _ _ h))
    obtain ⟨d, h1, h2⟩ := r.getV hx
    have t := Stp.new w hT (.tup [.int (i : Nat), x])
    refine ⟨upd G T (.tup [.int (i : Nat), x]), .tup [.int (i : Nat), d], t, w.new hT _, by rw [enL_get, h1]; simp, .obj upd_same (.tup ?_)⟩
    exact .cons (.int _) (.one (h2.mono t.pre t.keep))
theorem s_en (g : Gd L X Wx) {a : Expr} {a' : E} (hg : Gl X "enumerate") (ha : PE X a (tE L c Wx W a')) (ns : noStar a = true) : PI X (.Tuple elts kk tpos) (.Call (.Name "enumerate" p) [a] [] pos) (tSr L c Wx W (.en a')) := by
  have both := PI.or (pi_enum (tpos := tpos) (elts := elts) (kk := kk) (p := p) (pos := pos) hg (blt g (by decide +kernel)) (pa_cons ha pa_nil (starOne ns)) (starOne ns)) (pi_enumT hg (blt g (by decide +kernel)) (pa_cons ha pa_nil (starOne ns)) (starOne ns))
  refine PI.imp both fun σ H R ⟨ρ, s, m, G, w, q, A⟩ => ?_
  unfold evr at A
  cases ee : ev c a' ρ s with
  | st => rw [ee] at A; exact False.elim A
  | ex k ds s' => rw [ee] at A; exact .inl ⟨ρ, s, m, G, w, q, by rw [ee]; exact A⟩
  | ok d s1 =>
    rw [ee] at A
    simp only [Rs.bind_ok] at A
    cases d with
    | lst ds =>
      refine .inl ⟨ρ, s, m, G, w, q, ?_⟩
      rw [ee]
      intro m1 G1 H1 t1 w1 v r1
      cases r1 with
      | obj hgo hc =>
        cases hc with
        | lst hr => exact ⟨_, _, rfl, .of (w1.sub _ _ hgo), A m1 G1 H1 t1 w1 _ (fun m G => ∃ vs, G _ = some (.lst vs) ∧ Reps L m G vs ds) (by rw [g.K]; exact src_enumL) ⟨_, hgo, hr⟩⟩
    | tup ds =>
      refine .inr ⟨ρ, s, m, G, w, q, ?_⟩
      rw [ee]
      intro m1 G1 H1 t1 w1 v r1
      cases r1 with
      | obj hgo hc =>
        cases hc with
        | tup hr => exact ⟨_, _, rfl, w1.sub _ _ hgo, A m1 G1 H1 t1 w1 _ (fun m G => ∃ vs, G _ = some (.tup vs) ∧ Reps L m G vs ds) src_enumT ⟨_, hgo, hr⟩⟩
    | _ => exact False.elim A
end
end MP

end
section
set_option Elab.async false
set_option linter.all false
set_option maxRecDepth 100000
set_option maxHeartbeats 1000000
/-! Errors: raise, try. -/
namespace MP
open PySem PySem.Spec PyProof.Rows L2

/-- a class of errors without own __init__ -/
structure ErH (L : Lay) (X : Cx) (k : Nat) (nm : Str) : Prop where
  mg : X.mg nm = some (.ref (L.cls (.err k)))
  ex : PySem.W.excIn X.K (L.cls (.err k)) He.veBase "ValueError.__new__" = true
  kp : PySem.W.keepIn X.K (.ref (L.cls (.err k))) = true
  sb : PySem.W.subIn X.K (.ref (L.cls (.err k))) (.type "BaseException") = some true
  ty : PySem.W.typeIn X.K (.ref (L.cls (.err k))) = some (.type "type")
/-! ### __init__ of an error with fields -/
def spX1 (C : Addr) (f : Str) : Sp := fun vs H Q E => ∃ a y, vs = [.ref a, y] ∧ H a = some (exo a C none) ∧ ∀ dx, H dx = none → dx ≠ a → Q .non (upd (upd H dx (exd dx [(f, y)])) a (exo a C (some dx)))
def spX2 (C : Addr) (f g : Str) : Sp := fun vs H Q E => ∃ a y z, vs = [.ref a, y, z] ∧ H a = some (exo a C none) ∧ ∀ dx, H dx = none → dx ≠ a → Q .non (upd (upd (upd H dx (exd dx [(f, y)])) a (exo a C (some dx))) dx (exd dx [(g, z), (f, y)]))
/-- a class of errors with own __init__ -/
structure EiH (L : Lay) (X : Cx) (k : Nat) (nm : Str) (sp : Sp) (kk : Nat) : Prop where
  mg : X.mg nm = some (.ref (L.cls (.err k)))
  ox : OexC X.K (L.cls (.err k))
  it : PySem.W.findIn X.K (.ref (L.cls (.err k))) "__init__" = some (some (.ref (L.fad (.ini (.err k)))))
  ti : PySem.W.typeIn X.K (.ref (L.fad (.ini (.err k)))) = some (.type "function")
  ok : ∃ fd ps, FnOk X.prog X.w X.K X.mg X.base (CX X.prog X.w) kk (L.fad (.ini (.err k))) fd ps sp ∧ Binds X.K fd ps []

section
variable {L : Lay} {c : Cfg} {O : Org} {Xk : XK} {W W' : List Nat} {fr : Bool} {X : Cx} {pos p p1 : Pos} {Wx : WX}
/-- C() -/
theorem pmk_own0 {C : Addr} {bmB : List Value} {B newId initId : String} {x : Str} (F : ExcBaseFacts B newId initId bmB) (q : PySem.W.excIn X.K C bmB newId = true) (gC : X.mg x = some (.ref C)) (kC : PySem.W.keepIn X.K (.ref C) = true) (r : Raises X (.ref C)) (hg : Gl X x)
    (hdb : (x == ("__debug__" : Str)) = false) : PMk X (.Call (.Name x p) [] [] pos) (fun _ H Q => Q (.ref C) none H) := by
  intro pins s σ H Q I h
  refine wpAny_Call_Name_kw (ld_glob I hg gC ?_ hdb)
  refine PySem.W.callWith_K0 I.kIn kC ?_
  show wpAny _ _ (call (.ref C) []) _ _ _
  obtain ⟨bm, N, nm, qn, bs, hdct, sn, sub, ab, col, dd, k0, k1, k2, k3, k5, mN, hC, hN, hni, T⟩ := exc_obj I.kIn q
  refine wpAny_call_exc_subT F T hC hN hni (fun h' e hm => ?_) (by show 0 ≤ sizeLine; omega)
  exact mk_of I hm r h (I.hok.gone hm.new)
theorem xn_len {k : Cl} : (xfields k).length = xn k := by
  unfold xfields xn
  split <;> first | rfl | (split <;> first | rfl | simp_all)
theorem ss_raise0 (g : Gd L X (WE' Xk)) {k : Nat} {nm : Str} (E : ErH L X k nm) (hg : Gl X nm) (hdb : (nm == ("__debug__" : Str)) = false) : PS X (.Raise (some (.Call (.Name nm p) [] [] p1)) none pos) (tS L c O Xk W W' fr (.rais (.err k) .nil)) := by
  refine PS.imp (ps_raise g.calm g.tk (pmk_own0 PySem.F.excBase_ValueError E.ex E.mg E.kp (raises_own E.sb E.ty) hg hdb)) fun Dn σ H ⟨ρ, s, m, G, a, A⟩ => ?_
  unfold exe evs at A
  simp only [Rs.go_ok] at A
  split at A
  · exact A m G H none a.t a.w (.inl ⟨rfl, rfl⟩)
  · exact False.elim A
theorem passF {X : Cx} : Passes (CX X.prog X.w) X (fun _ _ _ => False) := fun _ _ _ _ _ _ _ h => by
  obtain ⟨_, _, _, _, _, _, _, _, _, _, _, _, z⟩ := h
  exact z.elim
theorem ss_raise1 (g : Gd L X (WE' Xk)) {k kk : Nat} {nm f : Str} {e : Expr} {e' : E} (hx : xfields (.err k) = [f]) (E : EiH L X k nm (spX1 (L.cls (.err k)) f) kk) (hr : Room (kk + 1) X.A) (hg : Gl X nm) (hdb : (nm == ("__debug__" : Str)) = false) (he : PE X e (tE L c (WE' Xk) W e')) (hs : noStar e = true) :
    PS X (.Raise (some (.Call (.Name nm p) [e] [] p1)) none pos) (tS L c O Xk W W' fr (.rais (.err k) (.cons e' .nil))) := by
  obtain ⟨fd, ps, ok, hb⟩ := E.ok
  refine PS.imp (ps_raise g.calm g.tk (pmk_oex E.ox E.it E.ti ok hr hb .nil passF hg E.mg (s_cons he s_nil hs) hdb (starOne hs) backNil)) fun Dn σ H ⟨ρ, s, m, G, a, A⟩ => ?_
  unfold exe at A
  refine sEs a A fun ds s1 m1 G1 H1 vs a1 r1 A1 => ?_
  split at A1
  · rename_i hl
    have hl1 : ds.length = 1 := by rw [hl, ← xn_len, hx]; rfl
    have hv : vs.length = 1 := by rw [r1.length, hl1]
    obtain ⟨v, rfl⟩ := List.length_eq_one_iff.mp hv
    refine ⟨by simp, fun b hb => ⟨b, v, rfl, upd_same, fun dx hdx ne => ⟨rfl, dx, [(f, v)], upd_same, ?_, ?_, ?_⟩⟩⟩
    · rw [upd_ne ne, upd_same]
    · rw [upd_ne ne] at hdx; exact hdx
    · have hdx' : H1 dx = none := by rw [upd_ne ne] at hdx; exact hdx
      have e1 : upd (del (upd (upd (upd H1 b (exo b (L.cls (.err k)) none)) dx (exd dx [(f, v)])) b (exo b (L.cls (.err k)) (some dx))) b) dx (.xd [(f, v)]) = upd H1 dx (.xd [(f, v)]) := by
        funext z
        by_cases e1 : z = dx
        · subst e1; rw [upd_same, upd_same]
        · rw [upd_ne e1, upd_ne e1]
          by_cases e2 : z = b
          · subst e2; rw [del_same, hb]
          · rw [del_ne e2, upd_ne e2, upd_ne e1, upd_ne e2]
      rw [e1]
      have st := Stp.lay (m := m1) (G := G1) hdx' (.xd [(f, v)])
      refine A1 m1 G1 _ (some dx) (Stp.trans a1.w a1.w0 a1.t st) (a1.w.lay hdx' _) (.inr ⟨dx, [v], rfl, ?_, r1.mono st.pre st.keep, ?_, ?_⟩)
      · rw [upd_same, hx]; rfl
      · rw [hl1, hx]; rfl
      · intro z; rw [z] at hl1; cases hl1
  · exact False.elim A1
theorem ss_raise2 (g : Gd L X (WE' Xk)) {k kk : Nat} {nm f f2 : Str} {e e2 : Expr} {e' e2' : E} (hx : xfields (.err k) = [f, f2]) (E : EiH L X k nm (spX2 (L.cls (.err k)) f f2) kk) (hr : Room (kk + 1) X.A) (hg : Gl X nm) (hdb : (nm == ("__debug__" : Str)) = false) (he : PE X e (tE L c (WE' Xk) W e')) (hs : noStar e = true) (he2 : PE X e2 (tE L c (WE' Xk) W e2')) (hs2 : noStar e2 = true) :
    PS X (.Raise (some (.Call (.Name nm p) [e, e2] [] p1)) none pos) (tS L c O Xk W W' fr (.rais (.err k) (.cons e' (.cons e2' .nil)))) := by
  obtain ⟨fd, ps, ok, hb⟩ := E.ok
  refine PS.imp (ps_raise g.calm g.tk (pmk_oex E.ox E.it E.ti ok hr hb .nil passF hg E.mg (s_cons he (s_cons he2 s_nil hs2) hs) hdb (starEach_cons hs) (backAny (by rw [List.all_cons, hs2]; rfl)))) fun Dn σ H ⟨ρ, s, m, G, a, A⟩ => ?_
  unfold exe at A
  refine sEs a A fun ds s1 m1 G1 H1 vs a1 r1 A1 => ?_
  split at A1
  · rename_i hl
    have hl1 : ds.length = 2 := by rw [hl, ← xn_len, hx]; rfl
    have hv : vs.length = 2 := by rw [r1.length, hl1]
    obtain ⟨v, v2, rfl⟩ : ∃ v v2, vs = [v, v2] := by
      match vs, hv with
      | [v, v2], _ => exact ⟨v, v2, rfl⟩
    refine ⟨by simp, fun b hb => ⟨b, v, v2, rfl, upd_same, fun dx hdx ne => ⟨rfl, dx, [(f2, v2), (f, v)], ?_, upd_same, ?_, ?_⟩⟩⟩
    · rw [upd_ne (Ne.symm ne), upd_same]
    · rw [upd_ne ne] at hdx; exact hdx
    · have hdx' : H1 dx = none := by rw [upd_ne ne] at hdx; exact hdx
      have e1 : upd (del (upd (upd (upd (upd H1 b (exo b (L.cls (.err k)) none)) dx (exd dx [(f, v)])) b (exo b (L.cls (.err k)) (some dx))) dx (exd dx [(f2, v2), (f, v)])) b) dx (.xd [(f2, v2), (f, v)]) = upd H1 dx (.xd [(f2, v2), (f, v)]) := by
        funext z
        by_cases e1 : z = dx
        · subst e1; rw [upd_same, upd_same]
        · rw [upd_ne e1, upd_ne e1]
          by_cases e2 : z = b
          · subst e2; rw [del_same, hb]
          · rw [del_ne e2, upd_ne e1, upd_ne e2, upd_ne e1, upd_ne e2]
      rw [e1]
      have st := Stp.lay (m := m1) (G := G1) hdx' (.xd [(f2, v2), (f, v)])
      refine A1 m1 G1 _ (some dx) (Stp.trans a1.w a1.w0 a1.t st) (a1.w.lay hdx' _) (.inr ⟨dx, [v, v2], rfl, ?_, r1.mono st.pre st.keep, ?_, ?_⟩)
      · rw [upd_same, hx]; rfl
      · rw [hl1, hx]; rfl
      · intro z; rw [z] at hl1; cases hl1
  · exact False.elim A1
/-! ### try -/
/-- a constant -/
def cstE (e : E) (k : Const) : Option (V × D) := match e, k with
  | .non, .none => some (.non, .non)
  | .bl b, .bool b' => if b = b' then some (.bl b, .bl b) else none
  | .str x, .str y => if x = y then some (.str x, .str x) else none
  | _, _ => none
theorem cst_ev {e : E} {k : Const} {v : V} {d : D} (h : cstE e k = some (v, d)) (ρ : Env) (s : Sto) : ev c e ρ s = .ok d s := by
  unfold cstE at h
  split at h
  · cases h; rfl
  · split at h <;> cases h; rfl
  · split at h <;> cases h; rfl
  · cases h
theorem cst_rep {e : E} {k : Const} {v : V} {d : D} (h : cstE e k = some (v, d)) (m : List (Addr × Addr)) (G : Hp) : Rep L m G v d := by
  unfold cstE at h
  split at h
  · cases h; exact .non
  · split at h <;> cases h; exact .bl _
  · split at h <;> cases h; exact .str _
  · cases h
theorem cst_pe {e : E} {k : Const} {v : V} {d : D} {j : Nat} (h : cstE e k = some (v, d)) : PE X (.Constant k j pos) (tC v) := by
  unfold cstE at h
  split at h
  · cases h; exact pe_non
  · split at h <;> cases h; rename_i e; subst e; exact pe_bl
  · split at h <;> cases h; rename_i e; subst e; exact pe_str
  · cases h
inductive Hds (L : Lay) (X : Cx) (ks : List Nat) : List ExceptHandler → Hs → List (Value × (Addr → Value → Option Addr → TS)) → Prop
  | nil : Hds L X ks [] .nil []
  | cons {x : Str} {k : Nat} {e : E} {cv : Const} {v : V} {d : D} {j : Nat} {np p2 p3 p4 : Pos} {hds : List ExceptHandler} {hs : Hs} {l : List (Value × (Addr → Value → Option Addr → TS))} (hn : Names X x (.ref (L.cls (.err k)))) (hc : cstE e cv = some (v, d)) (he : ∀ kk, kk ∈ ks → PySem.W.exmOne X.K (.ref (L.cls (.err kk))) (.ref (L.cls (.err k))) = some (exM (.err kk) (.err k))) (r : Hds L X ks hds hs l) :
      Hds L X ks (.ExceptHandler (some (.Name x np)) none [.Return (some (.Constant cv j p2)) p3] p4 :: hds) (.cons (.err k) none (.cons (.ret e) .nil) hs) ((.ref (L.cls (.err k)), fun _ _ _ => tSeq (tRet (tC v)) tNext) :: l)
theorem Hds.ok {ks : List Nat} {hds : List ExceptHandler} {hs : Hs} {l : List (Value × (Addr → Value → Option Addr → TS))} (h : Hds L X ks hds hs l) : HdsOk X hds l := by
  induction h with
  | nil => exact .nil
  | cons hn hc he r ih => exact .cons hn (fun a oe cls d pn _ _ => pss_cons (ps_ret (cst_pe hc)) pss_nil) ih
theorem ss_try (hk : X.stack = X.env :: X.outer) (hf : X.env.frame = some X.env.locals) (g : Gd L X (WE' Xk)) {body : List Stmt} {b : Ss} {h₀ : ExceptHandler} {hds : List ExceptHandler} {hs : Hs} {ks : List Nat} {l : List (Value × (Addr → Value → Option Addr → TS))}
    (hb : ∀ (Xk' : XK) (pn : List (Addr × Obj)) (xe : Value → Shared → Prop), Takes (X.tr pn xe) (WE' Xk') → PassesOwn (model X.prog X.w) X.A X.env xe → PSs (X.tr pn xe) body (tSs L c O Xk' W W' false b))
    (hh : Hds L X ks (h₀ :: hds) hs l) :
    PS X (.Try body (h₀ :: hds) [] [] pos) (tS L c O Xk W W' false (.tri b hs ks)) := by
  refine PS.imp (ps_try_many (tb := fun Wy => tSs L c O (fun cl d H => ∀ σ, Wy cl d σ H) W W' false b) hk hf g.tk (fun Wy pn xe tk po => hb _ pn xe (tk.imp fun c d σ H z => z σ) po) hh.ok) fun Dn σ H ⟨ρ, s, m, G, a, A⟩ => ?_
  refine ⟨ρ, s, m, G, a, ?_⟩
  unfold exe at A
  cases r : exs c b ρ s with
  | nx ρ1 s1 => rw [r] at A; exact A
  | rt d s1 => rw [r] at A; exact A
  | st => rw [r] at A; exact A
  | ex k ds ρ1 s1 =>
    rw [r] at A
    simp only [R.catch_ex] at A
    intro m1 G1 H1 dd st w x σ1
    clear r hb
    have go : ∀ {hds : List ExceptHandler} {hs : Hs} {l : List (Value × (Addr → Value → Option Addr → TS))}, Hds L X ks hds hs l →
        AftS L O Xk W' false Dn m G (exh c hs ks k ds ρ1 s1) → wMany X.K (WE' Xk) Dn l (.ref (L.cls k)) dd σ1 H1 := by
      intro hds hs l hh
      induction hh with
      | nil =>
        intro A
        unfold exh at A
        exact A m1 G1 H1 dd st w x
      | @cons x' k' e cv v d j np p2 p3 p4 hds hs l hn hc he r ih =>
        intro A
        unfold exh at A
        split at A
        · rename_i hkn
          obtain ⟨kk, rfl, hmem⟩ : ∃ kk, k = .err kk ∧ kk ∈ ks := by
            unfold knw at hkn
            split at hkn
            · exact ⟨_, rfl, by simpa using hkn⟩
            · cases hkn
          refine ⟨exM (.err kk) (.err k'), he kk hmem, fun z a ha => ?_, fun z => ?_⟩
          · rw [if_pos z] at A
            unfold exs exe at A
            rw [cst_ev hc] at A
            exact A m1 G1 H1 st w v (cst_rep hc _ _)
          · rw [if_neg (by rw [z]; decide)] at A
            exact ih A
        · exact False.elim A
    exact go hh A
end
/-! ### what the written part says of a class of errors with an own __init__ -/
def oexB (K : PySem.W.Frag) (C : Addr) : Bool := (match K.lookup C with
  | some ⟨.type t, _, .cls cd, ⟨[_, _, _, _, some (.builtin b), _]⟩⟩ => t == "type" && b == "ValueError.__new__" && cd.hasDict && !cd.hasDel && (match cd.mro with
    | .ref C' :: bm => decide (C' = C) && PySem.HandSPX.refsVE bm
    | _ => false)
  | _ => false) && He.eqO (PySem.W.findIn K (.ref C) "__setattr__") (some (some (.builtin "object.__setattr__"))) && decide (PySem.W.subIn K (.ref C) (.type "BaseException") = some true) && decide (PySem.W.typeIn K (.ref C) = some (.type "type")) && PySem.W.keepIn K (.ref C)
theorem oexB_of {K : PySem.W.Frag} {C : Addr} (h : oexB K C = true) : OexC K C := by
  unfold oexB at h
  simp only [Bool.and_eq_true, decide_eq_true_eq] at h
  obtain ⟨⟨⟨⟨h1, h2⟩, h3⟩, h4⟩, h5⟩ := h
  refine ⟨?_, He.eqO_ok h2, h3, h4, h5⟩
  split at h1
  · rename_i t dd cd k0 k1 k2 k3 b k5 e
    simp only [Bool.and_eq_true, beq_iff_eq, Bool.not_eq_true'] at h1
    obtain ⟨⟨⟨⟨rfl, rfl⟩, h6⟩, h7⟩, h8⟩ := h1
    split at h8
    · rename_i C' bm em
      simp only [Bool.and_eq_true, decide_eq_true_eq] at h8
      obtain ⟨rfl, h9⟩ := h8
      obtain ⟨c1, c2, c3, c4, c5, c6, c7, c8, c9, c10, c11⟩ := cd
      simp only at h6 h7 em
      subst h6 h7 em
      exact ⟨_, _, _, _, bm, _, _, _, _, _, _, _, _, _, _, e, h9⟩
    · cases h8
  · cases h1
/-! ### the __init__ of an error -/
section
variable {L : Lay} {P : Program} {w : World} {mg : Str → Option Value} {base : Heap} {f C : Addr} {fd : FuncData} {x qual : Str} {params : Arguments} {sc : Scope}
theorem ini1 {fl a1 a2 : Str} {p1 p2 p3 p4 : Pos} (T : OexC L.K C) (no : PySem.W.findIn L.K (.ref C) fl = some none) (h1 : sc.names.lookup a1 = some .local) (h2 : sc.names.lookup a2 = some .local) (d1 : (a1 == ("__debug__" : Str)) = false ∧ (a1 == ("__classdict__" : Str)) = false) (d2 : (a2 == ("__debug__" : Str)) = false ∧ (a2 == ("__classdict__" : Str)) = false)
    (S : FnScope [a1, a2] [a1, a2] sc) (F : FunD L.K x qual params [.Assign [.Attribute (.Name a1 p1) fl p2] (.Name a2 p3) p4] sc [] [] f fd) : FnOk P w L.K mg base (CX P w) 2 f fd [a1, a2] (spX1 C fl) := by
  refine FunD.ok (N := [a1, a2]) (k := 1) F S (fun vs H Q E ⟨a, y, e, _⟩ => by rw [e]; rfl) fun cdv A outer s H vs Q E hr hsp => ?_
  obtain ⟨a, y, rfl, ha, hq⟩ := hsp
  refine ⟨_, pss_one (ps_ost (pe_var (i := 0) rfl (.inl h1) d1.1 d1.2) (pe_var (i := 1) rfl (.inl h2) d2.1 d2.2)), ?_⟩
  exact ⟨y, rfl, .ref a, rfl, a, C, rfl, T, no, .inl ⟨ha, fun dx h ne => hq dx h ne⟩⟩
theorem ini2 {fl gl a1 a2 a3 : Str} {p1 p2 p3 p4 q1 q2 q3 q4 : Pos} (T : OexC L.K C) (no : PySem.W.findIn L.K (.ref C) fl = some none) (no2 : PySem.W.findIn L.K (.ref C) gl = some none) (h1 : sc.names.lookup a1 = some .local) (h2 : sc.names.lookup a2 = some .local) (h3 : sc.names.lookup a3 = some .local) (d1 : (a1 == ("__debug__" : Str)) = false ∧ (a1 == ("__classdict__" : Str)) = false) (d2 : (a2 == ("__debug__" : Str)) = false ∧ (a2 == ("__classdict__" : Str)) = false) (d3 : (a3 == ("__debug__" : Str)) = false ∧ (a3 == ("__classdict__" : Str)) = false)
    (S : FnScope [a1, a2, a3] [a1, a2, a3] sc) (F : FunD L.K x qual params [.Assign [.Attribute (.Name a1 p1) fl p2] (.Name a2 p3) p4, .Assign [.Attribute (.Name a1 q1) gl q2] (.Name a3 q3) q4] sc [] [] f fd) : FnOk P w L.K mg base (CX P w) 2 f fd [a1, a2, a3] (spX2 C fl gl) := by
  refine FunD.ok (N := [a1, a2, a3]) (k := 1) F S (fun vs H Q E ⟨a, y, z, e, _⟩ => by rw [e]; rfl) fun cdv A outer s H vs Q E hr hsp => ?_
  obtain ⟨a, y, z, rfl, ha, hq⟩ := hsp
  refine ⟨_, pss_cons (ps_ost (pe_var (i := 0) rfl (.inl h1) d1.1 d1.2) (pe_var (i := 1) rfl (.inl h2) d2.1 d2.2)) (pss_one (ps_ost (pe_var (i := 0) rfl (.inl h1) d1.1 d1.2) (pe_var (i := 2) rfl (.inl h3) d3.1 d3.2))), ?_⟩
  refine ⟨y, rfl, .ref a, rfl, a, C, rfl, T, no, .inl ⟨ha, fun dx h ne => ?_⟩⟩
  refine ⟨z, rfl, .ref a, rfl, a, C, rfl, T, no2, .inr ⟨dx, [(fl, y)], upd_same, by rw [upd_ne ne, upd_same], by simp, hq dx h ne⟩⟩
end
end MP

end
section
set_option Elab.async false
set_option linter.all false
set_option maxRecDepth 100000
set_option maxHeartbeats 1000000
/-! Further expressions: dicts made and asked, list(range(..)), zip, comprehensions with two fors. -/
namespace MP
open PySem PySem.Spec PyProof.Rows L2

section
variable {L : Lay} {c : Cfg} {Wx : WX} {W : List Nat} {X : Cx} {pos p : Pos} {s : Sto} {m : List (Addr × Addr)} {G H : Hp} {tg : Expr}
theorem s_dnew {t : Bool} : PE X (.Dict [] [] pos) (tO L c Wx W (.dnew t)) := by
  cases t with
  | false =>
    refine PE.imp pe_dnewK fun σ H Q ⟨ρ, s, m, G, w, q, A⟩ p hp => ?_
    unfold ev at A
    have st := Stp.lay (m := m) (G := G) hp (.dK [])
    exact A m G _ st (w.lay hp _) p _ hp (w.sub.free hp) (fun z => (w.off p z).2 hp) upd_same (.dK rfl .nil)
  | true =>
    refine PE.imp pe_dnewT fun σ H Q ⟨ρ, s, m, G, w, q, A⟩ p hp => ?_
    unfold ev at A
    have st := Stp.lay (m := m) (G := G) hp (.dT [])
    exact A m G _ st (w.lay hp _) p _ hp (w.sub.free hp) (fun z => (w.off p z).2 hp) upd_same (.dT rfl .nil)
/-- {k: v} -/
theorem s_dd1 {ke ve : Expr} {k' v' : E} (hk : PE X ke (tE L c Wx W k')) (hv : PE X ve (tE L c Wx W v')) : PE X (.Dict [some ke] [ve] pos) (tO L c Wx W (.dd1 k' v')) := by
  refine PE.imp (pe_disp (pps_cons hk hv pps_nil) rfl rfl (by simp) (by simp)) fun σ H Q ⟨ρ, s, m, G, w, q, A⟩ p hp => ?_
  unfold ev at A
  have st0 := Stp.lay (m := m) (G := G) hp (.dK [])
  have w0 := w.lay hp (.dK [])
  show tE L c Wx W k' σ (upd H p (.dK [])) _
  refine ⟨ρ, s, m, G, w0, q.step st0, ?_⟩
  cases ek : ev c k' ρ s with
  | st => rw [ek] at A; exact A
  | ex kk ds s' => rw [ek] at A; exact Aft.step (r := (Rs.ex kk ds s' : Rs D)) w w0 st0 A
  | ok d1 s1 =>
    rw [ek] at A
    simp only [Rs.bind_ok] at A
    intro m1 G1 H1 t1 w1 v r1
    refine ⟨ρ, s1, m1, G1, w1, (q.step st0).step t1, ?_⟩
    cases ev2 : ev c v' ρ s1 with
    | st => rw [ev2] at A; exact A
    | ex kk ds s' => rw [ev2] at A; exact Aft.step (r := (Rs.ex kk ds s' : Rs D)) w w1 (Stp.trans w0 w st0 t1) A
    | ok d2 s2 =>
      rw [ev2] at A
      simp only [Rs.bind_ok] at A
      intro m2 G2 H2 t2 w2 v2 r2
      obtain ⟨d, ed, A3⟩ := A.opt
      have t02 : Stp m G (upd H p (.dK [])) m2 G2 H2 := Stp.trans w1 w0 t1 t2
      obtain ⟨hp2, gp2⟩ := t02.frame p (.dK []) upd_same (w.sub.free hp) (fun z => (w.off p z).2 hp)
      have np2 : p ∉ hs m2 := t02.off upd_same (fun z => (w.off p z).2 hp)
      have tf : Stp m G H m2 G2 H2 := Stp.trans w0 w st0 t02
      have r1' := r1.mono t2.pre t2.keep
      cases ekd : keyD d1 with
      | none => rw [ekd] at ed; cases ed
      | some key =>
        rw [ekd] at ed
        cases ed
        have ev1 : v = kV key := by
          cases d1 <;> try (cases ekd; done)
          · cases ekd
            exact (RB.rep (H := H2) r1').int
          · cases ekd
            exact (RB.rep (H := H2) r1').str
        subst ev1
        refine ⟨hp2, [(key, v2)], rfl, by simp, ?_⟩
        have tp : Stp m G H m2 G2 (upd H2 p (.dK (mergeK [] [(key, v2)]))) := ⟨tf.pre, tf.keep, fun a x ha ga na => by
          obtain ⟨y1, y2⟩ := tf.frame a x ha ga na
          have : a ≠ p := fun z => by rw [z, hp] at ha; cases ha
          exact ⟨by rw [upd_ne this]; exact y1, y2⟩, tf.fresh⟩
        refine A3 m2 G2 _ tp (w2.put gp2 np2 _) p _ hp gp2 np2 upd_same (.dK rfl (.one r2))
theorem isD_of {v : V} {d : D} (w : Wd L s m G H) (r : RB L m G H v d) (h : isDct d = true) : ∃ a, v = .ref a ∧ IsD H a := by
  cases d <;> try (cases h; done)
  · obtain ⟨a, kvs, e, ha, _⟩ := r.dK w
    exact ⟨a, e, .inl ⟨kvs, .of ha⟩⟩
  · obtain ⟨a, kvs, e, ha, _⟩ := r.dT w
    exact ⟨a, e, .inr ⟨kvs, .of ha⟩⟩
theorem s_get (g : Gd L X Wx) {o e f : Expr} {o' e' f' : E} {apos cpos : Pos} (M : M2 X o "get" apos e f cpos) (ho : PE X o (tB L c Wx W o')) (he : PE X e (tB L c Wx W e')) (hf : PE X f (tE L c Wx W f')) :
    PE X (.Call (.Attribute o "get" apos) [e, f] [] cpos) (tE L c Wx W (.get o' e' f')) := by
  refine PE.imp (pe_dget2 (by have := g.units; omega) ho he hf M) fun σ H Q ⟨ρ, s, m, G, w, q, A⟩ => ?_
  unfold ev at A
  refine goB w q (Aft.bind w A) fun d s1 m1 G1 H1 v t1 w1 q1 r1 A1 => ?_
  split at A1
  · rename_i hd
    obtain ⟨a, rfl, hi⟩ := isD_of w1 r1 hd
    refine ⟨a, rfl, hi, ?_⟩
    refine goB w1 q1 (Aft.bind w1 A1) fun k s2 m2 G2 H2 v2 t2 w2 q2 r2 A2 => ?_
    refine goE w2 q2 (Aft.bind w2 A2) fun x s3 m3 G3 H3 v3 t3 w3 q3 r3 A3 => ?_
    obtain ⟨o, eo, A4⟩ := (Aft.bind w3 A3).opt
    have A5 := A4 m3 G3 H3 (Stp.refl _ _ _) w3
    obtain ⟨a', ea, hh⟩ := dget_of w3 ((r1.step t2).step t3) (r2.step t3) eo
    cases ea
    rcases hh with ⟨rfl, hg⟩ | ⟨x', u, rfl, hg, ru⟩
    · exact ⟨_, hg, A5.ok w3 _ r3⟩
    · exact ⟨_, hg, A5.ok w3 _ ru⟩
  · exact False.elim A1
theorem m2_of {o e f : Expr} {mn : Str} {apos cpos : Pos} (hb : notCall0 o = true) (he : noStar e = true) (hf : noStar f = true) (hl : (apos.endLine == cpos.line) = true) : M2 X o mn apos e f cpos := by
  have h1 : starEach [e, f] X.env = [(false, eval e X.env), (false, eval f X.env)] := by rw [starEach_cons he, starOne hf]; rfl
  exact ⟨base_is hb, by rw [h1]; rfl, hl, by rw [h1]; rfl⟩
/-! ### [..] * n -/
theorem s_rep (g : Gd L X Wx) {xs : List Expr} {b : Expr} {es : Es} {b' : E} {p1 : Pos} (ha : PA X xs (tEs L c Wx W es)) (hb : PE X b (tE L c Wx W b')) : PE X (.BinOp (.List xs p1) .Mult b pos) (tO L c Wx W (.rep es b')) := by
  refine PE.imp (pe_op op_rep (PE.ofO (s_lst ha)) hb) fun σ H Q ⟨ρ, s, m, G, w, q, A⟩ => ?_
  unfold ev at A
  cases ee : evs c es ρ s with
  | st => rw [ee] at A; exact False.elim A
  | ex k ds s' =>
    rw [ee] at A
    refine ⟨ρ, s, m, G, w, q, ?_⟩
    unfold ev
    rw [ee]
    exact A
  | ok ds s1 =>
    rw [ee] at A
    simp only [Rs.bind_ok] at A
    split at A
    · rename_i hl
      refine ⟨ρ, s, m, G, w, q, ?_⟩
      unfold ev
      rw [ee]
      simp only [Rs.bind_ok, if_pos hl]
      intro m1 G1 H1 t1 w1 v r1
      refine goE w1 (q.step t1) (Aft.bind w1 (Aft.step w w1 t1 A)) fun y s2 m2 G2 H2 v2 t2 w2 q2 r2 A2 => ?_
      split at A2
      · split at A2
        · rename_i k hk
          simp only [Bool.and_eq_true, decide_eq_true_eq] at hk
          have e2 := (RB.rep (H := H2) r2).int
          subst e2
          obtain ⟨a, vs, rfl, h1, ra⟩ := (RB.rep (H := H2) (r1.mono t2.pre t2.keep)).lst w2
          refine ⟨a, _, vs, rfl, rfl, h1, by omega, by omega, by rw [ra.length, ← lim_eq]; exact hk.2, fun z hz => ?_⟩
          have st := Stp.lay (m := m2) (G := G2) hz (.lst (List.replicate k.toNat vs).flatten)
          exact A2 m2 G2 _ st (w2.lay hz _) z _ (Stp.back w1 t1 (Stp.back w2 t2 hz)) (w2.sub.free hz) (fun y => (w2.off z y).2 hz) upd_same (.lst (ra.rep _))
        · exact False.elim A2
      · exact False.elim A2
    · exact False.elim A
/-! ### list(range(n)) -/
theorem rg_reps {m : List (Addr × Addr)} {G : Hp} {a : Int} : ∀ (is : List Nat), Reps L m G (is.map fun i => V.int (a + (i : Nat))) (is.map fun i => D.int (a + (i : Nat)))
  | [] => .nil
  | i :: is => .cons (.int _) (rg_reps is)
theorem s_lrg (g : Gd L X Wx) {e : Expr} {e' : E} {p2 pos2 : Pos} (hgl : Gl X "list") (hgr : Gl X "range") (he : PE X e (tB L c Wx W e')) (ns : noStar e = true) : PE X (.Call (.Name "list" p) [.Call (.Name "range" p2) [e] [] pos2] [] pos) (tO L c Wx W (.lrg e')) := by
  refine PE.imp (pe_listRg g.calm hgl (blt g (by decide +kernel)) (prg_1 hgr (blt g (by decide +kernel)) he (starOne ns))) fun σ H Q ⟨ρ, s, m, G, w, q, A⟩ => ?_
  unfold ev at A
  refine goB w q (Aft.bind w A) fun d s1 m1 G1 H1 v t1 w1 q1 r1 A1 => ?_
  split at A1
  · split at A1
    · rename_i n hb
      simp only [Bool.and_eq_true, decide_eq_true_eq] at hb
      have e1 := r1.int; subst e1
      refine ⟨n, rfl, RgOk.of_le (by omega) (by omega) (by omega) (by omega), fun z hz => ?_⟩
      have st := Stp.lay (m := m1) (G := G1) hz (.lst (rgV 0 n))
      refine A1 m1 G1 _ st (w1.lay hz _) z _ (Stp.back w1 t1 hz) (w1.sub.free hz) (fun y => (w1.off z y).2 hz) upd_same (.lst ?_)
      unfold rgV
      rw [Int.sub_zero]
      exact rg_reps _
    · exact False.elim A1
  · exact False.elim A1
/-! ### zip -/
theorem zpL_get : ∀ (xs ys : List D) (i : Nat), (zpL xs ys)[i]? = match xs[i]?, ys[i]? with
    | some x, some y => some (D.tup [x, y])
    | _, _ => none
  | [], ys, i => by simp [zpL]
  | x :: xs, [], i => by
    simp only [zpL, List.getElem?_nil]
    cases (x :: xs)[i]? <;> rfl
  | x :: xs, y :: ys, 0 => by simp [zpL]
  | x :: xs, y :: ys, i + 1 => by
    unfold zpL
    simp only [List.getElem?_cons_succ]
    exact zpL_get xs ys i
theorem zpL_length : ∀ (xs ys : List D), (zpL xs ys).length = min xs.length ys.length
  | [], ys => by simp [zpL]
  | x :: xs, [] => by simp [zpL]
  | x :: xs, y :: ys => by unfold zpL; rw [List.length_cons, zpL_length xs ys]; simp
theorem src_zipL {a b : Addr} {xs ys : List D} : Src L (zpL xs ys) (Itz L.K a b) (fun m G => ∃ vs us, G a = some (.lst vs) ∧ Reps L m G vs xs ∧ G b = some (.lst us) ∧ Reps L m G us ys) where
  mono := fun ⟨vs, us, h, r, h', r'⟩ hm hg => ⟨vs, us, hg _ _ h, r.mono hm hg, hg _ _ h', r'.mono hm hg⟩
  go := fun {i s m G H} ⟨vs, us, h, r, h', r'⟩ w hi => by
    rw [zpL_length] at hi
    have h1 : i < vs.length := by rw [r.length]; omega
    have h2 : i < us.length := by rw [r'.length]; omega
    exact ⟨vs, us, vs[i], us[i], .of (w.sub _ _ h), .of (w.sub _ _ h'), by simp, by simp⟩
  stop := fun {i s m G H} ⟨vs, us, h, r, h', r'⟩ w hi => by
    rw [zpL_length] at hi
    exact ⟨vs, us, .of (w.sub _ _ h), .of (w.sub _ _ h'), by rw [r.length, r'.length]; omega⟩
  yld := fun {i s m G H H' x} ⟨vs, us, h, r, h', r'⟩ w y hi => by
    obtain ⟨T, x, y, rfl, hT, rfl, y1, y2⟩ := y
    obtain ⟨d, h1, h2⟩ := r.getV (y1 vs (.of (w.sub _ _ h)))
    obtain ⟨d', h3, h4⟩ := r'.getV (y2 us (.of (w.sub _ _ h')))
    have t := Stp.new w hT (.tup [x, y])
    refine ⟨upd G T (.tup [x, y]), .tup [d, d'], t, w.new hT _, by rw [zpL_get, h1, h3], .obj upd_same (.tup ?_)⟩
    exact .cons (h2.mono t.pre t.keep) (.one (h4.mono t.pre t.keep))
theorem src_zipT {a b : Addr} {xs ys : List D} : Src L (zpL xs ys) (RZ.ItzT L.K a b) (fun m G => ∃ vs us, G a = some (.tup vs) ∧ Reps L m G vs xs ∧ G b = some (.tup us) ∧ Reps L m G us ys) where
  mono := fun ⟨vs, us, h, r, h', r'⟩ hm hg => ⟨vs, us, hg _ _ h, r.mono hm hg, hg _ _ h', r'.mono hm hg⟩
  go := fun {i s m G H} ⟨vs, us, h, r, h', r'⟩ w hi => by
    rw [zpL_length] at hi
    have h1 : i < vs.length := by rw [r.length]; omega
    have h2 : i < us.length := by rw [r'.length]; omega
    exact ⟨vs, us, vs[i], us[i], .of (w.sub _ _ h), .of (w.sub _ _ h'), by simp, by simp⟩
  stop := fun {i s m G H} ⟨vs, us, h, r, h', r'⟩ w hi => by
    rw [zpL_length] at hi
    exact ⟨vs, us, .of (w.sub _ _ h), .of (w.sub _ _ h'), by rw [r.length, r'.length]; omega⟩
  yld := fun {i s m G H H' x} ⟨vs, us, h, r, h', r'⟩ w y hi => by
    obtain ⟨T, x, y, rfl, hT, rfl, y1, y2⟩ := y
    obtain ⟨d, h1, h2⟩ := r.getV (y1 vs (.of (w.sub _ _ h)))
    obtain ⟨d', h3, h4⟩ := r'.getV (y2 us (.of (w.sub _ _ h')))
    have t := Stp.new w hT (.tup [x, y])
    refine ⟨upd G T (.tup [x, y]), .tup [d, d'], t, w.new hT _, by rw [zpL_get, h1, h3], .obj upd_same (.tup ?_)⟩
    exact .cons (h2.mono t.pre t.keep) (.one (h4.mono t.pre t.keep))
theorem s_zp (g : Gd L X Wx) {a b : Expr} {a' b' : E} {elts : List Expr} {kk : Nat} {tpos : Pos} (hg : Gl X "zip") (hm : X.mg "zip" = none) (ha : PE X a (tE L c Wx W a')) (hb : PE X b (tE L c Wx W b')) (ns : noStar a = true) (nt : noStar b = true) : PI X (.Tuple elts kk tpos) (.Call (.Name "zip" p) [a, b] [] pos) (tSr L c Wx W (.zp a' b')) := by
  refine PI.imp (RZ.pi_zipA hg hm (pa_cons ha (pa_cons hb pa_nil (starOne nt)) (starEach_cons ns)) (starEach_cons ns) (backAny (by rw [List.all_cons, nt]; rfl))) fun σ H R ⟨ρ, s, m, G, w, q, A⟩ => ?_
  unfold evr at A
  refine goE w q (Aft.bind w A) fun d s1 m1 G1 H1 v t1 w1 q1 r1 A1 => ?_
  refine goE w1 q1 (Aft.bind w1 A1) fun d2 s2 m2 G2 H2 v2 t2 w2 q2 r2 A2 => ?_
  have r1' := r1.mono t2.pre t2.keep
  split at A2
  · cases r1' with
    | obj hg1 hc1 =>
      cases hc1 with
      | lst hr1 =>
        cases r2 with
        | obj hg2 hc2 =>
          cases hc2 with
          | lst hr2 => exact ⟨_, _, _, _, rfl, .inl ⟨.of (w2.sub _ _ hg1), .of (w2.sub _ _ hg2), A2.ok w2 (Itz X.K _ _) _ (g.K ▸ src_zipL) ⟨_, _, hg1, hr1, hg2, hr2⟩⟩⟩
  · cases r1' with
    | obj hg1 hc1 =>
      cases hc1 with
      | tup hr1 =>
        cases r2 with
        | obj hg2 hc2 =>
          cases hc2 with
          | tup hr2 => exact ⟨_, _, _, _, rfl, .inr ⟨.of (w2.sub _ _ hg1), .of (w2.sub _ _ hg2), A2.ok w2 (RZ.ItzT X.K _ _) _ (g.K ▸ src_zipT) ⟨_, _, hg1, hr1, hg2, hr2⟩⟩⟩
  · exact False.elim A2
end
end MP

end
section
set_option Elab.async false
set_option linter.all false
set_option maxRecDepth 100000
set_option maxHeartbeats 1000000
/-! Comprehensions with two fors. -/
namespace MP
open PySem PySem.Spec PyProof.Rows L2

section
variable {L : Lay} {c : Cfg} {Wx : WX} {W : List Nat} {X : Cx} {pos p : Pos} {s : Sto} {m : List (Addr × Addr)} {G H : Hp} {tg tg1 : Expr}
theorem Sl.bound {i : Nat} {ρw : Env} {σw σ2 : L2.St} {x : D} {m2 m4 : List (Addr × Addr)} {G2 H2 G4 H4 : Hp} (hW : i ∉ W) (q4 : Sl L W ρw σw m4 G4 H4) (q2 : Sl L W (ρw.set i (some x)) σ2 m2 G2 H2) (o : offT [i] σw σ2) (pre : m2 <+: m4) (keep : Same G2 G4) : Sl L W (ρw.set i (some x)) σ2 m4 G4 H4 := by
  by_cases hi : i < ρw.length
  · obtain ⟨v, h1, h2⟩ := q2.sh i x (List.getElem?_set_self hi) hW
    have e : σ2 = σw.set i (some v) := by
      apply List.ext_getElem?
      intro j
      by_cases hj : j = i
      · subst hj
        rw [h1, List.getElem?_set_self (by rw [← q4.len]; exact hi)]
      · rw [List.getElem?_set_ne (Ne.symm hj)]
        exact o.2 j (by simpa using hj)
    rw [e]
    exact q4.set hW (h2.mono pre keep)
  · have e1 : ρw.set i (some x) = ρw := List.set_eq_of_length_le (by omega)
    have e2 : σ2 = σw := by
      apply List.ext_getElem?
      intro j
      by_cases hj : j = i
      · subst hj
        rw [List.getElem?_eq_none (by rw [o.1, ← q4.len]; omega), List.getElem?_eq_none (by rw [← q4.len]; omega)]
      · exact o.2 j (by simpa using hj)
    rw [e1, e2]
    exact q4
theorem off_ij {i j k : Nat} (hk : k ∉ [i, j]) : k ∉ slotsT (.nm i) := fun z => hk (by
  have : k = i := by simpa [slotsT] using z
  simp [this])
theorem nox_bind {α β : Type} (r : Rs α) (f : α → Sto → Rs β) : (r.bind f).nox = r.nox.bind fun a s => (f a s).nox := by cases r <;> rfl
theorem lc2_walk {xs : List D} {J : It} {P : List (Addr × Addr) → Hp → Prop} (S : Src L xs J P) {i j : Nat} {r2 : Sr} {ρ : Env} {σ : L2.St} {Q : VK} {fi : Env → D → Sto → Rs (Option D)} {Da : Addr} {tt1 : TT} {te : TE}
    (hD : H Da = none) (w : Wd L s m G H) (hP : P m G) (q : Sl L W ρ σ m G H) (hiW : i ∉ W) (hjW : j ∉ W)
    (turn : ∀ {ρ1 : Env} {σ2 : L2.St} {y : D} {s1 : Sto} {m1 : List (Addr × Addr)} {G1 H1 : Hp} {v : V} {R : Option V → Hp → Prop}, Wd L s1 m1 G1 H1 → Sl L W (wipeE ρ1 [j]) (L2.wipe σ2 [j]) m1 G1 H1 → Rep L m1 G1 v y →
      (Aft L WF (L2.wipe σ2 [j]) m1 G1 H1 (fi ρ1 y s1) fun o _ m' G' H' => match o with
        | none => R none H'
        | some d => ∀ u, Rep L m' G' u d → R (some u) H') →
      gT L W (.nm j) v (L2.wipe σ2 [j]) H1 fun σ3 H2 => L2.wipe σ3 [j] = L2.wipe σ2 [j] ∧ tt1 σ3 H2 fun b H3 => if b = true then te σ3 H3 fun y H4 => R (some y) H4 else R none H3)
    (A : Aft L Wx σ m G H (lc2L (fun acc x s => (evr c r2 ((wipeE ρ [i, j]).set i (some x)) s).bind fun ys s => lc2In (fi ((wipeE ρ [i, j]).set i (some x))) acc ys s) [] xs s) fun d _ m' G' H' => ∀ a o, H a = none → G' a = none → a ∉ hs m' → H' a = some o → Cont L m' G' o d → Q (.ref a) H') :
    ∃ Wv : Nat → Nat → Hp → Prop, (∃ k, Wv 0 k (upd H Da (.lst []))) ∧ ∀ n k H', Wv n k H' →
      (J.stop n H' ∧ Q (.ref Da) H') ∨ (J.go n H' ∧ ∃ Nx : Hp → Prop, (∀ H'', Nx H'' → ∃ k', k' < k ∧ Wv (n + 1) k' H'') ∧ ∀ x H'', J.yld n H' x H'' → gT L W (.nm i) x (L2.wipe σ [i, j]) H'' fun σ2 H2 => L2.wipe σ2 [i, j] = L2.wipe σ [i, j] ∧ tYes σ2 H2 fun b H3 =>
        if b = true then tSr L c WF W r2 σ2 H3 fun J1 H4 => ∃ W1 : Nat → Nat → Hp → Prop, (∃ k, W1 0 k H4) ∧ ∀ n1 k1 H5, W1 n1 k1 H5 →
          (J1.stop n1 H5 ∧ Nx H5) ∨ (J1.go n1 H5 ∧ ∃ Nx1 : Hp → Prop, (∀ H', Nx1 H' → ∃ k', k' < k1 ∧ W1 (n1 + 1) k' H') ∧ ∀ x H', J1.yld n1 H5 x H' → gT L W (.nm j) x (L2.wipe σ2 [j]) H' fun σ3 H5 => L2.wipe σ3 [j] = L2.wipe σ2 [j] ∧ tt1 σ3 H5 fun b H6 =>
            if b = true then te σ3 H6 fun y H7 => ∃ acc, H7 Da = some (.lst acc) ∧ acc.length < sizeLine ∧ Nx1 (upd H7 Da (.lst (acc ++ [y]))) else Nx1 H6)
        else Nx H3) := by
  let K : D → Sto → List (Addr × Addr) → Hp → Hp → Prop := fun d _ m' G' H' => ∀ a o, H a = none → G' a = none → a ∉ hs m' → H' a = some o → Cont L m' G' o d → Q (.ref a) H'
  let f : List D → D → Sto → Rs (List D) := fun acc x s => (evr c r2 ((wipeE ρ [i, j]).set i (some x)) s).bind fun ys s => lc2In (fi ((wipeE ρ [i, j]).set i (some x))) acc ys s
  refine ⟨fun n k H' => k = xs.length - n ∧ n ≤ xs.length ∧ ∃ s1 m1 G1 acc, Made L Da acc s1 m1 G1 H' ∧ From m G H Da m1 G1 H' ∧ P m1 G1 ∧ Aft L Wx σ m G H (lc2L f acc (xs.drop n) s1) K,
    ⟨xs.length, by simp, Nat.zero_le _, s, m, G, [], ⟨w.lay hD _, w.sub.free hD, fun z => (w.off Da z).2 hD, [], upd_same, .nil⟩, ⟨List.prefix_refl _, Same.refl _, fun a x e h g _ => by rw [upd_ne e]; exact ⟨h, g⟩, fun a h h' => absurd h h'⟩, hP, A⟩, ?_⟩
  rintro n k H' ⟨rfl, hle, s1, m1, G1, acc, M, F, hP1, A1⟩
  by_cases hlt : n < xs.length
  · refine .inr ⟨S.go hP1 M.w hlt, fun H'' => n + 1 ≤ xs.length ∧ ∃ s1 m1 G1 acc, Made L Da acc s1 m1 G1 H'' ∧ From m G H Da m1 G1 H'' ∧ P m1 G1 ∧ Aft L Wx σ m G H (lc2L f acc (xs.drop (n + 1)) s1) K, fun H'' h => ⟨xs.length - (n + 1), by omega, rfl, h.1, h.2⟩, fun x H'' y => ?_⟩
    obtain ⟨G2, d, t2, w2, hd, r2'⟩ := S.yld hP1 M.w y hlt
    have M2 := M.step t2 w2
    have F2 := F.step hD w M.w t2
    have P2 : P m1 G2 := S.mono hP1 t2.pre t2.keep
    have hdrop : xs.drop n = d :: xs.drop (n + 1) := by
      have h1 := List.drop_eq_getElem_cons hlt
      have h2 : xs[n] = d := by
        have := List.getElem?_eq_getElem hlt
        rw [hd] at this
        exact (Option.some.inj this).symm
      rw [h1, h2]
    rw [hdrop] at A1
    unfold lc2L at A1
    have q2 := (q.step (F2.stp hD)).wipe [i, j]
    refine ⟨_, s1, m1, G2, d, _, w2, q2, r2', rfl, fun σ2 qs os => ⟨wipe_off (vs := [i, j]) ⟨os.1, fun k hk => os.2 k (off_ij hk)⟩, ?_⟩⟩
    show tSr L c WF W r2 σ2 H'' _
    refine ⟨_, s1, m1, G2, w2, qs, ?_⟩
    rw [show f acc d s1 = (evr c r2 ((wipeE ρ [i, j]).set i (some d)) s1).bind fun ys s => lc2In (fi ((wipeE ρ [i, j]).set i (some d))) acc ys s from rfl] at A1
    cases er : evr c r2 ((wipeE ρ [i, j]).set i (some d)) s1 with
    | st => rw [er] at A1; exact False.elim A1
    | ex k ds s' => rw [er] at A1; exact False.elim A1
    | ok ys s3 =>
      rw [er] at A1
      simp only [Rs.bind_ok] at A1
      intro m3 G3 H3 t3 w3 J1 P1 S1 hP3
      have M3 := M2.step t3 w3
      have F3 := F2.step hD w w2 t3
      have P3 : P m3 G3 := S.mono P2 t3.pre t3.keep
      refine ⟨fun n1 k1 H5 => k1 = ys.length - n1 ∧ n1 ≤ ys.length ∧ ∃ s4 m4 G4 acc4, Made L Da acc4 s4 m4 G4 H5 ∧ From m G H Da m4 G4 H5 ∧ P m4 G4 ∧ P1 m4 G4 ∧ m1 <+: m4 ∧ Same G2 G4 ∧ Aft L Wx σ m G H ((lc2In (fi ((wipeE ρ [i, j]).set i (some d))) acc4 (ys.drop n1) s4).nox.bind fun acc s => lc2L f acc (xs.drop (n + 1)) s) K,
        ⟨ys.length, by simp, Nat.zero_le _, s3, m3, G3, acc, M3, F3, P3, hP3, t3.pre, t3.keep, A1⟩, ?_⟩
      rintro n1 k1 H5 ⟨rfl, hle1, s4, m4, G4, acc4, M4, F4, P4, P14, pre4, keep4, A4⟩
      by_cases hlt1 : n1 < ys.length
      · refine .inr ⟨S1.go P14 M4.w hlt1, fun H5 => n1 + 1 ≤ ys.length ∧ ∃ s4 m4 G4 acc4, Made L Da acc4 s4 m4 G4 H5 ∧ From m G H Da m4 G4 H5 ∧ P m4 G4 ∧ P1 m4 G4 ∧ m1 <+: m4 ∧ Same G2 G4 ∧ Aft L Wx σ m G H ((lc2In (fi ((wipeE ρ [i, j]).set i (some d))) acc4 (ys.drop (n1 + 1)) s4).nox.bind fun acc s => lc2L f acc (xs.drop (n + 1)) s) K,
          fun H'' h => ⟨ys.length - (n1 + 1), by omega, rfl, h.1, h.2⟩, fun x1 H6 y1 => ?_⟩
        obtain ⟨G5, d1, t5, w5, hd1, r5⟩ := S1.yld P14 M4.w y1 hlt1
        have M5 := M4.step t5 w5
        have F5 := F4.step hD w M4.w t5
        have hdrop1 : ys.drop n1 = d1 :: ys.drop (n1 + 1) := by
          have h1 := List.drop_eq_getElem_cons hlt1
          have h2 : ys[n1] = d1 := by
            have := List.getElem?_eq_getElem hlt1
            rw [hd1] at this
            exact (Option.some.inj this).symm
          rw [h1, h2]
        rw [hdrop1] at A4
        unfold lc2In at A4
        cases hf : fi ((wipeE ρ [i, j]).set i (some d)) d1 s4 with
        | st => rw [hf] at A4; exact False.elim A4
        | ex k ds s' => rw [hf] at A4; exact False.elim A4
        | ok o s6 =>
          rw [hf] at A4
          simp only [Rs.nox_ok, Rs.bind_ok] at A4
          have q5 : Sl L W ((wipeE ρ [i, j]).set i (some d)) σ2 m4 G5 H6 := Sl.bound hiW ((q.step (F5.stp hD)).wipe [i, j]) qs os pre4 (keep4.trans t5.keep)
          refine turn w5 (q5.wipe [j]) r5 (R := fun ov H4 => match ov with
            | none => n1 + 1 ≤ ys.length ∧ ∃ s4 m4 G4 acc4, Made L Da acc4 s4 m4 G4 H4 ∧ From m G H Da m4 G4 H4 ∧ P m4 G4 ∧ P1 m4 G4 ∧ m1 <+: m4 ∧ Same G2 G4 ∧ Aft L Wx σ m G H ((lc2In (fi ((wipeE ρ [i, j]).set i (some d))) acc4 (ys.drop (n1 + 1)) s4).nox.bind fun acc s => lc2L f acc (xs.drop (n + 1)) s) K
            | some y => ∃ acc, H4 Da = some (.lst acc) ∧ acc.length < sizeLine ∧ (n1 + 1 ≤ ys.length ∧ ∃ s4 m4 G4 acc4, Made L Da acc4 s4 m4 G4 (upd H4 Da (.lst (acc ++ [y]))) ∧ From m G H Da m4 G4 (upd H4 Da (.lst (acc ++ [y]))) ∧ P m4 G4 ∧ P1 m4 G4 ∧ m1 <+: m4 ∧ Same G2 G4 ∧ Aft L Wx σ m G H ((lc2In (fi ((wipeE ρ [i, j]).set i (some d))) acc4 (ys.drop (n1 + 1)) s4).nox.bind fun acc s => lc2L f acc (xs.drop (n + 1)) s) K)) ?_
          rw [hf]
          intro m7 G7 H7 t7 w7
          have M7 := M5.step t7 w7
          have F7 := F5.step hD w w5 t7
          have P7 : P m7 G7 := S.mono (S.mono P4 t5.pre t5.keep) t7.pre t7.keep
          have P17 : P1 m7 G7 := S1.mono (S1.mono P14 t5.pre t5.keep) t7.pre t7.keep
          have pre7 : m1 <+: m7 := pre4.trans t7.pre
          have keep7 : Same G2 G7 := (keep4.trans t5.keep).trans t7.keep
          cases o with
          | none => exact ⟨hlt1, s6, m7, G7, acc4, M7, F7, P7, P17, pre7, keep7, A4⟩
          | some d' =>
            intro u ru
            obtain ⟨vs', h1, h2, M8⟩ := M7.put ru
            simp only at A4
            by_cases hl : acc4.length < lim
            · rw [if_pos hl] at A4
              exact ⟨vs', h1, by rw [h2, ← lim_eq]; exact hl, hlt1, s6, m7, G7, acc4 ++ [d'], M8, F7.put, P7, P17, pre7, keep7, A4⟩
            · rw [if_neg hl] at A4
              exact False.elim A4
      · have e : n1 = ys.length := by omega
        subst e
        rw [List.drop_length] at A4
        unfold lc2In at A4
        simp only [Rs.nox_ok, Rs.bind_ok] at A4
        exact .inl ⟨S1.stop P14 M4.w (Nat.le_refl _), hlt, s4, m4, G4, acc4, M4, F4, P4, A4⟩
  · have e : n = xs.length := by omega
    subst e
    rw [List.drop_length] at A1
    unfold lc2L at A1
    obtain ⟨vs', h1, r1⟩ := M.at_
    exact .inl ⟨S.stop hP1 M.w (Nat.le_refl _), A1 m1 G1 H' (F.stp hD) M.w Da (.lst vs') hD M.g M.n h1 (.lst r1)⟩
theorem lc2_imp {i j : Nat} {r r2 : Sr} {e' : E} (hiW : i ∉ W) (hjW : j ∉ W) {σ : L2.St} {Q : VK} (h : tO L c Wx W (.lc2 e' i r j r2) σ H Q) : tLc2 (tSr L c Wx W r) (gT L W (.nm i)) tYes (tSr L c WF W r2) (gT L W (.nm j)) tYes (tE L c WF W e') [i, j] [j] σ H Q := by
  obtain ⟨ρ, s, m, G, w, q, A⟩ := h
  unfold ev at A
  refine ⟨ρ, s, m, G, w, q, (Aft.bind w A).imp fun xs s1 m1 G1 H1 t1 w1 A1 J P S hP Da hD => ?_⟩
  have A2 : Aft L Wx σ m1 G1 H1 _ fun d _ m' G' H' => ∀ a o, H1 a = none → G' a = none → a ∉ hs m' → H' a = some o → Cont L m' G' o d → Q (.ref a) H' := A1.imp fun d s' m' G' H' _ _ k a o h1 => k a o (Stp.back w1 t1 h1)
  refine lc2_walk (fi := fun ρ1 y s => (ev c e' ((wipeE ρ1 [j]).set j (some y)) s).bind fun d s => .ok (some d) s) S hD w1 hP (q.step t1) hiW hjW (fun {ρ1 σ2 y s2 m2 G2 H2 v R} w2 q2 r2 B => ?_) A2
  refine ⟨_, s2, m2, G2, y, _, w2, q2, r2, rfl, fun σ' q' o' => ⟨wipe_off o', _, s2, m2, G2, w2, q', ?_⟩⟩
  revert B
  cases ev c e' ((wipeE ρ1 [j]).set j (some y)) s2 with
  | st => exact id
  | ex k ds s' => exact fun B => B
  | ok d s' => exact fun B m' G' H' t' w' u ru => B m' G' H' t' w' u ru
theorem lc2i_imp {i j : Nat} {r r2 : Sr} {e' c' : E} (hiW : i ∉ W) (hjW : j ∉ W) {σ : L2.St} {Q : VK} (h : tO L c Wx W (.lc2i e' i r j r2 c') σ H Q) : tLc2 (tSr L c Wx W r) (gT L W (.nm i)) tYes (tSr L c WF W r2) (gT L W (.nm j)) (tT L c WF W c') (tE L c WF W e') [i, j] [j] σ H Q := by
  obtain ⟨ρ, s, m, G, w, q, A⟩ := h
  unfold ev at A
  refine ⟨ρ, s, m, G, w, q, (Aft.bind w A).imp fun xs s1 m1 G1 H1 t1 w1 A1 J P S hP Da hD => ?_⟩
  have A2 : Aft L Wx σ m1 G1 H1 _ fun d _ m' G' H' => ∀ a o, H1 a = none → G' a = none → a ∉ hs m' → H' a = some o → Cont L m' G' o d → Q (.ref a) H' := A1.imp fun d s' m' G' H' _ _ k a o h1 => k a o (Stp.back w1 t1 h1)
  refine lc2_walk (fi := fun ρ1 y s => (ev c c' ((wipeE ρ1 [j]).set j (some y)) s).bind fun k s => (Rs.opt (truD k) s).bind fun k s => if k then (ev c e' ((wipeE ρ1 [j]).set j (some y)) s).bind fun d s => .ok (some d) s else .ok none s) S hD w1 hP (q.step t1) hiW hjW (fun {ρ1 σ2 y s2 m2 G2 H2 v R} w2 q2 r2 B => ?_) A2
  rw [← Rs.bind_assoc (ev c c' ((wipeE ρ1 [j]).set j (some y)) s2) (fun x s => Rs.opt (truD x) s)] at B
  refine ⟨_, s2, m2, G2, y, _, w2, q2, r2, rfl, fun σ' q' o' => ⟨wipe_off o', ?_⟩⟩
  refine goT w2 q' (Aft.bind w2 B) fun k s3 m3 G3 H3 t3 w3 q3 B3 => ?_
  cases k with
  | false => exact Aft.ok B3 w3
  | true =>
    simp only [if_true] at B3 ⊢
    refine ⟨_, s3, m3, G3, w3, q3, ?_⟩
    revert B3
    cases ev c e' ((wipeE ρ1 [j]).set j (some y)) s3 with
    | st => exact id
    | ex k ds s' => exact fun B => B
    | ok d s' => exact fun B m' G' H' t' w' u ru => B m' G' H' t' w' u ru
theorem s_lc2 (g : Gd L X Wx) {elt iter iter1 : Expr} {scope : Scope} {own : List (Str × Nat)} {i j : Nat} {r r2 : Sr} {e' : E} (ho : own.map (·.2) = [i, j]) (hiW : i ∉ W) (hjW : j ∉ W) (hi : PI X tg iter (tSr L c Wx W r)) (ok : BlkOk X.N X.env.scope scope own)
    (hg : ∀ (s : Shared) (H : Hp) (C : Addr) (cl : List (Str × Addr)) (fp : List Addr), PG (blkX X scope s H C cl fp) tg (gT L W (.nm i)))
    (hi1 : ∀ (s : Shared) (H : Hp) (C : Addr) (cl : List (Str × Addr)) (fp : List Addr), PI (blkX X scope s H C cl fp) tg1 iter1 (tSr L c WF W r2))
    (hg1 : ∀ (s : Shared) (H : Hp) (C : Addr) (cl : List (Str × Addr)) (fp : List Addr), PG (blkX X scope s H C cl fp) tg1 (gT L W (.nm j)))
    (he : ∀ (s : Shared) (H : Hp) (C : Addr) (cl : List (Str × Addr)) (fp : List Addr), PE (blkX X scope s H C cl fp) elt (tE L c WF W e')) (hns : noSetI iter = true) (hns1 : noSetI iter1 = true) :
    PE X (.ListComp elt [⟨tg, iter, [], 0⟩, ⟨tg1, iter1, [], 0⟩] scope pos) (tO L c Wx W (.lc2 e' i r j r2)) :=
  PE.imp (pe_lc2 (vs1 := [j]) g.calm g.nd hi ok (by rw [ho]; simp) hg (fun _ _ _ _ _ => pts_nil) hi1 hg1 (fun _ _ _ _ _ => pts_nil) he (noSetI_is hns) (fun _ => noSetI_is hns1)) fun σ H Q h => by
    rw [ho]; exact lc2_imp hiW hjW h
theorem s_lc2i (g : Gd L X Wx) {elt iter iter1 cnd : Expr} {scope : Scope} {own : List (Str × Nat)} {i j : Nat} {r r2 : Sr} {e' c' : E} (ho : own.map (·.2) = [i, j]) (hiW : i ∉ W) (hjW : j ∉ W) (hi : PI X tg iter (tSr L c Wx W r)) (ok : BlkOk X.N X.env.scope scope own)
    (hg : ∀ (s : Shared) (H : Hp) (C : Addr) (cl : List (Str × Addr)) (fp : List Addr), PG (blkX X scope s H C cl fp) tg (gT L W (.nm i)))
    (hi1 : ∀ (s : Shared) (H : Hp) (C : Addr) (cl : List (Str × Addr)) (fp : List Addr), PI (blkX X scope s H C cl fp) tg1 iter1 (tSr L c WF W r2))
    (hg1 : ∀ (s : Shared) (H : Hp) (C : Addr) (cl : List (Str × Addr)) (fp : List Addr), PG (blkX X scope s H C cl fp) tg1 (gT L W (.nm j)))
    (hc : ∀ (s : Shared) (H : Hp) (C : Addr) (cl : List (Str × Addr)) (fp : List Addr), PT (blkX X scope s H C cl fp) cnd (tT L c WF W c'))
    (he : ∀ (s : Shared) (H : Hp) (C : Addr) (cl : List (Str × Addr)) (fp : List Addr), PE (blkX X scope s H C cl fp) elt (tE L c WF W e')) (hns : noSetI iter = true) (hns1 : noSetI iter1 = true) :
    PE X (.ListComp elt [⟨tg, iter, [], 0⟩, ⟨tg1, iter1, [cnd], 0⟩] scope pos) (tO L c Wx W (.lc2i e' i r j r2 c')) :=
  PE.imp (pe_lc2 (vs1 := [j]) g.calm g.nd hi ok (by rw [ho]; simp) hg (fun _ _ _ _ _ => pts_nil) hi1 hg1 (fun s H C cl fp => pts_one (hc s H C cl fp)) he (noSetI_is hns) (fun _ => noSetI_is hns1)) fun σ H Q h => by
    rw [ho]; exact lc2i_imp hiW hjW h
/-- y = [..] -/
theorem s_setLc2 (g : Gd L X Wx) {i0 : Nat} {y : Str} {py spos : Pos} {elt iter iter1 : Expr} {scope : Scope} {own : List (Str × Nat)} {i j : Nat} {r r2 : Sr} {e' : E} (hy : X.N[i0]? = some y) (hyl : X.env.scope.names.lookup y = some .local)
    (hsw : swapsWith (.ListComp elt [⟨tg, iter, [], 0⟩, ⟨tg1, iter1, [], 0⟩] scope pos) (some (.Name y py)) spos.line X.env = pure true) (ho : own.map (·.2) = [i, j]) (hiW : i ∉ W) (hjW : j ∉ W) (hi : PI X tg iter (tSr L c Wx W r)) (ok : BlkOk X.N X.env.scope scope own)
    (hg : ∀ (s : Shared) (H : Hp) (C : Addr) (cl : List (Str × Addr)) (fp : List Addr), PG (blkX X scope s H C cl fp) tg (gT L W (.nm i)))
    (hi1 : ∀ (s : Shared) (H : Hp) (C : Addr) (cl : List (Str × Addr)) (fp : List Addr), PI (blkX X scope s H C cl fp) tg1 iter1 (tSr L c WF W r2))
    (hg1 : ∀ (s : Shared) (H : Hp) (C : Addr) (cl : List (Str × Addr)) (fp : List Addr), PG (blkX X scope s H C cl fp) tg1 (gT L W (.nm j)))
    (he : ∀ (s : Shared) (H : Hp) (C : Addr) (cl : List (Str × Addr)) (fp : List Addr), PE (blkX X scope s H C cl fp) elt (tE L c WF W e')) (hns : noSetI iter = true) (hns1 : noSetI iter1 = true) :
    PS X (.Assign [.Name y py] (.ListComp elt [⟨tg, iter, [], 0⟩, ⟨tg1, iter1, [], 0⟩] scope pos) spos) (tAsg (tO L c Wx W (.lc2 e' i r j r2)) (gName i0)) :=
  PS.imp (ps_setLc2 (vs1 := [j]) g.calm g.nd hy hyl hsw hi ok (by rw [ho]; simp) hg (fun _ _ _ _ _ => pts_nil) hi1 hg1 (fun _ _ _ _ _ => pts_nil) he (noSetI_is hns) (fun _ => noSetI_is hns1)) fun Dn σ H h => by
    rw [ho]; exact lc2_imp hiW hjW h
theorem s_setLc2i (g : Gd L X Wx) {i0 : Nat} {y : Str} {py spos : Pos} {elt iter iter1 cnd : Expr} {scope : Scope} {own : List (Str × Nat)} {i j : Nat} {r r2 : Sr} {e' c' : E} (hy : X.N[i0]? = some y) (hyl : X.env.scope.names.lookup y = some .local)
    (hsw : swapsWith (.ListComp elt [⟨tg, iter, [], 0⟩, ⟨tg1, iter1, [cnd], 0⟩] scope pos) (some (.Name y py)) spos.line X.env = pure true) (ho : own.map (·.2) = [i, j]) (hiW : i ∉ W) (hjW : j ∉ W) (hi : PI X tg iter (tSr L c Wx W r)) (ok : BlkOk X.N X.env.scope scope own)
    (hg : ∀ (s : Shared) (H : Hp) (C : Addr) (cl : List (Str × Addr)) (fp : List Addr), PG (blkX X scope s H C cl fp) tg (gT L W (.nm i)))
    (hi1 : ∀ (s : Shared) (H : Hp) (C : Addr) (cl : List (Str × Addr)) (fp : List Addr), PI (blkX X scope s H C cl fp) tg1 iter1 (tSr L c WF W r2))
    (hg1 : ∀ (s : Shared) (H : Hp) (C : Addr) (cl : List (Str × Addr)) (fp : List Addr), PG (blkX X scope s H C cl fp) tg1 (gT L W (.nm j)))
    (hc : ∀ (s : Shared) (H : Hp) (C : Addr) (cl : List (Str × Addr)) (fp : List Addr), PT (blkX X scope s H C cl fp) cnd (tT L c WF W c'))
    (he : ∀ (s : Shared) (H : Hp) (C : Addr) (cl : List (Str × Addr)) (fp : List Addr), PE (blkX X scope s H C cl fp) elt (tE L c WF W e')) (hns : noSetI iter = true) (hns1 : noSetI iter1 = true) :
    PS X (.Assign [.Name y py] (.ListComp elt [⟨tg, iter, [], 0⟩, ⟨tg1, iter1, [cnd], 0⟩] scope pos) spos) (tAsg (tO L c Wx W (.lc2i e' i r j r2 c')) (gName i0)) :=
  PS.imp (ps_setLc2 (vs1 := [j]) g.calm g.nd hy hyl hsw hi ok (by rw [ho]; simp) hg (fun _ _ _ _ _ => pts_nil) hi1 hg1 (fun s H C cl fp => pts_one (hc s H C cl fp)) he (noSetI_is hns) (fun _ => noSetI_is hns1)) fun Dn σ H h => by
    rw [ho]; exact lc2i_imp hiW hjW h
end
end MP

end
section
set_option Elab.async false
set_option linter.all false
set_option maxRecDepth 100000
set_option maxHeartbeats 1000000
/-! Further expressions that the layer has no rule for: t[::-1] of a tuple. -/
namespace MP
open PySem PySem.Spec PyProof.Rows L2 HT

theorem places_rev (n : Nat) : Builtin.Slice.sliceAdjust none none (-1) (n : Int) = ((n : Int) - 1, -1) ∧ Builtin.Slice.slicePlaces ((n : Int) - 1) (-1) (-1) = n := by
  constructor
  · rfl
  · unfold Builtin.Slice.slicePlaces
    rw [if_neg (show ¬ ((-1 : Int) > 0) by omega)]
    by_cases hn : n = 0
    · subst hn; rfl
    · rw [if_pos (show ((n : Int) - 1) > -1 by omega)]
      simp only [Int.neg_neg, Int.ediv_one]
      omega
theorem pick_rev (vs : List Value) : ((List.range vs.length).filterMap fun (j : Nat) => vs.toArray[(((vs.length : Nat) : Int) - 1 + (j : Int) * -1).toNat]?).toArray = vs.reverse.toArray := by
  congr 1
  have key : ∀ l : List Nat, (∀ j ∈ l, j < vs.length) → (l.filterMap fun (j : Nat) => vs[(((vs.length : Nat) : Int) - 1 + (j : Int) * -1).toNat]?) = l.map fun j => vs.getD (vs.length - 1 - j) .none := by
    intro l
    induction l with
    | nil => intro _; rfl
    | cons j l ih =>
      intro h
      have hj := h j (List.mem_cons_self ..)
      have e : (((vs.length : Nat) : Int) - 1 + (j : Int) * -1).toNat = vs.length - 1 - j := by omega
      have hlt : vs.length - 1 - j < vs.length := by omega
      rw [List.filterMap_cons, e]
      simp only [List.getElem?_eq_getElem hlt]
      rw [ih fun k hk => h k (List.mem_cons_of_mem _ hk), List.map_cons]
      simp [List.getD_eq_getElem?_getD, hlt]
  simp only [List.getElem?_toArray]
  rw [key _ fun j hj => List.mem_range.mp hj]
  apply List.ext_getElem
  · simp
  · intro i h1 h2
    have hi : i < vs.length := by simpa using h2
    have hlt : vs.length - 1 - i < vs.length := by omega
    simp [List.getD_eq_getElem?_getD, hlt]
section
variable {prog : Program} {w : World} {A : Around} {E : Value → Shared → Prop} {s : Shared}
theorem applied_rev {sa : Addr} {n : Nat} {tk : Tok} {Q : Int × Int × Nat → Shared → Prop} (hsl : s.heap.IsSliceOf sa .none .none (.int (-1) tk)) (hq : Q ((n : Int) - 1, -1, n) s) : wpAny (model prog w) A (Builtin.Slice.sliceApplied (.ref sa) (pure (n : Int))) Q E s := by
  obtain ⟨ob, hob, _, hdt⟩ := id hsl
  unfold Builtin.Slice.sliceApplied Builtin.Slice.sliceFields
  refine wpAny_bind (wpAny_bind (wpAny_field hob hdt (x := Value.none) rfl (wpAny_bind (wpAny_field hob hdt (x := Value.none) rfl (wpAny_bind (wpAny_field hob hdt (x := Value.int (-1) tk) rfl (wpAny_pure ?_)))))))
  refine wpAny_bind (PyProof.Rows.slicePart_int ?_)
  show wpAny _ _ (if ((-1 : Int) == 0) = true then _ else _) _ _ s
  rw [if_neg (by decide)]
  refine wpAny_bind (PyProof.Rows.slicePart_none (wpAny_bind (PyProof.Rows.slicePart_none (wpAny_bind (wpAny_pure ?_)))))
  show wpAny _ _ (match Builtin.Slice.sliceAdjust none none (-1) (n : Int) with | (a, b) => pure (a, (-1 : Int), Builtin.Slice.slicePlaces a b (-1))) _ _ s
  rw [(places_rev n).1]
  show wpAny _ _ (pure (((n : Int) - 1, (-1 : Int), Builtin.Slice.slicePlaces ((n : Int) - 1) (-1) (-1)) : Int × Int × Nat)) _ _ s
  rw [(places_rev n).2]
  exact wpAny_pure hq
theorem item_tup_rev {ta sa : Addr} {vs : List Value} {tk : Tok} {Q : Value → Shared → Prop} (ht : IsTup s.heap ta vs.toArray) (hsl : s.heap.IsSliceOf sa .none .none (.int (-1) tk)) (hsz : vs.length ≤ sizeLine)
    (hq : Q (.ref s.heap.objs.size) { s with heap := s.heap.push { cls := .type "tuple", data := .seq vs.reverse.toArray } }) : wpAny (model prog w) A (getItem (.ref ta) (.ref sa)) Q E s := by
  have hok : sizeOk (.seq vs.reverse.toArray) := by
    show vs.reverse.toArray.size ≤ sizeLine
    rw [List.size_toArray, List.length_reverse]
    exact hsz
  obtain ⟨ob, hob, hcl, hdt⟩ := id hsl
  have hty : s.TypeIs (.ref sa) "slice" := ⟨ob, hob, hcl⟩
  unfold getItem
  try with_reducible refine wpAny_holding ?_
  first | refine wpAny_bind (wpAny_pure ?_) | skip
  refine wpAny_bind (wpAny_sequenceKey ht.typeIs (by decide) ?_)
  refine wpAny_bind (wpAny_callSpecial?_slot (name := Str.ofString "__getitem__") ht.typeIs slot_tuple_getitem (wpAny_call_entry slot_tuple_getitem ht.typeIs entry_tuple_getitem ?_ (args_tuple_getitem _ _)))
  show wpAny _ _ (Builtin.Tuple.tupleItemsOf (.ref ta) >>= _) _ _ s
  refine wpAny_bind (tupleItemsOf_ ht ?_)
  refine wpAny_bind (wpAny_typeOf hty ?_)
  rw [if_pos (by decide)]
  have hn : vs.toArray.size = vs.length := by simp
  rw [hn]
  refine wpAny_bind (applied_rev (n := vs.length) hsl ?_)
  have hno : ¬ ((((vs.length : Nat) : Int) - 1 == 0 && (-1 : Int) == 1 && vs.length == vs.toArray.size) = true) := by
    simp
  show wpAny _ _ (if (((vs.length : Nat) : Int) - 1 == 0 && (-1 : Int) == 1 && vs.length == vs.length) = true then _ else _) _ _ s
  rw [if_neg (by simp), pick_rev]
  first
    | exact wpAny_bind (m := Builtin.Tuple.tupleExact _) (wpAny_newObj_type (wpAny_pure ⟨_, rfl, wpAny_pure hq⟩) hok)
    | exact wpAny_bind (m := Builtin.Tuple.tupleExact _) (wpAny_newObj_type (wpAny_bind (wpAny_pure (wpAny_pure ⟨_, rfl, wpAny_pure hq⟩))) hok)
    | exact wpAny_bind (wpAny_bind (m := Builtin.Tuple.tupleExact _) (wpAny_newObj_type (wpAny_pure (wpAny_pure ⟨_, rfl, wpAny_pure hq⟩)) hok))
    | exact wpAny_bind (wpAny_bind (m := Builtin.Tuple.tupleExact _) (wpAny_newObj_type (wpAny_pure ⟨_, rfl, wpAny_pure hq⟩) hok))
end
section
variable {X : Cx}
def tRevT (K : PySem.W.Frag) (te : TE) : TE := fun σ H Q => te σ H fun x H1 => ∃ a xs, x = .ref a ∧ SqT K H1 a xs ∧ ∀ p, H1 p = none → Q (.ref p) (upd H1 p (.tup xs.reverse))
theorem pe_revT {e : Expr} {te : TE} {k : Nat} {p1 p2 p3 pos : Pos} (he : PE X e te) : PE X (.Subscript e (.Slice none none (some (.UnaryOp .USub (.Constant (.int 1) k p1) p2)) p3) pos) (tRevT X.K te) := by
  refine ⟨fun pins s σ H Q Iv h => Subscript_ (thn (he.run pins s σ H _ Iv h) fun v s1 ⟨x, H1, J1, r1, q1⟩ => ?_)⟩
  obtain ⟨a, xs, ex, hx, qq⟩ := q1
  subst ex
  cases r1
  have hst : PO X (some (.UnaryOp .USub (.Constant (.int 1) k p1) p2)) (tPart (tUn (rU fun i => .int (-i)) (tC (.int 1)))) := po_some (pe_un un_neg pe_int)
  refine wpAny_Slice (thn (po_none.run pins s1 σ H1 (fun o G => o = none ∧ G = H1) J1 ⟨rfl, rfl⟩) fun vl s2 ⟨l, H2, J2, pl, el, e2⟩ => ?_)
  subst el e2
  refine thn (po_none.run pins s2 σ H2 (fun o G => o = none ∧ G = H2) J2 ⟨rfl, rfl⟩) fun vu s3 ⟨u, H3, J3, pu, eu, e3⟩ => ?_
  subst eu e3
  refine thn (hst.run pins s3 σ H3 (fun o G => o = some (-1) ∧ G = H3) J3 ⟨1, rfl, -1, rfl, rfl, rfl⟩) fun vs s4 ⟨o, H4, J4, ps, eo, e4⟩ => ?_
  subst eo e4
  have J5 : Inv X pins σ H4 { s4 with heap := s4.heap.push { cls := .type "slice", data := .fields #[vl, vu, vs] } } := J4.kept (t' := s4.toks) fun b ob q => Heap.get?_push_of_some _ q
  cases pl
  cases pu
  cases ps with
  | int i tk =>
    obtain ⟨its, r, ht, hz⟩ := J5.tuple hx
    have hlen := r.length
    show wpAny (model X.prog X.w) X.A (subscriptTail e (.Slice none none (some (.UnaryOp .USub (.Constant (.int 1) k p1) p2)) p3) (.ref a) (.ref s4.heap.objs.size)) (EP X pins σ Q) X.xe _
    refine tail_any (ops := [.ref a, .ref s4.heap.objs.size]) ht.typeIs (slot_tuple_getitem.lookup) ?_ (by with_unfolding_all rfl)
    refine item_tup_rev ht (Heap.IsSliceOf.new _ .none .none (.int (-1) tk)) (by omega) ?_
    refine ⟨.ref _, _, J5.laid (t' := s4.toks) (o := .tup xs.reverse) (fun b ob q => Heap.get?_push_of_some _ q) (Nat.le_refl _) ?_, rfl, qq _ (J5.hok.fresh (Nat.le_refl _))⟩
    exact ⟨by rw [List.length_reverse]; exact hz, _, r.reverse, IsTup.new _ _⟩
end
section
variable {L : Lay} {c : Cfg} {Wx : WX} {W : List Nat} {X : Cx} {pos p : Pos} {s : Sto} {m : List (Addr × Addr)} {G H : Hp} {n : Nat}
theorem Reps.reverse : ∀ {vs : List V} {ds : List D}, Reps L m G vs ds → Reps L m G vs.reverse ds.reverse
  | _, _, .nil => .nil
  | _, _, .cons h t => by
    rw [List.reverse_cons, List.reverse_cons]
    exact (Reps.reverse t).append (.one h)
theorem s_rev (g : Gd L X Wx) {a : Expr} {a' : E} {k : Nat} {p1 p2 p3 : Pos} (ha : PE X a (tE L c Wx W a')) : PE X (.Subscript a (.Slice none none (some (.UnaryOp .USub (.Constant (.int 1) k p1) p2)) p3) pos) (tE L c Wx W (.rev a')) := by
  refine PE.imp (pe_revT ha) fun σ H Q ⟨ρ, s, m, G, w, q, A⟩ => ?_
  unfold ev at A
  refine goE w q (Aft.bind w A) fun d s1 m1 G1 H1 v t1 w1 q1 r1 A1 => ?_
  split at A1
  · obtain ⟨a, vs, rfl, ha, ra⟩ := (RB.rep (H := H1) r1).tup w1
    refine ⟨a, vs, rfl, .of ha, fun p hp => ?_⟩
    exact put_new (K := fun _ _ _ => True) w1 hp (.tup ra.reverse) A1
  · exact False.elim A1
/-! min(x, default=None) -/
def mindD : D → Option D
  | .lst [] => some .non
  | .lst (d :: r) => if okMin (d :: r) then minDs (d :: r) else none
  | _ => none
def rMind (L : Lay) : List V → List V → Hp → VK → Prop := fun xs zs H Q => ∃ x s m G dx d, xs = [x] ∧ zs = [.non] ∧ Wd L s m G H ∧ RB L m G H x dx ∧ mindD dx = some d ∧ ∀ v, Rep L m G v d → Q v H
theorem cr_mind (g : Gd L X Wx) : CallRK X (.builtin "min") [Str.ofString "default"] (rMind L) := by
  intro pins sh σ H xs zs us ws Q I r rz h
  obtain ⟨x, s, m, G, dx, d, rfl, rfl, w, rx, e, q⟩ := h
  obtain ⟨w1, rfl, e1⟩ := vals1 rz
  obtain rfl : w1 = Value.none := e1
  unfold mindD at e
  split at e
  · cases e
    obtain ⟨a, vs, rfl, ha, ra⟩ := rx.lst w
    have hs : SqL X.K H a vs := .of ha
    obtain ⟨its, rv, hl, _⟩ := I.list hs
    rw [Vals.ref1 r]
    cases ra
    cases rv
    exact PySem.W.min_list_default (vs := #[]) (xs := []) (as := []) (I.ok.hd g.calm) hl.isList .nil ⟨fun x hx => (List.not_mem_nil hx).elim, fun x hx => (List.not_mem_nil hx).elim⟩ (by have := g.units; simp [PyData.depthAll]; omega) (fun _ h' tk hkp => ⟨.non, H, I.kept hkp, rfl, q _ .non⟩) fun y ys i v h' tk bs hc => by cases hc
  · split at e
    · rename_i d0 dr hk
      cases e
      obtain ⟨a, vs, rfl, ha, ra⟩ := rx.lst w
      have hs : SqL X.K H a vs := .of ha
      obtain ⟨its, rv, hl, _⟩ := I.list hs
      rw [Vals.ref1 r]
      have hdp : DpAll X.K H vs ((d0 :: dr).map (toP 7)) := by
        rw [g.K]
        exact dps_of (dp_of w 7) (List.all_eq_true.mpr (okMin_at hk).1) ra
      obtain ⟨as, rr⟩ := Dp.readsAll I _ _ _ hdp rv
      refine PySem.W.min_list_default (vs := its.toArray) (xs := (d0 :: dr).map (toP 7)) (as := as) (I.ok.hd g.calm) hl.isList rr (alikeAll_of hk) (min_units (ds := d0 :: dr) g) (fun hc => by cases hc) fun y ys i v h' tk bs hc hv hrd hkp => ?_
      cases hc
      obtain ⟨x, h1, h2⟩ := min_item w g.K I rv ra hk (by simpa using hv) hrd hkp
      exact ⟨x, H, I.kept hkp, h1, q x h2⟩
    · cases e
  · cases e
theorem s_mind (g : Gd L X Wx) {a : Expr} {a' : E} {j : Nat} {cp kp : Pos} (hg : Gl X "min") (ha : PE X a (tB L c Wx W a')) (ns : noStar a = true) : PE X (.Call (.Name "min" p) [a] [⟨some (Str.ofString "default"), .Constant .none j cp, kp⟩] pos) (tE L c Wx W (.mind a')) := by
  refine PE.imp (pe_callBK (cr_mind g) hg (blt g (by decide +kernel)) (by decide +kernel) (pa_cons ha pa_nil (starOne ns)) (pk_cons pe_non pk_nil) (by decide +kernel) (by decide +kernel) (by rw [starOne ns]; rfl) (by rw [starOne ns]; rfl) rfl rfl rfl) fun σ H Q ⟨ρ, s, m, G, w, q, A⟩ => ?_
  unfold ev at A
  refine goB w q (Aft.bind w A) fun d s1 m1 G1 H1 v t1 w1 q1 r1 A1 => ?_
  split at A1
  · exact ⟨v, s1, m1, G1, .lst [], .non, rfl, rfl, w1, r1, rfl, A1 m1 G1 H1 (Stp.refl _ _ _) w1⟩
  · split at A1
    · rename_i d0 dr hk
      obtain ⟨z, ez, A3⟩ := A1.opt
      refine ⟨v, s1, m1, G1, .lst (d0 :: dr), z, rfl, rfl, w1, r1, ?_, A3 m1 G1 H1 (Stp.refl _ _ _) w1⟩
      show (if okMin (d0 :: dr) then minDs (d0 :: dr) else none) = some z
      rw [if_pos hk]
      exact ez
    · exact False.elim A1
  · exact False.elim A1
/-! a def as a value, and its call -/
theorem s_fnv {f : F} {x : Str} {np : Nat} {fr : Bool} {φ : List D → Sto → Rs D} (F : FnH L X n f x np fr φ) (hg : Gl X x) (hdb : (x == ("__debug__" : Str)) = false) : PE X (.Name x pos) (tE L c Wx W (.fnv f)) := by
  refine PE.imp (pe_glob (v := .ref (L.fad f)) hg F.mg rfl hdb) fun σ H Q ⟨ρ, s, m, G, w, q, A⟩ => ?_
  unfold ev at A
  exact A m G H (Stp.refl _ _ _) w _ (.fn f)
theorem RB.fn {v : V} {f : F} (r : RB L m G H v (.fn f)) : v = .ref (L.fad f) := by
  cases r with
  | rep h =>
    cases h with
    | fn => rfl
    | obj hg hc => cases hc
  | own e g n h c => cases c
theorem s_callv {fe : Expr} {e' : E} {fs : List F} (tk : Takes X Wx) (hr : Room (2 * n) X.A) (hF : ∀ f ∈ fs, ∃ x, FnH L X n f x 0 false (c.call f)) (he : PE X fe (tB L c Wx W e'))
    (ht : eval (.Call fe [] [] pos) X.env = (do callWith pos (← eval fe X.env) [] (backTo pos (starEach [] X.env)) (backToKw pos (keywordEach [] X.env)))) : PE X (.Call fe [] [] pos) (tE L c Wx W (.callv fs e')) := by
  refine ⟨fun pins sh σ H Q I h => ?_⟩
  obtain ⟨ρ, s, m, G, w, q, A⟩ := h
  unfold ev at A
  refine Call_ (thn (he.run pins sh σ H (fun v H1 => ∃ f ∈ fs, v = .ref (L.fad f) ∧ spF L 0 false (c.call f) [] H1 Q (WE Wx σ)) I ?_) fun u s1 ⟨y, H1, I1, ry, f, hf, ey, hq⟩ => ?_) ht
  · refine goB w q (Aft.bind w A) fun d s1 m1 G1 H1 v t1 w1 q1 r1 A1 => ?_
    split at A1
    · split at A1
      · rename_i f hf
        refine ⟨f, by simpa using hf, r1.fn, rfl, [], s1, m1, G1, w1, .nil, ?_⟩
        cases e : c.call f [] s1 with
        | st => rw [e] at A1; exact A1
        | ex k es s2 => rw [e] at A1; exact A1
        | ok d s2 => rw [e] at A1; exact A1
      · exact False.elim A1
    · exact False.elim A1
  · subst ey
    obtain rfl : u = Value.ref (L.fad f) := ry
    obtain ⟨x, F⟩ := hF f hf
    obtain ⟨fd, ps, ok, hb⟩ := F.ok
    exact PySem.W.callWith_K0 I1.kIn F.kp (run_fnSD (E := WE Wx) (us := []) (vs := []) ok hr hb .nil (passAt tk σ) I1 .nil hq)
/-! max of three -/
theorem max2_nu (i j : Int) : nuMax2 (.int i) (.int j) = some (.int (if i < j then j else i)) := by
  show ((some (decide (i < j))).map fun c => if c = true then V.int j else V.int i) = _
  by_cases h : i < j <;> simp [h]
theorem max3_nu (i j k : Int) : nuMax3 (.int i) (.int j) (.int k) = some (.int (if (if i < j then j else i) < k then k else (if i < j then j else i))) := by
  unfold nuMax3
  rw [max2_nu]
  exact max2_nu _ _
theorem s_max3 (g : Gd L X Wx) {a b d : Expr} {a' b' d' : E} (hg : Gl X "max") (ha : PE X a (tB L c Wx W a')) (hb : PE X b (tB L c Wx W b')) (hd : PE X d (tB L c Wx W d')) (ns : noStar a = true) (nt : noStar b = true) (nu : noStar d = true) : PE X (.Call (.Name "max" p) [a, b, d] [] pos) (tE L c Wx W (.max3 a' b' d')) := by
  refine PE.imp (pe_callB (call_max3Nu g.calm) hg (blt g (by decide +kernel)) (by decide +kernel) (pa_cons ha (pa_cons hb (pa_cons hd pa_nil (starOne nu)) (starEach_cons nt)) (starEach_cons ns)) (by decide +kernel) (by decide +kernel) (starEach_cons ns) (backAny (by simp [nt, nu]))) fun σ H Q ⟨ρ, s, m, G, w, q, A⟩ => ?_
  unfold ev at A
  refine goB w q (Aft.bind w A) fun x1 s1 m1 G1 H1 v1 t1 w1 q1 r1 A1 => ?_
  refine goB w1 q1 (Aft.bind w1 A1) fun x2 s2 m2 G2 H2 v2 t2 w2 q2 r2 A2 => ?_
  refine goB w2 q2 (Aft.bind w2 A2) fun x3 s3 m3 G3 H3 v3 t3 w3 q3 r3 A3 => ?_
  split at A3
  · rename_i i j k
    have e1 := ((r1.step t2).step t3).int
    have e2 := (r2.step t3).int
    have e3 := r3.int
    subst e1 e2 e3
    obtain ⟨z, ez, A4⟩ := A3.opt
    cases ez
    refine ⟨_, _, _, .int ((if (if i < j then j else i) < k then k else (if i < j then j else i))), rfl, ?_, A4 m3 G3 H3 (Stp.refl _ _ _) w3 _ (.int _)⟩
    exact max3_nu i j k
  · exact False.elim A3
end
end MP

end
section
set_option Elab.async false
set_option linter.all false
set_option maxRecDepth 100000
/-! The small syntax against the program's text. -/
namespace MP
open PySem PySem.Spec PyProof.Rows L2

inductive Md where | val | look | test | new | tw
  deriving DecidableEq
/-- what stands in the text: defs by name, number of parameters, whether what they give is new; classes; constants; properties -/
structure Ck where
  fn : F → Option (Str × Nat × Bool)
  cl : Cl → Option (Str × Nat)
  con : Str → Option D
  pr : Cl → Nat → Option Str
  leno : Cl → Bool
  eqo : Cl → Bool
  /-- classes of errors: name, number of fields -/
  er : Nat → Option (Str × Nat)
def okN (x : Str) : Bool := !(x == ("__debug__" : Str)) && !(x == ("__classdict__" : Str))
def visB (sc : Scope) (x : Str) : Bool := match sc.names.lookup x with
  | some .local => true
  | some .cell => true
  | some .free => true
  | _ => false
def locB (sc : Scope) (x : Str) : Bool := match sc.names.lookup x with
  | some .local => true
  | some .cell => true
  | _ => false
def glB (sc : Scope) (x : Str) : Bool := decide (sc.names.lookup x = some .globalImplicit)
def okV (N : List Str) (sc : Scope) (i : Nat) (x : Str) : Bool := decide (N[i]? = some x) && visB sc x && okN x
/-- a value that is no new object -/
def ok1 (md : Md) (x : Expr) : Bool := match md with
  | .test => plainT x
  | .new => false
  | .tw => false
  | _ => true
def okW (md : Md) (x : Expr) : Bool := match md with
  | .test => plainT x
  | .tw => false
  | _ => true
def cmM : Md → Bool
  | .new => false
  | .tw => false
  | _ => true
def tyOk (ck : Ck) (sc : Scope) (t : Ty) (z : Str) : Bool := glB sc z && okN z && match t with
  | .cls k => (match ck.cl k with
    | some (nm, _) => decide (z = nm)
    | none => false)
  | t => decide (z = (tyName t : Str))
mutual
def okTg (N : List Str) (W : List Nat) : Tg → Scope → Expr → Bool
  | .nm i, sc, x => match x with
    | .Name y _ => decide (N[i]? = some y) && locB sc y && !(W.contains i)
    | _ => false
  | .tp ts, sc, x => match x with
    | .Tuple es _ _ => okTgs N W ts sc es && es.all noStarT && decide (es.length = lenTs ts)
    | _ => false
def okTgs (N : List Str) (W : List Nat) : Tgs → Scope → List Expr → Bool
  | .nil, _, es => match es with
    | [] => true
    | _ => false
  | .cons t ts, sc, es => match es with
    | e :: es => okTg N W t sc e && okTgs N W ts sc es && noStarT e
    | [] => false
end
def b1N : B1 → Str
  | .len => "len"
  | .sum => "sum"
  | .max => "max"
  | .min => "min"
  | .abs => "abs"
  | .int => "int"
  | .str => "str"
  | .list => "list"
  | .tuple => "tuple"
  | .dict => "dict"
def ownOf (N : List Str) (t : Tg) : List (Str × Nat) := (slotsT t).map fun i => (N.getD i "", i)
mutual
def okE (ck : Ck) (N : List Str) (W : List Nat) : E → Md → Scope → Expr → Bool
  | .var i, md, sc, x => ok1 md x && match x with
    | .Name y _ => okV N sc i y && (decide (md = .look) || decide (md = .test) || !(W.contains i))
    | _ => false
  | .int i, md, sc, x => ok1 md x && match x with
    | .Constant (.int j) _ _ => decide (i = j)
    | .Name y _ => glB sc y && okN y && (match ck.con y with
      | some (.int j) => decide (i = j)
      | _ => false)
    | _ => false
  | .str i, md, sc, x => ok1 md x && match x with
    | .Constant (.str j) _ _ => decide (i = j)
    | .Name y _ => glB sc y && okN y && (match ck.con y with
      | some (.str j) => decide (i = j)
      | _ => false)
    | _ => false
  | .bl b, md, _, x => ok1 md x && match x with
    | .Constant (.bool j) _ _ => b == j
    | _ => false
  | .non, md, _, x => ok1 md x && match x with
    | .Constant .none _ _ => true
    | _ => false
  | .tup es, md, sc, x => ok1 md x && match x with
    | .Tuple xs _ _ => okEs ck N W es sc xs
    | _ => false
  | .lst es, md, sc, x => okW md x && match x with
    | .List xs _ => okEs ck N W es sc xs
    | _ => false
  | .bin op a b, md, sc, x => ok1 md x && match x with
    | .BinOp l o r _ => decide (o = opOf op) && okE ck N W a .val sc l && okE ck N W b .val sc r
    | _ => false
  | .neg a, md, sc, x => ok1 md x && match x with
    | .UnaryOp .USub l _ => okE ck N W a .look sc l
    | _ => false
  | .nott a, md, sc, x => match x with
    | .UnaryOp .Not l _ => (match md with
      | .test => okE ck N W a .test sc l
      | .new => false
      | .tw => false
      | _ => okE ck N W a .look sc l)
    | _ => false
  | .and a b, md, sc, x => match x with
    | .BoolOp .And (l :: r :: rest) p => (match md with
      | .test => okE ck N W a .test sc l && (match rest with
        | [] => okE ck N W b .test sc r
        | z :: zs => okE ck N W b .tw sc (.BoolOp .And (r :: z :: zs) p))
      | .tw => okE ck N W a .test sc l && (match rest with
        | [] => okE ck N W b .test sc r
        | z :: zs => okE ck N W b .tw sc (.BoolOp .And (r :: z :: zs) p))
      | .new => false
      | _ => okE ck N W a .look sc l && (match rest with
        | [] => okE ck N W b .val sc r
        | z :: zs => okE ck N W b .val sc (.BoolOp .And (r :: z :: zs) p)))
    | _ => false
  | .or a b, md, sc, x => match x with
    | .BoolOp .Or (l :: r :: rest) p => (match md with
      | .test => okE ck N W a .test sc l && (match rest with
        | [] => okE ck N W b .test sc r
        | z :: zs => okE ck N W b .tw sc (.BoolOp .Or (r :: z :: zs) p))
      | .tw => okE ck N W a .test sc l && (match rest with
        | [] => okE ck N W b .test sc r
        | z :: zs => okE ck N W b .tw sc (.BoolOp .Or (r :: z :: zs) p))
      | .new => false
      | _ => okE ck N W a .look sc l && (match rest with
        | [] => okE ck N W b .val sc r
        | z :: zs => okE ck N W b .val sc (.BoolOp .Or (r :: z :: zs) p)))
    | _ => false
  | .cmp op a b, md, sc, x => cmM md && match x with
    | .Compare l [o] [r] _ => decide (o = cmOf op) && okE ck N W a .look sc l && okE ck N W b .look sc r && noSet r
    | _ => false
  | .chain o p a b d, md, sc, x => cmM md && match x with
    | .Compare l [o', p'] [r, t] _ => decide (o' = cmOf o) && decide (p' = cmOf p) && okE ck N W a .look sc l && okE ck N W b .look sc r && okE ck N W d .look sc t && noSet t
    | _ => false
  | .ifx t a b, md, sc, x => ok1 md x && match x with
    | .IfExp u l r _ => okE ck N W t .test sc u && okE ck N W a .val sc l && okE ck N W b .val sc r
    | _ => false
  | .ix a i, md, sc, x => ok1 md x && match x with
    | .Subscript l r _ => okE ck N W a .look sc l && okE ck N W i .look sc r && noSlice r
    | _ => false
  | .sl a lo hi, md, sc, x => ok1 md x && match x with
    | .Subscript l (.Slice u v none _) _ => okE ck N W a .val sc l && okO ck N W lo sc u && okO ck N W hi sc v
    | _ => false
  | .call f es, md, sc, x => okW md x && match x with
    | .Call (.Name y _) (a :: as) [] _ => (match ck.fn f with
      | some (nm, _, fr) => decide (y = nm) && glB sc y && okN y && okEs ck N W es sc (a :: as) && (a :: as).all noStar && (fr || !(decide (md = .new)))
      | none => false)
    | _ => false
  | .make k es, md, sc, x => ok1 md x && match x with
    | .Call (.Name y _) (a :: as) [] _ => (match ck.cl k with
      | some (nm, _) => decide (y = nm) && glB sc y && okN y && okEs ck N W es sc (a :: as) && (a :: as).all noStar
      | none => false)
    | _ => false
  | .fld a k i, md, sc, x => ok1 md x && match x with
    | .Attribute l f _ => decide ((fields k)[i]? = some f) && okE ck N W a .look sc l && notCall0 l
    | _ => false
  | .prop a k i, md, sc, x => ok1 md x && match x with
    | .Attribute l f _ => decide (ck.pr k i = some f) && (ck.cl k).isSome && okE ck N W a .val sc l && notCall0 l
    | _ => false
  | .isa a t, md, sc, x => ok1 md x && match x with
    | .Call (.Name y _) [l, .Name z _] [] _ => decide (y = ("isinstance" : Str)) && glB sc y && okE ck N W a .look sc l && noStar l && tyOk ck sc t z
    | _ => false
  | .b1 b a, md, sc, x => (match b with
      | .list => okW md x
      | .dict => okW md x
      | _ => ok1 md x) && match x with
    | .Call (.Name y _) [l] [] _ => decide (y = b1N b) && glB sc y && noStar l && okE ck N W a (match b with
      | .tuple => .val
      | _ => .look) sc l
    | _ => false
  | .leno a k, md, sc, x => ok1 md x && match x with
    | .Call (.Name y _) [l] [] _ => decide (y = ("len" : Str)) && glB sc y && noStar l && ck.leno k && okE ck N W a .val sc l
    | _ => false
  | .eqo k a b, md, sc, x => cmM md && match x with
    | .Compare l [.Eq] [r] _ => ck.eqo k && okE ck N W a .val sc l && okE ck N W b .val sc r && noSet r
    | _ => false
  | .b2 b a d, md, sc, x => ok1 md x && match x with
    | .Call (.Name y _) [l, r] [] _ => (match b with
      | .max => decide (y = ("max" : Str))
      | .min => decide (y = ("min" : Str))
      | _ => false) && glB sc y && noStar l && noStar r && okE ck N W a .look sc l && okE ck N W d .look sc r
    | _ => false
  | .lc e t r, md, sc, x => okW md x && match x with
    | .ListComp elt [⟨tg, iter, [], 0⟩] scope _ => okTg N W t scope tg && okR ck N W r sc tg iter && blkC N sc scope (ownOf N t) && okE ck N W e .val scope elt && noSetI iter
    | _ => false
  | .lci e t r i, md, sc, x => okW md x && match x with
    | .ListComp elt [⟨tg, iter, [cnd], 0⟩] scope _ => okTg N W t scope tg && okR ck N W r sc tg iter && blkC N sc scope (ownOf N t) && okE ck N W i .test scope cnd && okE ck N W e .val scope elt && noSetI iter
    | _ => false
  | .lc2 e i r j r2, md, sc, x => okW md x && match x with
    | .ListComp elt [⟨tg, iter, [], 0⟩, ⟨tg1, iter1, [], 0⟩] scope _ => okTg N W (.nm i) scope tg && okR ck N W r sc tg iter && blkC N sc scope (ownOf N (.tp (.cons (.nm i) (.cons (.nm j) .nil)))) && okR ck N W r2 scope tg1 iter1 && okTg N W (.nm j) scope tg1 && okE ck N W e .val scope elt && noSetI iter && noSetI iter1
    | _ => false
  | .lc2i e i r j r2 cc, md, sc, x => okW md x && match x with
    | .ListComp elt [⟨tg, iter, [], 0⟩, ⟨tg1, iter1, [cnd], 0⟩] scope _ => okTg N W (.nm i) scope tg && okR ck N W r sc tg iter && blkC N sc scope (ownOf N (.tp (.cons (.nm i) (.cons (.nm j) .nil)))) && okR ck N W r2 scope tg1 iter1 && okTg N W (.nm j) scope tg1 && okE ck N W cc .test scope cnd && okE ck N W e .val scope elt && noSetI iter && noSetI iter1
    | _ => false
  | .rep es b, md, sc, x => okW md x && match x with
    | .BinOp (.List xs _) .Mult r _ => okEs ck N W es sc xs && okE ck N W b .val sc r
    | _ => false
  | .rev a, md, sc, x => ok1 md x && match x with
    | .Subscript l (.Slice none none (some (.UnaryOp .USub (.Constant (.int 1) _ _) _)) _) _ => okE ck N W a .val sc l
    | _ => false
  | .mind a, md, sc, x => ok1 md x && match x with
    | .Call (.Name y _) [l] [⟨some k, .Constant .none _ _, _⟩] _ => decide (y = ("min" : Str)) && glB sc y && noStar l && decide (k = ("default" : Str)) && okE ck N W a .look sc l
    | _ => false
  | .fnv f, md, sc, x => ok1 md x && match x with
    | .Name y _ => (match ck.fn f with
      | some (nm, _, _) => decide (y = nm) && glB sc y && okN y
      | none => false)
    | _ => false
  | .callv fs e, md, sc, x => ok1 md x && match x with
    | .Call (.Subscript u v w) [] [] _ => fs.all (fun f => match ck.fn f with
      | some (_, 0, false) => true
      | _ => false) && okE ck N W e .look sc (.Subscript u v w)
    | _ => false
  | .max3 a b d, md, sc, x => ok1 md x && match x with
    | .Call (.Name y _) [l, r, t] [] _ => decide (y = ("max" : Str)) && glB sc y && noStar l && noStar r && noStar t && okE ck N W a .look sc l && okE ck N W b .look sc r && okE ck N W d .look sc t
    | _ => false
  | .dnew _, md, _, x => okW md x && match x with
    | .Dict [] [] _ => true
    | _ => false
  | .dd1 k v, md, sc, x => okW md x && match x with
    | .Dict [some ke] [ve] _ => okE ck N W k .val sc ke && okE ck N W v .val sc ve
    | _ => false
  | .get d k v, md, sc, x => ok1 md x && match x with
    | .Call (.Attribute o mn apos) [e, f] [] cpos => decide (mn = ("get" : Str)) && notCall0 o && noStar e && noStar f && (apos.endLine == cpos.line) && okE ck N W d .look sc o && okE ck N W k .look sc e && okE ck N W v .val sc f
    | _ => false
  | .lrg a, md, sc, x => okW md x && match x with
    | .Call (.Name y _) [.Call (.Name z _) [e] [] _] [] _ => decide (y = ("list" : Str)) && decide (z = ("range" : Str)) && glB sc y && glB sc z && noStar e && okE ck N W a .look sc e
    | _ => false
  | _, _, _, _ => false
def okEs (ck : Ck) (N : List Str) (W : List Nat) : Es → Scope → List Expr → Bool
  | .nil, _, xs => match xs with
    | [] => true
    | _ => false
  | .cons e es, sc, xs => match xs with
    | x :: xs => okE ck N W e .val sc x && noStar x && okEs ck N W es sc xs
    | [] => false
def okO (ck : Ck) (N : List Str) (W : List Nat) : Oe → Scope → Option Expr → Bool
  | .no, _, x => match x with
    | none => true
    | some _ => false
  | .so e, sc, x => match x with
    | some y => okE ck N W e .look sc y
    | none => false
def okR (ck : Ck) (N : List Str) (W : List Nat) : Sr → Scope → Expr → Expr → Bool
  | .of e, sc, _, x => okE ck N W e .val sc x
  | .rg1 e, sc, _, x => match x with
    | .Call (.Name y _) [l] [] _ => decide (y = ("range" : Str)) && glB sc y && noStar l && okE ck N W e .look sc l
    | _ => false
  | .rg2 a b, sc, _, x => match x with
    | .Call (.Name y _) [l, r] [] _ => decide (y = ("range" : Str)) && glB sc y && noStar l && noStar r && okE ck N W a .look sc l && okE ck N W b .look sc r
    | _ => false
  | .en e, sc, tg, x => match tg, x with
    | .Tuple _ _ _, .Call (.Name y _) [l] [] _ => decide (y = ("enumerate" : Str)) && glB sc y && noStar l && okE ck N W e .val sc l
    | _, _ => false
  | .zp a b, sc, tg, x => match tg, x with
    | .Tuple _ _ _, .Call (.Name y _) [l, r] [] _ => decide (y = ("zip" : Str)) && glB sc y && noStar l && noStar r && okE ck N W a .val sc l && okE ck N W b .val sc r
    | _, _ => false
end
end MP

end
section
set_option Elab.async false
set_option linter.all false
set_option maxRecDepth 100000
set_option maxHeartbeats 2000000
/-! Expressions that are checked are read soundly. -/
namespace MP
open PySem PySem.Spec PyProof.Rows L2

/-- what is known where a checked text runs -/
structure Gud (ck : Ck) (L : Lay) (c : Cfg) (n : Nat) (N : List Str) (X : Cx) (sc : Scope) (Wx : WX) : Prop where
  g : Gd L X Wx
  hN : X.N = N
  scs : ∀ x k, sc.names.lookup x = some k → ∃ k', X.env.scope.names.lookup x = some k' ∧ (k' = k ∨ (k = .free ∧ k' = .cell))
  fnc : ∀ x, sc.names.lookup x = some .cell → X.fn x = true
  kd : X.env.scope.kind = .function
  room : Room (2 * n + 1) X.A
  fn : ∀ f nm np fr, ck.fn f = some (nm, np, fr) → FnH L X n f nm np fr (c.call f) ∧ ∀ ds s, ds.length ≠ np → c.call f ds s = .st
  cl : ∀ k nm np, ck.cl k = some (nm, np) → L.has k = true ∧ X.mg nm = some (.ref (L.cls k)) ∧ ClH L X n k nm np (c.call (.ini k)) ∧ ∀ ds s, ds.length ≠ np → c.call (.ini k) ds s = .st
  pr : ∀ k i nm, ck.pr k i = some nm → PrH L X n k i nm (c.call (.pr k i))
  leno : ∀ k, ck.leno k = true → LenH L X n k (c.call (.len k))
  eqo : ∀ k, ck.eqo k = true → EqH L X n k (c.call (.eq k))
  con : ∀ x d, ck.con x = some d → match d with
    | .int i => ∃ t, X.mg x = some (.int i t)
    | .str i => ∃ t, X.mg x = some (.str i t)
    | _ => True
  na : ∀ k f, f ∈ fields k → L.has k = true → NoAttr L.K (L.cls k) f
  one : 1 ≤ n
  er : ∀ k nm nf, ck.er k = some (nm, nf) → X.mg nm = some (.ref (L.cls (.err k))) ∧ (nf = 0 → ErH L X k nm) ∧ (nf = 1 → ∃ f, xfields (.err k) = [f] ∧ EiH L X k nm (spX1 (L.cls (.err k)) f) 2) ∧ (nf = 2 → ∃ f g, xfields (.err k) = [f, g] ∧ EiH L X k nm (spX2 (L.cls (.err k)) f g) 2)
  exm : ∀ k k', (ck.er k).isSome = true → (ck.er k').isSome = true → PySem.W.exmOne X.K (.ref (L.cls (.err k))) (.ref (L.cls (.err k'))) = some (exM (.err k) (.err k'))

section
variable {ck : Ck} {L : Lay} {c : Cfg} {n : Nat} {N : List Str} {X : Cx} {sc scope : Scope} {Wx : WX} {W : List Nat}
theorem Gud.vis (q : Gud ck L c n N X sc Wx) {x : Str} (h : visB sc x = true) : Vis X.env.scope x := by
  unfold visB at h
  split at h
  · rename_i e
    obtain ⟨k', h1, h2⟩ := q.scs x _ e
    rcases h2 with rfl | ⟨h2, _⟩
    · exact .inl h1
    · cases h2
  · rename_i e
    obtain ⟨k', h1, h2⟩ := q.scs x _ e
    rcases h2 with rfl | ⟨h2, _⟩
    · exact .inr (.inl h1)
    · cases h2
  · rename_i e
    obtain ⟨k', h1, h2⟩ := q.scs x _ e
    rcases h2 with rfl | ⟨_, rfl⟩
    · exact .inr (.inr h1)
    · exact .inr (.inl h1)
  · cases h
theorem Gud.loc (q : Gud ck L c n N X sc Wx) {x : Str} (h : locB sc x = true) : Loc X.env.scope x ∧ (X.fn x = true ∨ X.env.scope.names.lookup x = some .local) := by
  unfold locB at h
  split at h
  · rename_i e
    obtain ⟨k', h1, h2⟩ := q.scs x _ e
    rcases h2 with rfl | ⟨h2, _⟩
    · exact ⟨.inl h1, .inr h1⟩
    · cases h2
  · rename_i e
    obtain ⟨k', h1, h2⟩ := q.scs x _ e
    rcases h2 with rfl | ⟨h2, _⟩
    · exact ⟨.inr h1, .inl (q.fnc x e)⟩
    · cases h2
  · cases h
theorem Gud.gl (q : Gud ck L c n N X sc Wx) {x : Str} (h : glB sc x = true) : Gl X x := by
  obtain ⟨k', h1, h2⟩ := q.scs x _ (of_decide_eq_true h)
  rcases h2 with rfl | ⟨h2, _⟩
  · exact h1
  · cases h2
theorem okN_of {x : Str} (h : okN x = true) : (x == ("__debug__" : Str)) = false ∧ (x == ("__classdict__" : Str)) = false := by
  unfold okN at h
  rw [Bool.and_eq_true] at h
  exact ⟨by simpa using h.1, by simpa using h.2⟩
/-- a block's names -/
theorem relabel_look {env : PySem.Env} : ∀ {names : List (Str × NameKind)} {x : Str} {k : NameKind}, names.lookup x = some k →
    ∃ k', (names.map fun (n, k) => if (k == NameKind.free && env.scope.kind == .function && env.kindOf n == some .cell) then (n, NameKind.cell) else (n, k)).lookup x = some k' ∧ (k' = k ∨ (k = .free ∧ k' = .cell))
  | [], _, _, h => by simp at h
  | (n, k0) :: r, x, k, h => by
    have ih := @relabel_look env r x k
    show ∃ k', List.lookup x ((if (k0 == NameKind.free && env.scope.kind == .function && env.kindOf n == some .cell) = true then (n, NameKind.cell) else (n, k0)) :: _) = some k' ∧ _
    cases hx : x == n with
    | true =>
      simp only [List.lookup_cons, hx] at h
      cases h
      by_cases hc : (k0 == NameKind.free && env.scope.kind == .function && env.kindOf n == some .cell) = true
      · rw [if_pos hc]
        simp only [Bool.and_eq_true, beq_iff_eq] at hc
        exact ⟨.cell, by simp [List.lookup_cons, hx], .inr ⟨hc.1.1, rfl⟩⟩
      · rw [if_neg hc]
        exact ⟨k0, by simp [List.lookup_cons, hx], .inl rfl⟩
    | false =>
      simp only [List.lookup_cons, hx] at h
      obtain ⟨k', h1, h2⟩ := ih h
      refine ⟨k', ?_, h2⟩
      by_cases hc : (k0 == NameKind.free && env.scope.kind == .function && env.kindOf n == some .cell) = true
      · rw [if_pos hc]; simp only [List.lookup_cons, hx]; exact h1
      · rw [if_neg hc]; simp only [List.lookup_cons, hx]; exact h1
theorem Gud.blkOk (q : Gud ck L c n N X sc Wx) {own : List (Str × Nat)} (h : blkC N sc scope own = true) : BlkOk X.N X.env.scope scope own := by
  have b := blkOk_by h
  rw [q.hN]
  refine ⟨b.kind, b.uniq, b.ix, fun y hy e => ?_, b.own⟩
  rcases b.free y hy e with k | k
  · obtain ⟨k', h1, h2⟩ := q.scs _ _ k
    rcases h2 with rfl | ⟨h2, _⟩
    · exact .inl h1
    · cases h2
  · obtain ⟨k', h1, h2⟩ := q.scs _ _ k
    rcases h2 with rfl | ⟨_, rfl⟩
    · exact .inr h1
    · exact .inl h1
theorem Gud.blk (q : Gud ck L c n N X sc Wx) (hk : scope.kind = .function) (s : Shared) (H : Hp) (C : Addr) (cl : List (Str × Addr)) (fp : List Addr) : Gud ck L c n N (blkX X scope s H C cl fp) scope WF where
  g := ⟨q.g.cls, q.g.kk, q.g.blt, q.g.K, q.g.nd, q.g.calm, q.g.units, blk_tk⟩
  hN := q.hN
  scs := fun x k h => relabel_look (env := X.env) h
  fnc := fun x h => by
    show (scope.names.lookup x == some .cell) = true
    rw [h]; rfl
  kd := hk
  room := q.room
  fn := fun f nm np fr h => by
    obtain ⟨h1, h2⟩ := q.fn f nm np fr h
    exact ⟨⟨h1.ok, h1.mg, h1.kp⟩, h2⟩
  cl := fun k nm np h => by
    obtain ⟨h0, h3, h1, h2⟩ := q.cl k nm np h
    exact ⟨h0, h3, ⟨h1.ok, h1.mkk, h1.mg⟩, h2⟩
  pr := fun k i nm h => ⟨(q.pr k i nm h).ok, (q.pr k i nm h).pr⟩
  leno := fun k h => ⟨(q.leno k h).ok, (q.leno k h).at_, (q.leno k h).fn⟩
  eqo := fun k h => ⟨(q.eqo k h).ok, (q.eqo k h).at_, (q.eqo k h).fn, (q.eqo k h).no⟩
  con := q.con
  na := q.na
  one := q.one
  er := fun k nm nf h => by
    obtain ⟨h0, h1, h2, h3⟩ := q.er k nm nf h
    refine ⟨h0, fun e => ⟨(h1 e).mg, (h1 e).ex, (h1 e).kp, (h1 e).sb, (h1 e).ty⟩, fun e => ?_, fun e => ?_⟩
    · obtain ⟨f, x, y⟩ := h2 e
      exact ⟨f, x, y.mg, y.ox, y.it, y.ti, y.ok⟩
    · obtain ⟨f, g, x, y⟩ := h3 e
      exact ⟨f, g, x, y.mg, y.ox, y.it, y.ti, y.ok⟩
  exm := q.exm

/-- what is shown of an expression, by the way it is asked -/
def Snd (L : Lay) (c : Cfg) (Wx : WX) (W : List Nat) (X : Cx) (e : E) (x : Expr) : Md → Prop
  | .val => PE X x (tE L c Wx W e)
  | .look => PE X x (tB L c Wx W e)
  | .test => PT X x (tT L c Wx W e)
  | .new => PE X x (tO L c Wx W e)
  | .tw => PW X x (tT L c Wx W e)
theorem Snd.val {e : E} {x : Expr} {md : Md} (g : Gd L X Wx) (h1 : ok1 md x = true) (h : PE X x (tE L c Wx W e)) : Snd L c Wx W X e x md := by
  cases md with
  | val => exact h
  | look => exact PE.look h
  | test => exact s_test g (PE.look h) h1
  | new => cases h1
  | tw => cases h1
theorem Snd.new {e : E} {x : Expr} {md : Md} (g : Gd L X Wx) (h1 : okW md x = true) (h : PE X x (tO L c Wx W e)) : Snd L c Wx W X e x md := by
  cases md with
  | val => exact PE.ofO h
  | look => exact PE.look (PE.ofO h)
  | test => exact s_test g (PE.look (PE.ofO h)) h1
  | new => exact h
  | tw => cases h1
theorem slot_of (q : Gud ck L c n N X sc Wx) {i : Nat} {x : Str} (h : N[i]? = some x) : X.N[i]? = some x := by rw [q.hN]; exact h
mutual
theorem sd_tg (q : Gud ck L c n N X sc Wx) : ∀ (t : Tg) (x : Expr), okTg N W t sc x = true → PG X x (gT L W t)
  | .nm i, x, h => by
    unfold okTg at h
    split at h
    · simp only [Bool.and_eq_true, decide_eq_true_eq, Bool.not_eq_true'] at h
      obtain ⟨h1, h2⟩ := q.loc h.1.2
      exact g_nm q.g.nd (slot_of q h.1.1) h1 h2 (by simpa using h.2)
    · cases h
  | .tp ts, x, h => by
    unfold okTg at h
    split at h
    · simp only [Bool.and_eq_true, decide_eq_true_eq] at h
      exact g_tp q.g (sd_tgs q ts _ h.1.1) h.1.2 h.2
    · cases h
theorem sd_tgs (q : Gud ck L c n N X sc Wx) : ∀ (ts : Tgs) (xs : List Expr), okTgs N W ts sc xs = true → PGs X xs (gTs L W ts)
  | .nil, xs, h => by
    unfold okTgs at h
    split at h
    · exact g_nil
    · cases h
  | .cons t ts, xs, h => by
    unfold okTgs at h
    split at h
    · simp only [Bool.and_eq_true] at h
      exact g_cons (sd_tg q t _ h.1.1) (sd_tgs q ts _ h.1.2) h.2
    · cases h
end
mutual
theorem slots_ok : ∀ (t : Tg) (x : Expr), okTg N W t sc x = true → ∀ i, i ∈ slotsT t → i ∉ W ∧ ∃ y, N[i]? = some y
  | .nm i, x, h, j, hj => by
    unfold okTg at h
    split at h
    · simp only [Bool.and_eq_true, decide_eq_true_eq, Bool.not_eq_true'] at h
      simp [slotsT] at hj
      subst hj
      exact ⟨by simpa using h.2, _, h.1.1⟩
    · cases h
  | .tp ts, x, h, j, hj => by
    unfold okTg at h
    split at h
    · simp only [Bool.and_eq_true, decide_eq_true_eq] at h
      exact slotss_ok ts _ h.1.1 j (by unfold slotsT at hj; exact hj)
    · cases h
theorem slotss_ok : ∀ (ts : Tgs) (xs : List Expr), okTgs N W ts sc xs = true → ∀ i, i ∈ slotsTs ts → i ∉ W ∧ ∃ y, N[i]? = some y
  | .nil, xs, h, j, hj => by simp [slotsTs] at hj
  | .cons t ts, xs, h, j, hj => by
    unfold okTgs at h
    split at h
    · simp only [Bool.and_eq_true] at h
      unfold slotsTs at hj
      rcases List.mem_append.mp hj with hj | hj
      · exact slots_ok t _ h.1.1 j hj
      · exact slotss_ok ts _ h.1.2 j hj
    · cases h
end
theorem own_map {t : Tg} : (ownOf N t).map (·.2) = slotsT t := by
  unfold ownOf
  rw [List.map_map]
  exact List.map_id' _
theorem notnew {md : Md} (h : (!decide (md = .new)) = true) : md ≠ .new := by simpa using h
theorem blk_kind {own : List (Str × Nat)} (h : blkC N sc scope own = true) : scope.kind = .function := (blkOk_by h).kind

mutual
theorem sd_E : ∀ {X : Cx} {sc : Scope} {Wx : WX} (q : Gud ck L c n N X sc Wx) (e : E) (md : Md) (x : Expr), okE ck N W e md sc x = true → Snd L c Wx W X e x md
  | _, _, _, q, .var i, md, x, h => by
    unfold okE at h
    rw [Bool.and_eq_true] at h
    obtain ⟨h1, h⟩ := h
    split at h
    · unfold okV at h
      simp only [Bool.and_eq_true, Bool.or_eq_true, decide_eq_true_eq, Bool.not_eq_true'] at h
      obtain ⟨⟨⟨hN, hv⟩, hn⟩, hm⟩ := h
      obtain ⟨d1, d2⟩ := okN_of hn
      cases md with
      | val =>
        rcases hm with (hm | hm) | hm
        · cases hm
        · cases hm
        · exact s_var (by simpa using hm) (slot_of q hN) (q.vis hv) d1 d2
      | look => exact s_varB (slot_of q hN) (q.vis hv) d1 d2
      | test => exact s_test q.g (s_varB (slot_of q hN) (q.vis hv) d1 d2) rfl
      | new => cases h1
      | tw => cases h1
    · cases h
  | _, _, _, q, .int i, md, x, h => by
    unfold okE at h
    rw [Bool.and_eq_true] at h
    obtain ⟨h1, h⟩ := h
    split at h
    · have e := of_decide_eq_true h
      subst e
      exact Snd.val q.g h1 s_int
    · simp only [Bool.and_eq_true] at h
      obtain ⟨⟨hg, hn⟩, h⟩ := h
      split at h
      · rename_i ec
        have e := of_decide_eq_true h
        subst e
        obtain ⟨t, hm⟩ := q.con _ _ ec
        exact Snd.val q.g h1 (s_gint (q.gl hg) hm (okN_of hn).1)
      · cases h
    · cases h
  | _, _, _, q, .str i, md, x, h => by
    unfold okE at h
    rw [Bool.and_eq_true] at h
    obtain ⟨h1, h⟩ := h
    split at h
    · have e := of_decide_eq_true h
      subst e
      exact Snd.val q.g h1 s_str
    · simp only [Bool.and_eq_true] at h
      obtain ⟨⟨hg, hn⟩, h⟩ := h
      split at h
      · rename_i ec
        have e := of_decide_eq_true h
        subst e
        obtain ⟨t, hm⟩ := q.con _ _ ec
        exact Snd.val q.g h1 (s_gstr (q.gl hg) hm (okN_of hn).1)
      · cases h
    · cases h
  | _, _, _, q, .bl b, md, x, h => by
    unfold okE at h
    rw [Bool.and_eq_true] at h
    obtain ⟨h1, h⟩ := h
    split at h
    · have e := eq_of_beq h
      subst e
      exact Snd.val q.g h1 s_bl
    · cases h
  | _, _, _, q, .non, md, x, h => by
    unfold okE at h
    rw [Bool.and_eq_true] at h
    obtain ⟨h1, h⟩ := h
    split at h
    · exact Snd.val q.g h1 s_non
    · cases h
  | _, _, _, q, .tup es, md, x, h => by
    unfold okE at h
    rw [Bool.and_eq_true] at h
    obtain ⟨h1, h⟩ := h
    split at h
    · exact Snd.val q.g h1 (s_tup (sd_Es q es _ h))
    · cases h
  | _, _, _, q, .lst es, md, x, h => by
    unfold okE at h
    rw [Bool.and_eq_true] at h
    obtain ⟨h1, h⟩ := h
    split at h
    · exact Snd.new q.g h1 (s_lst (sd_Es q es _ h))
    · cases h
  | _, _, _, q, .bin op a b, md, x, h => by
    unfold okE at h
    rw [Bool.and_eq_true] at h
    obtain ⟨h1, h⟩ := h
    split at h
    · simp only [Bool.and_eq_true, decide_eq_true_eq] at h
      obtain ⟨⟨e, ha⟩, hb⟩ := h
      subst e
      exact Snd.val q.g h1 (s_bin q.g (sd_E q a .val _ ha) (sd_E q b .val _ hb))
    · cases h
  | _, _, _, q, .neg a, md, x, h => by
    unfold okE at h
    rw [Bool.and_eq_true] at h
    obtain ⟨h1, h⟩ := h
    split at h
    · exact Snd.val q.g h1 (s_neg q.g (sd_E q a .look _ h))
    · cases h
  | _, _, _, q, .nott a, md, x, h => by
    unfold okE at h
    split at h
    · cases md with
      | test => exact s_tnot (sd_E q a .test _ h)
      | new => cases h
      | tw => cases h
      | val => exact s_nott q.g (sd_E q a .look _ h)
      | look => exact PE.look (s_nott q.g (sd_E q a .look _ h))
    · cases h
  | _, _, _, q, .and a b, md, x, h => by
    unfold okE at h
    split at h
    · rename_i l r rest p
      cases md with
      | test =>
        simp only [Bool.and_eq_true] at h
        obtain ⟨ha, hb⟩ := h
        cases rest with
        | nil => exact PW.pt (s_tand (sd_E q a .test _ ha) (pw_and1 (sd_E q b .test _ hb)))
        | cons z zs => exact PW.pt (s_tand (sd_E q a .test _ ha) (sd_E q b .tw _ hb))
      | tw =>
        simp only [Bool.and_eq_true] at h
        obtain ⟨ha, hb⟩ := h
        cases rest with
        | nil => exact s_tand (sd_E q a .test _ ha) (pw_and1 (sd_E q b .test _ hb))
        | cons z zs => exact s_tand (sd_E q a .test _ ha) (sd_E q b .tw _ hb)
      | new => cases h
      | val =>
        simp only [Bool.and_eq_true] at h
        obtain ⟨ha, hb⟩ := h
        cases rest with
        | nil => exact s_and (sd_E q a .look _ ha) (s_one (sd_E q b .val _ hb))
        | cons z zs => exact s_and (sd_E q a .look _ ha) (sd_E q b .val _ hb)
      | look =>
        simp only [Bool.and_eq_true] at h
        obtain ⟨ha, hb⟩ := h
        cases rest with
        | nil => exact PE.look (s_and (sd_E q a .look _ ha) (s_one (sd_E q b .val _ hb)))
        | cons z zs => exact PE.look (s_and (sd_E q a .look _ ha) (sd_E q b .val _ hb))
    · cases h
  | _, _, _, q, .or a b, md, x, h => by
    unfold okE at h
    split at h
    · rename_i l r rest p
      cases md with
      | test =>
        simp only [Bool.and_eq_true] at h
        obtain ⟨ha, hb⟩ := h
        cases rest with
        | nil => exact PW.pt (s_tor (sd_E q a .test _ ha) (pw_or1 (sd_E q b .test _ hb)))
        | cons z zs => exact PW.pt (s_tor (sd_E q a .test _ ha) (sd_E q b .tw _ hb))
      | tw =>
        simp only [Bool.and_eq_true] at h
        obtain ⟨ha, hb⟩ := h
        cases rest with
        | nil => exact s_tor (sd_E q a .test _ ha) (pw_or1 (sd_E q b .test _ hb))
        | cons z zs => exact s_tor (sd_E q a .test _ ha) (sd_E q b .tw _ hb)
      | new => cases h
      | val =>
        simp only [Bool.and_eq_true] at h
        obtain ⟨ha, hb⟩ := h
        cases rest with
        | nil => exact s_or (sd_E q a .look _ ha) (s_one (sd_E q b .val _ hb))
        | cons z zs => exact s_or (sd_E q a .look _ ha) (sd_E q b .val _ hb)
      | look =>
        simp only [Bool.and_eq_true] at h
        obtain ⟨ha, hb⟩ := h
        cases rest with
        | nil => exact PE.look (s_or (sd_E q a .look _ ha) (s_one (sd_E q b .val _ hb)))
        | cons z zs => exact PE.look (s_or (sd_E q a .look _ ha) (sd_E q b .val _ hb))
    · cases h
  | _, _, _, q, .cmp op a b, md, x, h => by
    unfold okE at h
    rw [Bool.and_eq_true] at h
    obtain ⟨h1, h⟩ := h
    split at h
    · simp only [Bool.and_eq_true, decide_eq_true_eq] at h
      obtain ⟨⟨⟨e, ha⟩, hb⟩, hs⟩ := h
      subst e
      have A := sd_E q a .look _ ha
      have B := sd_E q b .look _ hb
      cases md with
      | new => cases h1
      | tw => cases h1
      | val => exact s_cmp q.g A B hs
      | look => exact PE.look (s_cmp q.g A B hs)
      | test => exact s_tcmp q.g A B hs
    · cases h
  | _, _, _, q, .chain o p a b d, md, x, h => by
    unfold okE at h
    rw [Bool.and_eq_true] at h
    obtain ⟨h1, h⟩ := h
    split at h
    · simp only [Bool.and_eq_true, decide_eq_true_eq] at h
      obtain ⟨⟨⟨⟨⟨e1, e2⟩, ha⟩, hb⟩, hd⟩, hs⟩ := h
      subst e1; subst e2
      have A := sd_E q a .look _ ha
      have B := sd_E q b .look _ hb
      have Z := sd_E q d .look _ hd
      cases md with
      | new => cases h1
      | tw => cases h1
      | val => exact s_chain q.g A B Z hs
      | look => exact PE.look (s_chain q.g A B Z hs)
      | test => exact s_tchain q.g A B Z hs
    · cases h
  | _, _, _, q, .ifx t a b, md, x, h => by
    unfold okE at h
    rw [Bool.and_eq_true] at h
    obtain ⟨h1, h⟩ := h
    split at h
    · simp only [Bool.and_eq_true] at h
      exact Snd.val q.g h1 (s_ifx (sd_E q t .test _ h.1.1) (sd_E q a .val _ h.1.2) (sd_E q b .val _ h.2))
    · cases h
  | _, _, _, q, .ix a i, md, x, h => by
    unfold okE at h
    rw [Bool.and_eq_true] at h
    obtain ⟨h1, h⟩ := h
    split at h
    · simp only [Bool.and_eq_true] at h
      exact Snd.val q.g h1 (s_ix q.g (sd_E q a .look _ h.1.1) (sd_E q i .look _ h.1.2) h.2)
    · cases h
  | _, _, _, q, .sl a lo hi, md, x, h => by
    unfold okE at h
    rw [Bool.and_eq_true] at h
    obtain ⟨h1, h⟩ := h
    split at h
    · simp only [Bool.and_eq_true] at h
      exact Snd.val q.g h1 (s_sl q.g (sd_E q a .val _ h.1.1) (sd_O q lo _ h.1.2) (sd_O q hi _ h.2))
    · cases h
  | _, _, _, q, .call f es, md, x, h => by
    unfold okE at h
    rw [Bool.and_eq_true] at h
    obtain ⟨h1, h⟩ := h
    split at h
    · split at h
      · rename_i nm np fr ef
        simp only [Bool.and_eq_true, Bool.or_eq_true, decide_eq_true_eq] at h
        obtain ⟨⟨⟨⟨⟨e, hg⟩, hn⟩, hes⟩, hs⟩, hf⟩ := h
        subst e
        obtain ⟨F, hl⟩ := q.fn _ _ _ _ ef
        have hr := q.room.mono (Nat.le_succ (2 * n))
        cases fr with
        | true => exact Snd.new q.g h1 (s_callO F q.g.tk hr hl (q.gl hg) (okN_of hn).1 (sd_Es q es _ hes) hs)
        | false =>
          have hm : md ≠ .new := by
            rcases hf with hf | hf
            · cases hf
            · exact notnew hf
          refine Snd.val q.g ?_ (s_call F q.g.tk hr hl (q.gl hg) (okN_of hn).1 (sd_Es q es _ hes) hs)
          cases md with
          | new => exact absurd rfl hm
          | tw => cases h1
          | test => exact h1
          | val => rfl
          | look => rfl
      · cases h
    · cases h
  | _, _, _, q, .make k es, md, x, h => by
    unfold okE at h
    rw [Bool.and_eq_true] at h
    obtain ⟨h1, h⟩ := h
    split at h
    · split at h
      · rename_i nm np ef
        simp only [Bool.and_eq_true, decide_eq_true_eq] at h
        obtain ⟨⟨⟨⟨e, hg⟩, hn⟩, hes⟩, hs⟩ := h
        subst e
        obtain ⟨_, _, F, hl⟩ := q.cl _ _ _ ef
        exact Snd.val q.g h1 (s_make F q.g.tk q.room hl (q.gl hg) (okN_of hn).1 (sd_Es q es _ hes) hs)
      · cases h
    · cases h
  | _, _, _, q, .fld a k i, md, x, h => by
    unfold okE at h
    rw [Bool.and_eq_true] at h
    obtain ⟨h1, h⟩ := h
    split at h
    · simp only [Bool.and_eq_true, decide_eq_true_eq] at h
      obtain ⟨⟨hf, ha⟩, hb⟩ := h
      exact Snd.val q.g h1 (s_fld q.g hf (q.na k _ (List.mem_of_getElem? hf)) (sd_E q a .look _ ha) hb)
    · cases h
  | _, _, _, q, .prop a k i, md, x, h => by
    unfold okE at h
    rw [Bool.and_eq_true] at h
    obtain ⟨h1, h⟩ := h
    split at h
    · simp only [Bool.and_eq_true, decide_eq_true_eq] at h
      obtain ⟨⟨⟨hf, hk⟩, ha⟩, hb⟩ := h
      obtain ⟨⟨nm, np⟩, ec⟩ := Option.isSome_iff_exists.mp hk
      exact Snd.val q.g h1 (s_prop q.g (q.pr k i _ hf) q.room (q.cl _ _ _ ec).1 (sd_E q a .val _ ha) hb)
    · cases h
  | _, _, _, q, .isa a t, md, x, h => by
    unfold okE at h
    rw [Bool.and_eq_true] at h
    obtain ⟨h1, h⟩ := h
    split at h
    · rename_i y py l z pz pp
      simp only [Bool.and_eq_true, decide_eq_true_eq] at h
      obtain ⟨⟨⟨⟨e, hg⟩, ha⟩, hs⟩, ht⟩ := h
      subst e
      unfold tyOk at ht
      simp only [Bool.and_eq_true] at ht
      obtain ⟨⟨hgz, hnz⟩, ht⟩ := ht
      have A := sd_E q a .look _ ha
      cases t with
      | cls k =>
        simp only at ht
        split at ht
        · rename_i nm np ec
          have e := of_decide_eq_true ht
          subst e
          obtain ⟨hh, hm, _⟩ := q.cl _ _ _ ec
          exact Snd.val q.g h1 (s_isa q.g (q.gl hg) A (pe_glob (v := .ref (L.cls k)) (q.gl hgz) hm rfl (okN_of hnz).1) (fun k' e => by cases e; exact hh) hs rfl)
        · cases ht
      | int =>
        have e := of_decide_eq_true ht
        subst e
        exact Snd.val q.g h1 (s_isa (t := .int) q.g (q.gl hg) A (pe_bltn (v := .ty "int") (q.gl hgz) (blt q.g (by decide +kernel)) (u := .type "int") (by decide +kernel) rfl (by decide +kernel) (by decide +kernel)) (fun k' e => by cases e) hs rfl)
      | bool =>
        have e := of_decide_eq_true ht
        subst e
        exact Snd.val q.g h1 (s_isa (t := .bool) q.g (q.gl hg) A (pe_bltn (v := .ty "bool") (q.gl hgz) (blt q.g (by decide +kernel)) (u := .type "bool") (by decide +kernel) rfl (by decide +kernel) (by decide +kernel)) (fun k' e => by cases e) hs rfl)
      | tuple =>
        have e := of_decide_eq_true ht
        subst e
        exact Snd.val q.g h1 (s_isa (t := .tuple) q.g (q.gl hg) A (pe_bltn (v := .ty "tuple") (q.gl hgz) (blt q.g (by decide +kernel)) (u := .type "tuple") (by decide +kernel) rfl (by decide +kernel) (by decide +kernel)) (fun k' e => by cases e) hs rfl)
      | list =>
        have e := of_decide_eq_true ht
        subst e
        exact Snd.val q.g h1 (s_isa (t := .list) q.g (q.gl hg) A (pe_bltn (v := .ty "list") (q.gl hgz) (blt q.g (by decide +kernel)) (u := .type "list") (by decide +kernel) rfl (by decide +kernel) (by decide +kernel)) (fun k' e => by cases e) hs rfl)
      | str =>
        have e := of_decide_eq_true ht
        subst e
        exact Snd.val q.g h1 (s_isa (t := .str) q.g (q.gl hg) A (pe_bltn (v := .ty "str") (q.gl hgz) (blt q.g (by decide +kernel)) (u := .type "str") (by decide +kernel) rfl (by decide +kernel) (by decide +kernel)) (fun k' e => by cases e) hs rfl)
    · cases h
  | _, _, _, q, .b1 b a, md, x, h => by
    unfold okE at h
    rw [Bool.and_eq_true] at h
    obtain ⟨h1, h⟩ := h
    split at h
    · simp only [Bool.and_eq_true, decide_eq_true_eq] at h
      obtain ⟨⟨⟨e, hg⟩, hs⟩, ha⟩ := h
      subst e
      cases b with
      | len => exact Snd.val q.g h1 (s_len q.g (q.gl hg) (sd_E q a .look _ ha) hs)
      | sum => exact Snd.val q.g h1 (s_sum q.g (q.gl hg) (sd_E q a .look _ ha) hs)
      | max => exact Snd.val q.g h1 (s_max q.g (q.gl hg) (sd_E q a .look _ ha) hs)
      | min => exact Snd.val q.g h1 (s_min q.g (q.gl hg) (sd_E q a .look _ ha) hs)
      | abs => exact Snd.val q.g h1 (s_abs q.g (q.gl hg) (sd_E q a .look _ ha) hs)
      | int => exact Snd.val q.g h1 (s_intc q.g (q.gl hg) (sd_E q a .look _ ha) hs)
      | str => exact Snd.val q.g h1 (s_strc q.g (q.gl hg) (sd_E q a .look _ ha) hs)
      | list => exact Snd.new q.g h1 (s_listc q.g (q.gl hg) (sd_E q a .look _ ha) hs)
      | tuple => exact Snd.val q.g h1 (s_tuplec q.g (q.gl hg) (sd_E q a .val _ ha) hs)
      | dict => exact Snd.new q.g h1 (s_dictc q.g (q.gl hg) (sd_E q a .look _ ha) hs)
    · cases h
  | _, _, _, q, .leno a k, md, x, h => by
    unfold okE at h
    rw [Bool.and_eq_true] at h
    obtain ⟨h1, h⟩ := h
    split at h
    · simp only [Bool.and_eq_true, decide_eq_true_eq] at h
      obtain ⟨⟨⟨⟨e, hg⟩, hs⟩, hk⟩, ha⟩ := h
      subst e
      exact Snd.val q.g h1 (s_leno (has := ck.leno) q.g q.leno q.room hk (q.gl hg) (sd_E q a .val _ ha) hs)
    · cases h
  | _, _, _, q, .eqo k a b, md, x, h => by
    unfold okE at h
    rw [Bool.and_eq_true] at h
    obtain ⟨h1, h⟩ := h
    split at h
    · simp only [Bool.and_eq_true] at h
      obtain ⟨⟨⟨hk, ha⟩, hb⟩, hs⟩ := h
      have A := sd_E q a .val _ ha
      have B := sd_E q b .val _ hb
      have hr := q.room.mono (Nat.le_succ (2 * n))
      cases md with
      | new => cases h1
      | tw => cases h1
      | val => exact s_eqo (has := ck.eqo) q.g q.eqo hr hk A B hs
      | look => exact PE.look (s_eqo (has := ck.eqo) q.g q.eqo hr hk A B hs)
      | test => exact s_teqo (has := ck.eqo) q.g q.eqo hr hk A B hs
    · cases h
  | _, _, _, q, .b2 b a d, md, x, h => by
    unfold okE at h
    rw [Bool.and_eq_true] at h
    obtain ⟨h1, h⟩ := h
    split at h
    · simp only [Bool.and_eq_true] at h
      obtain ⟨⟨⟨⟨⟨e, hg⟩, hs⟩, ht⟩, ha⟩, hd⟩ := h
      cases b with
      | max =>
        have e := of_decide_eq_true e
        subst e
        exact Snd.val q.g h1 (s_max2 q.g (q.gl hg) (sd_E q a .look _ ha) (sd_E q d .look _ hd) hs ht)
      | min =>
        have e := of_decide_eq_true e
        subst e
        exact Snd.val q.g h1 (s_min2 q.g (q.gl hg) (sd_E q a .look _ ha) (sd_E q d .look _ hd) hs ht)
      | _ => cases e
    · cases h
  | _, _, _, q, .lc e t r, md, x, h => by
    unfold okE at h
    rw [Bool.and_eq_true] at h
    obtain ⟨h1, h⟩ := h
    split at h
    · simp only [Bool.and_eq_true] at h
      obtain ⟨⟨⟨⟨ht, hr⟩, hb⟩, he⟩, hs⟩ := h
      have hk := blk_kind hb
      exact Snd.new q.g h1 (s_lc q.g own_map (sd_R q r _ _ hr) (q.blkOk hb) (fun s H C cl fp => sd_tg (q.blk hk s H C cl fp) t _ ht) (fun s H C cl fp => sd_E (q.blk hk s H C cl fp) e .val _ he) hs)
    · cases h
  | _, _, _, q, .lci e t r i, md, x, h => by
    unfold okE at h
    rw [Bool.and_eq_true] at h
    obtain ⟨h1, h⟩ := h
    split at h
    · simp only [Bool.and_eq_true] at h
      obtain ⟨⟨⟨⟨⟨ht, hr⟩, hb⟩, hi⟩, he⟩, hs⟩ := h
      have hk := blk_kind hb
      exact Snd.new q.g h1 (s_lci q.g own_map (sd_R q r _ _ hr) (q.blkOk hb) (fun s H C cl fp => sd_tg (q.blk hk s H C cl fp) t _ ht) (fun s H C cl fp => sd_E (q.blk hk s H C cl fp) i .test _ hi) (fun s H C cl fp => sd_E (q.blk hk s H C cl fp) e .val _ he) hs)
    · cases h
  | _, _, _, q, .lc2 e i r j r2, md, x, h => by
    unfold okE at h
    rw [Bool.and_eq_true] at h
    obtain ⟨h1, h⟩ := h
    split at h
    · simp only [Bool.and_eq_true] at h
      obtain ⟨⟨⟨⟨⟨⟨⟨ht, hr⟩, hb⟩, hr2⟩, ht1⟩, he⟩, hs⟩, hs1⟩ := h
      have hk := blk_kind hb
      exact Snd.new q.g h1 (s_lc2 q.g own_map ((slots_ok _ _ ht _ (by simp [slotsT])).1) ((slots_ok _ _ ht1 _ (by simp [slotsT])).1) (sd_R q r _ _ hr) (q.blkOk hb) (fun s H C cl fp => sd_tg (q.blk hk s H C cl fp) _ _ ht) (fun s H C cl fp => sd_R (q.blk hk s H C cl fp) r2 _ _ hr2) (fun s H C cl fp => sd_tg (q.blk hk s H C cl fp) _ _ ht1) (fun s H C cl fp => sd_E (q.blk hk s H C cl fp) e .val _ he) hs hs1)
    · cases h
  | _, _, _, q, .lc2i e i r j r2 cc, md, x, h => by
    unfold okE at h
    rw [Bool.and_eq_true] at h
    obtain ⟨h1, h⟩ := h
    split at h
    · simp only [Bool.and_eq_true] at h
      obtain ⟨⟨⟨⟨⟨⟨⟨⟨ht, hr⟩, hb⟩, hr2⟩, ht1⟩, hc⟩, he⟩, hs⟩, hs1⟩ := h
      have hk := blk_kind hb
      exact Snd.new q.g h1 (s_lc2i q.g own_map ((slots_ok _ _ ht _ (by simp [slotsT])).1) ((slots_ok _ _ ht1 _ (by simp [slotsT])).1) (sd_R q r _ _ hr) (q.blkOk hb) (fun s H C cl fp => sd_tg (q.blk hk s H C cl fp) _ _ ht) (fun s H C cl fp => sd_R (q.blk hk s H C cl fp) r2 _ _ hr2) (fun s H C cl fp => sd_tg (q.blk hk s H C cl fp) _ _ ht1) (fun s H C cl fp => sd_E (q.blk hk s H C cl fp) cc .test _ hc) (fun s H C cl fp => sd_E (q.blk hk s H C cl fp) e .val _ he) hs hs1)
    · cases h
  | _, _, _, q, .rep es b, md, x, h => by
    unfold okE at h
    rw [Bool.and_eq_true] at h
    obtain ⟨h1, h⟩ := h
    split at h
    · simp only [Bool.and_eq_true] at h
      exact Snd.new q.g h1 (s_rep q.g (sd_Es q es _ h.1) (sd_E q b .val _ h.2))
    · cases h
  | _, _, _, q, .dnew t, md, x, h => by
    unfold okE at h
    rw [Bool.and_eq_true] at h
    obtain ⟨h1, h⟩ := h
    split at h
    · exact Snd.new q.g h1 s_dnew
    · cases h
  | _, _, _, q, .dd1 k v, md, x, h => by
    unfold okE at h
    rw [Bool.and_eq_true] at h
    obtain ⟨h1, h⟩ := h
    split at h
    · simp only [Bool.and_eq_true] at h
      exact Snd.new q.g h1 (s_dd1 (sd_E q k .val _ h.1) (sd_E q v .val _ h.2))
    · cases h
  | _, _, _, q, .get d k v, md, x, h => by
    unfold okE at h
    rw [Bool.and_eq_true] at h
    obtain ⟨h1, h⟩ := h
    split at h
    · simp only [Bool.and_eq_true, decide_eq_true_eq] at h
      obtain ⟨⟨⟨⟨⟨⟨⟨rfl, hb⟩, he⟩, hf⟩, hl⟩, hd⟩, hk⟩, hv⟩ := h
      exact Snd.val q.g h1 (s_get q.g (m2_of hb he hf hl) (sd_E q d .look _ hd) (sd_E q k .look _ hk) (sd_E q v .val _ hv))
    · cases h
  | _, _, _, q, .lrg a, md, x, h => by
    unfold okE at h
    rw [Bool.and_eq_true] at h
    obtain ⟨h1, h⟩ := h
    split at h
    · simp only [Bool.and_eq_true, decide_eq_true_eq] at h
      obtain ⟨⟨⟨⟨⟨rfl, rfl⟩, hg⟩, hg2⟩, hs⟩, ha⟩ := h
      exact Snd.new q.g h1 (s_lrg q.g (q.gl hg) (q.gl hg2) (sd_E q a .look _ ha) hs)
    · cases h
  | _, _, _, q, .rev a, md, x, h => by
    unfold okE at h
    rw [Bool.and_eq_true] at h
    obtain ⟨h1, h⟩ := h
    split at h
    · exact Snd.val q.g h1 (s_rev q.g (sd_E q a .val _ h))
    · cases h
  | _, _, _, q, .mind a, md, x, h => by
    unfold okE at h
    rw [Bool.and_eq_true] at h
    obtain ⟨h1, h⟩ := h
    split at h
    · simp only [Bool.and_eq_true, decide_eq_true_eq] at h
      obtain ⟨⟨⟨⟨rfl, hg⟩, hs⟩, rfl⟩, ha⟩ := h
      exact Snd.val q.g h1 (s_mind q.g (q.gl hg) (sd_E q a .look _ ha) hs)
    · cases h
  | _, _, _, q, .fnv f, md, x, h => by
    unfold okE at h
    rw [Bool.and_eq_true] at h
    obtain ⟨h1, h⟩ := h
    split at h
    · split at h
      · rename_i nm np fr ef
        simp only [Bool.and_eq_true, decide_eq_true_eq] at h
        obtain ⟨⟨rfl, hg⟩, hn⟩ := h
        exact Snd.val q.g h1 (s_fnv (q.fn _ _ _ _ ef).1 (q.gl hg) (okN_of hn).1)
      · cases h
    · cases h
  | _, _, _, q, .callv fs e, md, x, h => by
    unfold okE at h
    rw [Bool.and_eq_true] at h
    obtain ⟨h1, h⟩ := h
    split at h
    · simp only [Bool.and_eq_true, List.all_eq_true] at h
      obtain ⟨hf, he⟩ := h
      refine Snd.val q.g h1 (s_callv (n := n) q.g.tk (q.room.mono (Nat.le_succ (2 * n))) (fun f hm => ?_) (sd_E q e .look _ he) rfl)
      have := hf f hm
      split at this
      · rename_i nm ef
        exact ⟨nm, (q.fn _ _ _ _ ef).1⟩
      · cases this
    · cases h
  | _, _, _, q, .max3 a b d, md, x, h => by
    unfold okE at h
    rw [Bool.and_eq_true] at h
    obtain ⟨h1, h⟩ := h
    split at h
    · simp only [Bool.and_eq_true, decide_eq_true_eq] at h
      obtain ⟨⟨⟨⟨⟨⟨⟨rfl, hg⟩, hs⟩, ht⟩, hu⟩, ha⟩, hb⟩, hd⟩ := h
      exact Snd.val q.g h1 (s_max3 q.g (q.gl hg) (sd_E q a .look _ ha) (sd_E q b .look _ hb) (sd_E q d .look _ hd) hs ht hu)
    · cases h
  | _, _, _, q, .lzip _ _, _, _, h => by simp [okE] at h
  | _, _, _, q, .idx _ _, _, _, h => by simp [okE] at h
  | _, _, _, q, .dcm _ _ _ _, _, _, h => by simp [okE] at h
theorem sd_Es : ∀ {X : Cx} {sc : Scope} {Wx : WX} (q : Gud ck L c n N X sc Wx) (es : Es) (xs : List Expr), okEs ck N W es sc xs = true → PA X xs (tEs L c Wx W es)
  | _, _, _, q, .nil, xs, h => by
    unfold okEs at h
    split at h
    · exact s_nil
    · cases h
  | _, _, _, q, .cons e es, xs, h => by
    unfold okEs at h
    split at h
    · simp only [Bool.and_eq_true] at h
      exact s_cons (sd_E q e .val _ h.1.1) (sd_Es q es _ h.2) h.1.2
    · cases h
theorem sd_O : ∀ {X : Cx} {sc : Scope} {Wx : WX} (q : Gud ck L c n N X sc Wx) (e : Oe) (x : Option Expr), okO ck N W e sc x = true → PO X x (tOe L c Wx W e)
  | _, _, _, q, .no, x, h => by
    unfold okO at h
    split at h
    · exact s_no
    · cases h
  | _, _, _, q, .so e, x, h => by
    unfold okO at h
    split at h
    · exact s_so (sd_E q e .look _ h)
    · cases h
theorem sd_R : ∀ {X : Cx} {sc : Scope} {Wx : WX} (q : Gud ck L c n N X sc Wx) (r : Sr) (tg x : Expr), okR ck N W r sc tg x = true → PI X tg x (tSr L c Wx W r)
  | _, _, _, q, .of e, tg, x, h => by
    unfold okR at h
    exact s_of q.g (sd_E q e .val _ h)
  | _, _, _, q, .rg1 e, tg, x, h => by
    unfold okR at h
    split at h
    · simp only [Bool.and_eq_true, decide_eq_true_eq] at h
      obtain ⟨⟨⟨e1, hg⟩, hs⟩, ha⟩ := h
      subst e1
      exact s_rg1 q.g (q.gl hg) (sd_E q e .look _ ha) hs
    · cases h
  | _, _, _, q, .rg2 a b, tg, x, h => by
    unfold okR at h
    split at h
    · simp only [Bool.and_eq_true, decide_eq_true_eq] at h
      obtain ⟨⟨⟨⟨⟨e1, hg⟩, hs⟩, ht⟩, ha⟩, hb⟩ := h
      subst e1
      exact s_rg2 q.g (q.gl hg) (sd_E q a .look _ ha) (sd_E q b .look _ hb) hs ht
    · cases h
  | _, _, _, q, .en e, tg, x, h => by
    unfold okR at h
    split at h
    · simp only [Bool.and_eq_true, decide_eq_true_eq] at h
      obtain ⟨⟨⟨e1, hg⟩, hs⟩, ha⟩ := h
      subst e1
      exact s_en q.g (q.gl hg) (sd_E q e .val _ ha) hs
    · cases h
  | _, _, _, q, .zp a b, tg, x, h => by
    unfold okR at h
    split at h
    · simp only [Bool.and_eq_true, decide_eq_true_eq] at h
      obtain ⟨⟨⟨⟨⟨e1, hg⟩, hs⟩, ht⟩, ha⟩, hb⟩ := h
      subst e1
      exact s_zp q.g (q.gl hg) (blt q.g (by decide +kernel)) (sd_E q a .val _ ha) (sd_E q b .val _ hb) hs ht
    · cases h
end
end
end MP

end
section
set_option Elab.async false
set_option linter.all false
set_option maxRecDepth 100000
set_option maxHeartbeats 2000000
/-! Statements that are checked are read soundly. -/
namespace MP
open PySem PySem.Spec PyProof.Rows L2

def okNew (ck : Ck) (N : List Str) (W : List Nat) (e : E) (i : Nat) (sc : Scope) (y : Str) (py : Pos) (x : Expr) : Bool :=
  decide (N[i]? = some y) && locB sc y && ((match e, x with
  | .lc e' t r, .ListComp elt [⟨tg, iter, [], 0⟩] scope p => decide (sc.names.lookup y = some .local) && (py.line == p.line) && !(scope.names.any fun (n, k) => n == y && (k == .local || k == .cell)) &&
      (okTg N W t scope tg && okR ck N W r sc tg iter && blkC N sc scope (ownOf N t) && okE ck N W e' .val scope elt && noSetI iter)
  | .lci e' t r i', .ListComp elt [⟨tg, iter, [cnd], 0⟩] scope p => decide (sc.names.lookup y = some .local) && (py.line == p.line) && !(scope.names.any fun (n, k) => n == y && (k == .local || k == .cell)) &&
      (okTg N W t scope tg && okR ck N W r sc tg iter && blkC N sc scope (ownOf N t) && okE ck N W i' .test scope cnd && okE ck N W e' .val scope elt && noSetI iter)
  | .lc2 e' i' r j' r2, .ListComp elt [⟨tg, iter, [], 0⟩, ⟨tg1, iter1, [], 0⟩] scope p => decide (sc.names.lookup y = some .local) && (py.line == p.line) && !(scope.names.any fun (n, k) => n == y && (k == .local || k == .cell)) &&
      (okTg N W (.nm i') scope tg && okR ck N W r sc tg iter && blkC N sc scope (ownOf N (.tp (.cons (.nm i') (.cons (.nm j') .nil)))) && okR ck N W r2 scope tg1 iter1 && okTg N W (.nm j') scope tg1 && okE ck N W e' .val scope elt && noSetI iter && noSetI iter1)
  | .lc2i e' i' r j' r2 cc, .ListComp elt [⟨tg, iter, [], 0⟩, ⟨tg1, iter1, [cnd], 0⟩] scope p => decide (sc.names.lookup y = some .local) && (py.line == p.line) && !(scope.names.any fun (n, k) => n == y && (k == .local || k == .cell)) &&
      (okTg N W (.nm i') scope tg && okR ck N W r sc tg iter && blkC N sc scope (ownOf N (.tp (.cons (.nm i') (.cons (.nm j') .nil)))) && okR ck N W r2 scope tg1 iter1 && okTg N W (.nm j') scope tg1 && okE ck N W cc .test scope cnd && okE ck N W e' .val scope elt && noSetI iter && noSetI iter1)
  | _, _ => false) || ((match x with
  | .ListComp .. => decide (sc.names.lookup y = some .cell)
  | x => !(isComp x)) && okE ck N W e .new sc x))
def bw (b : Bool) (W : List Nat) : Option (List Nat × Bool) := if b then some (W, true) else none
def bn (b : Bool) (W : List Nat) : Option (List Nat × Bool) := if b then some (W, false) else none
def sameW (a b : List Nat) : Bool := a.all (b.contains ·) && b.all (a.contains ·)
def joinW (W : List Nat) : Option (List Nat × Bool) → Option (List Nat × Bool) → Option (List Nat × Bool)
  | some (a, true), some (b, true) => if sameW a b then some (a, true) else none
  | some (a, true), some (_, false) => some (a, true)
  | some (_, false), some (b, true) => some (b, true)
  | some (_, false), some (_, false) => some (W, false)
  | _, _ => none
def loopW (W : List Nat) : Option (List Nat × Bool) → Bool
  | some (a, true) => sameW a W
  | some (_, false) => true
  | none => false
/-- a, b = x, y where a name is no plain local: no swapped stores -/
def pairB (sc : Scope) (tg v : Expr) : Bool := match tg, v with
  | .Tuple ts _ _, .Tuple _ _ _ => !(ts.length == 2 || ts.length == 3) || ts.any fun t => match t with
    | .Name id _ => decide (sc.names.lookup id = some .cell)
    | _ => false
  | _, _ => false
/-- except C: return (a constant) -/
def okHs (ck : Ck) (sc : Scope) : Hs → List ExceptHandler → Bool
  | .nil, hds => hds.isEmpty
  | .cons k i b r, hds => match k, i, b, hds with
    | .err k, none, .cons (.ret e) .nil, .ExceptHandler (some (.Name x _)) none [.Return (some (.Constant cv _ _)) _] _ :: hds => (match ck.er k with
      | some (nm, _) => decide (x = nm) && glB sc x && okN x && (cstE e cv).isSome && okHs ck sc r hds
      | none => false)
    | _, _, _, _ => false
mutual
def okS (ck : Ck) (N : List Str) (fr sf : Bool) : S → List Nat → Scope → Stmt → Option (List Nat × Bool)
  | .asg t e, W, sc, x => match x with
    | .Assign [tg] v _ => bw (okTg N W t sc tg && noStarT tg && ((!(isComp v) && (noPair tg v || pairB sc tg v) && okE ck N W e .val sc v) || (match t, tg with
      | .nm i, .Name y py => okNew ck N W e i sc y py v
      | _, _ => false))) W
    | _ => none
  | .own i e, W, sc, x => match x with
    | .Assign [.Name y py] v _ => bw (okNew ck N W e i sc y py v && !(W.contains i)) (i :: W)
    | _ => none
  | .par ts es, W, sc, x => match ts, x with
    | [i, j], .Assign [.Tuple [.Name x px, .Name y py] _ _] (.Tuple [a, b] _ _) _ => bw (decide (N[i]? = some x) && decide (N[j]? = some y) && decide (i ≠ j) && parB sc [(x, px), (y, py)] [a, b] && !(W.contains i) && !(W.contains j) && okEs ck N W es sc [a, b]) W
    | [i, j, l], .Assign [.Tuple [.Name x px, .Name y py, .Name z pz] _ _] (.Tuple [a, b, d] _ _) _ => bw (decide (N[i]? = some x) && decide (N[j]? = some y) && decide (N[l]? = some z) && decide (i ≠ j) && decide (i ≠ l) && decide (j ≠ l) && parB sc [(x, px), (y, py), (z, pz)] [a, b, d] && !(W.contains i) && !(W.contains j) && !(W.contains l) && okEs ck N W es sc [a, b, d]) W
    | _, _ => none
  | .paro i j e, W, sc, x => match x with
    | .Assign [.Tuple [.Name x px, .Name y py] _ _] (.Tuple [a, .List [] lp] _ _) _ => bw (decide (N[i]? = some x) && decide (N[j]? = some y) && decide (i ≠ j) && parB sc [(x, px), (y, py)] [a, .List [] lp] && !(W.contains i) && !(W.contains j) && okE ck N W e .val sc a) (j :: W)
    | _ => none
  | .paro3 i j l e e2, W, sc, x => match x with
    | .Assign [.Tuple [.Name x px, .Name y py, .Name z pz] _ _] (.Tuple [a, b, .List [] lp] _ _) _ => bw (decide (N[i]? = some x) && decide (N[j]? = some y) && decide (N[l]? = some z) && decide (i ≠ j) && decide (i ≠ l) && decide (j ≠ l) && parB sc [(x, px), (y, py), (z, pz)] [a, b, .List [] lp] && !(W.contains i) && !(W.contains j) && !(W.contains l) && okE ck N W e .val sc a && okE ck N W e2 .val sc b) (l :: W)
    | _ => none
  | .aug i op e, W, sc, x => match op, x with
    | .add, .AugAssign (.Name y _) .Add v _ => bw (decide (N[i]? = some y) && locB sc y && !(W.contains i) && okE ck N W e .look sc v) W
    | .mul, .AugAssign (.Name y _) .Mult v _ => bw (decide (N[i]? = some y) && locB sc y && !(W.contains i) && okE ck N W e .look sc v) W
    | _, _ => none
  | .expr e, W, sc, x => match x with
    | .Expr v _ => bw (!(isComp v) && okE ck N W e .val sc v) W
    | _ => none
  | .app i e, W, sc, x => match x with
    | .Expr (.Call (.Attribute (.Name y _) m apos) [v] [] cpos) _ => bw (decide (m = ("append" : Str)) && W.contains i && okV N sc i y && okE ck N W e .val sc v && noStar v && (apos.endLine == cpos.line)) W
    | _ => none
  | .ext i e, W, sc, x => match x with
    | .Expr (.Call (.Attribute (.Name y _) m apos) [v] [] cpos) _ => bw (decide (m = ("extend" : Str)) && W.contains i && okV N sc i y && okE ck N W e .val sc v && noStar v && (apos.endLine == cpos.line)) W
    | _ => none
  | .put i k e, W, sc, x => match x with
    | .Assign [.Subscript (.Name y _) kx _] v _ => bw (W.contains i && okV N sc i y && okE ck N W e .val sc v && okE ck N W k .look sc kx && noSlice kx) W
    | _ => none
  | .seta i cl e, W, sc, x => match x with
    | .Assign [.Attribute (.Name y _) f _] v _ => bw (decide (fields cl = [f]) && W.contains i && okV N sc i y && okE ck N W e .val sc v) W
    | _ => none
  | .ret e, W, sc, x => match x with
    | .Return (some v) _ => bn (if fr then (match e, v with
        | .var i, .Name y _ => W.contains i && okV N sc i y
        | _, _ => false) || okE ck N W e .new sc v else okE ck N W e .val sc v) W
    | _ => none
  | .retn, W, _, x => match x with
    | .Return none _ => bn (!fr) W
    | _ => none
  | .ite t a b, W, sc, x => match x with
    | .If u l r _ => if okE ck N W t .test sc u then joinW W (okSs ck N fr sf a W sc l) (okSs ck N fr sf b W sc r) else none
    | _ => none
  | .whl t b, W, sc, x => match x with
    | .While u l [] _ => bw (okE ck N W t .test sc u && loopW W (okSs ck N fr sf b W sc l)) W
    | _ => none
  | .for t r b, W, sc, x => match x with
    | .For tg iter l [] _ => bw (okTg N W t sc tg && okR ck N W r sc tg iter && noSetI iter && loopW W (okSs ck N fr sf b W sc l)) W
    | _ => none
  | .rais k es, W, sc, x => match k, x with
    | .err k, .Raise (some (.Call (.Name nm _) args [] _)) none _ => (match ck.er k with
      | some (nm', nf) => bn (decide (nm = nm') && glB sc nm && okN nm && (match nf, es, args with
        | 0, .nil, [] => true
        | 1, .cons e .nil, [v] => okE ck N W e .val sc v && noStar v
        | 2, .cons e (.cons e2 .nil), [v, v2] => okE ck N W e .val sc v && noStar v && okE ck N W e2 .val sc v2 && noStar v2
        | _, _, _ => false)) W
      | none => none)
    | _, _ => none
  | .tri b hs ks, W, sc, x => match x with
    | .Try body (h₀ :: hds) [] [] _ => if !fr && okHs ck sc hs (h₀ :: hds) && ks.all (fun k => (ck.er k).isSome) then okSs ck N fr sf b W sc body else none
    | _ => none
  | .frz _, _, _, _ => none
  | .pass, W, _, x => match x with
    | .Pass _ => some (W, true)
    | _ => none
def okSs (ck : Ck) (N : List Str) (fr sf : Bool) : Ss → List Nat → Scope → List Stmt → Option (List Nat × Bool)
  | .nil, W, _, xs => match xs with
    | [] => some (W, true)
    | _ => none
  | .cons (.frz i) r, W, sc, xs => if W.contains i && (!sf || i != 0) then okSs ck N fr sf r (W.filter (· != i)) sc xs else none
  | .cons st r, W, sc, xs => match xs with
    | x :: xs => match okS ck N fr sf st W sc x with
      | some (W1, true) => okSs ck N fr sf r W1 sc xs
      | some (W1, false) => match r, xs with
        | .nil, [] => some (W1, false)
        | _, _ => none
      | none => none
    | [] => none
end

section
variable {ck : Ck} {L : Lay} {c : Cfg} {n : Nat} {N : List Str} {X : Cx} {sc : Scope} {W W' W'' : List Nat} {O : Org} {Xk : XK} {fr sf : Bool} {pos : Pos}
theorem bw_some {b : Bool} {W W' : List Nat} {k : Bool} (h : bw b W = some (W', k)) : b = true ∧ W' = W ∧ k = true := by
  unfold bw at h
  split at h
  · cases h; exact ⟨by assumption, rfl, rfl⟩
  · cases h
theorem bn_some {b : Bool} {W W' : List Nat} {k : Bool} (h : bn b W = some (W', k)) : b = true ∧ W' = W ∧ k = false := by
  unfold bn at h
  split at h
  · cases h; exact ⟨by assumption, rfl, rfl⟩
  · cases h
theorem sameW_iff {a b : List Nat} (h : sameW a b = true) (i : Nat) : i ∈ a ↔ i ∈ b := by
  unfold sameW at h
  simp only [Bool.and_eq_true, List.all_eq_true, List.contains_iff_mem] at h
  exact ⟨h.1 i, h.2 i⟩
theorem At.mem {ρ : Env} {s : Sto} {m : List (Addr × Addr)} {G : Hp} {σ : L2.St} {H : Hp} (a : At L O W ρ s m G σ H) (h : ∀ i, i ∈ W' ↔ i ∈ W) : At L O W' ρ s m G σ H :=
  ⟨a.w0, a.w, a.t, ⟨a.q.len, fun i d e hi => a.q.sh i d e fun z => hi ((h i).mpr z), fun i d e hi => a.q.ow i d e ((h i).mp hi), fun i j b d e hi hj => a.q.dj i j b d e ((h i).mp hi) ((h j).mp hj)⟩, fun i d b hi => a.nw i d b ((h i).mp hi), fun x e => ⟨(a.fx x e).1, (h 0).mpr (a.fx x e).2⟩⟩
theorem AftS.mem {Dn : Ends} {m : List (Addr × Addr)} {G : Hp} {r : R} (A : AftS L O Xk W'' fr Dn m G r) (h : ∀ i, i ∈ W'' ↔ i ∈ W') : AftS L O Xk W' fr Dn m G r := by
  cases r with
  | nx ρ s => exact fun σ m' G' H' h1 h2 a => A σ m' G' H' h1 h2 (a.mem h)
  | rt d s => exact A
  | ex k ds ρ s => exact A
  | st => exact A
theorem tS_out {x : Stmt} {st : S} (h : PS X x (tS L c O Xk W W' fr st)) (e : ∀ i, i ∈ W'' ↔ i ∈ W') : PS X x (tS L c O Xk W W'' fr st) :=
  PS.imp h fun Dn σ H ⟨ρ, s, m, G, a, A⟩ => ⟨ρ, s, m, G, a, A.mem e⟩
theorem sw_cell {elt : Expr} {gs : List Comprehension} {scope : Scope} {pos py : Pos} {y : Str} {l : Nat} {env : PySem.Env} (hy : env.scope.names.lookup y = some .cell) : swapsWith (.ListComp elt gs scope pos) (some (.Name y py)) l env = pure false := by
  have ky : env.kindOf y = some .cell := hy
  have h2 : (env.kindOf y == some NameKind.local) = false := by rw [ky]; rfl
  unfold swapsWith
  simp only [h2, Bool.and_false, Bool.false_and]
theorem okNew_is (q : Gud ck L c n N X sc (WE' Xk)) (hs : X.env.scope = sc) {e : E} {i : Nat} {y : Str} {py : Pos} {x : Expr} (h : okNew ck N W e i sc y py x = true) : PS X (.Assign [.Name y py] x pos) (tAsg (tO L c (WE' Xk) W e) (gName i)) := by
  unfold okNew at h
  simp only [Bool.and_eq_true, Bool.or_eq_true, decide_eq_true_eq] at h
  obtain ⟨⟨hN, hl⟩, h⟩ := h
  rcases h with h | ⟨h1, h2⟩
  · split at h
    · simp only [Bool.and_eq_true, decide_eq_true_eq, Bool.not_eq_true'] at h
      obtain ⟨⟨⟨hy, hln⟩, hna⟩, ⟨⟨⟨ht, hr⟩, hb⟩, he⟩, hns⟩ := h
      have hk := blk_kind hb
      exact s_setLc q.g (slot_of q hN) (by rw [hs]; exact hy) (sw_true q.kd (by rw [hs]; exact hy) hln hna) own_map (sd_R q _ _ _ hr) (q.blkOk hb) (fun s H C cl fp => sd_tg (q.blk hk s H C cl fp) _ _ ht) (fun s H C cl fp => sd_E (q.blk hk s H C cl fp) _ .val _ he) hns
    · simp only [Bool.and_eq_true, decide_eq_true_eq, Bool.not_eq_true'] at h
      obtain ⟨⟨⟨hy, hln⟩, hna⟩, ⟨⟨⟨⟨ht, hr⟩, hb⟩, hi⟩, he⟩, hns⟩ := h
      have hk := blk_kind hb
      exact s_setLci q.g (slot_of q hN) (by rw [hs]; exact hy) (sw_true q.kd (by rw [hs]; exact hy) hln hna) own_map (sd_R q _ _ _ hr) (q.blkOk hb) (fun s H C cl fp => sd_tg (q.blk hk s H C cl fp) _ _ ht) (fun s H C cl fp => sd_E (q.blk hk s H C cl fp) _ .test _ hi) (fun s H C cl fp => sd_E (q.blk hk s H C cl fp) _ .val _ he) hns
    · simp only [Bool.and_eq_true, decide_eq_true_eq, Bool.not_eq_true'] at h
      obtain ⟨⟨⟨hy, hln⟩, hna⟩, ⟨⟨⟨⟨⟨⟨ht, hr⟩, hb⟩, hr2⟩, ht1⟩, he⟩, hns⟩, hns1⟩ := h
      have hk := blk_kind hb
      exact s_setLc2 q.g (slot_of q hN) (by rw [hs]; exact hy) (sw_true q.kd (by rw [hs]; exact hy) hln hna) own_map ((slots_ok _ _ ht _ (by simp [slotsT])).1) ((slots_ok _ _ ht1 _ (by simp [slotsT])).1) (sd_R q _ _ _ hr) (q.blkOk hb) (fun s H C cl fp => sd_tg (q.blk hk s H C cl fp) _ _ ht) (fun s H C cl fp => sd_R (q.blk hk s H C cl fp) _ _ _ hr2) (fun s H C cl fp => sd_tg (q.blk hk s H C cl fp) _ _ ht1) (fun s H C cl fp => sd_E (q.blk hk s H C cl fp) _ .val _ he) hns hns1
    · simp only [Bool.and_eq_true, decide_eq_true_eq, Bool.not_eq_true'] at h
      obtain ⟨⟨⟨hy, hln⟩, hna⟩, ⟨⟨⟨⟨⟨⟨⟨ht, hr⟩, hb⟩, hr2⟩, ht1⟩, hc⟩, he⟩, hns⟩, hns1⟩ := h
      have hk := blk_kind hb
      exact s_setLc2i q.g (slot_of q hN) (by rw [hs]; exact hy) (sw_true q.kd (by rw [hs]; exact hy) hln hna) own_map ((slots_ok _ _ ht _ (by simp [slotsT])).1) ((slots_ok _ _ ht1 _ (by simp [slotsT])).1) (sd_R q _ _ _ hr) (q.blkOk hb) (fun s H C cl fp => sd_tg (q.blk hk s H C cl fp) _ _ ht) (fun s H C cl fp => sd_R (q.blk hk s H C cl fp) _ _ _ hr2) (fun s H C cl fp => sd_tg (q.blk hk s H C cl fp) _ _ ht1) (fun s H C cl fp => sd_E (q.blk hk s H C cl fp) _ .test _ hc) (fun s H C cl fp => sd_E (q.blk hk s H C cl fp) _ .val _ he) hns hns1
    · cases h
  · obtain ⟨g1, g2⟩ := q.loc hl
    have hc : swapsWith x (some (.Name y py)) pos.line X.env = pure false := by
      split at h1
      · exact sw_cell (by rw [hs]; exact of_decide_eq_true h1)
      · exact noComp_sw (by simpa using h1)
    have hp : swappedStores [.Name y py] x X.env = pure none := noPair_is (by cases x <;> rfl)
    exact ps_asg (sd_E q e .new _ h2) (pg_name q.g.nd (slot_of q hN) g1 g2) hc hp rfl
theorem fm_less {α β : Type} {f : α → Option β} : ∀ {l : List α}, (∃ x ∈ l, f x = none) → (l.filterMap f).length < l.length
  | [], h => by obtain ⟨x, hx, _⟩ := h; cases hx
  | y :: l, h => by
    have le : (l.filterMap f).length ≤ l.length := List.length_filterMap_le _ _
    rw [List.filterMap_cons]
    obtain ⟨x, hx, e⟩ := h
    rcases List.mem_cons.mp hx with rfl | hx
    · rw [e]; simp only [List.length_cons]; omega
    · have := fm_less ⟨x, hx, e⟩
      split <;> simp only [List.length_cons] <;> omega
theorem pairB_is {tg v : Expr} {env : PySem.Env} (h : pairB env.scope tg v = true) : swappedStores [tg] v env = pure none := by
  unfold pairB at h
  split at h
  · rename_i ts k p vs k2 p2
    rw [Bool.or_eq_true] at h
    unfold swappedStores
    simp only
    rcases h with h | h
    · rw [if_pos (by rw [h]; rfl)]
    obtain ⟨x, hx, hc⟩ := List.any_eq_true.mp h
    split
    · rfl
    · split
      · rfl
      · have hl := fm_less (f := fun t => match t with
          | .Name id pos => if (env.kindOf id == some .local && pos.line == (ts.head?.map (·.pos.line)).getD 0) = true then some id else none
          | _ => none) (l := ts) ⟨x, hx, by
            split at hc
            · rename_i id _
              have e : env.kindOf id = some .cell := of_decide_eq_true hc
              have e2 : (env.kindOf id == some NameKind.local) = false := by rw [e]; rfl
              simp only [e2, Bool.false_and]
              rfl
            · cases hc⟩
        rw [if_pos ?_]
        simp only [Bool.or_eq_true, bne_iff_ne, ne_eq]
        exact .inl (Nat.ne_of_lt hl)
  · cases h
theorem loop_of {o : Option (List Nat × Bool)} (h : loopW W o = true) : ∃ a b, o = some (a, b) ∧ (b = true → ∀ i, i ∈ W ↔ i ∈ a) := by
  unfold loopW at h
  split at h
  · exact ⟨_, _, rfl, fun _ i => (sameW_iff h i).symm⟩
  · exact ⟨_, _, rfl, fun z => by cases z⟩
  · cases h
theorem join_of {o p : Option (List Nat × Bool)} {b : Bool} (h : joinW W o p = some (W', b)) : ∃ a k a' k', o = some (a, k) ∧ p = some (a', k') ∧ ∀ W'' : List Nat, (b = true → ∀ i, i ∈ W'' ↔ i ∈ W') → (k = true → ∀ i, i ∈ W'' ↔ i ∈ a) ∧ (k' = true → ∀ i, i ∈ W'' ↔ i ∈ a') := by
  unfold joinW at h
  split at h
  · split at h
    · rename_i hs
      cases h
      exact ⟨_, _, _, _, rfl, rfl, fun W'' z => ⟨fun _ => z rfl, fun _ i => (z rfl i).trans (sameW_iff hs i)⟩⟩
    · cases h
  · cases h
    exact ⟨_, _, _, _, rfl, rfl, fun W'' z => ⟨fun _ => z rfl, fun k => (by cases k)⟩⟩
  · cases h
    exact ⟨_, _, _, _, rfl, rfl, fun W'' z => ⟨fun k => (by cases k), fun _ => z rfl⟩⟩
  · cases h
    exact ⟨_, _, _, _, rfl, rfl, fun W'' z => ⟨fun k => (by cases k), fun k => (by cases k)⟩⟩
  · cases h
theorem okV_of (q : Gud ck L c n N X sc (WE' Xk)) {i : Nat} {y : Str} (h : okV N sc i y = true) : X.N[i]? = some y ∧ Vis X.env.scope y ∧ (y == ("__debug__" : Str)) = false ∧ (y == ("__classdict__" : Str)) = false := by
  unfold okV at h
  simp only [Bool.and_eq_true, decide_eq_true_eq] at h
  exact ⟨slot_of q h.1.1, q.vis h.1.2, okN_of h.2⟩
theorem okSs_cons {st : S} {r : Ss} {xs : List Stmt} (hf : ∀ i, st ≠ .frz i) : okSs ck N fr sf (.cons st r) W sc xs = (match xs with
    | x :: xs => match okS ck N fr sf st W sc x with
      | some (W1, true) => okSs ck N fr sf r W1 sc xs
      | some (W1, false) => match r, xs with
        | .nil, [] => some (W1, false)
        | _, _ => none
      | none => none
    | [] => none) := by
  cases st <;> first | rfl | exact absurd rfl (hf _) | (rw [okSs]; done) | (rw [okSs]; rfl) | (cases xs <;> simp only [okSs])
theorem Gud.tr (q : Gud ck L c n N X sc (WE' Xk)) {Xk' : XK} {pn : List (Addr × Obj)} {xe : Value → Shared → Prop} (tk : Takes (X.tr pn xe) (WE' Xk')) : Gud ck L c n N (X.tr pn xe) sc (WE' Xk') where
  g := ⟨q.g.cls, q.g.kk, q.g.blt, q.g.K, q.g.nd, q.g.calm, q.g.units, tk⟩
  hN := q.hN
  scs := q.scs
  fnc := q.fnc
  kd := q.kd
  room := q.room
  fn := fun f nm np fr h => by
    obtain ⟨h1, h2⟩ := q.fn f nm np fr h
    exact ⟨⟨h1.ok, h1.mg, h1.kp⟩, h2⟩
  cl := fun k nm np h => by
    obtain ⟨h0, h3, h1, h2⟩ := q.cl k nm np h
    exact ⟨h0, h3, ⟨h1.ok, h1.mkk, h1.mg⟩, h2⟩
  pr := fun k i nm h => ⟨(q.pr k i nm h).ok, (q.pr k i nm h).pr⟩
  leno := fun k h => ⟨(q.leno k h).ok, (q.leno k h).at_, (q.leno k h).fn⟩
  eqo := fun k h => ⟨(q.eqo k h).ok, (q.eqo k h).at_, (q.eqo k h).fn, (q.eqo k h).no⟩
  con := q.con
  na := q.na
  one := q.one
  er := fun k nm nf h => by
    obtain ⟨h0, h1, h2, h3⟩ := q.er k nm nf h
    refine ⟨h0, fun e => ⟨(h1 e).mg, (h1 e).ex, (h1 e).kp, (h1 e).sb, (h1 e).ty⟩, fun e => ?_, fun e => ?_⟩
    · obtain ⟨f, x, y⟩ := h2 e
      exact ⟨f, x, y.mg, y.ox, y.it, y.ti, y.ok⟩
    · obtain ⟨f, g, x, y⟩ := h3 e
      exact ⟨f, g, x, y.mg, y.ox, y.it, y.ti, y.ok⟩
  exm := q.exm
theorem okHs_is (q : Gud ck L c n N X sc (WE' Xk)) {ks : List Nat} (hks : ∀ k, k ∈ ks → (ck.er k).isSome = true) : ∀ {hs : Hs} {hds : List ExceptHandler}, okHs ck sc hs hds = true → ∃ l, Hds L X ks hds hs l
  | .nil, hds, h => by
    unfold okHs at h
    rw [List.isEmpty_iff] at h
    subst h
    exact ⟨[], .nil⟩
  | .cons k i b r, hds, h => by
    unfold okHs at h
    split at h
    · split at h
      · rename_i ek
        simp only [Bool.and_eq_true, decide_eq_true_eq] at h
        obtain ⟨⟨⟨⟨rfl, hg⟩, hn⟩, hc⟩, hr⟩ := h
        obtain ⟨⟨v, d⟩, hc⟩ := Option.isSome_iff_exists.mp hc
        obtain ⟨l, h1⟩ := okHs_is q hks hr
        exact ⟨_, .cons ⟨q.gl hg, (okN_of hn).1, .inl (q.er _ _ _ ek).1⟩ hc (fun kk hk => q.exm kk _ (hks kk hk) (by rw [ek]; rfl)) h1⟩
      · cases h
    · cases h
mutual
theorem sd_S (hz : sf = false → O.slf = none) : ∀ {X : Cx} {Xk : XK} (q : Gud ck L c n N X sc (WE' Xk)) (hs : X.env.scope = sc) (hk : X.stack = X.env :: X.outer ∧ X.env.frame = some X.env.locals) (hp : PassesOwn (model X.prog X.w) X.A X.env X.xe) (st : S) (W : List Nat) (x : Stmt) (W' : List Nat) (b : Bool), okS ck N fr sf st W sc x = some (W', b) → ∀ W'' : List Nat, (b = true → ∀ i, i ∈ W'' ↔ i ∈ W') → PS X x (tS L c O Xk W W'' fr st)
  | X, Xk, q, hs, hk, hp, .asg t e, W, x, W', b, h, W'', hw => by
    unfold okS at h
    split at h
    · obtain ⟨hh, rfl, rfl⟩ := bw_some h
      have h := hh
      simp only [Bool.and_eq_true, Bool.or_eq_true, Bool.not_eq_true'] at h
      obtain ⟨⟨ht, hn⟩, h⟩ := h
      refine tS_out ?_ (hw rfl)
      rcases h with ⟨⟨h1, h2⟩, h3⟩ | h
      · exact ss_asg (fun i hi => (slots_ok t _ ht i hi).1) (sd_E q e .val _ h3) (sd_tg q t _ ht) (noComp_sw h1) (h2.elim noPair_is fun z => pairB_is (by rw [hs]; exact z)) hn
      · split at h
        · exact lc_asg (slots_ok _ _ ht _ (by simp [slotsT])).1 (okNew_is q hs h)
        · cases h
    · cases h
  | X, Xk, q, hs, hk, hp, .own i e, W, x, W', b, h, W'', hw => by
    unfold okS at h
    split at h
    · obtain ⟨hh, rfl, rfl⟩ := bw_some h
      have h := hh
      simp only [Bool.and_eq_true, Bool.not_eq_true'] at h
      exact tS_out (ss_own (by simpa using h.2) (okNew_is q hs h.1)) (hw rfl)
    · cases h
  | X, Xk, q, hs, hk, hp, .paro i j e, W, x, W', b, h, W'', hw => by
    unfold okS at h
    split at h
    · obtain ⟨hh, rfl, rfl⟩ := bw_some h
      have h := hh
      simp only [Bool.and_eq_true, decide_eq_true_eq, Bool.not_eq_true'] at h
      obtain ⟨⟨⟨⟨⟨⟨h1, h2⟩, h3⟩, h4⟩, h5⟩, h6⟩, h7⟩ := h
      exact tS_out (ss_paro q.g (slot_of q h1) (slot_of q h2) h3 (by rw [hs]; exact h4) (by simpa using h5) (by simpa using h6) (sd_E q e .val _ h7)) (hw rfl)
    · cases h
  | X, Xk, q, hs, hk, hp, .paro3 i j l e e2, W, x, W', b, h, W'', hw => by
    unfold okS at h
    split at h
    · obtain ⟨hh, rfl, rfl⟩ := bw_some h
      have h := hh
      simp only [Bool.and_eq_true, decide_eq_true_eq, Bool.not_eq_true'] at h
      obtain ⟨⟨⟨⟨⟨⟨⟨⟨⟨⟨⟨h1, h2⟩, h3⟩, h4⟩, h5⟩, h6⟩, h7⟩, h8⟩, h9⟩, h10⟩, h11⟩, h12⟩ := h
      exact tS_out (ss_paro3 q.g (slot_of q h1) (slot_of q h2) (slot_of q h3) h4 h5 h6 (by rw [hs]; exact h7) (by simpa using h8) (by simpa using h9) (by simpa using h10) (sd_E q e .val _ h11) (sd_E q e2 .val _ h12)) (hw rfl)
    · cases h
  | X, Xk, q, hs, hk, hp, .par ts es, W, x, W', b, h, W'', hw => by
    unfold okS at h
    split at h
    · obtain ⟨hh, rfl, rfl⟩ := bw_some h
      have h := hh
      simp only [Bool.and_eq_true, decide_eq_true_eq, Bool.not_eq_true'] at h
      obtain ⟨⟨⟨⟨⟨⟨h1, h2⟩, h3⟩, h4⟩, h5⟩, h6⟩, h7⟩ := h
      exact tS_out (ss_par2 q.g (slot_of q h1) (slot_of q h2) h3 (by rw [hs]; exact h4) (by simpa using h5) (by simpa using h6) (sd_Es q es _ h7)) (hw rfl)
    · obtain ⟨hh, rfl, rfl⟩ := bw_some h
      have h := hh
      simp only [Bool.and_eq_true, decide_eq_true_eq, Bool.not_eq_true'] at h
      obtain ⟨⟨⟨⟨⟨⟨⟨⟨⟨⟨h1, h2⟩, h3⟩, h4⟩, h5⟩, h6⟩, h7⟩, h8⟩, h9⟩, h10⟩, h11⟩ := h
      exact tS_out (ss_par3 q.g (slot_of q h1) (slot_of q h2) (slot_of q h3) h4 h5 h6 (by rw [hs]; exact h7) (by simpa using h8) (by simpa using h9) (by simpa using h10) (sd_Es q es _ h11)) (hw rfl)
    · cases h
  | X, Xk, q, hs, hk, hp, .aug i op e, W, x, W', b, h, W'', hw => by
    unfold okS at h
    split at h
    · obtain ⟨hh, rfl, rfl⟩ := bw_some h
      have h := hh
      simp only [Bool.and_eq_true, decide_eq_true_eq, Bool.not_eq_true'] at h
      obtain ⟨⟨⟨h1, h2⟩, h3⟩, h4⟩ := h
      obtain ⟨g1, g2⟩ := q.loc h2
      exact tS_out (ss_aug q.g (by simpa using h3) (slot_of q h1) g1 g2 (sd_E q e .look _ h4)) (hw rfl)
    · obtain ⟨hh, rfl, rfl⟩ := bw_some h
      have h := hh
      simp only [Bool.and_eq_true, decide_eq_true_eq, Bool.not_eq_true'] at h
      obtain ⟨⟨⟨h1, h2⟩, h3⟩, h4⟩ := h
      obtain ⟨g1, g2⟩ := q.loc h2
      exact tS_out (ss_augm q.g (by simpa using h3) (slot_of q h1) g1 g2 (sd_E q e .look _ h4)) (hw rfl)
    · cases h
  | X, Xk, q, hs, hk, hp, .expr e, W, x, W', b, h, W'', hw => by
    unfold okS at h
    split at h
    · obtain ⟨hh, rfl, rfl⟩ := bw_some h
      have h := hh
      simp only [Bool.and_eq_true, Bool.not_eq_true'] at h
      exact tS_out (ss_expr (sd_E q e .val _ h.2) h.1) (hw rfl)
    · cases h
  | X, Xk, q, hs, hk, hp, .app i e, W, x, W', b, h, W'', hw => by
    unfold okS at h
    split at h
    · obtain ⟨hh, rfl, rfl⟩ := bw_some h
      have h := hh
      simp only [Bool.and_eq_true, decide_eq_true_eq] at h
      obtain ⟨⟨⟨⟨⟨rfl, h2⟩, h3⟩, h4⟩, h5⟩, h6⟩ := h
      obtain ⟨v1, v2, v3, v4⟩ := okV_of q h3
      exact tS_out (ss_app q.g (by simpa using h2) v1 v2 v3 v4 (sd_E q e .val _ h4) h5 h6) (hw rfl)
    · cases h
  | X, Xk, q, hs, hk, hp, .ext i e, W, x, W', b, h, W'', hw => by
    unfold okS at h
    split at h
    · obtain ⟨hh, rfl, rfl⟩ := bw_some h
      have h := hh
      simp only [Bool.and_eq_true, decide_eq_true_eq] at h
      obtain ⟨⟨⟨⟨⟨rfl, h2⟩, h3⟩, h4⟩, h5⟩, h6⟩ := h
      obtain ⟨v1, v2, v3, v4⟩ := okV_of q h3
      exact tS_out (ss_ext q.g (by simpa using h2) v1 v2 v3 v4 (sd_E q e .val _ h4) h5 h6) (hw rfl)
    · cases h
  | X, Xk, q, hs, hk, hp, .put i k e, W, x, W', b, h, W'', hw => by
    unfold okS at h
    split at h
    · obtain ⟨hh, rfl, rfl⟩ := bw_some h
      have h := hh
      simp only [Bool.and_eq_true] at h
      obtain ⟨⟨⟨⟨h2, h3⟩, h4⟩, h5⟩, h6⟩ := h
      obtain ⟨v1, v2, v3, v4⟩ := okV_of q h3
      exact tS_out (ss_put q.g (by simpa using h2) v1 v2 v3 v4 (sd_E q e .val _ h4) (sd_E q k .look _ h5) h6) (hw rfl)
    · cases h
  | X, Xk, q, hs, hk, hp, .seta i cl e, W, x, W', b, h, W'', hw => by
    unfold okS at h
    split at h
    · obtain ⟨hh, rfl, rfl⟩ := bw_some h
      have h := hh
      simp only [Bool.and_eq_true, decide_eq_true_eq] at h
      obtain ⟨⟨⟨h1, h2⟩, h3⟩, h4⟩ := h
      obtain ⟨v1, v2, v3, v4⟩ := okV_of q h3
      exact tS_out (ss_seta q.g h1 (q.na cl _ (by rw [h1]; simp)) (by simpa using h2) v1 v2 v3 v4 (sd_E q e .val _ h4)) (hw rfl)
    · cases h
  | X, Xk, q, hs, hk, hp, .ret e, W, x, W', b, h, W'', hw => by
    unfold okS at h
    split at h
    · obtain ⟨hh, rfl, rfl⟩ := bn_some h
      have h := hh
      cases fr with
      | false =>
        simp only [Bool.false_eq_true, if_false] at h
        exact ss_ret (sd_E q e .val _ h)
      | true =>
        simp only [if_true, Bool.or_eq_true] at h
        rcases h with h | h
        · split at h
          · simp only [Bool.and_eq_true] at h
            obtain ⟨v1, v2, v3, v4⟩ := okV_of q h.2
            exact ss_retV (by simpa using h.1) v1 v2 v3 v4
          · cases h
        · exact ss_retO (sd_E q e .new _ h)
    · cases h
  | X, Xk, q, hs, hk, hp, .retn, W, x, W', b, h, W'', hw => by
    unfold okS at h
    split at h
    · obtain ⟨hh, rfl, rfl⟩ := bn_some h
      have h := hh
      cases fr with
      | false => exact ss_retn
      | true => cases h
    · cases h
  | X, Xk, q, hs, hk, hp, .ite t a b', W, x, W', b, h, W'', hw => by
    unfold okS at h
    split at h
    · split at h
      · rename_i ht
        obtain ⟨a1, k1, a2, k2, e1, e2, hj⟩ := join_of h
        obtain ⟨j1, j2⟩ := hj W'' hw
        exact ss_if (sd_E q t .test _ ht) (sd_Ss hz q hs hk hp a W _ _ _ e1 W'' j1) (sd_Ss hz q hs hk hp b' W _ _ _ e2 W'' j2)
      · cases h
    · cases h
  | X, Xk, q, hs, hk, hp, .whl t b', W, x, W', b, h, W'', hw => by
    unfold okS at h
    split at h
    · obtain ⟨hh, rfl, rfl⟩ := bw_some h
      have h := hh
      simp only [Bool.and_eq_true] at h
      obtain ⟨a1, k1, e1, j1⟩ := loop_of h.2
      exact tS_out (ss_while hp (sd_E q t .test _ h.1) (sd_Ss hz q hs hk hp b' _ _ _ _ e1 _ j1)) (hw rfl)
    · cases h
  | X, Xk, q, hs, hk, hp, .for t r b', W, x, W', b, h, W'', hw => by
    unfold okS at h
    split at h
    · obtain ⟨hh, rfl, rfl⟩ := bw_some h
      have h := hh
      simp only [Bool.and_eq_true] at h
      obtain ⟨⟨⟨ht, hr⟩, hn⟩, h⟩ := h
      obtain ⟨a1, k1, e1, j1⟩ := loop_of h
      exact tS_out (ss_for hp q.g (fun i hi => (slots_ok t _ ht i hi).1) (sd_R q r _ _ hr) (sd_tg q t _ ht) (sd_Ss hz q hs hk hp b' _ _ _ _ e1 _ j1) hn) (hw rfl)
    · cases h
  | X, Xk, q, hs, hk, hp, .rais k es, W, x, W', b, h, W'', hw => by
    unfold okS at h
    split at h
    · rename_i k nm p1 args p2 p3
      split at h
      · rename_i nm' nf ek
        obtain ⟨hh, rfl, rfl⟩ := bn_some h
        clear h
        simp only [Bool.and_eq_true, decide_eq_true_eq] at hh
        obtain ⟨⟨⟨rfl, hg⟩, hn⟩, h⟩ := hh
        obtain ⟨e0, e1, e2, e3⟩ := q.er _ _ _ ek
        have hr3 : Room 3 X.A := q.room.mono (by have := q.one; omega)
        split at h
        · exact ss_raise0 q.g (e1 rfl) (q.gl hg) (okN_of hn).1
        · simp only [Bool.and_eq_true] at h
          obtain ⟨f, hx, E⟩ := e2 rfl
          exact ss_raise1 q.g hx E hr3 (q.gl hg) (okN_of hn).1 (sd_E q _ .val _ h.1) h.2
        · simp only [Bool.and_eq_true] at h
          obtain ⟨f, f2, hx, E⟩ := e3 rfl
          exact ss_raise2 q.g hx E hr3 (q.gl hg) (okN_of hn).1 (sd_E q _ .val _ h.1.1.1) h.1.1.2 (sd_E q _ .val _ h.1.2) h.2
        · cases h
      · cases h
    · cases h
  | X, Xk, q, hs, hk, hp, .tri b' hds' ks, W, x, W', b, h, W'', hw => by
    unfold okS at h
    split at h
    · split at h
      · rename_i hc
        simp only [Bool.and_eq_true, Bool.not_eq_true', List.all_eq_true] at hc
        obtain ⟨⟨hfr, hh⟩, hks⟩ := hc
        obtain ⟨l, hl⟩ := okHs_is q hks hh
        have z : ∀ (Xk' : XK) (pn : List (Addr × Obj)) (xe : Value → Shared → Prop), Takes (X.tr pn xe) (WE' Xk') → PassesOwn (model X.prog X.w) X.A X.env xe → PSs (X.tr pn xe) _ (tSs L c O Xk' W W'' fr b') := fun Xk' pn xe tk po => sd_Ss hz (q.tr tk) hs hk po b' W _ W' b h W'' hw
        rw [hfr] at z ⊢
        exact ss_try hk.1 hk.2 q.g z hl
      · cases h
    · cases h
  | X, Xk, q, hs, hk, hp, .frz _, W, x, W', b, h, W'', hw => by unfold okS at h; cases h
  | X, Xk, q, hs, hk, hp, .pass, W, x, W', b, h, W'', hw => by
    unfold okS at h
    split at h
    · cases h
      exact tS_out ss_pass (hw rfl)
    · cases h
theorem sd_Ss (hz : sf = false → O.slf = none) : ∀ {X : Cx} {Xk : XK} (q : Gud ck L c n N X sc (WE' Xk)) (hs : X.env.scope = sc) (hk : X.stack = X.env :: X.outer ∧ X.env.frame = some X.env.locals) (hp : PassesOwn (model X.prog X.w) X.A X.env X.xe) (st : Ss) (W : List Nat) (x : List Stmt) (W' : List Nat) (b : Bool), okSs ck N fr sf st W sc x = some (W', b) → ∀ W'' : List Nat, (b = true → ∀ i, i ∈ W'' ↔ i ∈ W') → PSs X x (tSs L c O Xk W W'' fr st)
  | X, Xk, q, hs, hk, hp, .nil, W, x, W', b, h, W'', hw => by
    unfold okSs at h
    split at h
    · cases h
      exact PSs.imp ss_nil fun Dn σ H ⟨ρ, s, m, G, a, A⟩ => ⟨ρ, s, m, G, a, A.mem (hw rfl)⟩
    · cases h
  | X, Xk, q, hs, hk, hp, .cons st r, W, x, W', b, h, W'', hw => by
    by_cases hf : ∃ i, st = .frz i
    · obtain ⟨i, rfl⟩ := hf
      unfold okSs at h
      split at h
      · rename_i hi
        simp only [Bool.and_eq_true, Bool.or_eq_true, Bool.not_eq_true', bne_iff_ne, ne_eq] at hi
        exact ss_frz (sd_Ss hz q hs hk hp r _ _ _ _ h W'' hw) (by simpa using hi.1) (hi.2.imp hz id)
      · cases h
    · rw [okSs_cons (fun i e => hf ⟨i, e⟩)] at h
      split at h
      · split at h
        · rename_i W1 e1
          exact ss_cons (W'' := W1) (sd_S hz q hs hk hp st W _ _ _ e1 W1 fun _ _ => Iff.rfl) (sd_Ss hz q hs hk hp r _ _ _ _ h W'' hw)
        · rename_i W1 e1
          split at h
          · cases h
            exact ss_cons (W'' := W'') (sd_S hz q hs hk hp st W _ _ _ e1 W'' fun z => by cases z) ss_nil
          · cases h
        · cases h
      · cases h
end
end
end MP

end
section
set_option Elab.async false
set_option linter.all false
set_option maxRecDepth 100000
set_option maxHeartbeats 1000000
/-! Defs: a checked body keeps the promise of its reading; all defs at once, by fuel. -/
namespace MP
open PySem PySem.Spec PyProof.Rows L2

theorem lk_zip {α : Type} : ∀ {ns : List Str} {us : List α}, us.length = ns.length → ∀ n ∈ ns, ((ns.zip us).lookup n).isNone = false
  | [], _, _, n, h => by cases h
  | x :: ns, [], hl, n, h => by cases hl
  | x :: ns, u :: us, hl, n, h => by
    rw [List.zip_cons_cons, List.lookup_cons]
    cases e : n == x with
    | true => rfl
    | false =>
      have : n ∈ ns := by
        rcases List.mem_cons.mp h with h | h
        · rw [h] at e; simp at e
        · exact h
      exact lk_zip (by simpa using hl) n this
theorem fm_zip {α : Type} : ∀ {ns : List Str} {us : List α}, ns.Nodup → us.length = ns.length → ∀ z : List (Str × α), (∀ n ∈ ns, z.lookup n = (ns.zip us).lookup n) → ns.filterMap (fun n => (z.lookup n).map (n, ·)) = ns.zip us
  | [], _, _, _, _, _ => rfl
  | x :: ns, [], _, hl, _, _ => by cases hl
  | x :: ns, u :: us, nd, hl, z, hz => by
    have nd' := List.nodup_cons.mp nd
    have e1 : z.lookup x = some u := by rw [hz x (List.mem_cons_self ..)]; simp
    rw [List.filterMap_cons, e1]
    show (x, u) :: _ = _
    rw [List.zip_cons_cons]
    congr 1
    refine fm_zip nd'.2 (by simpa using hl) z fun n hn => ?_
    rw [hz n (List.mem_cons_of_mem _ hn), List.zip_cons_cons, List.lookup_cons]
    have : (n == x) = false := by
      rw [beq_eq_false_iff_ne]
      intro e; exact nd'.1 (e ▸ hn)
    rw [this]
/-- a def of plain parameters -/
theorem bind_plain {x qual : Str} {as : List Arg} {body : List Stmt} {scope : Scope} {kV doc pm cdv ct : Value} {an : Option Addr} {us : List Value} (nd : (as.map (·.arg)).Nodup) (hl : us.length = (as.map (·.arg)).length) :
    bindArgs (PySem.W.fnOf x qual ⟨[], as, none, [], [], none, []⟩ body scope .none kV doc pm an cdv ct) ⟨us, []⟩ = pure ((as.map (·.arg)).zip us) := by
  have h1 : (List.filter (fun n => (List.lookup n ((as.map (·.arg)).zip us)).isNone) (as.map (·.arg))) = [] := List.filter_eq_nil_iff.mpr fun n hn => by rw [lk_zip hl n hn]; simp
  have h2 := fm_zip nd hl _ (fun n _ => rfl)
  have h3 : ¬ us.length > (as.map (·.arg)).length := by omega
  have h4 : seqItems? (Value.none) = pure none := rfl
  have h0 : (decide (us.length > (as.map (·.arg)).length) && (none : Option Arg).isNone) = false := by simp [hl]
  have h5 : (List.drop ((as.map (·.arg)).length - 0) (as.map (·.arg))) = [] := by simp
  show bindArgs _ _ = _
  unfold bindArgs
  simp only [PySem.W.fnOf, List.map_nil, List.nil_append, List.append_nil, List.forIn_nil, pure_bind, h4, Option.getD_none, List.length_nil, Nat.sub_zero, List.drop_nil, Bool.and_true, Nat.zero_sub, Array.toList, List.take_length, h1, h2, h0, List.drop_length, List.zip_nil_right, List.isEmpty_nil, Bool.not_true, Bool.false_eq_true, if_false, hl, gt_iff_lt, Nat.lt_irrefl, Bool.false_and, decide_false, Option.isNone_none]

/-! ### what is known of a text at one fuel -/
structure Stat (ck : Ck) (L : Lay) (c : Cfg) (n : Nat) (P : Program) (w : World) (mg : Str → Option Value) (base : Heap) : Prop where
  cls : ∀ k, L.has k = true → ClF L k
  kk : ∀ k k', L.has k = true → L.has k' = true → PySem.W.kitOne L.K (.ref (L.cls k)) (.ref (L.cls k')) = some (decide (k = k'))
  blt : ∀ x ∈ bnames, mg x = none
  fn : ∀ f nm np fr, ck.fn f = some (nm, np, fr) → (∃ fd ps, FnOk P w L.K mg base (CX P w) (2 * n) (L.fad f) fd ps (spF L np fr (c.call f)) ∧ Binds L.K fd ps []) ∧ mg nm = some (.ref (L.fad f)) ∧
    PySem.W.keepIn L.K (.ref (L.fad f)) = true ∧ ∀ ds s, ds.length ≠ np → c.call f ds s = .st
  cl : ∀ k nm np, ck.cl k = some (nm, np) → L.has k = true ∧ mg nm = some (.ref (L.cls k)) ∧ (∃ fd ps, FnOk P w L.K mg base (CX P w) (2 * n) (L.fad (.ini k)) fd ps (spI L np k (c.call (.ini k))) ∧ Binds L.K fd ps []) ∧
    Mk L.K (L.cls k) (L.fad (.ini k)) ∧ ∀ ds s, ds.length ≠ np → c.call (.ini k) ds s = .st
  pr : ∀ k i nm, ck.pr k i = some nm → (∃ fd ps, FnOk P w L.K mg base (CX P w) (2 * n) (L.fad (.pr k i)) fd ps (spF L 1 false (c.call (.pr k i))) ∧ Binds L.K fd ps []) ∧ ∃ pa, PropOf L.K (L.cls k) nm pa (L.fad (.pr k i))
  leno : ∀ k, ck.leno k = true → (∃ fd ps, FnOk P w L.K mg base (CX P w) (2 * n) (L.fad (.len k)) fd ps (spF L 1 false (c.call (.len k))) ∧ Binds L.K fd ps []) ∧ PySem.W.findIn L.K (.ref (L.cls k)) "__len__" = some (some (.ref (L.fad (.len k)))) ∧ PySem.W.isFn L.K (.ref (L.fad (.len k))) = true
  eqo : ∀ k, ck.eqo k = true → (∃ fd ps, FnOk P w L.K mg base (CX P w) (2 * n) (L.fad (.eq k)) fd ps (spF L 2 false (c.call (.eq k))) ∧ Binds L.K fd ps []) ∧ PySem.W.findIn L.K (.ref (L.cls k)) "__eq__" = some (some (.ref (L.fad (.eq k)))) ∧
    PySem.W.isFn L.K (.ref (L.fad (.eq k))) = true ∧ PySem.W.subIn L.K (.type "tuple") (.ref (L.cls k)) = some false
  con : ∀ x d, ck.con x = some d → match d with
    | .int i => ∃ t, mg x = some (.int i t)
    | .str i => ∃ t, mg x = some (.str i t)
    | _ => True
  na : ∀ k f, f ∈ fields k → L.has k = true → NoAttr L.K (L.cls k) f
  one : 1 ≤ n
  er : ∀ k nm nf, ck.er k = some (nm, nf) → mg nm = some (.ref (L.cls (.err k))) ∧ (nf = 0 → PySem.W.excIn L.K (L.cls (.err k)) He.veBase "ValueError.__new__" = true ∧ PySem.W.keepIn L.K (.ref (L.cls (.err k))) = true ∧ PySem.W.subIn L.K (.ref (L.cls (.err k))) (.type "BaseException") = some true ∧ PySem.W.typeIn L.K (.ref (L.cls (.err k))) = some (.type "type")) ∧
    (nf = 1 → ∃ f, xfields (.err k) = [f] ∧ OexC L.K (L.cls (.err k)) ∧ PySem.W.findIn L.K (.ref (L.cls (.err k))) "__init__" = some (some (.ref (L.fad (.ini (.err k))))) ∧ PySem.W.typeIn L.K (.ref (L.fad (.ini (.err k)))) = some (.type "function") ∧ ∃ fd ps, FnOk P w L.K mg base (CX P w) 2 (L.fad (.ini (.err k))) fd ps (spX1 (L.cls (.err k)) f) ∧ Binds L.K fd ps []) ∧
    (nf = 2 → ∃ f g, xfields (.err k) = [f, g] ∧ OexC L.K (L.cls (.err k)) ∧ PySem.W.findIn L.K (.ref (L.cls (.err k))) "__init__" = some (some (.ref (L.fad (.ini (.err k))))) ∧ PySem.W.typeIn L.K (.ref (L.fad (.ini (.err k)))) = some (.type "function") ∧ ∃ fd ps, FnOk P w L.K mg base (CX P w) 2 (L.fad (.ini (.err k))) fd ps (spX2 (L.cls (.err k)) f g) ∧ Binds L.K fd ps [])
  exm : ∀ k k', (ck.er k).isSome = true → (ck.er k').isSome = true → PySem.W.exmOne L.K (.ref (L.cls (.err k))) (.ref (L.cls (.err k'))) = some (exM (.err k) (.err k'))
section
variable {ck : Ck} {L : Lay} {c : Cfg} {n : Nat} {P : Program} {w : World} {mg : Str → Option Value} {base : Heap} {N : List Str} {qual : Str} {scope : Scope} {f : Addr} {cdv : Value} {A : Around} {outer : List PySem.Env} {sh : Shared} {H : Hp} {E : XK}
theorem Stat.gud (S : Stat ck L c n P w mg base) (nd : N.Nodup) (hk : scope.kind = .function) (hr : Room (2 * n + 1) (A.deeper (envOfC qual scope sh.heap.objs.size f cdv))) :
    Gud ck L c n N (cxOf (CX P w) P w L.K mg base N qual scope f cdv A outer sh H E) scope (WE' E) where
  g := ⟨S.cls, S.kk, S.blt, rfl, nd, rfl, room100 hr, takes_of rfl rfl rfl rfl⟩
  hN := rfl
  scs := fun x k h => ⟨k, h, .inl rfl⟩
  fnc := fun _ _ => rfl
  kd := hk
  room := hr
  fn := fun f nm np fr h => by
    obtain ⟨h1, h2, h3, h4⟩ := S.fn f nm np fr h
    exact ⟨⟨h1, h2, h3⟩, h4⟩
  cl := fun k nm np h => by
    obtain ⟨h0, h1, h2, h3, h4⟩ := S.cl k nm np h
    exact ⟨h0, h1, ⟨h2, h3, h1⟩, h4⟩
  pr := fun k i nm h => ⟨(S.pr k i nm h).1, (S.pr k i nm h).2⟩
  leno := fun k h => ⟨(S.leno k h).1, (S.leno k h).2.1, (S.leno k h).2.2⟩
  eqo := fun k h => ⟨(S.eqo k h).1, (S.eqo k h).2.1, (S.eqo k h).2.2.1, (S.eqo k h).2.2.2⟩
  con := S.con
  na := S.na
  one := S.one
  er := fun k nm nf h => by
    obtain ⟨h0, h1, h2, h3⟩ := S.er k nm nf h
    refine ⟨h0, fun e => ⟨h0, (h1 e).1, (h1 e).2.1, (h1 e).2.2.1, (h1 e).2.2.2⟩, fun e => ?_, fun e => ?_⟩
    · obtain ⟨f, x, y1, y2, y3, y4⟩ := h2 e
      exact ⟨f, x, h0, y1, y2, y3, y4⟩
    · obtain ⟨f, g, x, y1, y2, y3, y4⟩ := h3 e
      exact ⟨f, g, x, h0, y1, y2, y3, y4⟩
  exm := S.exm
end

/-! ### one def -/
def plainA (a : Arguments) : Bool := a.posonlyargs.isEmpty && a.vararg.isNone && a.kwonlyargs.isEmpty && a.kw_defaults.isEmpty && a.kwarg.isNone && a.defaults.isEmpty
def nodupB : List Str → Bool
  | [] => true
  | x :: xs => !(xs.contains x) && nodupB xs
theorem nodupB_of : ∀ {l : List Str}, nodupB l = true → l.Nodup
  | [], _ => List.nodup_nil
  | x :: xs, h => by
    unfold nodupB at h
    rw [Bool.and_eq_true] at h
    exact List.nodup_cons.mpr ⟨by simpa using h.1, nodupB_of h.2⟩
def scopeB (N : List Str) (k : Nat) (sc : Scope) : Bool := (match sc.kind with
  | .function => true
  | _ => false) && !sc.isCoroutine && !sc.isGenerator && nodupB N && decide (k ≤ N.length) && (N.take k).all (locB sc) && sc.names.all fun y => !(decide (y.2 = .free))
theorem scopeB_of {N : List Str} {k : Nat} {sc : Scope} (h : scopeB N k sc = true) : FnScope N (N.take k) sc := by
  unfold scopeB at h
  simp only [Bool.and_eq_true, Bool.not_eq_true', decide_eq_true_eq, List.all_eq_true] at h
  obtain ⟨⟨⟨⟨⟨⟨h1, h2⟩, h3⟩, h4⟩, h5⟩, h6⟩, h7⟩ := h
  refine ⟨?_, h2, h3, nodupB_of h4, ?_, fun x hx => ?_, fun y hy => of_decide_eq_false (h7 y hy)⟩
  · split at h1
    · assumption
    · cases h1
  · rw [List.length_take, Nat.min_eq_left h5]
  · have := h6 x hx
    unfold locB at this
    split at this
    · exact .inl (by assumption)
    · exact .inr (by assumption)
    · cases this
def okDef (fn : Fn) (d : He.DefD) : Bool := plainA d.params && decide (d.params.args.map (·.arg) = fn.names.take fn.pars) && scopeB fn.names fn.pars d.scope && d.dfl.isEmpty && d.kwd.isEmpty
def okFn (ck : Ck) (fn : Fn) (d : He.DefD) : Bool := okDef fn d && (okSs ck fn.names fn.fresh false fn.body [] d.scope d.body).isSome
def okIni (ck : Ck) (fn : Fn) (d : He.DefD) : Bool := okDef fn d && decide (0 < fn.pars) && (okSs ck fn.names false true fn.body [0] d.scope d.body).isSome
theorem plainA_of {a : Arguments} (h : plainA a = true) : a = ⟨[], a.args, none, [], [], none, []⟩ := by
  unfold plainA at h
  obtain ⟨a1, a2, a3, a4, a5, a6, a7⟩ := a
  simp only [Bool.and_eq_true, List.isEmpty_iff, Option.isNone_iff_eq_none] at h
  obtain ⟨⟨⟨⟨⟨rfl, rfl⟩, rfl⟩, rfl⟩, rfl⟩, rfl⟩ := h
  rfl
section
variable {ck : Ck} {L : Lay} {c : Cfg} {n : Nat} {P : Program} {w : World} {mg : Str → Option Value} {base : Heap} {fn : Fn} {d : He.DefD} {f : Addr} {fd : FuncData}
theorem binds_of (F : FunD L.K d.name d.qual d.params d.body d.scope (d.dvs L.K) (d.kws L.K) f fd) (h : okDef fn d = true) : Binds L.K fd (fn.names.take fn.pars) [] ∧ FnScope fn.names (fn.names.take fn.pars) d.scope ∧ (fn.names.take fn.pars).length = fn.pars ∧ fn.pars ≤ fn.names.length := by
  unfold okDef at h
  simp only [Bool.and_eq_true, decide_eq_true_eq, List.isEmpty_iff] at h
  obtain ⟨⟨⟨⟨h1, h2⟩, h3⟩, h4⟩, h5⟩ := h
  have e := plainA_of h1
  have hle : fn.pars ≤ fn.names.length := by
    unfold scopeB at h3
    simp only [Bool.and_eq_true, decide_eq_true_eq] at h3
    exact h3.1.1.2
  have S := scopeB_of h3
  have nd : (fn.names.take fn.pars).Nodup := S.nd.sublist (List.take_sublist _ _)
  refine ⟨?_, S, by rw [List.length_take, Nat.min_eq_left hle], hle⟩
  rw [He.DefD.dvs, h4, List.map_nil] at F
  rw [← h2]
  rw [← h2] at nd
  refine FunD.bindsN F fun kV doc pm an cdv ct us hl => ?_
  have := bind_plain (x := d.name) (qual := d.qual) (body := d.body) (scope := d.scope) (kV := kV) (doc := doc) (pm := pm) (cdv := cdv) (ct := ct) (an := an) nd hl
  rw [← e] at this
  exact this
theorem start_sl {m : List (Addr × Addr)} {G H : Hp} {vs : List V} {ds : List D} (r : Reps L m G vs ds) : Sl L [] (start fn ds) (L2.start fn.names vs) m G H := by
  have hl := r.length
  refine ⟨by unfold start L2.start; simp [hl], fun i d e _ => ?_, fun i d e z => (by cases z), fun i j a d e hi => (by cases hi)⟩
  unfold start at e
  unfold L2.start
  by_cases hi : i < ds.length
  · rw [List.getElem?_append_left (by simpa using hi), List.getElem?_map] at e
    rw [List.getElem?_append_left (by simpa [hl] using hi), List.getElem?_map]
    cases ed : ds[i]? with
    | none => rw [ed] at e; cases e
    | some d' =>
      rw [ed] at e
      cases e
      obtain ⟨v, h1, h2⟩ := r.get ed
      exact ⟨v, by rw [h1]; rfl, h2⟩
  · rw [List.getElem?_append_right (by simpa using hi)] at e
    rcases List.getElem?_replicate ▸ e with e
    split at e <;> cases e
theorem fn_ok (S : Stat ck L c n P w mg base) (F : FunD L.K d.name d.qual d.params d.body d.scope (d.dvs L.K) (d.kws L.K) f fd) (h : okFn ck fn d = true) :
    FnOk P w L.K mg base (CX P w) (2 * (n + 1)) f fd (fn.names.take fn.pars) (spF L fn.pars fn.fresh (runFn c fn)) ∧ Binds L.K fd (fn.names.take fn.pars) [] := by
  unfold okFn at h
  rw [Bool.and_eq_true] at h
  obtain ⟨hd, ho⟩ := h
  obtain ⟨hb, sc, hlen, hle⟩ := binds_of F hd
  obtain ⟨⟨W', b⟩, hok⟩ := Option.isSome_iff_exists.mp ho
  refine ⟨?_, hb⟩
  refine FunD.ok (k := 2 * n + 1) F sc (fun vs H Q E h => by rw [hlen]; exact h.1) fun cdv A outer s H vs Q E hr hsp => ?_
  obtain ⟨hl, ds, s0, m, G, wd, r, Af⟩ := hsp
  refine ⟨tSs L c ⟨s0, m, G, H, none⟩ E [] W' fn.fresh fn.body, sd_Ss (sf := false) (fun _ => rfl) (S.gud sc.nd sc.kind hr) rfl ⟨rfl, rfl⟩ (passes_of rfl) fn.body [] _ W' b hok W' fun _ _ => Iff.rfl, start fn ds, s0, m, G, ⟨wd, wd, Stp.refl _ _ _, start_sl r, fun i d a hi => (by cases hi), fun x z => (by cases z)⟩, ?_⟩
  unfold runFn at Af
  split at Af
  · cases ex : exs c fn.body (start fn ds) s0 with
    | nx ρ s1 =>
      rw [ex] at Af
      intro σ m1 G1 H1 h1 h2 a
      cases hf : fn.fresh with
      | true => rw [hf] at Af; exact False.elim Af
      | false =>
        rw [hf] at Af
        exact Af m1 G1 H1 a.t a.w .non .non
    | rt d s1 =>
      rw [ex] at Af
      exact fun m1 G1 H1 t w' => Af m1 G1 H1 t w'
    | ex k ds ρ s1 =>
      rw [ex] at Af
      exact fun m1 G1 H1 dd t w' x => Af m1 G1 H1 dd t w' x
    | st => rw [ex] at Af; exact Af
  · exact False.elim Af
/-! ### an __init__ -/
theorem Wd.wout {s : Sto} {m : List (Addr × Addr)} {G H : Hp} {x : Addr} (w : Wd L s m G H) (hg : G x = none) (hn : x ∉ hs m) : Wd L s m G (wout H x) where
  sub := fun b y h => by
    have : b ≠ x := fun e => by rw [e, hg] at h; cases h
    unfold MP.wout; rw [if_neg this]; exact w.sub _ _ h
  len := w.len
  hnd := fun k st cells ix a b h1 h2 => by
    obtain ⟨e1, e2⟩ := w.hnd k st cells ix a b h1 h2
    obtain ⟨q1, q2⟩ := mem_hs h2
    unfold MP.wout
    rw [if_neg (show a ≠ x from fun e => hn (e ▸ q1)), if_neg (show b ≠ x from fun e => hn (e ▸ q2))]
    exact ⟨e1, e2⟩
  off := fun a h => by
    obtain ⟨e1, e2⟩ := w.off a h
    unfold MP.wout
    rw [if_neg (show a ≠ x from fun e => hn (e ▸ h))]; exact ⟨e1, e2⟩
  dis := w.dis
theorem start_sl0 {m : List (Addr × Addr)} {G H : Hp} {vs : List V} {ds : List D} {k : Cl} {x dx : Addr} (r : Reps L m G vs ds) (hx : H x = some (.ins (L.cls k) dx [])) (hg : G x = none) (hn : x ∉ hs m) (hk : L.has k = true) : Sl L [0] (start fn (.ins k [] :: ds)) (L2.start fn.names (.ref x :: vs)) m G H := by
  have hl := r.length
  refine ⟨by unfold start L2.start; simp [hl], fun i d e hi => ?_, fun i d e z => ?_, fun i j a d e hi hj _ _ _ _ => ?_⟩
  · cases i with
    | zero => exact absurd (List.mem_singleton.mpr rfl) hi
    | succ i =>
      unfold start at e
      unfold L2.start
      simp only [List.map_cons, List.cons_append, List.getElem?_cons_succ, List.length_cons] at e ⊢
      by_cases hi : i < ds.length
      · rw [List.getElem?_append_left (by simpa using hi), List.getElem?_map] at e
        rw [List.getElem?_append_left (by simpa [hl] using hi), List.getElem?_map]
        cases ed : ds[i]? with
        | none => rw [ed] at e; cases e
        | some d' =>
          rw [ed] at e
          cases e
          obtain ⟨v, h1, h2⟩ := r.get ed
          exact ⟨v, by rw [h1]; rfl, h2⟩
      · rw [List.getElem?_append_right (by simpa using hi)] at e
        rcases List.getElem?_replicate ▸ e with e
        split at e <;> cases e
  · have := List.mem_singleton.mp z
    subst this
    unfold start at e
    simp only [List.map_cons, List.cons_append, List.getElem?_cons_zero, Option.some.injEq] at e
    subst e
    have hc := Cont.ins (L := L) (m := m) (G := G) (c := k) (dx := dx) .nil (Nat.zero_le _) hk
    rw [lookup_none] at hc
    exact ⟨x, _, rfl, hg, hn, hx, hc⟩
  · rw [List.mem_singleton.mp hi, List.mem_singleton.mp hj]
theorem ini_ok (S : Stat ck L c n P w mg base) {k : Cl} (hk : L.has k = true) (F : FunD L.K d.name d.qual d.params d.body d.scope (d.dvs L.K) (d.kws L.K) f fd) (h : okIni ck fn d = true) :
    FnOk P w L.K mg base (CX P w) (2 * (n + 1)) f fd (fn.names.take fn.pars) (spI L (fn.pars - 1) k (runIni c k fn)) ∧ Binds L.K fd (fn.names.take fn.pars) [] := by
  unfold okIni at h
  simp only [Bool.and_eq_true, decide_eq_true_eq] at h
  obtain ⟨⟨hd, h0⟩, ho⟩ := h
  obtain ⟨hb, sc, hlen, hle⟩ := binds_of F hd
  obtain ⟨⟨W', b⟩, hok⟩ := Option.isSome_iff_exists.mp ho
  refine ⟨?_, hb⟩
  refine FunD.ok (k := 2 * n + 1) F sc (fun vs H Q E h => ?_) fun cdv A outer s H vs Q E hr hsp => ?_
  · obtain ⟨x, dx, us, rfl, hl, _⟩ := h
    rw [hlen, List.length_cons, hl]; omega
  obtain ⟨x, dx, us, rfl, hl, hx, hdx, ne, ds, s0, m, G, wd, hg, hn, r, Af⟩ := hsp
  have w0 := wd.wout hg hn
  have st : Stp m G (wout H x) m G H := by
    refine ⟨List.prefix_refl _, Same.refl _, fun a y h g _ => ?_, fun a h h' => absurd h h'⟩
    unfold wout at h
    split at h
    · cases h
    · exact ⟨h, g⟩
  refine ⟨tSs L c ⟨s0, m, G, wout H x, some x⟩ E [0] W' false fn.body, sd_Ss (sf := true) (fun z => by cases z) (S.gud sc.nd sc.kind hr) rfl ⟨rfl, rfl⟩ (passes_of rfl) fn.body [0] _ W' b hok W' fun _ _ => Iff.rfl, start fn (.ins k [] :: ds), s0, m, G, ⟨w0, wd, st, start_sl0 r hx hg hn hk, fun i d a hi e1 e2 => ?_, fun y z => ?_⟩, ?_⟩
  · have := List.mem_singleton.mp hi
    subst this
    unfold L2.start at e2
    simp only [List.map_cons, List.cons_append, List.getElem?_cons_zero, Option.some.injEq, V.ref.injEq] at e2
    subst e2
    show wout H x x = none
    unfold wout; rw [if_pos rfl]
  · cases z
    exact ⟨rfl, List.mem_singleton.mpr rfl⟩
  unfold runIni at Af
  split at Af
  · cases ex : exs c fn.body (start fn (.ins k [] :: ds)) s0 with
    | nx ρ s1 =>
      rw [ex] at Af
      intro σ m1 G1 H1 h1 h2 a
      simp only at Af
      cases e0 : at' ρ 0 with
      | none => rw [e0] at Af; exact False.elim Af
      | some d =>
        rw [e0] at Af
        obtain ⟨z1, z2⟩ := a.fx x rfl
        obtain ⟨y, o, y1, y2, y3, y4, y5⟩ := a.q.ow 0 d (at'_some e0) z2
        rw [z1] at y1; cases y1
        exact Af m1 G1 H1 a.t a.w o y2 y3 y4 y5
    | rt d s1 => rw [ex] at Af; exact False.elim Af
    | ex k ds ρ s1 =>
      rw [ex] at Af
      exact fun m1 G1 H1 dd t w' x => Af m1 G1 H1 dd t w' x
    | st => rw [ex] at Af; exact Af
  · exact False.elim Af
end
end MP

end
section
set_option Elab.async false
set_option linter.all false
set_option maxRecDepth 100000
set_option maxHeartbeats 1000000
/-! A whole text: its defs as small syntax, the facts of its written part, and what follows. -/
namespace MP
open PySem PySem.Spec PyProof.Rows L2

def cn : Cl → Str
  | .book => "Book"
  | .ring => "Ring"
  | .round => "Round"
  | .desk => "Desk"
  | .err k => (["CountError", "BadCells", "BadMost", "BadFacts", "BadBook", "BadRow", "NoRow", "BadNumber", "BadStretch", "BadWord", "BadRing", "TooMany", "BadRests", "Full", "BadIndex", "NotAlike", "BadRound", "InvalidText"] : List Str).getD k "CountError"
def errN : Cl → Option Nat
  | .err k => some k
  | _ => none
/-- one def of a text: its small syntax, its place in the text -/
structure Dd where
  f : F
  nm : Str
  fn : Fn
  d : He.DefD
structure Tx where
  cls : List Cl
  defs : List Dd
  con : List (Str × D)
  ers : List Nat
def propP (K : PySem.W.Frag) (C : Addr) (x : Str) : Addr := match PySem.W.findIn K (.ref C) x with
  | some (some (.ref p)) => p
  | _ => 0
def propG (K : PySem.W.Frag) (C : Addr) (x : Str) : Addr := match PySem.W.recIn K (propP K C x) "property" with
  | some (.ref g :: _) => g
  | _ => 0
def adOf (K : PySem.W.Frag) (f : F) (nm : Str) : Addr := match f with
  | .ini k => He.ma K (He.ga K (cn k)) "__init__"
  | .eq k => He.ma K (He.ga K (cn k)) "__eq__"
  | .len k => He.ma K (He.ga K (cn k)) "__len__"
  | .me k _ => He.ma K (He.ga K (cn k)) nm
  | .pr k _ => propG K (He.ga K (cn k)) nm
  | _ => He.ga K nm
def Dd.ad (K : PySem.W.Frag) (d : Dd) : Addr := adOf K d.f d.nm
def Tx.find (t : Tx) (f : F) : Option Dd := t.defs.find? fun d => decide (d.f = f)
def Tx.has (t : Tx) (k : Cl) : Bool := t.cls.any fun k' => decide (k' = k)
def isGl : F → Bool
  | .mix => true
  | .next => true
  | .p _ => true
  | .law _ => true
  | _ => false
def Tx.ck (t : Tx) : Ck where
  fn := fun f => if isGl f then (t.find f).map fun d => (d.nm, d.fn.pars, d.fn.fresh) else none
  cl := fun k => if t.has k && (errN k).isNone then (t.find (.ini k)).map fun d => (cn k, d.fn.pars - 1) else none
  con := fun x => t.con.lookup x
  pr := fun k i => if t.has k then (t.find (.pr k i)).map (·.nm) else none
  leno := fun k => t.has k && (t.find (.len k)).isSome
  eqo := fun k => t.has k && (t.find (.eq k)).isSome
  er := fun k => if t.ers.contains k then (match xn (.err k) with
    | 0 => some (cn (.err k), 0)
    | nf => if (t.find (.ini (.err k))).isSome then some (cn (.err k), nf) else none) else none
def Tx.T (t : Tx) (f : F) : Option Fn := (t.find f).map (·.fn)
def Tx.lay (t : Tx) (K : PySem.W.Frag) : Lay where
  K := K
  cls := fun k => He.ga K (cn k)
  fad := fun f => match t.find f with
    | some d => d.ad K
    | none => 0
  has := t.has

/-! ### facts of the written part -/
def clB (K : PySem.W.Frag) (k : Cl) : Bool := (He.Fa.glo (cn k)).ok K && (He.Fa.cls (cn k)).ok K && He.eqO (PySem.W.findIn K (.ref (He.ga K (cn k))) "__class__") (some (some (.builtin "object.__class__"))) &&
  He.eqO (PySem.W.specialIn K (.builtin "object.__class__") "__get__") (some (some (.builtin "getset_descriptor.__get__"))) && decide (PySem.W.takesIn K (.builtin "object.__class__") = some true) && decide (PySem.W.mroIn K (He.ga K (cn k)) (.type "object") = some true) &&
  (["NoneType", "bool", "int", "str", "list", "tuple", "dict"].all fun T => decide (PySem.W.kitOne K (.type T) (.ref (He.ga K (cn k))) = some false)) && (["bool", "int", "str", "list", "tuple"].all fun T => decide (PySem.W.kitOne K (.ref (He.ga K (cn k))) (.type T) = some false)) &&
  (fields k).all fun f => (He.Fa.noat (cn k) f).ok K
def erB (K : PySem.W.Frag) (k : Nat) : Bool := (He.Fa.glo (cn (.err k))).ok K && (match xn (.err k) with
  | 0 => (He.Fa.exc (cn (.err k))).ok K
  | _ => oexB K (He.ga K (cn (.err k))) && (xfields (.err k)).all fun f => He.eqO (PySem.W.findIn K (.ref (He.ga K (cn (.err k)))) f) (some none))
def dB (K : PySem.W.Frag) (d : Dd) : Bool := PySem.W.keepIn K (.ref (d.ad K)) && (match K.lookup (d.ad K) with
  | some ⟨_, _, .func fd, _⟩ => PySem.W.codeIn K fd.code d.d.qual
  | _ => false) && match d.f with
  | .ini k => match errN k with
    | some e => He.eqO (PySem.W.findIn K (.ref (He.ga K (cn (.err e)))) "__init__") (some (some (.ref (d.ad K)))) && decide (PySem.W.typeIn K (.ref (d.ad K)) = some (.type "function"))
    | none => (He.Fa.mkr (cn k)).ok K
  | .eq k => He.eqO (PySem.W.findIn K (.ref (He.ga K (cn k))) "__eq__") (some (some (.ref (d.ad K)))) && PySem.W.isFn K (.ref (d.ad K)) && decide (PySem.W.subIn K (.type "tuple") (.ref (He.ga K (cn k))) = some false)
  | .len k => He.eqO (PySem.W.findIn K (.ref (He.ga K (cn k))) "__len__") (some (some (.ref (d.ad K)))) && PySem.W.isFn K (.ref (d.ad K))
  | .pr k _ => He.eqO (PySem.W.findIn K (.ref (He.ga K (cn k))) d.nm) (some (some (.ref (propP K (He.ga K (cn k)) d.nm)))) && He.eqO (PySem.W.specialIn K (.ref (propP K (He.ga K (cn k)) d.nm)) "__get__") (some (some (.builtin "property.__get__"))) &&
      decide (PySem.W.takesIn K (.ref (propP K (He.ga K (cn k)) d.nm)) = some true) && (match PySem.W.recIn K (propP K (He.ga K (cn k)) d.nm) "property" with
        | some (.ref _ :: _) => true
        | _ => false)
  | .me _ _ => true
  | _ => (He.Fa.glo d.nm).ok K
def conB (K : PySem.W.Frag) (p : Str × D) : Bool := match p.2 with
  | .int i => (He.Fa.int p.1 i).ok K
  | .str z => (He.Fa.str p.1 z).ok K
  | _ => true
def Tx.facts (t : Tx) (K : PySem.W.Frag) : Bool := (bnames.all fun x => (He.Fa.free x).ok K) && t.cls.all (clB K) && (t.cls.all fun k => t.cls.all fun k' => decide (PySem.W.kitOne K (.ref (He.ga K (cn k))) (.ref (He.ga K (cn k'))) = some (decide (k = k')))) &&
  t.defs.all (dB K) && t.con.all (conB K) && t.ers.all (erB K) && (t.ers.all fun k => t.ers.all fun k' => (He.Fa.exm (cn (.err k)) (cn (.err k')) (exM (.err k) (.err k'))).ok K)
def fnAt (K : PySem.W.Frag) (a : Addr) : He.FnV := match K.lookup a with
  | some ⟨_, _, .func fd, _⟩ => some (fd.name, fd.qualname, fd.params, fd.body, fd.scope, fd.globals, fd.closure, fd.defaults, fd.builtins)
  | _ => none
def Dd.val (d : Dd) : He.FnV := some (d.d.name, d.d.qual, d.d.params, .stmts d.d.body, d.d.scope, mainGlobals, [], .none, builtinsNs)
def Tx.obs (t : Tx) (K : PySem.W.Frag) : He.Al := (t.facts K, t.defs.map fun d => fnAt K (d.ad K))
def Tx.val (t : Tx) : He.Al := (true, t.defs.map Dd.val)
def Tx.obsG (t : Tx) (n : Nat) (g : Addr → Option Obj) : He.Al := t.obs (He.frG g (He.asG g n))
def Tx.hook (t : Tx) (n : Nat) : PySem.W.Hook where
  α := He.Al
  obs := fun s => t.obsG n s.heap.get?
  val := fun _ => t.val
  says := fun _ h => ∃ K : PySem.W.Frag, K.In h ∧ t.obs K = t.val
  of := fun _ _ e => ⟨_, He.frG_in, e⟩
  keeps := fun _ _ _ ⟨K, hK, c⟩ k => ⟨K, PySem.W.Frag.In.keeps hK k, c⟩
theorem Tx.obsG_eq {t : Tx} {n : Nat} {g : Addr → Option Obj} {s : Shared} (h : ∀ a, g a = s.heap.get? a) : t.obsG n g = (t.hook n).obs s := by
  have e : g = s.heap.get? := funext h
  rw [e] <;> rfl
/-! ### every def checked -/
def isPrim : F → Bool
  | .mix => true
  | .next => true
  | _ => false
/-- the __init__ of an error: it puts its fields -/
def locN (sc : Scope) (x : Str) : Bool := decide (sc.names.lookup x = some .local) && okN x
def errIni (k : Nat) (d : Dd) : Bool := match d.d.body with
  | [.Assign [.Attribute (.Name a1 _) fl _] (.Name a2 _) _] => decide (xfields (.err k) = [fl]) && decide (d.fn.names = [a1, a2]) && decide (d.fn.pars = 2) && locN d.d.scope a1 && locN d.d.scope a2
  | [.Assign [.Attribute (.Name a1 _) fl _] (.Name a2 _) _, .Assign [.Attribute (.Name b1 _) gl _] (.Name a3 _) _] => decide (b1 = a1) && decide (xfields (.err k) = [fl, gl]) && decide (d.fn.names = [a1, a2, a3]) && decide (d.fn.pars = 3) && locN d.d.scope a1 && locN d.d.scope a2 && locN d.d.scope a3
  | _ => false
def Dd.ok (ck : Ck) (t : Tx) (d : Dd) : Bool := match d.f with
  | .mix => okDef d.fn d.d && decide (d.fn.pars = 2) && !d.fn.fresh
  | .next => okDef d.fn d.d && decide (d.fn.pars = 2) && !d.fn.fresh
  | .ini k => match errN k with
    | some e => okDef d.fn d.d && errIni e d
    | none => okIni ck d.fn d.d && t.has k
  | .pr _ _ => okFn ck d.fn d.d && decide (d.fn.pars = 1) && !d.fn.fresh
  | .len _ => okFn ck d.fn d.d && decide (d.fn.pars = 1) && !d.fn.fresh
  | .eq _ => okFn ck d.fn d.d && decide (d.fn.pars = 2) && !d.fn.fresh
  | _ => okFn ck d.fn d.d
def Tx.ok (t : Tx) : Bool := t.defs.all (Dd.ok t.ck t)

section
variable {t : Tx} {K : PySem.W.Frag} {P : Program} {w : World} {mg : Str → Option Value} {base h : Heap}
theorem find_mem {f : F} {d : Dd} (e : t.find f = some d) : d ∈ t.defs ∧ d.f = f := by
  unfold Tx.find at e
  have h := List.find?_some e
  exact ⟨List.mem_of_find?_eq_some e, of_decide_eq_true h⟩
theorem fad_of {f : F} {d : Dd} (e : t.find f = some d) : (t.lay K).fad f = d.ad K := by
  show (match t.find f with
    | some d => d.ad K
    | none => 0) = _
  rw [e]
structure Say (t : Tx) (K : PySem.W.Frag) : Prop where
  o : t.obs K = t.val
theorem Say.facts (s : Say t K) : t.facts K = true := congrArg (fun z : He.Al => z.1) s.o
theorem Say.dB (s : Say t K) {d : Dd} (h : d ∈ t.defs) : dB K d = true := by
  have := s.facts
  unfold Tx.facts at this
  simp only [Bool.and_eq_true, List.all_eq_true] at this
  exact this.1.1.1.2 d h
theorem map_at {α β : Type} {f g : α → β} : ∀ {l : List α}, l.map f = l.map g → ∀ x ∈ l, f x = g x
  | [], _, x, h => by cases h
  | y :: l, e, x, h => by
    simp only [List.map_cons, List.cons.injEq] at e
    rcases List.mem_cons.mp h with rfl | h
    · exact e.1
    · exact map_at e.2 x h
theorem Say.fun_ (s : Say t K) {d : Dd} (h : d ∈ t.defs) (hz : okDef d.fn d.d = true) : ∃ fd, FunD K d.d.name d.d.qual d.d.params d.d.body d.d.scope (d.d.dvs K) (d.d.kws K) (d.ad K) fd := by
  have e : fnAt K (d.ad K) = d.val := map_at (congrArg (fun z : He.Al => z.2) s.o) d h
  have c := s.dB h
  unfold MP.dB at c
  simp only [Bool.and_eq_true] at c
  obtain ⟨⟨kp, c2⟩, _⟩ := c
  unfold okDef at hz
  simp only [Bool.and_eq_true, List.isEmpty_iff] at hz
  have hd : d.d.dvs K = [] := by rw [He.DefD.dvs, hz.1.2]; rfl
  have hk : d.d.kws K = [] := by rw [He.DefD.kws, hz.2]; rfl
  rw [hd, hk]
  unfold fnAt Dd.val at e
  cases q : K.lookup (d.ad K) with
  | none =>
    rw [q] at c2
    cases c2
  | some o =>
    obtain ⟨oc, od, dt, osl⟩ := o
    rw [q] at c2 e
    cases dt with
    | func fd =>
      obtain ⟨n1, n2, n3, n4, n5, n6, n7, n8, n9, n10, n11, n12, n13, n14, n15⟩ := fd
      simp only [Option.some.injEq, Prod.mk.injEq] at e
      obtain ⟨h1, h2, h3, h4, h5, h6, h7, h8, h9⟩ := e
      subst h1 h2 h3 h4 h5 h6 h7 h8 h9
      exact ⟨_, ⟨oc, od, _, n9, n10, n11, n12, n13, n14, osl, rfl, q, c2, .inl ⟨rfl, rfl⟩, .inl rfl⟩, kp⟩
    | _ => cases c2
theorem Dd.okd {ck : Ck} {d : Dd} (h : d.ok ck t = true) : okDef d.fn d.d = true := by
  unfold Dd.ok at h
  split at h <;> (try split at h) <;> simp only [Bool.and_eq_true, okFn, okIni] at h <;> first | exact h.1.1 | exact h.1 | exact h.1.1.1 | exact h.1.1.1.1
/-- the draws' two defs -/
structure Prim (t : Tx) (K : PySem.W.Frag) (P : Program) (w : World) (mg : Str → Option Value) (base : Heap) : Prop where
  mix : ∀ d fd, t.find .mix = some d → FunD K d.d.name d.d.qual d.d.params d.d.body d.d.scope (d.d.dvs K) (d.d.kws K) (d.ad K) fd → FnOk P w K mg base (CX P w) 2 (d.ad K) fd (d.fn.names.take d.fn.pars) (spF (t.lay K) 2 false primMix)
  next : ∀ d fd, t.find .next = some d → FunD K d.d.name d.d.qual d.d.params d.d.body d.d.scope (d.d.dvs K) (d.d.kws K) (d.ad K) fd → FnOk P w K mg base (CX P w) 2 (d.ad K) fd (d.fn.names.take d.fn.pars) (spF (t.lay K) 2 false primNext)
theorem fn_zero {L : Lay} {f : Addr} {fd : FuncData} {ps : List Str} {np : Nat} {fr : Bool} : FnOk P w L.K mg base (CX P w) 0 f fd ps (spF L np fr fun _ _ => .st) := by
  refine ⟨fun vs H Q E h => ?_, fun A outer s H args us vs Q E _ _ _ _ h => ?_⟩
  · obtain ⟨_, ds, s, m, G, _, _, A⟩ := h; exact False.elim A
  · obtain ⟨_, ds, s, m, G, _, _, A⟩ := h; exact False.elim A
theorem ini_zero {L : Lay} {f : Addr} {fd : FuncData} {ps : List Str} {np : Nat} {k : Cl} : FnOk P w L.K mg base (CX P w) 0 f fd ps (spI L np k fun _ _ => .st) := by
  refine ⟨fun vs H Q E h => ?_, fun A outer s H args us vs Q E _ _ _ _ h => ?_⟩
  · obtain ⟨x, dx, us, _, _, _, _, _, ds, s, m, G, _, _, _, _, A⟩ := h; exact False.elim A
  · obtain ⟨x, dx, us, _, _, _, _, _, ds, s, m, G, _, _, _, _, A⟩ := h; exact False.elim A
theorem Say.cl (s : Say t K) {k : Cl} (h : t.has k = true) : clB K k = true := by
  have := s.facts
  unfold Tx.facts at this
  simp only [Bool.and_eq_true, List.all_eq_true] at this
  unfold Tx.has at h
  obtain ⟨k', h1, h2⟩ := List.any_eq_true.mp h
  have e := of_decide_eq_true h2
  subst e
  exact this.1.1.1.1.1.2 k' h1
theorem has_mem {k : Cl} (h : t.has k = true) : k ∈ t.cls := by
  unfold Tx.has at h
  obtain ⟨k', h1, h2⟩ := List.any_eq_true.mp h
  have e := of_decide_eq_true h2
  subst e
  exact h1
/-- one def at one more fuel -/
theorem step_fn {n N : Nat} (X : Say t K) (ok : t.ok = true) (pr : Prim t K P w mg base) (S : Stat t.ck (t.lay K) ⟨callN t.T N n, N⟩ (n + 1) P w mg base) {f : F} {d : Dd} (e : t.find f = some d) (hi : ∀ k, f ≠ .ini k) :
    (∃ fd ps, FnOk P w K mg base (CX P w) (2 * (n + 1 + 1)) (d.ad K) fd ps (spF (t.lay K) d.fn.pars d.fn.fresh (callN t.T N (n + 1) f)) ∧ Binds K fd ps []) ∧ ∀ ds s, ds.length ≠ d.fn.pars → callN t.T N (n + 1) f ds s = .st := by
  obtain ⟨hm, hf⟩ := find_mem e
  unfold Tx.ok at ok
  have hok := List.all_eq_true.mp ok d hm
  have hz := Dd.okd hok
  obtain ⟨fd, F⟩ := X.fun_ hm hz
  have bd := (binds_of (L := t.lay K) (fn := d.fn) F hz).1
  have eT : t.T f = some d.fn := by unfold Tx.T; rw [e]; rfl
  have gen : okFn t.ck d.fn d.d = true → callN t.T N (n + 1) f = runFn ⟨callN t.T N n, N⟩ d.fn → (∃ fd ps, FnOk P w K mg base (CX P w) (2 * (n + 1 + 1)) (d.ad K) fd ps (spF (t.lay K) d.fn.pars d.fn.fresh (callN t.T N (n + 1) f)) ∧ Binds K fd ps []) ∧ ∀ ds s, ds.length ≠ d.fn.pars → callN t.T N (n + 1) f ds s = .st := fun h1 h2 => by
    rw [h2]
    refine ⟨⟨fd, _, fn_ok (L := t.lay K) S F h1⟩, fun ds s hl => ?_⟩
    unfold runFn
    rw [if_neg hl]
  have prm : ∀ φ : List D → Sto → Rs D, callN t.T N (n + 1) f = φ → d.fn.pars = 2 → d.fn.fresh = false → (∀ ds s, ds.length ≠ 2 → φ ds s = .st) → FnOk P w K mg base (CX P w) 2 (d.ad K) fd (d.fn.names.take d.fn.pars) (spF (t.lay K) 2 false φ) →
      (∃ fd ps, FnOk P w K mg base (CX P w) (2 * (n + 1 + 1)) (d.ad K) fd ps (spF (t.lay K) d.fn.pars d.fn.fresh (callN t.T N (n + 1) f)) ∧ Binds K fd ps []) ∧ ∀ ds s, ds.length ≠ d.fn.pars → callN t.T N (n + 1) f ds s = .st := fun φ h1 h2 h3 h4 h5 => by
    rw [h1, h3]
    refine ⟨⟨fd, _, ?_, bd⟩, fun ds s hl => h4 ds s (by rw [← h2]; exact hl)⟩
    rw [show spF (t.lay K) d.fn.pars false φ = spF (t.lay K) 2 false φ by rw [h2]]
    exact h5.mono (by omega)
  unfold Dd.ok at hok
  rw [hf] at hok
  cases f with
  | mix =>
    simp only [Bool.and_eq_true, decide_eq_true_eq, Bool.not_eq_true'] at hok
    refine prm primMix (by funext ds s; rfl) hok.1.2 hok.2 (fun ds s hl => ?_) (pr.mix d fd e F)
    unfold primMix
    split
    · exact absurd rfl hl
    · rfl
  | next =>
    simp only [Bool.and_eq_true, decide_eq_true_eq, Bool.not_eq_true'] at hok
    refine prm primNext (by funext ds s; rfl) hok.1.2 hok.2 (fun ds s hl => ?_) (pr.next d fd e F)
    unfold primNext
    split
    · exact absurd rfl hl
    · rfl
  | ini k => exact absurd rfl (hi k)
  | p i => exact gen hok (by funext ds s; show (match t.T _ with | some fn => runFn ⟨callN t.T N n, N⟩ fn ds s | none => .st) = _; rw [eT])
  | law i => exact gen hok (by funext ds s; show (match t.T _ with | some fn => runFn ⟨callN t.T N n, N⟩ fn ds s | none => .st) = _; rw [eT])
  | eq k =>
    simp only [Bool.and_eq_true] at hok
    exact gen hok.1.1 (by funext ds s; show (match t.T _ with | some fn => runFn ⟨callN t.T N n, N⟩ fn ds s | none => .st) = _; rw [eT])
  | len k =>
    simp only [Bool.and_eq_true] at hok
    exact gen hok.1.1 (by funext ds s; show (match t.T _ with | some fn => runFn ⟨callN t.T N n, N⟩ fn ds s | none => .st) = _; rw [eT])
  | pr k i =>
    simp only [Bool.and_eq_true] at hok
    exact gen hok.1.1 (by funext ds s; show (match t.T _ with | some fn => runFn ⟨callN t.T N n, N⟩ fn ds s | none => .st) = _; rw [eT])
  | me k i => exact gen hok (by funext ds s; show (match t.T _ with | some fn => runFn ⟨callN t.T N n, N⟩ fn ds s | none => .st) = _; rw [eT])
theorem Dd.pars {ck : Ck} {f : F} {d : Dd} (h : d.ok ck t = true) (e : d.f = f) (ne : ∀ k, f ≠ .ini (.err k)) : match f with
    | .pr _ _ => d.fn.pars = 1 ∧ d.fn.fresh = false
    | .len _ => d.fn.pars = 1 ∧ d.fn.fresh = false
    | .eq _ => d.fn.pars = 2 ∧ d.fn.fresh = false
    | .ini _ => 0 < d.fn.pars
    | _ => True := by
  unfold Dd.ok at h
  rw [e] at h
  cases f with
  | ini k =>
    cases k <;> first | exact absurd rfl (ne _) | (simp only [errN, Bool.and_eq_true, decide_eq_true_eq, okIni] at h ⊢; exact h.1.1.2)
  | _ => simp only [Bool.and_eq_true, decide_eq_true_eq, Bool.not_eq_true'] at h ⊢ <;> first | exact ⟨h.1.2, h.2⟩ | trivial
theorem er_of {k : Nat} {nm : Str} {nf : Nat} (e : t.ck.er k = some (nm, nf)) : k ∈ t.ers ∧ ((xn (.err k) = 0 ∧ nm = cn (.err k) ∧ nf = 0) ∨ (xn (.err k) ≠ 0 ∧ nm = cn (.err k) ∧ nf = xn (.err k) ∧ ∃ d, t.find (.ini (.err k)) = some d)) := by
  have e' : (if t.ers.contains k then (match xn (.err k) with
    | 0 => some (cn (.err k), 0)
    | nf => if (t.find (.ini (.err k))).isSome then some (cn (.err k), nf) else none) else none) = some (nm, nf) := e
  split at e'
  · rename_i hc
    refine ⟨by simpa using hc, ?_⟩
    split at e'
    · rename_i hx
      cases e'
      exact .inl ⟨hx, rfl, rfl⟩
    · rename_i hx
      split at e'
      · rename_i hs
        cases e'
        obtain ⟨d, hd⟩ := Option.isSome_iff_exists.mp hs
        exact .inr ⟨hx, rfl, rfl, d, hd⟩
      · cases e'
  · cases e'
theorem stat_of {c : Cfg} {n : Nat} (h1n : 1 ≤ n) (X : Say t K) (KX : K.In h) (G : h.Ns mainGlobals mg) (ok : t.ok = true)
    (hf : ∀ f d, t.find f = some d → (∀ k, f ≠ .ini k) → (∃ fd ps, FnOk P w K mg base (CX P w) (2 * n) (d.ad K) fd ps (spF (t.lay K) d.fn.pars d.fn.fresh (c.call f)) ∧ Binds K fd ps []) ∧ ∀ ds s, ds.length ≠ d.fn.pars → c.call f ds s = .st)
    (hi : ∀ k d, t.find (.ini k) = some d → t.has k = true → errN k = none → (∃ fd ps, FnOk P w K mg base (CX P w) (2 * n) (d.ad K) fd ps (spI (t.lay K) (d.fn.pars - 1) k (c.call (.ini k))) ∧ Binds K fd ps []) ∧ ∀ ds s, ds.length ≠ d.fn.pars - 1 → c.call (.ini k) ds s = .st) :
    Stat t.ck (t.lay K) c n P w mg base := by
  have dok : ∀ {f d}, t.find f = some d → d ∈ t.defs ∧ d.f = f ∧ d.ok t.ck t = true := fun {f d} e => by
    obtain ⟨hm, hf⟩ := find_mem e
    unfold Tx.ok at ok
    exact ⟨hm, hf, List.all_eq_true.mp ok d hm⟩
  have fc := X.facts
  unfold Tx.facts at fc
  simp only [Bool.and_eq_true, List.all_eq_true] at fc
  obtain ⟨⟨⟨⟨⟨⟨fb, fcl⟩, fkk⟩, fd_⟩, fco⟩, fer⟩, fex⟩ := fc
  refine ⟨fun k hk => ?_, fun k k' hk hk' => ?_, fun x hx => ?_, fun f nm np fr e => ?_, fun k nm np e => ?_, fun k i nm e => ?_, fun k e => ?_, fun k e => ?_, fun x d e => ?_, fun k f hf' hk => ?_, h1n, fun k nm nf e => ?_, fun k k' e e' => ?_⟩
  · have := X.cl hk
    unfold clB at this
    simp only [Bool.and_eq_true, List.all_eq_true, decide_eq_true_eq] at this
    obtain ⟨⟨⟨⟨⟨⟨⟨⟨_, c1⟩, c2⟩, c3⟩, c4⟩, c5⟩, c6⟩, c7⟩, c8⟩ := this
    exact ⟨He.cls_ok c1, He.eqO_ok c2, He.eqO_ok c3, c4, c5, c6, c7⟩
  · exact of_decide_eq_true (fkk k (has_mem hk) k' (has_mem hk'))
  · exact He.free_ok KX G (fb x hx)
  · have e' : (if isGl f then (t.find f).map fun d => (d.nm, d.fn.pars, d.fn.fresh) else none) = some (nm, np, fr) := e
    split at e'
    · rename_i hg
      cases ef : t.find f with
      | none => rw [ef] at e'; cases e'
      | some d =>
        rw [ef] at e'
        cases e'
        obtain ⟨hm, hdf, hok⟩ := dok ef
        have hni : ∀ k, f ≠ .ini k := fun k z => by subst z; cases hg
        obtain ⟨h1, h2⟩ := hf f d ef hni
        have hd := fd_ d hm
        have glo : (He.Fa.glo d.nm).ok K = true ∧ PySem.W.keepIn K (.ref (d.ad K)) = true := by
          unfold MP.dB at hd
          simp only [Bool.and_eq_true] at hd
          refine ⟨?_, hd.1.1⟩
          have := hd.2
          rw [hdf] at this
          cases f <;> first | exact this | cases hg
        have ead : d.ad K = He.ga K d.nm := by
          unfold Dd.ad adOf
          rw [hdf]
          cases f <;> first | rfl | cases hg
        rw [fad_of ef]
        exact ⟨h1, by rw [ead]; exact He.glo_ok KX G glo.1, glo.2, h2⟩
    · cases e'
  · have e' : (if t.has k && (errN k).isNone then (t.find (.ini k)).map fun d => (cn k, d.fn.pars - 1) else none) = some (nm, np) := e
    split at e'
    · rename_i hk
      rw [Bool.and_eq_true, Option.isNone_iff_eq_none] at hk
      obtain ⟨hk, hen⟩ := hk
      cases ef : t.find (.ini k) with
      | none => rw [ef] at e'; cases e'
      | some d =>
        rw [ef] at e'
        cases e'
        obtain ⟨hm, hdf, hok⟩ := dok ef
        obtain ⟨h1, h2⟩ := hi k d ef hk hen
        have hd := fd_ d hm
        unfold MP.dB at hd
        simp only [Bool.and_eq_true] at hd
        have hmk := hd.2
        rw [hdf] at hmk
        simp only [hen] at hmk
        have ead : d.ad K = He.ma K (He.ga K (cn k)) "__init__" := by
          unfold Dd.ad adOf
          rw [hdf]
        have hcl := X.cl hk
        unfold clB at hcl
        simp only [Bool.and_eq_true] at hcl
        rw [fad_of ef]
        refine ⟨hk, He.glo_ok KX G hcl.1.1.1.1.1.1.1.1, h1, ?_, h2⟩
        rw [ead]
        exact He.mkr_ok hmk
    · cases e'
  · have e' : (if t.has k then (t.find (.pr k i)).map (·.nm) else none) = some nm := e
    split at e'
    · cases ef : t.find (.pr k i) with
      | none => rw [ef] at e'; cases e'
      | some d =>
        rw [ef] at e'
        cases e'
        obtain ⟨hm, hdf, hok⟩ := dok ef
        obtain ⟨p1, p2⟩ := Dd.pars hok hdf (fun _ z => by cases z)
        obtain ⟨h1, h2⟩ := hf _ d ef (fun k z => by cases z)
        rw [p1, p2] at h1
        have hd := fd_ d hm
        unfold MP.dB at hd
        simp only [Bool.and_eq_true] at hd
        have hp := hd.2
        rw [hdf] at hp
        simp only [Bool.and_eq_true, decide_eq_true_eq] at hp
        obtain ⟨⟨⟨q1, q2⟩, q3⟩, q4⟩ := hp
        have ead : d.ad K = propG K (He.ga K (cn k)) d.nm := by
          unfold Dd.ad adOf
          rw [hdf]
        rw [fad_of ef]
        refine ⟨h1, _, He.eqO_ok q1, He.eqO_ok q2, q3, ?_⟩
        rw [ead]
        split at q4
        · rename_i g rest eq
          have eg : propG K (He.ga K (cn k)) d.nm = g := by unfold propG; rw [eq]
          rw [eg]
          exact ⟨rest, eq⟩
        · cases q4
    · cases e'
  · have e' : (t.has k && (t.find (.len k)).isSome) = true := e
    rw [Bool.and_eq_true] at e'
    obtain ⟨d, ef⟩ := Option.isSome_iff_exists.mp e'.2
    obtain ⟨hm, hdf, hok⟩ := dok ef
    obtain ⟨p1, p2⟩ := Dd.pars hok hdf (fun _ z => by cases z)
    obtain ⟨h1, h2⟩ := hf _ d ef (fun k z => by cases z)
    rw [p1, p2] at h1
    have hd := fd_ d hm
    unfold MP.dB at hd
    simp only [Bool.and_eq_true] at hd
    have hp := hd.2
    rw [hdf] at hp
    simp only [Bool.and_eq_true] at hp
    rw [fad_of ef]
    exact ⟨h1, He.eqO_ok hp.1, hp.2⟩
  · have e' : (t.has k && (t.find (.eq k)).isSome) = true := e
    rw [Bool.and_eq_true] at e'
    obtain ⟨d, ef⟩ := Option.isSome_iff_exists.mp e'.2
    obtain ⟨hm, hdf, hok⟩ := dok ef
    obtain ⟨p1, p2⟩ := Dd.pars hok hdf (fun _ z => by cases z)
    obtain ⟨h1, h2⟩ := hf _ d ef (fun k z => by cases z)
    rw [p1, p2] at h1
    have hd := fd_ d hm
    unfold MP.dB at hd
    simp only [Bool.and_eq_true] at hd
    have hp := hd.2
    rw [hdf] at hp
    simp only [Bool.and_eq_true, decide_eq_true_eq] at hp
    rw [fad_of ef]
    exact ⟨h1, He.eqO_ok hp.1.1, hp.1.2, hp.2⟩
  · have hm : (x, d) ∈ t.con := by
      have e' : t.con.lookup x = some d := e
      clear fco
      generalize t.con = l at e'
      induction l with
      | nil => cases e'
      | cons p l ih =>
        obtain ⟨y, d'⟩ := p
        rw [List.lookup_cons] at e'
        split at e'
        · rename_i hq
          cases e'
          rw [eq_of_beq hq]
          exact List.mem_cons_self ..
        · exact List.mem_cons_of_mem _ (ih e')
    have := fco _ hm
    unfold conB at this
    cases d <;> first | trivial | exact He.int_ok KX G this | exact He.str_ok KX G this
  · have hcl := X.cl hk
    unfold clB at hcl
    simp only [Bool.and_eq_true, List.all_eq_true] at hcl
    exact He.noat_ok (hcl.2 f hf')
  · obtain ⟨hk, hn⟩ := er_of e
    have hb := fer k hk
    unfold erB at hb
    rw [Bool.and_eq_true] at hb
    obtain ⟨hb1, hb2⟩ := hb
    have hnm : nm = cn (.err k) := by
      rcases hn with ⟨_, h, _⟩ | ⟨_, h, _⟩ <;> exact h
    subst hnm
    refine ⟨He.glo_ok KX G hb1, fun z => ?_, fun z => ?_, fun z => ?_⟩
    · subst z
      rcases hn with ⟨hx, _, _⟩ | ⟨hx, _, hq, _⟩
      · rw [hx] at hb2
        exact He.exc_ok hb2
      · exact absurd hq.symm hx
    all_goals
      subst z
      rcases hn with ⟨hx, _, hq⟩ | ⟨hx, _, hq, d, ef⟩
      · cases hq
      · obtain ⟨hm, hdf, hok⟩ := dok ef
        have hd := fd_ d hm
        unfold MP.dB at hd
        simp only [Bool.and_eq_true] at hd
        have hp := hd.2
        rw [hdf] at hp
        simp only [errN, Bool.and_eq_true, decide_eq_true_eq] at hp
        obtain ⟨fd, F⟩ := X.fun_ hm (Dd.okd hok)
        obtain ⟨bd, bs, bl, ble⟩ := binds_of (L := t.lay K) (fn := d.fn) F (Dd.okd hok)
        have ho : oexB K (He.ga K (cn (.err k))) = true ∧ ∀ f ∈ xfields (.err k), He.eqO (PySem.W.findIn K (.ref (He.ga K (cn (.err k)))) f) (some none) = true := by
          rw [← hq] at hb2
          simp only [Bool.and_eq_true, List.all_eq_true] at hb2
          exact hb2
        have hok2 : okDef d.fn d.d = true ∧ errIni k d = true := by
          unfold Dd.ok at hok
          rw [hdf] at hok
          simpa only [errN, Bool.and_eq_true] using hok
        have hdef := hok2.1
        unfold okDef at hdef
        simp only [Bool.and_eq_true, List.isEmpty_iff] at hdef
        have hi2 := hok2.2
        unfold errIni at hi2
        rw [fad_of ef]
        split at hi2
        · rename_i a1 p1 fl p2 a2 p3 p4 eb
          simp only [Bool.and_eq_true, decide_eq_true_eq, locN] at hi2
          obtain ⟨⟨⟨⟨i1, i2⟩, i3⟩, ⟨i4, i5⟩⟩, ⟨i6, i7⟩⟩ := hi2
          have hlen : (xfields (.err k)).length = 1 := by rw [i1]; rfl
          rw [xn_len, ← hq] at hlen
          first
            | (cases hlen; done)
            | (rw [He.DefD.dvs, He.DefD.kws, hdef.1.2, hdef.2, eb] at F
               rw [i2, i3] at bs bd
               exact ⟨fl, i1, oexB_of ho.1, He.eqO_ok hp.1, hp.2, fd, _, ini1 (L := t.lay K) (oexB_of ho.1) (He.eqO_ok (ho.2 fl (by rw [i1]; simp))) i4 i6 (okN_of i5) (okN_of i7) bs F, bd⟩)
        · rename_i a1 p1 fl p2 a2 p3 p4 b1 q1 gl q2 a3 q3 q4 eb
          simp only [Bool.and_eq_true, decide_eq_true_eq, locN] at hi2
          obtain ⟨⟨⟨⟨⟨⟨rfl, i1⟩, i2⟩, i3⟩, ⟨i4, i5⟩⟩, ⟨i6, i7⟩⟩, ⟨i8, i9⟩⟩ := hi2
          have hlen : (xfields (.err k)).length = 2 := by rw [i1]; rfl
          rw [xn_len, ← hq] at hlen
          first
            | (cases hlen; done)
            | (rw [He.DefD.dvs, He.DefD.kws, hdef.1.2, hdef.2, eb] at F
               rw [i2, i3] at bs bd
               exact ⟨fl, gl, i1, oexB_of ho.1, He.eqO_ok hp.1, hp.2, fd, _, ini2 (L := t.lay K) (oexB_of ho.1) (He.eqO_ok (ho.2 fl (by rw [i1]; simp))) (He.eqO_ok (ho.2 gl (by rw [i1]; simp))) i4 i6 i8 (okN_of i5) (okN_of i7) (okN_of i9) bs F, bd⟩)
        · cases hi2
  · obtain ⟨⟨nm, nf⟩, e1⟩ := Option.isSome_iff_exists.mp e
    obtain ⟨⟨nm', nf'⟩, e2⟩ := Option.isSome_iff_exists.mp e'
    exact He.exm_ok (fex k (er_of e1).1 k' (er_of e2).1)
theorem stat_all {N : Nat} (X : Say t K) (KX : K.In h) (G : h.Ns mainGlobals mg) (ok : t.ok = true) (pr : Prim t K P w mg base) : ∀ n, Stat t.ck (t.lay K) ⟨callN t.T N n, N⟩ (n + 1) P w mg base
  | 0 => by
    have bd : ∀ f d, t.find f = some d → ∃ fd ps, Binds K fd ps [] ∧ True := fun f d e => by
      obtain ⟨hm, _⟩ := find_mem e
      have hz := Dd.okd (List.all_eq_true.mp ok d hm)
      obtain ⟨fd, F⟩ := X.fun_ hm hz
      exact ⟨fd, _, (binds_of (L := t.lay K) (fn := d.fn) F hz).1, trivial⟩
    refine stat_of (by omega) X KX G ok (fun f d e hni => ?_) (fun k d e hk hen => ?_)
    · obtain ⟨fd, ps, hb, _⟩ := bd f d e
      exact ⟨⟨fd, ps, fn_zero (L := t.lay K).mono (by omega), hb⟩, fun ds s _ => rfl⟩
    · obtain ⟨fd, ps, hb, _⟩ := bd _ d e
      exact ⟨⟨fd, ps, ini_zero (L := t.lay K).mono (by omega), hb⟩, fun ds s _ => rfl⟩
  | n + 1 => by
    have S := stat_all (N := N) X KX G ok pr n
    refine stat_of (by omega) X KX G ok (fun f d e hni => step_fn X ok pr S e hni) (fun k d e hk hen => ?_)
    obtain ⟨hm, hf⟩ := find_mem e
    have hok := List.all_eq_true.mp ok d hm
    have hz := Dd.okd hok
    obtain ⟨fd, F⟩ := X.fun_ hm hz
    have eT : t.T (.ini k) = some d.fn := by unfold Tx.T; rw [e]; rfl
    have hp := Dd.pars hok hf (fun k' z => by cases z; cases hen)
    have ec : callN t.T N (n + 1) (.ini k) = runIni ⟨callN t.T N n, N⟩ k d.fn := by
      funext ds s
      show (match t.T (.ini k) with | some fn => runIni ⟨callN t.T N n, N⟩ k fn ds s | none => .st) = _
      rw [eT]
    unfold Dd.ok at hok
    rw [hf] at hok
    simp only [hen, Bool.and_eq_true] at hok
    have h0 : 0 < d.fn.pars := hp
    show (∃ fd ps, FnOk P w K mg base (CX P w) (2 * (n + 1 + 1)) (d.ad K) fd ps (spI (t.lay K) (d.fn.pars - 1) k (callN t.T N (n + 1) (.ini k))) ∧ Binds K fd ps []) ∧ ∀ ds s, ds.length ≠ d.fn.pars - 1 → callN t.T N (n + 1) (.ini k) ds s = .st
    rw [ec]
    refine ⟨⟨fd, _, ini_ok (L := t.lay K) S hk F hok.1⟩, fun ds s hl => ?_⟩
    unfold runIni
    rw [if_neg (by omega)]
end
end MP

end
section
set_option Elab.async false
set_option linter.all false
set_option maxRecDepth 100000
set_option maxHeartbeats 2000000
/-! The draws' two defs. -/
namespace MP
open PySem PySem.Spec PyProof.Rows L2

def mixBody (p : Nat → Pos) : List Stmt := [ (Stmt.Assign ([(Expr.Name "_law_state" (p 0))]) ((Expr.Name "_law_seed" (p 1))) ((p 2))), (Stmt.For ((Expr.Name "_law_cell" (p 3))) ((Expr.Name "_law_script" (p 4))) ([ (Stmt.Assign ([(Expr.Name "_law_state" (p 5))]) ((Expr.BinOp ((Expr.Call ((Expr.Name "int" (p 6))) ([ (Expr.BinOp ((Expr.BinOp ((Expr.BinOp ((Expr.Name "_law_state" (p 7))) (Operator.Mult) ((Expr.Constant (Const.int 48271) 0 (p 8))) ((p 9)))) (Operator.Add) ((Expr.BinOp ((Expr.Call ((Expr.Name "int" (p 10))) ([(Expr.Name "_law_cell" (p 11))]) ([]) ((p 12)))) (Operator.Mod) ((Expr.Constant (Const.int 2147483629) 0 (p 13))) ((p 14)))) ((p 15)))) (Operator.Add) ((Expr.Constant (Const.int 1) 0 (p 16))) ((p 17)))]) ([]) ((p 18)))) (Operator.Mod) ((Expr.Constant (Const.int 2147483647) 0 (p 19))) ((p 20)))) ((p 21)))]) ([]) ((p 22))), (Stmt.Return ((some (Expr.List ([ (Expr.Name "_law_state" (p 23)), (Expr.Call ((Expr.Name "list" (p 24))) ([(Expr.Name "_law_script" (p 25))]) ([]) ((p 26))), (Expr.Constant (Const.int 0) 0 (p 27))]) ((p 28))))) ((p 29)))]
def mixScope : Scope := { kind := ScopeKind.function, names := [ (Str.ofString "_law_script", NameKind.local), (Str.ofString "_law_seed", NameKind.local), (Str.ofString "_law_state", NameKind.local), (Str.ofString "_law_cell", NameKind.local), (Str.ofString "int", NameKind.globalImplicit), (Str.ofString "list", NameKind.globalImplicit)], isGenerator := false, isCoroutine := false, more := [] : Scope }
-- 30 places
def nextBody (p : Nat → Pos) : List Stmt := [ (Stmt.Assign ([(Expr.Name "_law_cell" (p 0))]) ((Expr.Subscript ((Expr.BinOp ((Expr.Subscript ((Expr.Name "_law_h" (p 1))) ((Expr.Constant (Const.int 1) 0 (p 2))) ((p 3)))) (Operator.Add) ((Expr.List [(Expr.Constant (Const.int 0) 0 (p 4))] (p 5))) ((p 6)))) ((Expr.BinOp ((Expr.Call ((Expr.Name "int" (p 7))) ([ (Expr.Subscript ((Expr.Name "_law_h" (p 8))) ((Expr.Constant (Const.int 2) 0 (p 9))) ((p 10)))]) ([]) ((p 11)))) (Operator.Mod) ((Expr.Call ((Expr.Name "max" (p 12))) ([ (Expr.Constant (Const.int 1) 0 (p 13)), (Expr.Call ((Expr.Name "len" (p 14))) ([ (Expr.Subscript ((Expr.Name "_law_h" (p 15))) ((Expr.Constant (Const.int 1) 0 (p 16))) ((p 17)))]) ([]) ((p 18)))]) ([]) ((p 19)))) ((p 20)))) ((p 21)))) ((p 22))), (Stmt.If ((Expr.Compare ((Expr.Name "_law_cell" (p 23))) ([CmpOp.GtE]) ([ (Expr.BinOp ((Expr.Constant (Const.int 10) 0 (p 24))) (Operator.Pow) ((Expr.Constant (Const.int 18) 0 (p 25))) ((p 26)))]) ((p 27)))) ([ (Stmt.Assign ([(Expr.Name "_law_cells" (p 28))]) ((Expr.Subscript ((Expr.Name "_law_h" (p 29))) ((Expr.Constant (Const.int 1) 0 (p 30))) ((p 31)))) ((p 32))), (Stmt.Assign ([ (Expr.Subscript ((Expr.Name "_law_cells" (p 33))) ((Expr.BinOp ((Expr.Call ((Expr.Name "int" (p 34))) ([ (Expr.Subscript ((Expr.Name "_law_h" (p 35))) ((Expr.Constant (Const.int 2) 0 (p 36))) ((p 37)))]) ([]) ((p 38)))) (Operator.Mod) ((Expr.Call ((Expr.Name "len" (p 39))) ([(Expr.Name "_law_cells" (p 40))]) ([]) ((p 41)))) ((p 42)))) ((p 43)))]) ((Expr.BinOp ((Expr.Name "_law_cell" (p 44))) (Operator.FloorDiv) ((Expr.Name "_law_bound" (p 45))) ((p 46)))) ((p 47))), (Stmt.Return ((some (Expr.BinOp ((Expr.Call ((Expr.Name "int" (p 48))) ([(Expr.Name "_law_cell" (p 49))]) ([]) ((p 50)))) (Operator.Mod) ((Expr.Name "_law_bound" (p 51))) ((p 52))))) ((p 53)))]) ([]) ((p 54))), (Stmt.Assign ([ (Expr.Subscript ((Expr.Name "_law_h" (p 55))) ((Expr.Constant (Const.int 0) 0 (p 56))) ((p 57)))]) ((Expr.BinOp ((Expr.Call ((Expr.Name "int" (p 58))) ([ (Expr.BinOp ((Expr.BinOp ((Expr.BinOp ((Expr.Subscript ((Expr.Name "_law_h" (p 59))) ((Expr.Constant (Const.int 0) 0 (p 60))) ((p 61)))) (Operator.Mult) ((Expr.Constant (Const.int 48271) 0 (p 62))) ((p 63)))) (Operator.Add) ((Expr.BinOp ((Expr.Name "_law_cell" (p 64))) (Operator.Mult) ((Expr.Constant (Const.int 69621) 0 (p 65))) ((p 66)))) ((p 67)))) (Operator.Add) ((Expr.Constant (Const.int 11) 0 (p 68))) ((p 69)))]) ([]) ((p 70)))) (Operator.Mod) ((Expr.Constant (Const.int 2147483647) 0 (p 71))) ((p 72)))) ((p 73))), (Stmt.Assign ([ (Expr.Subscript ((Expr.Name "_law_h" (p 74))) ((Expr.Constant (Const.int 2) 0 (p 75))) ((p 76)))]) ((Expr.BinOp ((Expr.Subscript ((Expr.Name "_law_h" (p 77))) ((Expr.Constant (Const.int 2) 0 (p 78))) ((p 79)))) (Operator.Add) ((Expr.Constant (Const.int 1) 0 (p 80))) ((p 81)))) ((p 82))), (Stmt.Return ((some (Expr.BinOp ((Expr.Call ((Expr.Name "int" (p 83))) ([ (Expr.BinOp ((Expr.Subscript ((Expr.Name "_law_h" (p 84))) ((Expr.Constant (Const.int 0) 0 (p 85))) ((p 86)))) (Operator.FloorDiv) ((Expr.Constant (Const.int 7) 0 (p 87))) ((p 88)))]) ([]) ((p 89)))) (Operator.Mod) ((Expr.Name "_law_bound" (p 90))) ((p 91))))) ((p 92)))]
def nextScope : Scope := { kind := ScopeKind.function, names := [ (Str.ofString "_law_h", NameKind.local), (Str.ofString "_law_bound", NameKind.local), (Str.ofString "_law_cell", NameKind.local), (Str.ofString "_law_cells", NameKind.local), (Str.ofString "int", NameKind.globalImplicit), (Str.ofString "max", NameKind.globalImplicit), (Str.ofString "len", NameKind.globalImplicit)], isGenerator := false, isCoroutine := false, more := [] : Scope }
-- 93 places
def mixN : List Str := ["_law_script", "_law_seed", "_law_state", "_law_cell"]
def nextN : List Str := ["_law_h", "_law_bound", "_law_cell", "_law_cells"]
theorem mixSc : FnScope mixN ["_law_script", "_law_seed"] mixScope := ⟨rfl, rfl, rfl, by decide +kernel, rfl, by decide +kernel, by decide +kernel⟩
theorem nextSc : FnScope nextN ["_law_h", "_law_bound"] nextScope := ⟨rfl, rfl, rfl, by decide +kernel, rfl, by decide +kernel, by decide +kernel⟩
section
variable {L : Lay} {P : Program} {w : World} {mg : Str → Option Value} {base : Heap} {f : Addr} {fd : FuncData} {x qual : Str} {params : Arguments}
theorem same_upd {H : Hp} {p : Addr} {o : HO} (h : H p = none) : Same H (upd H p o) := fun b x e => by
  rw [upd_ne (ne_of_none e h)]
  exact e
theorem mixSt_take {seed : Int} {ns : List Int} {i : Nat} {x : Int} (h : ns[i]? = some x) : mixSt seed (ns.take (i + 1)) = (mixSt seed (ns.take i) * 48271 + x % 2147483629 + 1) % 2147483647 := by
  have app : ∀ (l : List Int) (s : Int), mixSt s (l ++ [x]) = (mixSt s l * 48271 + x % 2147483629 + 1) % 2147483647 := fun l => by
    induction l with
    | nil => intro s; rfl
    | cons a l ih => intro s; exact ih _
  rw [List.take_add_one, h]
  exact app _ _
theorem hs_snoc {m : List (Addr × Addr)} {a b c : Addr} : c ∈ hs (m ++ [(a, b)]) ↔ c ∈ hs m ∨ c = a ∨ c = b := by
  unfold hs
  simp [List.flatMap_append]
theorem hs_two {m : List (Addr × Addr)} {n : Nat} {a b : Addr} (nd : (hs m).Nodup) (h : m[n]? = some (a, b)) : a ≠ b := by
  induction m generalizing n with
  | nil => simp at h
  | cons p m ih =>
    have e : hs (p :: m) = p.1 :: p.2 :: hs m := rfl
    rw [e] at nd
    have n1 := List.nodup_cons.mp nd
    have n2 := List.nodup_cons.mp n1.2
    cases n with
    | zero =>
      simp at h
      subst h
      exact fun z => n1.1 (by rw [show a = b from z]; exact List.mem_cons_self ..)
    | succ n => exact ih n2.2 (by simpa using h)
theorem hs_apart {m : List (Addr × Addr)} {k n : Nat} {a b c d : Addr} (nd : (hs m).Nodup) (h : m[k]? = some (c, d)) (h' : m[n]? = some (a, b)) (hk : k ≠ n) : c ≠ a ∧ c ≠ b ∧ d ≠ a ∧ d ≠ b := by
  induction m generalizing k n with
  | nil => simp at h
  | cons p m ih =>
    have e : hs (p :: m) = p.1 :: p.2 :: hs m := rfl
    rw [e] at nd
    have n1 := List.nodup_cons.mp nd
    have n2 := List.nodup_cons.mp n1.2
    cases k with
    | zero =>
      cases n with
      | zero => exact absurd rfl hk
      | succ n =>
        simp at h
        obtain ⟨z1, z2⟩ := mem_hs (show m[n]? = some (a, b) by simpa using h')
        subst h
        exact ⟨fun e => n1.1 (by rw [show c = a from e]; exact List.mem_cons_of_mem _ z1), fun e => n1.1 (by rw [show c = b from e]; exact List.mem_cons_of_mem _ z2), fun e => n2.1 (by rw [show d = a from e]; exact z1), fun e => n2.1 (by rw [show d = b from e]; exact z2)⟩
    | succ k =>
      cases n with
      | zero =>
        simp at h'
        obtain ⟨z1, z2⟩ := mem_hs (show m[k]? = some (c, d) by simpa using h)
        subst h'
        exact ⟨fun e => n1.1 (by rw [← show c = a from e]; exact List.mem_cons_of_mem _ z1), fun e => n2.1 (by rw [← show c = b from e]; exact z1), fun e => n1.1 (by rw [← show d = a from e]; exact List.mem_cons_of_mem _ z2), fun e => n2.1 (by rw [← show d = b from e]; exact z2)⟩
      | succ n => exact ih n2.2 (by simpa using h) (by simpa using h') (by omega)
/-- the sources of draws: a new one -/
theorem Wd.born {s : Sto} {m : List (Addr × Addr)} {G H : Hp} {a b : Addr} {st : Int} {cells : List Int} (wd : Wd L s m G H) (ha : H a = none) (hb : H b = none) (ne : a ≠ b) :
    Wd L (s ++ [.dr st cells 0]) (m ++ [(a, b)]) G (upd (upd H b (.lst (cells.map V.int))) a (.lst [.int st, .ref b, .int 0])) ∧ Stp m G H (m ++ [(a, b)]) G (upd (upd H b (.lst (cells.map V.int))) a (.lst [.int st, .ref b, .int 0])) := by
  have nin : ∀ c, c ∈ hs m → c ≠ a ∧ c ≠ b := fun c hc => ⟨fun e => (wd.off c hc).2 (e ▸ ha), fun e => (wd.off c hc).2 (e ▸ hb)⟩
  refine ⟨⟨fun c o h => ?_, by simp [wd.len], fun n st' cells' ix' a' b' h1 h2 => ?_, fun c hc => ?_, ?_⟩, ⟨List.prefix_append _ _, Same.refl _, fun c o h g n => ?_, fun c hc hn => ?_⟩⟩
  · have h' := wd.sub _ _ h
    rw [upd_ne (ne_of_none h' ha), upd_ne (ne_of_none h' hb)]; exact h'
  · by_cases hn : n < s.length
    · rw [List.getElem?_append_left hn] at h1
      rw [List.getElem?_append_left (by rw [wd.len]; exact hn)] at h2
      obtain ⟨e1, e2⟩ := wd.hnd n st' cells' ix' a' b' h1 h2
      rw [upd_ne (ne_of_none e1 ha), upd_ne (ne_of_none e1 hb), upd_ne (ne_of_none e2 ha), upd_ne (ne_of_none e2 hb)]
      exact ⟨e1, e2⟩
    · rw [List.getElem?_append_right (by omega)] at h1
      rw [List.getElem?_append_right (by rw [wd.len]; omega)] at h2
      cases hk : n - s.length with
      | zero =>
        rw [hk] at h1
        rw [wd.len, hk] at h2
        cases h1; cases h2
        rw [upd_same, upd_ne (Ne.symm ne), upd_same]
        exact ⟨rfl, rfl⟩
      | succ k => rw [hk] at h1; cases h1
  · rcases hs_snoc.mp hc with h | rfl | rfl
    · obtain ⟨e1, e2⟩ := wd.off c h
      obtain ⟨n1, n2⟩ := nin c h
      rw [upd_ne n1, upd_ne n2]; exact ⟨e1, e2⟩
    · exact ⟨wd.sub.free ha, by rw [upd_same]; exact fun z => by cases z⟩
    · refine ⟨wd.sub.free hb, ?_⟩
      rw [upd_ne (Ne.symm ne), upd_same]; exact fun z => by cases z
  · have e : hs (m ++ [(a, b)]) = hs m ++ [a, b] := by unfold hs; simp [List.flatMap_append]
    rw [e, List.nodup_append]
    refine ⟨wd.dis, by simp [ne], fun c hc d hd z => ?_⟩
    obtain ⟨n1, n2⟩ := nin c hc
    simp at hd
    rcases hd with rfl | rfl
    · exact n1 z
    · exact n2 z
  · have n1 : c ≠ a := ne_of_none h ha
    have n2 : c ≠ b := ne_of_none h hb
    rw [upd_ne n1, upd_ne n2]; exact ⟨h, g⟩
  · rcases hs_snoc.mp hc with h | rfl | rfl
    · exact absurd h hn
    · exact ha
    · exact hb
theorem pos1 : (0 : Int) < 2147483629 := by decide
theorem pos2 : (0 : Int) < 2147483647 := by decide
theorem pos7 : (0 : Int) < 7 ∧ (7 : Int) < 1073741824 := by decide
theorem ok_mix {p : Nat → Pos} (mi : mg "int" = none) (ml : mg "list" = none) (F : FunD L.K x qual params (mixBody p) mixScope [] [] f fd) : FnOk P w L.K mg base (CX P w) 2 f fd ["_law_script", "_law_seed"] (spF L 2 false primMix) := by
  refine FunD.ok (N := mixN) (k := 1) F mixSc (fun vs H Q E h => h.1) fun cdv A outer s H vs Q E hr hsp => ?_
  obtain ⟨hl, ds, s0, m, G, wd, r, Af⟩ := hsp
  refine ⟨_, pss_cons (ps_set (i := 2) mixSc.nd rfl (.inl rfl) (pv 1)) (pss_cons (ps_for (passes_of rfl) rfl (pi_list (pv 0)) (pg_name (i := 3) mixSc.nd rfl (.inl rfl))
      (pss_one (ps_set (i := 2) mixSc.nd rfl (.inl rfl) (pe_op op_mod (pe_callTy call_int1 rfl mi boot_int (pa_cons (pe_op op_add (pe_op op_add (pe_op op_mul (pv 2) pe_int) (pe_op op_mod (pe_callTy call_int1 rfl mi boot_int (pa_cons (pv 3) pa_nil)) pe_int)) pe_int) pa_nil)) pe_int))))
    (pss_one (ps_ret (pe_lst (pa_cons (pv 2) (pa_cons (pe_callTy call_list_of rfl ml boot_list (pa_cons (pv 0) pa_nil)) (pa_cons pe_int pa_nil))))))), ?_⟩
  unfold primMix at Af
  split at Af
  · rename_i s1 ns seed
    cases r with
    | cons r1 r2 => cases r2 with
      | cons r2 r3 => cases r3 with
        | nil =>
          have e2 := RB.int (H := H) (.rep r2)
          subst e2
          cases r1 with
          | obj _ hc => cases hc
          | @scr a _ hS =>
            have hA : SqL L.K H a (ns.map V.int) := wd.sub.seq hS
            refine ⟨.int seed, rfl, .ref a, rfl, a, rfl, ⟨_, hA⟩, ?_⟩
            refine ⟨fun i k σ H' => H' = H ∧ k = ns.length - i ∧ i ≤ ns.length ∧ ∃ y, σ = [some (.ref a), some (.int seed), some (.int (mixSt seed (ns.take i))), y], ⟨ns.length, rfl, by omega, Nat.zero_le _, none, rfl⟩, ?_⟩
            rintro i k σ H' ⟨rfl, rfl, hle, y, rfl⟩
            by_cases hi : i < ns.length
            · have g1 : (ns.map V.int)[i]? = some (.int ns[i]) := by rw [List.getElem?_map, List.getElem?_eq_getElem hi]; rfl
              refine .inr ⟨⟨_, _, hA, g1⟩, fun σ2 H2 => H2 = H' ∧ ∃ y, σ2 = [some (.ref a), some (.int seed), some (.int (mixSt seed (ns.take (i + 1)))), y], fun σ2 H2 ⟨h1, y, h2⟩ => ⟨ns.length - (i + 1), by omega, h1, rfl, by omega, y, h2⟩, fun v H2 ⟨e1, e2⟩ => ?_⟩
              subst e1
              have ev := Option.some.inj ((e2 _ hA).symm.trans g1)
              subst ev
              refine ⟨.int (mixSt seed (ns.take i)), rfl, _, _, rfl, rfl, .inr (by constructor <;> decide), .int ns[i], rfl, .inl ⟨_, rfl, _, _, rfl, rfl, pos1, _, _, rfl, rfl, _, _, rfl, rfl, .inl ⟨_, rfl, _, _, rfl, rfl, pos2, rfl, some (.int ns[i]), ?_⟩⟩⟩
              rw [mixSt_take (List.getElem?_eq_getElem hi)]
              rfl
            · have ei : i = ns.length := by omega
              subst ei
              rw [List.take_length]
              refine .inl ⟨⟨_, hA, by rw [List.length_map]; exact Nat.le_refl _⟩, ?_⟩
              refine ⟨.int (mixSt seed ns), rfl, .ref a, rfl, a, _, rfl, .inl hA, fun b hb => ⟨by rw [sizeLine_eq]; exact (by decide : (3 : Nat) ≤ 16777216), fun q hq => ?_⟩⟩
              have hq' : H' q = none := by
                by_cases e : q = b
                · rw [e]; exact hb
                · rw [upd_ne e] at hq; exact hq
              have ne : q ≠ b := fun e => by rw [e, upd_same] at hq; cases hq
              obtain ⟨w2, t2⟩ := Wd.born (st := mixSt seed ns) (cells := ns) wd hq' hb ne
              refine Af (m ++ [(q, b)]) G _ t2 w2 (.ref q) (.hnd (b := b) ?_)
              rw [wd.len.symm]
              simp
  · exact False.elim Af
/-- a source's two lists are changed -/
theorem Wd.redraw {s : Sto} {m : List (Addr × Addr)} {G H : Hp} {n : Nat} {a b : Addr} {st st' : Int} {cells cells' : List Int} {ix ix' : Int} (wd : Wd L s m G H) (hs1 : s[n]? = some (.dr st cells ix)) (hm : m[n]? = some (a, b)) :
    Wd L (s.set n (.dr st' cells' ix')) m G (upd (upd H b (.lst (cells'.map V.int))) a (.lst [.int st', .ref b, .int ix'])) ∧ Stp m G H m G (upd (upd H b (.lst (cells'.map V.int))) a (.lst [.int st', .ref b, .int ix'])) := by
  obtain ⟨ia, ib⟩ := mem_hs hm
  have ga := (wd.off a ia).1
  have gb := (wd.off b ib).1
  have dis : ∀ {k c d}, k ≠ n → m[k]? = some (c, d) → c ≠ a ∧ c ≠ b ∧ d ≠ a ∧ d ≠ b := fun {k c d} hk hm2 => hs_apart wd.dis hm2 hm hk
  have ne : a ≠ b := hs_two wd.dis hm
  refine ⟨⟨fun c o h => ?_, by simp [wd.len], fun k st2 cells2 ix2 c d h1 h2 => ?_, fun c hc => ?_, wd.dis⟩, ⟨List.prefix_refl _, Same.refl _, fun c o h g hn => ?_, fun c hc hn => absurd hc hn⟩⟩
  · have n1 : c ≠ a := fun e => by rw [e, ga] at h; cases h
    have n2 : c ≠ b := fun e => by rw [e, gb] at h; cases h
    rw [upd_ne n1, upd_ne n2]; exact wd.sub _ _ h
  · by_cases hk : k = n
    · subst hk
      rw [List.getElem?_set_self (List.getElem?_eq_some_iff.mp hs1).1] at h1
      cases h1
      rw [hm] at h2; cases h2
      rw [upd_same, upd_ne (Ne.symm ne), upd_same]
      exact ⟨rfl, rfl⟩
    · rw [List.getElem?_set_ne (Ne.symm hk)] at h1
      obtain ⟨n1, n2, n3, n4⟩ := dis hk h2
      obtain ⟨e1, e2⟩ := wd.hnd k st2 cells2 ix2 c d h1 h2
      rw [upd_ne n1, upd_ne n2, upd_ne n3, upd_ne n4]; exact ⟨e1, e2⟩
  · obtain ⟨e1, e2⟩ := wd.off c hc
    refine ⟨e1, ?_⟩
    by_cases z1 : c = a
    · subst z1; rw [upd_same]; exact fun z => by cases z
    · rw [upd_ne z1]
      by_cases z2 : c = b
      · subst z2; rw [upd_same]; exact fun z => by cases z
      · rw [upd_ne z2]; exact e2
  · have n1 : c ≠ a := fun e => hn (e ▸ ia)
    have n2 : c ≠ b := fun e => hn (e ▸ ib)
    rw [upd_ne n1, upd_ne n2]; exact ⟨h, g⟩
theorem ok_next {p : Nat → Pos} (mi : mg "int" = none) (ml : mg "len" = none) (mm : mg "max" = none) (F : FunD L.K x qual params (nextBody p) nextScope [] [] f fd) : FnOk P w L.K mg base (CX P w) 2 f fd ["_law_h", "_law_bound"] (spF L 2 false primNext) := by
  refine FunD.ok (N := nextN) (k := 1) F nextSc (fun vs H Q E h => h.1) fun cdv A outer s H vs Q E hr hsp => ?_
  obtain ⟨hl, ds, s0, m, G, wd, r, Af⟩ := hsp
  refine ⟨_, pss_cons (ps_set (i := 2) nextSc.nd rfl (.inl rfl) (pe_ix ix_list (pe_op op_cat (pe_ix ix_list (pv 0) pe_int (fun _ _ => rfl)) (pe_lst (pa_cons pe_int pa_nil)))
        (pe_op op_mod (pe_callTy call_int1 rfl mi boot_int (pa_cons (pe_ix ix_list (pv 0) pe_int (fun _ _ => rfl)) pa_nil)) (pe_callB (call_max2 rfl) rfl mm boot_max (pa_cons pe_int (pa_cons (pe_callB call_len_seq rfl ml boot_len (pa_cons (pe_ix ix_list (pv 0) pe_int (fun _ _ => rfl)) pa_nil)) pa_nil)))) (fun _ _ => rfl)))
    (pss_cons (ps_if (pt_cmpR op_ge (pv 2) (pe_op op_pow pe_int pe_int) (nomark _))
      (pss_cons (ps_set (i := 3) nextSc.nd rfl (.inl rfl) (pe_ix ix_list (pv 0) pe_int (fun _ _ => rfl)))
      (pss_cons (ps_asg (pe_op op_fdivW (pv 2) (pv 1)) (pg_sub (pv 3) (pe_op op_mod (pe_callTy call_int1 rfl mi boot_int (pa_cons (pe_ix ix_list (pv 0) pe_int (fun _ _ => rfl)) pa_nil)) (pe_callB call_len_seq rfl ml boot_len (pa_cons (pv 3) pa_nil))) set_list (fun v => sub_assign rfl v)))
      (pss_one (ps_ret (pe_op op_mod (pe_callTy call_int1 rfl mi boot_int (pa_cons (pv 2) pa_nil)) (pv 1)))))) pss_nil)
    (pss_cons (ps_asg (pe_op op_mod (pe_callTy call_int1 rfl mi boot_int (pa_cons (pe_op op_add (pe_op op_add (pe_op op_mul (pe_ix ix_list (pv 0) pe_int (fun _ _ => rfl)) pe_int) (pe_op op_mul (pv 2) pe_int)) pe_int) pa_nil)) pe_int) (pg_sub (pv 0) pe_int set_list (fun v => sub_assign rfl v)))
    (pss_cons (ps_asg (pe_op op_add (pe_ix ix_list (pv 0) pe_int (fun _ _ => rfl)) pe_int) (pg_sub (pv 0) pe_int set_list (fun v => sub_assign rfl v)))
    (pss_one (ps_ret (pe_op op_mod (pe_callTy call_int1 rfl mi boot_int (pa_cons (pe_op op_fdiv (pe_ix ix_list (pv 0) pe_int (fun _ _ => rfl)) pe_int) pa_nil)) (pv 1))))))), ?_⟩
  unfold primNext at Af
  split at Af
  · rename_i s1 n b
    split at Af
    · rename_i st cells ix hs1
      split at Af
      · rename_i hc
        obtain ⟨hb0, hb1, hix, hcl⟩ := hc
        cases r with
        | cons r1 r2 => cases r2 with
          | cons r2 r3 => cases r3 with
            | nil =>
              have e2 := RB.int (H := H) (.rep r2)
              subst e2
              cases r1 with
              | obj _ hc => cases hc
              | @hnd _ a q hm =>
                obtain ⟨ha, hq⟩ := wd.hnd _ _ _ _ _ _ hs1 hm
                obtain ⟨k, hk⟩ : ∃ k : Int, k = ix % (if (cells.length : Int) > 1 then cells.length else 1) := ⟨_, rfl⟩
                rw [show ((if (cells.length : Int) > 1 then cells.length else 1 : Nat) : Int) = (if (cells.length : Int) > 1 then (cells.length : Int) else 1) by split <;> rfl] at hk
                have hk1 : (0 : Int) < (if (cells.length : Int) > 1 then (cells.length : Int) else 1) := by split <;> omega
                have hk0 : 0 ≤ k := by rw [hk]; exact Int.emod_nonneg _ (by omega)
                have hk2 : k < (cells ++ [(0 : Int)]).length := by
                  have := Int.emod_lt_of_pos ix hk1
                  rw [← hk] at this
                  rw [List.length_append]
                  split at this <;> simp <;> omega
                obtain ⟨c, hc⟩ : ∃ c, (cells ++ [(0 : Int)])[k.toNat]? = some c := ⟨_, List.getElem?_eq_getElem (by omega)⟩
                have hcD : (cells ++ [(0 : Int)]).getD k.toNat 0 = c := by rw [List.getD_eq_getElem?_getD, hc]; rfl
                have ed : drawn st cells ix b = if 1000000000000000000 ≤ c then (c % b, .dr st (cells.set k.toNat (c / b)) ix) else (((st * 48271 + c * 69621 + 11) % 2147483647 / 7) % b, .dr ((st * 48271 + c * 69621 + 11) % 2147483647) cells (ix + 1)) := by
                  unfold drawn
                  rw [show ((if (cells.length : Int) > 1 then cells.length else 1 : Nat) : Int) = (if (cells.length : Int) > 1 then (cells.length : Int) else 1) by split <;> rfl]
                  simp only [← hk, hcD]
                -- the sum of lists
                refine ⟨.ref a, rfl, a, _, 1, .ref q, rfl, rfl, .inl (.inl ha), rfl, ?_⟩
                refine ⟨by rw [sizeLine_eq]; exact (by decide : (1 : Nat) ≤ 16777216), fun p1 hp1 => ?_⟩
                have q1 : q ≠ p1 := ne_of_none hq hp1
                have a1 : a ≠ p1 := ne_of_none ha hp1
                refine ⟨q, p1, _, _, rfl, rfl, by rw [upd_ne q1]; exact hq, upd_same, ?_, fun p2 hp2 => ?_⟩
                · rw [sizeLine_eq, List.length_map]
                  have e1 : ([V.int 0] : List V).length = 1 := rfl
                  rw [e1]; omega
                have hp2' : H p2 = none ∧ p2 ≠ p1 := by
                  have : p2 ≠ p1 := fun e => by rw [e, upd_same] at hp2; cases hp2
                  rw [upd_ne this] at hp2
                  exact ⟨hp2, this⟩
                have q2 : q ≠ p2 := ne_of_none hq hp2'.1
                have a2 : a ≠ p2 := ne_of_none ha hp2'.1
                obtain ⟨H2, eH⟩ : ∃ H2, H2 = upd (upd H p1 (.lst [.int 0])) p2 (.lst (cells.map V.int ++ [.int 0])) := ⟨_, rfl⟩
                have ha2 : H2 a = some (.lst [.int st, .ref q, .int ix]) := by rw [eH, upd_ne a2, upd_ne a1]; exact ha
                have hq2 : H2 q = some (.lst (cells.map V.int)) := by rw [eH, upd_ne q2, upd_ne q1]; exact hq
                have hp3 : H2 p2 = some (.lst (cells.map V.int ++ [.int 0])) := by rw [eH, upd_same]
                have w2 : Wd L s0 m G H2 := by rw [eH]; exact (wd.lay hp1 _).lay hp2 _
                have t2 : Stp m G H m G H2 := by rw [eH]; exact Stp.trans (wd.lay hp1 _) wd (Stp.lay hp1 _) (Stp.lay hp2 _)
                have naq : a ≠ q := hs_two wd.dis hm
                rw [← eH]
                have ek : ix % (if ((cells.map V.int).length : Int) > 1 then ((cells.map V.int).length : Int) else 1) = (k.toNat : Int) := by
                  rw [List.length_map, ← hk]; omega
                refine ⟨.ref a, rfl, a, _, 2, .int ix, rfl, rfl, .inl (.inl ha2), rfl, .inl ⟨ix, rfl, .ref a, rfl, a, _, 1, .ref q, rfl, rfl, .inl (.inl ha2), rfl, q, _, rfl, .inl (.inl (.inl hq2)), _, _, rfl, _, _, rfl, rfl, ?_, p2, _, _, .int c, rfl, rfl, .inl (.inl hp3), ?_, ?_⟩⟩
                · show (0 : Int) < (if ((cells.map V.int).length : Int) > 1 then ((cells.map V.int).length : Int) else 1)
                  rw [List.length_map]; exact hk1
                · show atI _ (ix % (if ((cells.map V.int).length : Int) > 1 then ((cells.map V.int).length : Int) else 1)) = _
                  rw [ek]
                  refine atI_nat ?_
                  rw [show cells.map V.int ++ [V.int 0] = (cells ++ [(0 : Int)]).map V.int by simp, List.getElem?_map, hc]
                  rfl
                rw [ed] at Af
                refine ⟨.int c, rfl, _, _, rfl, rfl, by constructor; decide; constructor <;> decide, _, _, rfl, rfl, _, rfl, ite2 (fun e => ?_) (fun e => ?_)⟩
                · have hge : (1000000000000000000 : Int) ≤ c := of_decide_eq_true e
                  rw [if_pos hge] at Af
                  have hlen : k.toNat < cells.length := by
                    refine Decidable.byContradiction fun z => ?_
                    rw [List.getElem?_append_right (by omega)] at hc
                    have : k.toNat - cells.length = 0 := by
                      rw [List.length_append] at hk2
                      simp at hk2
                      omega
                    rw [this] at hc
                    simp at hc
                    omega
                  have emx : (if (cells.length : Int) > 1 then (cells.length : Int) else 1) = cells.length := by split <;> omega
                  have ek2 : ix % ((cells.map V.int).length : Int) = (k.toNat : Int) := by
                    rw [List.length_map]; rw [emx] at hk; rw [← hk]; omega
                  obtain ⟨w3, t3⟩ := Wd.redraw (st' := st) (cells' := cells.set k.toNat (c / b)) (ix' := ix) w2 hs1 hm
                  have eU : upd (upd H2 q (.lst ((cells.set k.toNat (c / b)).map V.int))) a (.lst [.int st, .ref q, .int ix]) = upd H2 q (.lst ((cells.set k.toNat (c / b)).map V.int)) := by
                    funext z
                    by_cases hz : z = a
                    · rw [hz, upd_same, upd_ne naq]; exact ha2.symm
                    · rw [upd_ne hz]
                  rw [eU] at w3 t3
                  refine ⟨.ref a, rfl, a, _, 1, .ref q, rfl, rfl, .inl (.inl ha2), rfl, .int c, rfl, .int b, rfl, _, _, rfl, rfl, wide_div hb0 (b := 2000) ?_ (by decide) (by decide), .ref q, rfl, .ref a, rfl, a, _, 2, .int ix, rfl, rfl, .inl (.inl ha2), rfl, .inl ⟨ix, rfl, .ref q, rfl, q, _, rfl, .inl (.inl (.inl hq2)), _, _, rfl, rfl, ?_, q, _, _, k.toNat, rfl, rfl, hq2, ?_, .int c, rfl, .inl ⟨c, rfl, .int b, rfl, _, _, rfl, rfl, hb0, ?_⟩⟩⟩
                  · have : b.natAbs < 2 ^ 2000 := by
                      have h1 : (b.natAbs : Int) = b := Int.natAbs_of_nonneg (by omega)
                      have h2 : (b.natAbs : Int) < ((2 ^ 2000 : Nat) : Int) := by rw [h1]; exact_mod_cast hb1
                      exact_mod_cast h2
                    exact this
                  · show (0 : Int) < ((cells.map V.int).length : Int)
                    rw [List.length_map]; omega
                  · show ixN _ (ix % ((cells.map V.int).length : Int)) = _
                    rw [ek2]
                    unfold ixN
                    rw [if_pos (Int.natCast_nonneg _), if_pos (by rw [List.length_map]; omega)]
                    rfl
                  · have := Af m G (upd H2 q (.lst ((cells.set k.toNat (c / b)).map V.int))) (Stp.trans w2 wd t2 t3) w3 (.int (c % b)) (.int _)
                    rw [List.map_set] at this
                    exact this
                · have hlt : ¬ (1000000000000000000 : Int) ≤ c := fun z => e (decide_eq_true z)
                  rw [if_neg hlt] at Af
                  obtain ⟨w3, t3⟩ := Wd.redraw (st' := (st * 48271 + c * 69621 + 11) % 2147483647) (cells' := cells) (ix' := ix + 1) w2 hs1 hm
                  rw [show upd H2 q (.lst (cells.map V.int)) = H2 from by
                    funext z
                    by_cases hz : z = q
                    · rw [hz, upd_same]; exact hq2.symm
                    · rw [upd_ne hz]] at w3 t3
                  refine ⟨.ref a, rfl, a, _, 0, .int st, rfl, rfl, .inl (.inl ha2), rfl, _, _, rfl, rfl, .inr (by constructor <;> decide), .int c, rfl, _, _, rfl, rfl, .inr (by constructor <;> decide), _, _, rfl, rfl, _, _, rfl, rfl, .inl ⟨_, rfl, _, _, rfl, rfl, pos2, .ref a, rfl, a, _, 0, 0, rfl, rfl, ha2, rfl, ?_⟩⟩
                  refine ⟨.ref a, rfl, a, [.int ((st * 48271 + c * 69621 + 11) % 2147483647), .ref q, .int ix], 2, .int ix, rfl, rfl, .inl (.inl upd_same), rfl, _, _, rfl, rfl, .ref a, rfl, a, [.int ((st * 48271 + c * 69621 + 11) % 2147483647), .ref q, .int ix], 2, 2, rfl, rfl, upd_same, rfl, ?_⟩
                  rw [upd_upd]
                  refine ⟨.ref a, rfl, a, [.int ((st * 48271 + c * 69621 + 11) % 2147483647), .ref q, .int (ix + 1)], 0, .int ((st * 48271 + c * 69621 + 11) % 2147483647), rfl, rfl, .inl (.inl upd_same), rfl, _, _, rfl, rfl, pos7, .inl ⟨_, rfl, .int b, rfl, _, _, rfl, rfl, hb0, ?_⟩⟩
                  exact Af m G _ (Stp.trans w2 wd t2 t3) w3 (.int (((st * 48271 + c * 69621 + 11) % 2147483647 / 7) % b)) (.int _)
      · exact False.elim Af
    · exact False.elim Af
  · exact False.elim Af
end
end MP

end
section
set_option Elab.async false
set_option linter.all false
set_option maxRecDepth 100000
set_option maxHeartbeats 1000000
/-! A law's end. -/
namespace MP
open PySem PySem.Spec PyProof.Rows L2

theorem prim_of {t : Tx} {K : PySem.W.Frag} {P : Program} {w : World} {mg : Str → Option Value} {base h : Heap} (X : Say t K) (KX : K.In h) (G : h.Ns mainGlobals mg)
    (hmix : ∀ dm, t.find .mix = some dm → ∃ p, dm.d.body = mixBody p ∧ dm.d.scope = mixScope ∧ dm.d.dfl = [] ∧ dm.d.kwd = [] ∧ dm.fn.names.take dm.fn.pars = (["_law_script", "_law_seed"] : List Str))
    (hnext : ∀ dm, t.find .next = some dm → ∃ p, dm.d.body = nextBody p ∧ dm.d.scope = nextScope ∧ dm.d.dfl = [] ∧ dm.d.kwd = [] ∧ dm.fn.names.take dm.fn.pars = (["_law_h", "_law_bound"] : List Str)) : Prim t K P w mg base := by
  have fc := X.facts
  unfold Tx.facts at fc
  simp only [Bool.and_eq_true, List.all_eq_true] at fc
  have fb : ∀ x ∈ bnames, mg x = none := fun x hx => He.free_ok KX G (fc.1.1.1.1.1.1 x hx)
  refine ⟨fun d fd e F => ?_, fun d fd e F => ?_⟩
  · obtain ⟨p, h1, h2, h3, h4, h5⟩ := hmix d e
    rw [He.DefD.dvs, He.DefD.kws, h1, h2, h3, h4] at F
    rw [h5]
    exact ok_mix (L := t.lay K) (fb _ (by decide +kernel)) (fb _ (by decide +kernel)) F
  · obtain ⟨p, h1, h2, h3, h4, h5⟩ := hnext d e
    rw [He.DefD.dvs, He.DefD.kws, h1, h2, h3, h4] at F
    rw [h5]
    exact ok_next (L := t.lay K) (fb _ (by decide +kernel)) (fb _ (by decide +kernel)) (fb _ (by decide +kernel)) F
theorem walk_mp {l : PySem.W.OpenLaw} {q : Program} {loose : List Str} {XP : (Str → Option Value) → Heap → Prop} {d : DefRec} {t : Tx} {hn n : Nat} {dl : Dd} {x : Str} (hmost : l.most = some 63) (hdf : d.params.defaults = []) (hr : Room (2 * (n + 2)) callerA) (hname : d.name = ("law" : Str)) (ok : t.ok = true)
    (hmix : ∀ dm, t.find .mix = some dm → ∃ p, dm.d.body = mixBody p ∧ dm.d.scope = mixScope ∧ dm.d.dfl = [] ∧ dm.d.kwd = [] ∧ dm.fn.names.take dm.fn.pars = (["_law_script", "_law_seed"] : List Str))
    (hnext : ∀ dm, t.find .next = some dm → ∃ p, dm.d.body = nextBody p ∧ dm.d.scope = nextScope ∧ dm.d.dfl = [] ∧ dm.d.kwd = [] ∧ dm.fn.names.take dm.fn.pars = (["_law_h", "_law_bound"] : List Str))
    (hl : t.find (.law 0) = some dl) (hnm : dl.nm = ("law" : Str)) (hp : dl.fn.names.take dl.fn.pars = [x]) (hfr : dl.fn.fresh = false)
    (hlaw : ∀ ns : List Int, ns.length ≤ 63 → ∃ N s', callN t.T N (n + 1) (.law 0) [.scr ns] [] = .ok (.bl true) s') :
    PySem.W.WalkO q loose XP (t.hook hn).says l.row.toRowW d [] (fun f vs => PySem.call f vs) := by
  refine Att.attach_call hmost hdf fun w s₀ s₁ mg mb fa o pm cd doc a vs ns G Y ho hd hcd hmg hobj hints hlen hg => ?_
  obtain ⟨K, KX, hs⟩ := Y
  have X : Say t K := ⟨hs⟩
  obtain ⟨hm, hf⟩ := find_mem hl
  have hok := List.all_eq_true.mp ok dl hm
  have hz := Dd.okd hok
  obtain ⟨fd, F⟩ := X.fun_ hm hz
  have hok' : okFn t.ck dl.fn dl.d = true := by
    unfold Dd.ok at hok
    rw [hf] at hok
    exact hok
  obtain ⟨_, _, hlen2, hle⟩ := binds_of (L := t.lay K) (fn := dl.fn) F hz
  have hpars : dl.fn.pars = 1 := by rw [← hlen2, hp]; rfl
  have ead : dl.ad K = He.ga K "law" := by
    unfold Dd.ad adOf
    rw [hf, hnm]
  have hfa : fa = dl.ad K := by
    have hd := X.dB hm
    unfold MP.dB at hd
    simp only [Bool.and_eq_true] at hd
    have h2 := hd.2
    rw [hf] at h2
    have h3 := He.glo_ok KX G.T.g h2
    rw [hnm] at h3
    rw [hname] at hmg
    rw [hmg] at h3
    rw [ead]
    cases h3
    rfl
  have hb : ∀ (s : Shared) (u : Value), BindsTo s fd ⟨[u], []⟩ [(x, u)] := fun s u => by
    unfold okDef at hz
    simp only [Bool.and_eq_true, decide_eq_true_eq, List.isEmpty_iff] at hz
    obtain ⟨⟨⟨⟨h1, h2⟩, h3⟩, h4⟩, h5⟩ := hz
    have e := plainA_of h1
    rw [He.DefD.dvs, h4, List.map_nil] at F
    have h2' : dl.d.params.args.map (·.arg) = [x] := by rw [h2, hp]
    have := FunD.bindsA (ps := [x]) F (fun kV doc pm an cdv ct us hl => by
      have := bind_plain (x := dl.d.name) (qual := dl.d.qual) (as := dl.d.params.args) (body := dl.d.body) (scope := dl.d.scope) (kV := kV) (doc := doc) (pm := pm) (cdv := cdv) (ct := ct) (an := an) (us := us) (by rw [h2']; simp) (by rw [h2']; exact hl)
      rw [← e, h2'] at this
      exact this) s [u] rfl
    exact this
  have hF : ∀ base : Heap, K.In base → base.Ns mainGlobals mg → FnOk l.prog w K mg base (CX l.prog w) (2 * (n + 2)) fa fd [x] (fun vs H Q E => ∃ N, spF (t.lay K) 1 false (callN t.T N (n + 1) (.law 0)) vs H Q E) := fun base KB GB => by
    have one : ∀ N, FnOk l.prog w K mg base (CX l.prog w) (2 * (n + 2)) fa fd [x] (spF (t.lay K) 1 false (callN t.T N (n + 1) (.law 0))) := fun N => by
      have S := stat_all (N := N) X KB GB ok (prim_of (P := l.prog) (w := w) (base := base) X KB GB hmix hnext) n
      have := (fn_ok (L := t.lay K) S F hok').1
      rw [hp, hpars, hfr, ← hfa] at this
      have eT : t.T (.law 0) = some dl.fn := by unfold Tx.T; rw [hl]; rfl
      have ec : callN t.T N (n + 1) (.law 0) = runFn ⟨callN t.T N n, N⟩ dl.fn := by
        funext ds s
        show (match t.T (.law 0) with | some fn => runFn ⟨callN t.T N n, N⟩ fn ds s | none => .st) = _
        rw [eT]
      rw [ec]
      exact this
    exact ⟨fun vs H Q E ⟨N, h⟩ => (one N).len vs H Q E h, fun A outer s H args us vs Q E h1 h2 h3 h4 ⟨N, h5⟩ => (one N).run A outer s H args us vs Q E h1 h2 h3 h4 h5⟩
  refine law_call KX G.T.g G.T.b G.T.builtins G.T.nolimit hg hobj hints (Nat.le_trans hlen (by rw [sizeLine_eq]; decide)) hr hF hb (fun H hO hS => ?_) fun H e s' h => ?_
  · obtain ⟨N, s', ec⟩ := hlaw ns hlen
    refine ⟨N, rfl, [.scr ns], [], [], H, ⟨Same.refl _, rfl, fun n st cells ix a b h1 => by simp at h1, fun a h => by simp [MP.hs] at h, by simp [MP.hs]⟩, .one (.scr hS), ?_⟩
    rw [ec]
    exact fun m' G' H' t' w' v r => RB.bl (H := H') (.rep r)
  · obtain ⟨_, _, _, _, _, _, _, _, _, _, _, _, z⟩ := h
    exact z
end MP

end
section
set_option Elab.async false
set_option linter.all false
set_option maxRecDepth 100000
namespace MP
open PySem
/-! BadFacts.__init__ -/
def f_ini_err_3 : Fn := ⟨["self", "index"], 2, .nil, false⟩
/-! is_integer -/
def f_p_0 : Fn := ⟨["value"], 1, (.cons (.ret (.and (.isa (.var 0) .int) (.nott (.isa (.var 0) .bool)))) .nil), false⟩
/-! is_from -/
def f_p_1 : Fn := ⟨["value", "low", "high"], 3, (.cons (.ret (.and (.call (.p 0) (.cons (.var 0) .nil)) (.chain .le .le (.var 1) (.var 0) (.var 2)))) .nil), false⟩
/-! is_fact -/
def f_p_2 : Fn := ⟨["value", "cells"], 2, (.cons (.ite (.or (.nott (.isa (.var 0) .tuple)) (.cmp .ne (.b1 .len (.var 0)) (.int 4))) (.cons (.ret (.bl false)) .nil) .nil) (.cons (.ite (.or (.nott (.call (.p 1) (.cons (.ix (.var 0) (.int 0)) (.cons (.int 0) (.cons (.bin .sub (.var 1) (.int 1)) .nil))))) (.nott (.call (.p 1) (.cons (.ix (.var 0) (.int 1)) (.cons (.bin .add (.ix (.var 0) (.int 0)) (.int 1)) (.cons (.var 1) .nil)))))) (.cons (.ret (.bl false)) .nil) .nil) (.cons (.ret (.and (.call (.p 1) (.cons (.ix (.var 0) (.int 2)) (.cons (.int 0) (.cons (.int 100000000000000000000000000000000) .nil)))) (.call (.p 1) (.cons (.ix (.var 0) (.int 3)) (.cons (.ix (.var 0) (.int 2)) (.cons (.int 100000000000000000000000000000000) .nil)))))) .nil))), false⟩
/-! Book.__init__ -/
def f_ini_book_b0 : Ss := (.cons (.ite (.nott (.call (.p 2) (.cons (.var 5) (.cons (.var 1) .nil)))) (.cons (.rais (.err 3) (.cons (.var 4) .nil)) .nil) .nil) .nil)
def f_ini_book_l1 : S := .for (.tp (.cons (.nm 4) (.cons (.nm 5) .nil))) (.en (.var 3)) f_ini_book_b0
def f_ini_book : Fn := ⟨["self", "cells", "most", "facts", "index", "fact"], 4, (.cons (.ite (.nott (.call (.p 1) (.cons (.var 1) (.cons (.int 1) (.cons (.int 20) .nil))))) (.cons (.rais (.err 1) .nil) .nil) .nil) (.cons (.ite (.nott (.call (.p 1) (.cons (.var 2) (.cons (.int 0) (.cons (.int 1000000000000000000000000000000) .nil))))) (.cons (.rais (.err 2) .nil) .nil) .nil) (.cons (.ite (.or (.nott (.isa (.var 3) .tuple)) (.cmp .gt (.b1 .len (.var 3)) (.int 12))) (.cons (.rais (.err 3) (.cons .non .nil)) .nil) .nil) (.cons f_ini_book_l1 (.cons (.seta 0 .book (.tup (.cons (.var 1) (.cons (.var 2) (.cons (.var 3) .nil))))) .nil))))), false⟩
/-! Book.cells -/
def f_pr_book_0 : Fn := ⟨["self"], 1, (.cons (.ret (.ix (.fld (.var 0) .book 0) (.int 0))) .nil), false⟩
/-! Book.most -/
def f_pr_book_1 : Fn := ⟨["self"], 1, (.cons (.ret (.ix (.fld (.var 0) .book 0) (.int 1))) .nil), false⟩
/-! Book.facts -/
def f_pr_book_2 : Fn := ⟨["self"], 1, (.cons (.ret (.ix (.fld (.var 0) .book 0) (.int 2))) .nil), false⟩
/-! Book.__len__ -/
def f_len_book : Fn := ⟨["self"], 1, (.cons (.ret (.b1 .len (.ix (.fld (.var 0) .book 0) (.int 2)))) .nil), false⟩
/-! Book.__eq__ -/
def f_eq_book : Fn := ⟨["self", "other"], 2, (.cons (.ret (.and (.isa (.var 1) (.cls .book)) (.cmp .eq (.fld (.var 0) .book 0) (.fld (.var 1) .book 0)))) .nil), false⟩
/-! check_book -/
def f_p_3 : Fn := ⟨["value"], 1, (.cons (.ite (.nott (.isa (.var 0) (.cls .book))) (.cons (.rais (.err 4) .nil) .nil) .nil) .nil), false⟩
/-! check_row -/
def f_p_4_b0 : Ss := (.cons (.ite (.nott (.call (.p 1) (.cons (.var 2) (.cons (.int 0) (.cons (.ix (.fld (.var 0) .book 0) (.int 1)) .nil))))) (.cons (.rais (.err 5) .nil) .nil) .nil) .nil)
def f_p_4_l1 : S := .for (.nm 2) (.of (.var 1)) f_p_4_b0
def f_p_4 : Fn := ⟨["book", "value", "number"], 2, (.cons (.ite (.or (.nott (.isa (.var 1) .tuple)) (.cmp .ne (.b1 .len (.var 1)) (.ix (.fld (.var 0) .book 0) (.int 0)))) (.cons (.rais (.err 5) .nil) .nil) .nil) (.cons f_p_4_l1 .nil)), false⟩
/-! broken_by -/
def f_p_5_b0 : Ss := (.cons (.asg (.tp (.cons (.nm 5) (.cons (.nm 6) (.cons (.nm 7) (.cons (.nm 8) .nil))))) (.var 4)) (.cons (.ite (.nott (.chain .le .le (.var 7) (.b1 .sum (.sl (.var 1) (.so (.var 5)) (.so (.var 6)))) (.var 8))) (.cons (.app 2 (.var 3)) .nil) .nil) .nil))
def f_p_5_l1 : S := .for (.tp (.cons (.nm 3) (.cons (.nm 4) .nil))) (.en (.ix (.fld (.var 0) .book 0) (.int 2))) f_p_5_b0
def f_p_5 : Fn := ⟨["book", "row", "found", "index", "fact", "begin", "end", "low", "high"], 2, (.cons (.own 2 (.lst .nil)) (.cons f_p_5_l1 (.cons (.frz 2) (.cons (.ret (.var 2)) .nil)))), false⟩
/-! broken -/
def f_p_6 : Fn := ⟨["book", "row"], 2, (.cons (.expr (.call (.p 3) (.cons (.var 0) .nil))) (.cons (.expr (.call (.p 4) (.cons (.var 0) (.cons (.var 1) .nil)))) (.cons (.ret (.call (.p 5) (.cons (.var 0) (.cons (.var 1) .nil)))) .nil))), false⟩
/-! _law_mix -/
def f_mix : Fn := ⟨["_law_script", "_law_seed", "_law_state", "_law_cell"], 2, .nil, false⟩
/-! _law_next -/
def f_next : Fn := ⟨["_law_h", "_law_bound", "_law_cell", "_law_cells"], 2, .nil, false⟩
/-! _law_stretch -/
def f_law_1 : Fn := ⟨["_law_h", "_law_cells", "_law_begin"], 2, (.cons (.asg (.nm 2) (.call (.next) (.cons (.var 0) (.cons (.var 1) .nil)))) (.cons (.ret (.tup (.cons (.var 2) (.cons (.bin .add (.bin .add (.var 2) (.int 1)) (.call (.next) (.cons (.var 0) (.cons (.bin .sub (.var 1) (.var 2)) .nil)))) .nil)))) .nil)), false⟩
/-! _law_fact -/
def f_law_2 : Fn := ⟨["_law_h", "_law_row", "_law_loose", "_law_own", "_law_begin", "_law_end", "_law_low", "_law_high"], 3, (.cons (.asg (.tp (.cons (.nm 4) (.cons (.nm 5) .nil))) (.call (.law 1) (.cons (.var 0) (.cons (.b1 .len (.var 1)) .nil)))) (.cons (.asg (.nm 3) (.b1 .sum (.sl (.var 1) (.so (.var 4)) (.so (.var 5))))) (.cons (.par [6, 7] (.cons (.b2 .max (.int 0) (.bin .sub (.var 3) (.call (.next) (.cons (.var 0) (.cons (.var 2) .nil))))) (.cons (.bin .add (.var 3) (.call (.next) (.cons (.var 0) (.cons (.var 2) .nil)))) .nil))) (.cons (.ite (.cmp .eq (.call (.next) (.cons (.var 0) (.cons (.int 12) .nil))) (.int 0)) (.cons (.par [6, 7] (.cons (.var 7) (.cons (.bin .add (.var 7) (.call (.next) (.cons (.var 0) (.cons (.var 2) .nil)))) .nil))) .nil) .nil) (.cons (.ret (.tup (.cons (.var 4) (.cons (.var 5) (.cons (.var 6) (.cons (.var 7) .nil)))))) .nil))))), false⟩
/-! _law_fact -/
def f_law_2_k11 : Fn := ⟨["_law_h", "_law_row", "_law_loose_here", "_law_own", "_law_begin", "_law_end", "_law_low", "_law_high"], 3, (.cons (.asg (.tp (.cons (.nm 4) (.cons (.nm 5) .nil))) (.call (.law 1) (.cons (.var 0) (.cons (.b1 .len (.var 1)) .nil)))) (.cons (.asg (.nm 3) (.b1 .sum (.sl (.var 1) (.so (.var 4)) (.so (.var 5))))) (.cons (.par [6, 7] (.cons (.b2 .max (.int 0) (.bin .sub (.var 3) (.call (.next) (.cons (.var 0) (.cons (.var 2) .nil))))) (.cons (.bin .add (.var 3) (.call (.next) (.cons (.var 0) (.cons (.var 2) .nil)))) .nil))) (.cons (.ite (.cmp .eq (.call (.next) (.cons (.var 0) (.cons (.int 12) .nil))) (.int 0)) (.cons (.par [6, 7] (.cons (.var 7) (.cons (.bin .add (.var 7) (.call (.next) (.cons (.var 0) (.cons (.var 2) .nil)))) .nil))) .nil) .nil) (.cons (.ret (.tup (.cons (.var 4) (.cons (.var 5) (.cons (.var 6) (.cons (.var 7) .nil)))))) .nil))))), false⟩
/-! _law_fact -/
def f_law_2_k20 : Fn := ⟨["_law_h", "_law_row_here", "_law_loose", "_law_own", "_law_begin", "_law_end", "_law_low", "_law_high"], 3, (.cons (.asg (.tp (.cons (.nm 4) (.cons (.nm 5) .nil))) (.call (.law 1) (.cons (.var 0) (.cons (.b1 .len (.var 1)) .nil)))) (.cons (.asg (.nm 3) (.b1 .sum (.sl (.var 1) (.so (.var 4)) (.so (.var 5))))) (.cons (.par [6, 7] (.cons (.b2 .max (.int 0) (.bin .sub (.var 3) (.call (.next) (.cons (.var 0) (.cons (.var 2) .nil))))) (.cons (.bin .add (.var 3) (.call (.next) (.cons (.var 0) (.cons (.var 2) .nil)))) .nil))) (.cons (.ite (.cmp .eq (.call (.next) (.cons (.var 0) (.cons (.int 12) .nil))) (.int 0)) (.cons (.par [6, 7] (.cons (.var 7) (.cons (.bin .add (.var 7) (.call (.next) (.cons (.var 0) (.cons (.var 2) .nil)))) .nil))) .nil) .nil) (.cons (.ret (.tup (.cons (.var 4) (.cons (.var 5) (.cons (.var 6) (.cons (.var 7) .nil)))))) .nil))))), false⟩
/-! _law_book -/
def f_law_3_c0 : E := (.lc (.call (.next) (.cons (.var 0) (.cons (.bin .add (.var 2) (.int 1)) .nil))) (.nm 7) (.rg1 (.var 1)))
def f_law_3_c1 : E := (.lc (.call (.law 2) (.cons (.var 0) (.cons (.var 4) (.cons (.var 5) .nil)))) (.nm 7) (.rg1 (.call (.next) (.cons (.var 0) (.cons (.bin .add (.var 3) (.int 1)) .nil)))))
def f_law_3 : Fn := ⟨["_law_h", "_law_cells", "_law_most", "_law_many", "_law_row", "_law_loose", "_law_facts", "_law_k"], 4, (.cons (.asg (.tp (.cons (.nm 1) (.cons (.nm 2) .nil))) (.tup (.cons (.bin .add (.int 1) (.call (.next) (.cons (.var 0) (.cons (.var 1) .nil)))) (.cons (.call (.next) (.cons (.var 0) (.cons (.bin .add (.var 2) (.int 1)) .nil))) .nil)))) (.cons (.asg (.nm 4) f_law_3_c0) (.cons (.asg (.nm 5) (.ix (.lst (.cons (.int 1) (.cons (.int 2) (.cons (.int 2) (.cons (.bin .add (.int 1) (.var 2)) .nil))))) (.call (.next) (.cons (.var 0) (.cons (.int 4) .nil))))) (.cons (.asg (.nm 6) f_law_3_c1) (.cons (.ret (.lst (.cons (.var 1) (.cons (.var 2) (.cons (.b1 .tuple (.var 6)) .nil))))) .nil))))), true⟩
/-! _law_book -/
def f_law_3_k11_c0 : E := (.lc (.call (.next) (.cons (.var 0) (.cons (.bin .add (.var 2) (.int 1)) .nil))) (.nm 7) (.rg1 (.var 1)))
def f_law_3_k11_c1 : E := (.lc (.call (.law 2) (.cons (.var 0) (.cons (.var 4) (.cons (.var 5) .nil)))) (.nm 7) (.rg1 (.call (.next) (.cons (.var 0) (.cons (.bin .add (.var 3) (.int 1)) .nil)))))
def f_law_3_k11 : Fn := ⟨["_law_h", "_law_cells", "_law_most", "_law_many", "_law_row", "_law_loose_here", "_law_facts", "_law_k"], 4, (.cons (.asg (.tp (.cons (.nm 1) (.cons (.nm 2) .nil))) (.tup (.cons (.bin .add (.int 1) (.call (.next) (.cons (.var 0) (.cons (.var 1) .nil)))) (.cons (.call (.next) (.cons (.var 0) (.cons (.bin .add (.var 2) (.int 1)) .nil))) .nil)))) (.cons (.asg (.nm 4) f_law_3_k11_c0) (.cons (.asg (.nm 5) (.ix (.lst (.cons (.int 1) (.cons (.int 2) (.cons (.int 2) (.cons (.bin .add (.int 1) (.var 2)) .nil))))) (.call (.next) (.cons (.var 0) (.cons (.int 4) .nil))))) (.cons (.asg (.nm 6) f_law_3_k11_c1) (.cons (.ret (.lst (.cons (.var 1) (.cons (.var 2) (.cons (.b1 .tuple (.var 6)) .nil))))) .nil))))), true⟩
/-! _law_book -/
def f_law_3_k20_c0 : E := (.lc (.call (.next) (.cons (.var 0) (.cons (.bin .add (.var 2) (.int 1)) .nil))) (.nm 7) (.rg1 (.var 1)))
def f_law_3_k20_c1 : E := (.lc (.call (.law 2) (.cons (.var 0) (.cons (.var 4) (.cons (.var 5) .nil)))) (.nm 7) (.rg1 (.call (.next) (.cons (.var 0) (.cons (.bin .add (.var 3) (.int 1)) .nil)))))
def f_law_3_k20 : Fn := ⟨["_law_h", "_law_cells", "_law_most", "_law_many", "_law_row_here", "_law_loose", "_law_facts", "_law_k"], 4, (.cons (.asg (.tp (.cons (.nm 1) (.cons (.nm 2) .nil))) (.tup (.cons (.bin .add (.int 1) (.call (.next) (.cons (.var 0) (.cons (.var 1) .nil)))) (.cons (.call (.next) (.cons (.var 0) (.cons (.bin .add (.var 2) (.int 1)) .nil))) .nil)))) (.cons (.asg (.nm 4) f_law_3_k20_c0) (.cons (.asg (.nm 5) (.ix (.lst (.cons (.int 1) (.cons (.int 2) (.cons (.int 2) (.cons (.bin .add (.int 1) (.var 2)) .nil))))) (.call (.next) (.cons (.var 0) (.cons (.int 4) .nil))))) (.cons (.asg (.nm 6) f_law_3_k20_c1) (.cons (.ret (.lst (.cons (.var 1) (.cons (.var 2) (.cons (.b1 .tuple (.var 6)) .nil))))) .nil))))), true⟩
/-! _law_holds -/
def f_law_4 : Fn := ⟨["_law_row", "_law_fact_here"], 2, (.cons (.ret (.chain .le .le (.ix (.var 1) (.int 2)) (.b1 .sum (.sl (.var 0) (.so (.ix (.var 1) (.int 0))) (.so (.ix (.var 1) (.int 1))))) (.ix (.var 1) (.int 3)))) .nil), false⟩
/-! _law_holds -/
def f_law_4_k20 : Fn := ⟨["_law_row_here", "_law_fact_here"], 2, (.cons (.ret (.chain .le .le (.ix (.var 1) (.int 2)) (.b1 .sum (.sl (.var 0) (.so (.ix (.var 1) (.int 0))) (.so (.ix (.var 1) (.int 1))))) (.ix (.var 1) (.int 3)))) .nil), false⟩
/-! _law_all -/
def f_law_5_c0 : E := (.lc (.bin .add (.var 5) (.tup (.cons (.var 6) .nil))) (.nm 6) (.rg1 (.bin .add (.var 1) (.int 1))))
def f_law_5_b1 : Ss := (.cons (.asg (.nm 4) (.bin .add (.var 4) f_law_5_c0)) .nil)
def f_law_5_l2 : S := .for (.nm 5) (.of (.var 2)) f_law_5_b1
def f_law_5_b3 : Ss := (.cons (.asg (.nm 4) (.lst .nil)) (.cons f_law_5_l2 (.cons (.asg (.nm 2) (.var 4)) .nil)))
def f_law_5_l4 : S := .for (.nm 3) (.rg1 (.var 0)) f_law_5_b3
def f_law_5 : Fn := ⟨["_law_cells", "_law_most", "_law_found", "_law_k", "_law_longer", "_law_row", "_law_x"], 2, (.cons (.asg (.nm 2) (.lst (.cons (.tup .nil) .nil))) (.cons f_law_5_l4 (.cons (.ret (.var 2)) .nil))), false⟩
/-! _law_all -/
def f_law_5_k20_c0 : E := (.lc (.bin .add (.var 5) (.tup (.cons (.var 6) .nil))) (.nm 6) (.rg1 (.bin .add (.var 1) (.int 1))))
def f_law_5_k20_b1 : Ss := (.cons (.asg (.nm 4) (.bin .add (.var 4) f_law_5_k20_c0)) .nil)
def f_law_5_k20_l2 : S := .for (.nm 5) (.of (.var 2)) f_law_5_k20_b1
def f_law_5_k20_b3 : Ss := (.cons (.asg (.nm 4) (.lst .nil)) (.cons f_law_5_k20_l2 (.cons (.asg (.nm 2) (.var 4)) .nil)))
def f_law_5_k20_l4 : S := .for (.nm 3) (.rg1 (.var 0)) f_law_5_k20_b3
def f_law_5_k20 : Fn := ⟨["_law_cells", "_law_most", "_law_found", "_law_k", "_law_longer", "_law_row_here", "_law_x"], 2, (.cons (.asg (.nm 2) (.lst (.cons (.tup .nil) .nil))) (.cons f_law_5_k20_l4 (.cons (.ret (.var 2)) .nil))), false⟩
/-! _law_fitting -/
def f_law_6_c0 : E := (.lci (.var 2) (.nm 2) (.of (.ix (.var 0) (.int 2))) (.nott (.call (.law 4) (.cons (.var 1) (.cons (.var 2) .nil)))))
def f_law_6_c1 : E := (.lci (.var 1) (.nm 1) (.of (.call (.law 5) (.cons (.ix (.var 0) (.int 0)) (.cons (.ix (.var 0) (.int 1)) .nil)))) (.cmp .eq f_law_6_c0 (.lst .nil)))
def f_law_6 : Fn := ⟨["_law_b", "_law_row", "_law_fact_here"], 1, (.cons (.ret f_law_6_c1) .nil), false⟩
/-! _law_fitting -/
def f_law_6_k20_c0 : E := (.lci (.var 2) (.nm 2) (.of (.ix (.var 0) (.int 2))) (.nott (.call (.law 4) (.cons (.var 1) (.cons (.var 2) .nil)))))
def f_law_6_k20_c1 : E := (.lci (.var 1) (.nm 1) (.of (.call (.law 5) (.cons (.ix (.var 0) (.int 0)) (.cons (.ix (.var 0) (.int 1)) .nil)))) (.cmp .eq f_law_6_k20_c0 (.lst .nil)))
def f_law_6_k20 : Fn := ⟨["_law_b", "_law_row_here", "_law_fact_here"], 1, (.cons (.ret f_law_6_k20_c1) .nil), false⟩
/-! law -/
def f_law_0_c0 : E := (.lc (.call (.next) (.cons (.var 1) (.cons (.bin .add (.ix (.var 2) (.int 1)) (.int 1)) .nil))) (.nm 6) (.rg1 (.ix (.var 2) (.int 0))))
def f_law_0_c1 : E := (.lci (.var 6) (.nm 6) (.rg1 (.b1 .len (.ix (.var 2) (.int 2)))) (.nott (.call (.law 4) (.cons (.var 4) (.cons (.ix (.ix (.var 2) (.int 2)) (.var 6)) .nil)))))
def f_law_0 : Fn := ⟨["_law_script", "_law_h", "_law_b", "_law_told", "_law_row", "_law_own", "_law_k"], 1, (.cons (.asg (.nm 1) (.call (.mix) (.cons (.var 0) (.cons (.int 1) .nil)))) (.cons (.asg (.nm 2) (.call (.law 3) (.cons (.var 1) (.cons (.int 20) (.cons (.ix (.lst (.cons (.int 3) (.cons (.int 9) (.cons (.bin .pow (.int 10) (.int 30)) .nil)))) (.call (.next) (.cons (.var 1) (.cons (.int 3) .nil)))) (.cons (.int 12) .nil)))))) (.cons (.asg (.nm 3) (.make .book (.cons (.ix (.var 2) (.int 0)) (.cons (.ix (.var 2) (.int 1)) (.cons (.ix (.var 2) (.int 2)) .nil))))) (.cons (.ite (.or (.cmp .ne (.prop (.var 3) .book 0) (.ix (.var 2) (.int 0))) (.or (.cmp .ne (.prop (.var 3) .book 1) (.ix (.var 2) (.int 1))) (.or (.cmp .ne (.prop (.var 3) .book 2) (.ix (.var 2) (.int 2))) (.cmp .ne (.leno (.var 3) .book) (.b1 .len (.ix (.var 2) (.int 2))))))) (.cons (.ret (.bl false)) .nil) .nil) (.cons (.ite (.or (.nott (.eqo .book (.var 3) (.make .book (.cons (.ix (.var 2) (.int 0)) (.cons (.ix (.var 2) (.int 1)) (.cons (.ix (.var 2) (.int 2)) .nil)))))) (.eqo .book (.var 3) (.tup (.cons (.ix (.var 2) (.int 0)) (.cons (.ix (.var 2) (.int 1)) (.cons (.ix (.var 2) (.int 2)) .nil)))))) (.cons (.ret (.bl false)) .nil) .nil) (.cons (.ite (.or (.and (.cmp .ne (.ix (.var 2) (.int 2)) (.tup .nil)) (.eqo .book (.var 3) (.make .book (.cons (.ix (.var 2) (.int 0)) (.cons (.ix (.var 2) (.int 1)) (.cons (.sl (.ix (.var 2) (.int 2)) (.so (.int 1)) .no) .nil)))))) (.and (.cmp .lt (.ix (.var 2) (.int 1)) (.bin .pow (.int 10) (.int 30))) (.eqo .book (.var 3) (.make .book (.cons (.ix (.var 2) (.int 0)) (.cons (.bin .add (.ix (.var 2) (.int 1)) (.int 1)) (.cons (.ix (.var 2) (.int 2)) .nil))))))) (.cons (.ret (.bl false)) .nil) .nil) (.cons (.asg (.nm 4) (.b1 .tuple f_law_0_c0)) (.cons (.asg (.nm 5) (.call (.p 6) (.cons (.var 3) (.cons (.var 4) .nil)))) (.cons (.ret (.and (.cmp .eq (.var 5) f_law_0_c1) (.isa (.var 5) .list))) .nil))))))))), false⟩
/-! law -/
def f_law_0_k02_c0 : E := (.lc (.b1 .sum (.sl (.var 14) (.so (.var 3)) (.so (.var 11)))) (.nm 14) (.of (.var 8)))
def f_law_0_k02_b1 : Ss := (.cons (.asg (.nm 12) f_law_0_k02_c0) (.cons (.ite (.cmp .ne (.call (.p 17) (.cons (.var 7) (.cons (.var 3) (.cons (.var 11) .nil)))) (.tup (.cons (.b1 .min (.var 12)) (.cons (.b1 .max (.var 12)) .nil)))) (.cons (.ret (.bl false)) .nil) .nil) .nil))
def f_law_0_k02_l2 : S := .for (.nm 11) (.rg2 (.bin .add (.var 3) (.int 1)) (.bin .add (.ix (.var 2) (.int 0)) (.int 1))) f_law_0_k02_b1
def f_law_0_k02_b3 : Ss := (.cons f_law_0_k02_l2 .nil)
def f_law_0_k02_l4 : S := .for (.nm 3) (.rg1 (.ix (.var 2) (.int 0))) f_law_0_k02_b3
def f_law_0_k02_c5 : E := (.lci (.var 14) (.nm 14) (.of (.var 8)) (.cmp .ne (.ix (.var 14) (.var 13)) (.ix (.ix (.var 8) (.int 0)) (.var 13))))
def f_law_0_k02_c6 : E := (.lci (.tup (.cons (.var 13) (.cons (.ix (.ix (.var 8) (.int 0)) (.var 13)) .nil))) (.nm 13) (.rg1 (.ix (.var 2) (.int 0))) (.cmp .eq f_law_0_k02_c5 (.lst .nil)))
def f_law_0_k02_c7 : E := (.lci (.var 14) (.nm 14) (.of (.var 8)) (.cmp .eq (.b1 .sum (.sl (.var 14) (.so (.var 9)) (.so (.var 10)))) (.var 5)))
def f_law_0_k02 : Fn := ⟨["_law_script", "_law_h", "_law_b", "_law_one", "_law_sure_here", "_law_number", "_law_those", "_law_told", "_law_fine", "_law_begin", "_law_end", "_law_other", "_law_own", "_law_k", "_law_row"], 1, (.cons (.asg (.nm 1) (.call (.mix) (.cons (.var 0) (.cons (.int 2) .nil)))) (.cons (.ite (.cmp .eq (.call (.next) (.cons (.var 1) (.cons (.int 4) .nil))) (.int 0)) (.cons (.ret (.call (.law 15) (.cons (.var 1) .nil))) .nil) .nil) (.cons (.asg (.nm 2) (.call (.law 3) (.cons (.var 1) (.cons (.int 4) (.cons (.int 3) (.cons (.int 5) .nil)))))) (.cons (.asg (.tp (.cons (.nm 7) (.cons (.nm 8) .nil))) (.tup (.cons (.make .book (.cons (.ix (.var 2) (.int 0)) (.cons (.ix (.var 2) (.int 1)) (.cons (.ix (.var 2) (.int 2)) .nil)))) (.cons (.call (.law 6) (.cons (.var 2) .nil)) .nil)))) (.cons (.ite (.or (.cmp .ne (.call (.p 11) (.cons (.var 7) .nil)) (.cmp .ne (.var 8) (.lst .nil))) (.cmp .ne (.call (.law 11) (.cons (.var 7) .nil)) (.ifx (.cmp .ne (.var 8) (.lst .nil)) (.ix (.var 8) (.int 0)) .non))) (.cons (.ret (.bl false)) .nil) .nil) (.cons (.ite (.cmp .ne (.call (.p 21) (.cons (.var 7) .nil)) (.call (.law 13) (.cons (.var 2) (.cons (.var 8) .nil)))) (.cons (.ret (.bl false)) .nil) .nil) (.cons (.asg (.tp (.cons (.nm 9) (.cons (.nm 10) .nil))) (.call (.law 1) (.cons (.var 1) (.cons (.ix (.var 2) (.int 0)) .nil)))) (.cons (.ite (.cmp .eq (.var 8) (.lst .nil)) (.cons (.ret (.and (.cmp .isn (.call (.law 10) (.cons (.var 7) (.cons (.var 9) (.cons (.var 10) .nil)))) .non) (.cmp .isn (.call (.law 12) (.cons (.var 7) .nil)) .non))) .nil) .nil) (.cons f_law_0_k02_l4 (.cons (.asg (.nm 4) f_law_0_k02_c6) (.cons (.asg (.nm 5) (.bin .sub (.call (.next) (.cons (.var 1) (.cons (.int 9) .nil))) (.int 1))) (.cons (.asg (.nm 6) f_law_0_k02_c7) (.cons (.ite (.cmp .ne (.call (.p 18) (.cons (.var 7) (.cons (.var 9) (.cons (.var 10) (.cons (.var 5) .nil))))) (.ifx (.cmp .ne (.var 6) (.lst .nil)) (.ix (.var 6) (.int 0)) .non)) (.cons (.ret (.bl false)) .nil) .nil) (.cons (.ret (.cmp .eq (.call (.law 12) (.cons (.var 7) .nil)) (.var 4))) .nil)))))))))))))), false⟩
/-! law -/
def f_law_0_k03_b0 : Ss := (.cons (.asg (.tp (.cons (.nm 8) (.cons (.nm 9) .nil))) (.call (.law 1) (.cons (.var 1) (.cons (.ix (.var 2) (.int 0)) .nil)))) (.cons (.par [10, 11] (.cons (.neg (.ix (.var 7) (.tup (.cons (.var 9) (.cons (.var 8) .nil))))) (.cons (.ix (.var 7) (.tup (.cons (.var 8) (.cons (.var 9) .nil)))) .nil))) (.cons (.ite (.cmp .ne (.call (.p 17) (.cons (.var 6) (.cons (.var 8) (.cons (.var 9) .nil)))) (.tup (.cons (.var 10) (.cons (.var 11) .nil)))) (.cons (.ret (.bl false)) .nil) .nil) .nil)))
def f_law_0_k03_l1 : S := .for (.nm 3) (.rg1 (.int 2)) f_law_0_k03_b0
def f_law_0_k03 : Fn := ⟨["_law_script", "_law_h", "_law_b", "_law_turn", "_law_number", "_law_row", "_law_told", "_law_far", "_law_begin", "_law_end", "_law_low", "_law_high"], 1, (.cons (.asg (.nm 1) (.call (.mix) (.cons (.var 0) (.cons (.int 3) .nil)))) (.cons (.asg (.nm 2) (.call (.law 3) (.cons (.var 1) (.cons (.ifx (.cmp .gt (.call (.next) (.cons (.var 1) (.cons (.int 4) .nil))) (.int 0)) (.int 12) (.int 20)) (.cons (.ix (.lst (.cons (.int 5) (.cons (.int 60) (.cons (.bin .pow (.int 10) (.int 30)) .nil)))) (.call (.next) (.cons (.var 1) (.cons (.int 3) .nil)))) (.cons (.int 12) .nil)))))) (.cons (.par [6, 7] (.cons (.make .book (.cons (.ix (.var 2) (.int 0)) (.cons (.ix (.var 2) (.int 1)) (.cons (.ix (.var 2) (.int 2)) .nil)))) (.cons (.call (.law 7) (.cons (.var 2) .nil)) .nil))) (.cons (.ite (.cmp .ne (.call (.p 11) (.cons (.var 6) .nil)) (.cmp .notn (.var 7) .non)) (.cons (.ret (.bl false)) .nil) .nil) (.cons (.ite (.cmp .isn (.var 7) .non) (.cons (.ret (.bl true)) .nil) .nil) (.cons f_law_0_k03_l1 (.cons (.asg (.nm 4) (.bin .add (.var 10) (.call (.next) (.cons (.var 1) (.cons (.bin .add (.bin .sub (.var 11) (.var 10)) (.int 1)) .nil))))) (.cons (.ite (.or (.nott (.call (.law 16) (.cons (.var 6) (.cons (.var 2) (.cons (.var 8) (.cons (.var 9) (.cons (.var 10) .nil))))))) (.nott (.call (.law 16) (.cons (.var 6) (.cons (.var 2) (.cons (.var 8) (.cons (.var 9) (.cons (.var 11) .nil)))))))) (.cons (.ret (.bl false)) .nil) .nil) (.cons (.ite (.nott (.call (.law 16) (.cons (.var 6) (.cons (.var 2) (.cons (.var 8) (.cons (.var 9) (.cons (.var 4) .nil))))))) (.cons (.ret (.bl false)) .nil) .nil) (.cons (.ite (.or (.cmp .notn (.call (.p 18) (.cons (.var 6) (.cons (.var 8) (.cons (.var 9) (.cons (.bin .sub (.var 10) (.int 1)) .nil))))) .non) (.cmp .notn (.call (.p 18) (.cons (.var 6) (.cons (.var 8) (.cons (.var 9) (.cons (.bin .add (.var 11) (.int 1)) .nil))))) .non)) (.cons (.ret (.bl false)) .nil) .nil) (.cons (.asg (.nm 5) (.call (.p 15) (.cons (.var 6) .nil))) (.cons (.ret (.and (.cmp .eq (.call (.p 6) (.cons (.var 6) (.cons (.var 5) .nil))) (.lst .nil)) (.and (.cmp .eq (.ix (.var 5) (.int 0)) (.neg (.ix (.var 7) (.tup (.cons (.int 1) (.cons (.int 0) .nil)))))) (.cmp .eq (.b1 .len (.var 5)) (.ix (.var 2) (.int 0)))))) .nil)))))))))))), false⟩
/-! law -/
def f_law_0_k04 : Fn := ⟨["_law_script", "_law_h", "_law_b", "_law_word", "_law_sign", "_law_value", "_law_told", "_law_far", "_law_begin", "_law_end", "_law_first", "_law_last", "_law_due", "_law_whole", "_law_more"], 1, (.cons (.asg (.nm 1) (.call (.mix) (.cons (.var 0) (.cons (.int 4) .nil)))) (.cons (.asg (.nm 2) (.call (.law 3) (.cons (.var 1) (.cons (.ix (.lst (.cons (.int 12) (.cons (.int 20) .nil))) (.call (.next) (.cons (.var 1) (.cons (.int 2) .nil)))) (.cons (.ix (.lst (.cons (.int 3) (.cons (.int 9) (.cons (.bin .pow (.int 10) (.int 30)) .nil)))) (.call (.next) (.cons (.var 1) (.cons (.int 3) .nil)))) (.cons (.int 9) .nil)))))) (.cons (.par [6, 7] (.cons (.make .book (.cons (.ix (.var 2) (.int 0)) (.cons (.ix (.var 2) (.int 1)) (.cons (.ix (.var 2) (.int 2)) .nil)))) (.cons (.call (.law 7) (.cons (.var 2) .nil)) .nil))) (.cons (.ite (.cmp .isn (.var 7) .non) (.cons (.ret (.bl true)) .nil) .nil) (.cons (.asg (.tp (.cons (.nm 8) (.cons (.nm 9) .nil))) (.call (.law 1) (.cons (.var 1) (.cons (.ix (.var 2) (.int 0)) .nil)))) (.cons (.asg (.nm 3) (.ix (.lst (.cons (.str ("greatest" : Str)) (.cons (.str ("least" : Str)) .nil))) (.call (.next) (.cons (.var 1) (.cons (.int 2) .nil))))) (.cons (.asg (.tp (.cons (.nm 10) (.cons (.nm 11) .nil))) (.ifx (.cmp .eq (.var 3) (.str ("greatest" : Str))) (.tup (.cons (.var 8) (.cons (.var 9) .nil))) (.tup (.cons (.var 9) (.cons (.var 8) .nil))))) (.cons (.par [5, 12] (.cons (.call (.p 26) (.cons (.var 6) (.cons (.var 8) (.cons (.var 9) (.cons (.var 3) .nil))))) (.cons (.ix (.var 7) (.tup (.cons (.var 10) (.cons (.var 11) .nil)))) .nil))) (.cons (.ite (.cmp .ne (.call (.law 18) (.cons (.var 2) (.cons (.var 5) (.cons (.var 10) (.cons (.var 11) .nil))))) (.var 12)) (.cons (.ret (.bl false)) .nil) .nil) (.cons (.asg (.nm 4) (.ifx (.cmp .eq (.var 3) (.str ("greatest" : Str))) (.int 1) (.neg (.int 1)))) (.cons (.ite (.or (.nott (.call (.p 29) (.cons (.var 6) (.cons (.var 8) (.cons (.var 9) (.cons (.var 3) (.cons (.bin .mul (.var 4) (.var 12)) (.cons (.var 5) .nil)))))))) (.call (.p 29) (.cons (.var 6) (.cons (.var 8) (.cons (.var 9) (.cons (.var 3) (.cons (.bin .mul (.var 4) (.bin .sub (.var 12) (.int 1))) (.cons (.var 5) .nil)))))))) (.cons (.ret (.bl false)) .nil) .nil) (.cons (.asg (.nm 5) (.call (.law 19) (.cons (.var 1) (.cons (.var 2) (.cons (.var 5) .nil))))) (.cons (.par [13, 14] (.cons (.call (.law 18) (.cons (.var 2) (.cons (.var 5) (.cons (.var 10) (.cons (.var 11) .nil))))) (.cons (.bin .add (.var 12) (.call (.next) (.cons (.var 1) (.cons (.int 5) .nil)))) .nil))) (.cons (.ret (.cmp .eq (.call (.p 29) (.cons (.var 6) (.cons (.var 8) (.cons (.var 9) (.cons (.var 3) (.cons (.bin .mul (.var 4) (.var 14)) (.cons (.var 5) .nil))))))) (.and (.cmp .notn (.var 13) .non) (.cmp .le (.var 13) (.var 14))))) .nil)))))))))))))), false⟩
/-! law -/
def f_law_0_k05_b0 : Ss := (.cons (.asg (.nm 4) (.bin .add (.var 4) (.lst (.cons (.tup (.cons (.str ("cell" : Str)) (.cons (.var 5) (.cons (.int 1) .nil)))) (.cons (.tup (.cons (.str ("cell" : Str)) (.cons (.var 5) (.cons (.neg (.int 1)) .nil)))) .nil))))) .nil)
def f_law_0_k05_l1 : S := .for (.nm 5) (.rg1 (.ix (.var 2) (.int 0))) f_law_0_k05_b0
def f_law_0_k05_b2 : Ss := (.cons (.asg (.nm 4) (.bin .add (.var 4) (.lst (.cons (.tup (.cons (.str ("fact" : Str)) (.cons (.var 5) (.cons (.int 1) .nil)))) (.cons (.tup (.cons (.str ("fact" : Str)) (.cons (.var 5) (.cons (.neg (.int 1)) .nil)))) .nil))))) .nil)
def f_law_0_k05_l3 : S := .for (.nm 5) (.rg1 (.b1 .len (.ix (.var 2) (.int 2)))) f_law_0_k05_b2
def f_law_0_k05_c4 : E := (.lci (.var 11) (.nm 11) (.of (.var 3)) (.cmp .eq (.ix (.var 11) (.int 0)) (.str ("fact" : Str))))
def f_law_0_k05_c5 : E := (.lc (.ix (.var 4) (.call (.next) (.cons (.var 1) (.cons (.b1 .len (.var 4)) .nil)))) (.nm 5) (.rg1 (.call (.next) (.cons (.var 1) (.cons (.int 4) .nil)))))
def f_law_0_k05_c6 : E := (.lc (.tup (.cons (.ix (.var 11) (.int 0)) (.cons (.ix (.var 11) (.int 1)) (.cons (.cmp .eq (.ix (.var 11) (.int 2)) (.int 1)) .nil)))) (.nm 11) (.of (.var 3)))
def f_law_0_k05 : Fn := ⟨["_law_script", "_law_h", "_law_b", "_law_value", "_law_links", "_law_k", "_law_weight_here", "_law_odd", "_law_told", "_law_due", "_law_spot", "_law_link"], 1, (.cons (.asg (.nm 1) (.call (.mix) (.cons (.var 0) (.cons (.int 5) .nil)))) (.cons (.asg (.nm 2) (.call (.law 20) (.cons (.var 1) .nil))) (.cons (.par [8, 9] (.cons (.make .book (.cons (.ix (.var 2) (.int 0)) (.cons (.ix (.var 2) (.int 1)) (.cons (.ix (.var 2) (.int 2)) .nil)))) (.cons .non .nil))) (.cons (.ite (.cmp .isn (.call (.law 7) (.cons (.var 2) .nil)) .non) (.cons (.asg (.nm 9) (.call (.law 21) (.cons (.var 2) .nil))) .nil) .nil) (.cons (.asg (.nm 3) (.call (.p 34) (.cons (.var 8) .nil))) (.cons (.ite (.or (.cmp .ne (.call (.p 36) (.cons (.var 8) .nil)) (.var 9)) (.cmp .ne (.cmp .isn (.var 3) .non) (.cmp .isn (.var 9) .non))) (.cons (.ret (.bl false)) .nil) .nil) (.cons (.asg (.nm 4) (.lst .nil)) (.cons f_law_0_k05_l1 (.cons f_law_0_k05_l3 (.cons (.ite (.cmp .notn (.var 9) .non) (.cons (.asg (.nm 6) (.call (.law 18) (.cons (.var 2) (.cons (.var 3) .nil)))) (.cons (.ite (.or (.cmp .isn (.var 6) .non) (.or (.cmp .ge (.var 6) (.int 0)) (.or (.nott (.call (.p 35) (.cons (.var 8) (.cons (.var 3) .nil)))) (.cmp .gt (.b1 .len (.var 3)) (.int 40))))) (.cons (.ret (.bl false)) .nil) .nil) (.cons (.ite (.cmp .ne (.b1 .len f_law_0_k05_c4) (.var 9)) (.cons (.ret (.bl false)) .nil) .nil) (.cons (.asg (.nm 10) (.call (.next) (.cons (.var 1) (.cons (.b1 .len (.var 3)) .nil)))) (.cons (.asg (.nm 3) (.bin .add (.bin .add (.sl (.var 3) .no (.so (.var 10))) (.bin .mul (.tup (.cons (.ix (.var 4) (.call (.next) (.cons (.var 1) (.cons (.b1 .len (.var 4)) .nil)))) .nil)) (.call (.next) (.cons (.var 1) (.cons (.int 2) .nil))))) (.sl (.var 3) (.so (.bin .add (.var 10) (.int 1))) .no))) .nil))))) (.cons (.asg (.nm 3) (.b1 .tuple f_law_0_k05_c5)) .nil)) (.cons (.asg (.nm 6) (.call (.law 18) (.cons (.var 2) (.cons (.var 3) .nil)))) (.cons (.asg (.nm 7) (.lst (.cons .non (.cons (.tup .nil) (.cons (.int 3) (.cons (.bin .add (.b1 .tuple f_law_0_k05_c6) (.tup (.cons (.tup (.cons (.str ("cell" : Str)) (.cons (.int 0) (.cons (.bl true) .nil)))) .nil))) .nil)))))) (.cons (.ite (.call (.p 35) (.cons (.var 8) (.cons (.ix (.var 7) (.call (.next) (.cons (.var 1) (.cons (.int 4) .nil)))) .nil))) (.cons (.ret (.bl false)) .nil) .nil) (.cons (.ret (.cmp .eq (.call (.p 35) (.cons (.var 8) (.cons (.var 3) .nil))) (.and (.cmp .notn (.var 6) .non) (.cmp .lt (.var 6) (.int 0))))) .nil)))))))))))))), false⟩
/-! law -/
def f_law_0_k07_c0 : E := (.lc (.call (.next) (.cons (.var 1) (.cons (.bin .add (.ix (.var 3) (.int 1)) (.int 1)) .nil))) (.nm 10) (.rg1 (.ix (.var 3) (.int 0))))
def f_law_0_k07_c1 : E := (.lci (.var 11) (.nm 11) (.of (.var 9)) (.cmp .ne (.bin .mod (.b1 .sum (.sl (.var 6) (.so (.ix (.var 11) (.int 0))) (.so (.ix (.var 11) (.int 1))))) (.int 10)) (.ix (.var 11) (.int 2))))
def f_law_0_k07_b2 : Ss := (.cons (.ite (.cmp .eq f_law_0_k07_c1 (.lst .nil)) (.cons (.app 5 (.var 6)) .nil) .nil) .nil)
def f_law_0_k07_l3 : S := .for (.nm 6) (.of (.call (.law 6) (.cons (.var 3) .nil))) f_law_0_k07_b2
def f_law_0_k07_c4 : E := (.lc (.b1 .abs (.bin .sub (.ix (.var 6) (.var 10)) (.ix (.var 4) (.var 10)))) (.nm 10) (.rg1 (.ix (.var 3) (.int 0))))
def f_law_0_k07_c5 : E := (.lc (.b1 .sum f_law_0_k07_c4) (.nm 6) (.of (.var 5)))
def f_law_0_k07_c6 : E := (.lci (.ix (.var 5) (.var 12)) (.nm 12) (.rg1 (.b1 .len (.var 5))) (.cmp .eq (.ix (.var 7) (.var 12)) (.b1 .min (.var 7))))
def f_law_0_k07 : Fn := ⟨["_law_script", "_law_h", "_law_kind", "_law_b", "_law_row", "_law_due", "_law_one", "_law_far", "_law_told_here", "_law_rests_here", "_law_k", "_law_rest", "_law_j"], 1, (.cons (.asg (.nm 1) (.call (.mix) (.cons (.var 0) (.cons (.int 7) .nil)))) (.cons (.asg (.nm 2) (.call (.next) (.cons (.var 1) (.cons (.int 5) .nil)))) (.cons (.ite (.cmp .eq (.var 2) (.int 0)) (.cons (.asg (.nm 3) (.call (.law 3) (.cons (.var 1) (.cons (.int 8) (.cons (.ix (.lst (.cons (.int 1) (.cons (.int 12) .nil))) (.call (.next) (.cons (.var 1) (.cons (.int 2) .nil)))) (.cons (.int 3) .nil)))))) (.cons (.ite (.or (.cmp .gt (.ix (.var 3) (.int 0)) (.int 6)) (.cmp .gt (.ix (.var 3) (.int 1)) (.int 9))) (.cons (.ret (.cmp .isn (.call (.law 28) (.cons (.make .book (.cons (.ix (.var 3) (.int 0)) (.cons (.ix (.var 3) (.int 1)) (.cons (.ix (.var 3) (.int 2)) .nil)))) (.cons (.tup .nil) .nil))) .non)) .nil) .nil) (.cons (.ite (.cmp .gt (.ix (.var 3) (.int 0)) (.int 4)) (.cons (.ret (.cmp .eq (.cmp .isn (.call (.law 28) (.cons (.make .book (.cons (.ix (.var 3) (.int 0)) (.cons (.ix (.var 3) (.int 1)) (.cons (.ix (.var 3) (.int 2)) .nil)))) (.cons (.tup .nil) .nil))) .non) (.or (.cmp .gt (.ix (.var 3) (.int 1)) (.int 4)) (.and (.cmp .eq (.ix (.var 3) (.int 0)) (.int 6)) (.cmp .gt (.ix (.var 3) (.int 1)) (.int 3)))))) .nil) .nil) .nil))) .nil) (.cons (.asg (.nm 3) (.ifx (.cmp .lt (.var 2) (.int 3)) (.call (.law 3) (.cons (.var 1) (.cons (.int 3) (.cons (.int 9) (.cons (.int 4) .nil))))) (.call (.law 3) (.cons (.var 1) (.cons (.int 4) (.cons (.int 4) (.cons (.int 4) .nil))))))) (.cons (.ite (.and (.cmp .eq (.var 2) (.int 3)) (.cmp .eq (.call (.next) (.cons (.var 1) (.cons (.int 3) .nil))) (.int 0))) (.cons (.asg (.nm 3) (.call (.law 3) (.cons (.var 1) (.cons (.int 6) (.cons (.int 2) (.cons (.int 9) .nil)))))) .nil) .nil) (.cons (.asg (.nm 4) (.b1 .tuple f_law_0_k07_c0)) (.cons (.par [8, 9] (.cons (.make .book (.cons (.ix (.var 3) (.int 0)) (.cons (.ix (.var 3) (.int 1)) (.cons (.ix (.var 3) (.int 2)) .nil)))) (.cons (.call (.law 27) (.cons (.var 1) (.cons (.var 4) (.cons (.int 3) .nil)))) .nil))) (.cons (.own 5 (.lst .nil)) (.cons f_law_0_k07_l3 (.cons (.ite (.or (.cmp .ne (.call (.law 28) (.cons (.var 8) (.cons (.var 9) .nil))) (.var 5)) (.nott (.isa (.call (.p 50) (.cons (.var 8) (.cons (.var 9) .nil))) .list))) (.cons (.ret (.bl false)) .nil) .nil) (.cons (.frz 5) (.cons (.asg (.nm 7) f_law_0_k07_c5) (.cons (.ite (.cmp .eq (.var 5) (.lst .nil)) (.cons (.ret (.cmp .isn (.call (.law 29) (.cons (.var 8) (.cons (.var 9) (.cons (.var 4) .nil)))) .non)) .nil) .nil) (.cons (.ret (.cmp .eq (.call (.law 29) (.cons (.var 8) (.cons (.var 9) (.cons (.var 4) .nil)))) (.tup (.cons (.b1 .min (.var 7)) (.cons f_law_0_k07_c6 .nil))))) .nil)))))))))))))), false⟩
/-! law -/
def f_law_0_k16 : Fn := ⟨["_law_script", "_law_h"], 1, (.cons (.asg (.nm 1) (.call (.mix) (.cons (.var 0) (.cons (.int 16) .nil)))) (.cons (.ret (.callv [.law 10, .law 53, .law 54, .law 55, .law 56] (.ix (.lst (.cons (.fnv (.law 10)) (.cons (.fnv (.law 53)) (.cons (.fnv (.law 54)) (.cons (.fnv (.law 55)) (.cons (.fnv (.law 56)) .nil)))))) (.call (.next) (.cons (.var 1) (.cons (.int 5) .nil)))))) .nil)), false⟩
/-! law -/
def f_law_0_k17_c0 : E := (.lci (.var 12) (.nm 12) (.of (.var 10)) (.cmp .notin (.var 12) (.var 11)))
def f_law_0_k17_c1 : E := (.lci (.var 12) (.nm 12) (.of (.var 11)) (.cmp .notin (.var 12) (.var 10)))
def f_law_0_k17_c2 : E := (.lci (.var 12) (.nm 12) (.of (.var 10)) (.cmp .notin (.var 12) (.var 11)))
def f_law_0_k17_c3 : E := (.lci (.var 12) (.nm 12) (.of (.var 11)) (.cmp .notin (.var 12) (.var 10)))
def f_law_0_k17 : Fn := ⟨["_law_script", "_law_h", "_law_a", "_law_b", "_law_inside", "_law_back", "_law_apart_here", "_law_due", "_law_one", "_law_other", "_law_first", "_law_second", "_law_row"], 1, (.cons (.asg (.nm 1) (.call (.mix) (.cons (.var 0) (.cons (.int 17) .nil)))) (.cons (.asg (.nm 2) (.call (.law 3) (.cons (.var 1) (.cons (.int 4) (.cons (.int 3) (.cons (.int 4) .nil)))))) (.cons (.asg (.nm 3) (.call (.law 57) (.cons (.var 1) (.cons (.var 2) .nil)))) (.cons (.par [8, 9] (.cons (.make .book (.cons (.ix (.var 2) (.int 0)) (.cons (.ix (.var 2) (.int 1)) (.cons (.ix (.var 2) (.int 2)) .nil)))) (.cons (.make .book (.cons (.ix (.var 3) (.int 0)) (.cons (.ix (.var 3) (.int 1)) (.cons (.ix (.var 3) (.int 2)) .nil)))) .nil))) (.cons (.asg (.tp (.cons (.nm 10) (.cons (.nm 11) .nil))) (.tup (.cons (.call (.law 6) (.cons (.var 2) .nil)) (.cons (.call (.law 6) (.cons (.var 3) .nil)) .nil)))) (.cons (.asg (.nm 4) (.cmp .eq f_law_0_k17_c0 (.lst .nil))) (.cons (.asg (.nm 5) (.cmp .eq f_law_0_k17_c1 (.lst .nil))) (.cons (.ite (.or (.cmp .ne (.call (.p 70) (.cons (.var 8) (.cons (.var 9) .nil))) (.var 4)) (.or (.cmp .ne (.call (.p 70) (.cons (.var 9) (.cons (.var 8) .nil))) (.var 5)) (.cmp .ne (.call (.p 71) (.cons (.var 8) (.cons (.var 9) .nil))) (.and (.var 4) (.var 5))))) (.cons (.ret (.bl false)) .nil) .nil) (.cons (.asg (.nm 6) (.bin .add f_law_0_k17_c2 f_law_0_k17_c3)) (.cons (.asg (.nm 7) (.ifx (.cmp .ne (.var 6) (.lst .nil)) (.b1 .min (.var 6)) .non)) (.cons (.ite (.or (.cmp .ne (.call (.p 74) (.cons (.var 8) (.cons (.var 9) .nil))) (.var 7)) (.or (.cmp .ne (.call (.p 74) (.cons (.var 9) (.cons (.var 8) .nil))) (.var 7)) (.cmp .notn (.call (.p 71) (.cons (.var 8) (.cons (.var 8) .nil))) (.bl true)))) (.cons (.ret (.bl false)) .nil) .nil) (.cons (.ret (.call (.law 58) (.cons (.var 8) (.cons (.make .book (.cons (.bin .add (.ix (.var 2) (.int 0)) (.int 1)) (.cons (.ix (.var 2) (.int 1)) (.cons (.tup .nil) .nil)))) .nil)))) .nil)))))))))))), false⟩
/-! law -/
def f_law_0_k18_c0 : E := (.lci (.var 9) (.nm 9) (.rg1 (.b1 .len (.var 7))) (.or (.cmp .lt (.ix (.ix (.var 7) (.var 9)) (.int 2)) (.ix (.ix (.var 8) (.var 9)) (.int 2))) (.cmp .gt (.ix (.ix (.var 7) (.var 9)) (.int 3)) (.ix (.ix (.var 8) (.var 9)) (.int 3)))))
def f_law_0_k18 : Fn := ⟨["_law_script", "_law_h", "_law_a", "_law_b", "_law_inside", "_law_one", "_law_other", "_law_first", "_law_second", "_law_k"], 1, (.cons (.asg (.nm 1) (.call (.mix) (.cons (.var 0) (.cons (.int 18) .nil)))) (.cons (.asg (.nm 2) (.call (.law 3) (.cons (.var 1) (.cons (.int 8) (.cons (.ix (.lst (.cons (.int 3) (.cons (.int 40) (.cons (.bin .pow (.int 10) (.int 29)) .nil)))) (.call (.next) (.cons (.var 1) (.cons (.int 3) .nil)))) (.cons (.int 7) .nil)))))) (.cons (.asg (.nm 3) (.call (.law 57) (.cons (.var 1) (.cons (.var 2) .nil)))) (.cons (.par [5, 6] (.cons (.make .book (.cons (.ix (.var 2) (.int 0)) (.cons (.ix (.var 2) (.int 1)) (.cons (.ix (.var 2) (.int 2)) .nil)))) (.cons (.make .book (.cons (.ix (.var 3) (.int 0)) (.cons (.ix (.var 3) (.int 1)) (.cons (.ix (.var 3) (.int 2)) .nil)))) .nil))) (.cons (.asg (.tp (.cons (.nm 7) (.cons (.nm 8) .nil))) (.tup (.cons (.call (.law 59) (.cons (.var 2) .nil)) (.cons (.call (.law 59) (.cons (.var 3) .nil)) .nil)))) (.cons (.ite (.or (.cmp .ne (.call (.law 28) (.cons (.var 5) .nil)) (.var 7)) (.cmp .ne (.call (.law 28) (.cons (.var 6) .nil)) (.var 8))) (.cons (.ret (.bl false)) .nil) .nil) (.cons (.ite (.cmp .ne (.call (.p 71) (.cons (.var 5) (.cons (.var 6) .nil))) (.cmp .eq (.var 7) (.var 8))) (.cons (.ret (.bl false)) .nil) .nil) (.cons (.ite (.or (.cmp .isn (.var 7) .non) (.cmp .isn (.var 8) .non)) (.cons (.ret (.cmp .eq (.call (.p 70) (.cons (.var 5) (.cons (.var 6) .nil))) (.cmp .isn (.var 7) .non))) .nil) .nil) (.cons (.asg (.nm 4) (.cmp .eq f_law_0_k18_c0 (.lst .nil))) (.cons (.ret (.cmp .eq (.call (.p 70) (.cons (.var 5) (.cons (.var 6) .nil))) (.var 4))) .nil)))))))))), false⟩
/-! law -/
def f_law_0_k20_c0 : E := (.lc (.neg (.ix (.var 7) (.tup (.cons (.var 12) (.cons (.int 0) .nil))))) (.nm 12) (.rg2 (.int 1) (.bin .add (.ix (.var 2) (.int 0)) (.int 1))))
def f_law_0_k20_c1 : E := (.lc (.ix (.var 7) (.tup (.cons (.int 0) (.cons (.var 12) .nil)))) (.nm 12) (.rg2 (.int 1) (.bin .add (.ix (.var 2) (.int 0)) (.int 1))))
def f_law_0_k20_c2 : E := (.lc (.tup (.cons (.ix (.call (.law 60) (.cons (.var 10) .nil)) (.var 12)) (.cons (.ix (.call (.law 60) (.cons (.var 11) .nil)) (.var 12)) .nil))) (.nm 12) (.rg1 (.ix (.var 2) (.int 0))))
def f_law_0_k20_c3 : E := (.lc (.b1 .max (.var 13)) (.nm 13) (.of (.var 3)))
def f_law_0_k20_c4 : E := (.lc (.b1 .min (.var 13)) (.nm 13) (.of (.var 3)))
def f_law_0_k20_c5 : E := (.lc (.call (.next) (.cons (.var 1) (.cons (.bin .add (.ix (.var 2) (.int 1)) (.int 1)) .nil))) (.nm 12) (.rg1 (.ix (.var 2) (.int 0))))
def f_law_0_k20 : Fn := ⟨["_law_script", "_law_h", "_law_b", "_law_pairs", "_law_due", "_law_bad", "_law_told", "_law_far", "_law_low", "_law_high", "_law_one", "_law_other", "_law_k", "_law_pair"], 1, (.cons (.asg (.nm 1) (.call (.mix) (.cons (.var 0) (.cons (.int 20) .nil)))) (.cons (.asg (.nm 2) (.call (.law 3) (.cons (.var 1) (.cons (.int 10) (.cons (.ix (.lst (.cons (.int 3) (.cons (.int 30) (.cons (.bin .pow (.int 10) (.int 30)) .nil)))) (.call (.next) (.cons (.var 1) (.cons (.int 3) .nil)))) (.cons (.int 8) .nil)))))) (.cons (.asg (.tp (.cons (.nm 6) (.cons (.nm 7) .nil))) (.tup (.cons (.make .book (.cons (.ix (.var 2) (.int 0)) (.cons (.ix (.var 2) (.int 1)) (.cons (.ix (.var 2) (.int 2)) .nil)))) (.cons (.call (.law 7) (.cons (.var 2) .nil)) .nil)))) (.cons (.ite (.cmp .isn (.var 7) .non) (.cons (.ret (.call (.law 64) (.cons (.var 6) .nil))) .nil) .nil) (.cons (.par [8, 9] (.cons (.call (.p 80) (.cons (.var 6) .nil)) (.cons (.call (.p 81) (.cons (.var 6) .nil)) .nil))) (.cons (.ite (.or (.cmp .ne (.call (.law 60) (.cons (.var 8) .nil)) f_law_0_k20_c0) (.cmp .ne (.call (.p 6) (.cons (.var 6) (.cons (.var 8) .nil))) (.lst .nil))) (.cons (.ret (.bl false)) .nil) .nil) (.cons (.ite (.or (.cmp .ne (.call (.law 60) (.cons (.var 9) .nil)) f_law_0_k20_c1) (.cmp .ne (.call (.p 6) (.cons (.var 6) (.cons (.var 9) .nil))) (.lst .nil))) (.cons (.ret (.bl false)) .nil) .nil) (.cons (.asg (.tp (.cons (.nm 10) (.cons (.nm 11) .nil))) (.tup (.cons (.call (.law 62) (.cons (.var 1) (.cons (.var 2) (.cons (.var 6) .nil)))) (.cons (.call (.law 62) (.cons (.var 1) (.cons (.var 2) (.cons (.var 6) .nil)))) .nil)))) (.cons (.asg (.nm 3) f_law_0_k20_c2) (.cons (.asg (.nm 4) (.tup (.cons (.call (.law 61) (.cons f_law_0_k20_c4 .nil)) (.cons (.call (.law 61) (.cons f_law_0_k20_c3 .nil)) .nil)))) (.cons (.ite (.or (.cmp .ne (.call (.p 83) (.cons (.var 6) (.cons (.var 10) (.cons (.var 11) .nil)))) (.var 4)) (.or (.cmp .ne (.call (.p 6) (.cons (.var 6) (.cons (.ix (.var 4) (.int 0)) .nil))) (.lst .nil)) (.cmp .ne (.call (.p 6) (.cons (.var 6) (.cons (.ix (.var 4) (.int 1)) .nil))) (.lst .nil)))) (.cons (.ret (.bl false)) .nil) .nil) (.cons (.asg (.nm 5) (.b1 .tuple f_law_0_k20_c5)) (.cons (.ite (.cmp .eq (.call (.p 6) (.cons (.var 6) (.cons (.var 5) .nil))) (.lst .nil)) (.cons (.ret (.cmp .eq (.call (.law 63) (.cons (.var 6) (.cons (.var 5) (.cons (.var 5) .nil)))) (.tup (.cons (.var 5) (.cons (.var 5) .nil))))) .nil) .nil) (.cons (.ret (.and (.cmp .isn (.call (.law 63) (.cons (.var 6) (.cons (.var 5) (.cons (.var 10) .nil)))) .non) (.cmp .isn (.call (.law 63) (.cons (.var 6) (.cons (.var 10) (.cons (.var 5) .nil)))) .non))) .nil)))))))))))))), false⟩
/-! law -/
def f_law_0_k21_c0 : E := (.lc (.call (.next) (.cons (.var 1) (.cons (.bin .add (.ix (.var 2) (.int 1)) (.int 1)) .nil))) (.nm 7) (.rg1 (.ix (.var 2) (.int 0))))
def f_law_0_k21_c1 : E := (.lc (.b1 .abs (.bin .sub (.ix (.var 4) (.var 7)) (.ix (.var 6) (.var 7)))) (.nm 7) (.rg1 (.ix (.var 2) (.int 0))))
def f_law_0_k21_b2 : Ss := (.cons (.app 3 (.tup (.cons (.b1 .max f_law_0_k21_c1) (.cons (.var 4) .nil)))) .nil)
def f_law_0_k21_l3 : S := .for (.nm 4) (.of (.call (.law 6) (.cons (.var 2) .nil))) f_law_0_k21_b2
def f_law_0_k21 : Fn := ⟨["_law_script", "_law_h", "_law_b", "_law_every", "_law_one", "_law_told_here", "_law_row", "_law_k"], 1, (.cons (.asg (.nm 1) (.call (.mix) (.cons (.var 0) (.cons (.int 21) .nil)))) (.cons (.asg (.nm 2) (.call (.law 3) (.cons (.var 1) (.cons (.int 4) (.cons (.int 4) (.cons (.int 5) .nil)))))) (.cons (.asg (.tp (.cons (.nm 5) (.cons (.nm 6) .nil))) (.tup (.cons (.make .book (.cons (.ix (.var 2) (.int 0)) (.cons (.ix (.var 2) (.int 1)) (.cons (.ix (.var 2) (.int 2)) .nil)))) (.cons (.b1 .tuple f_law_0_k21_c0) .nil)))) (.cons (.own 3 (.lst .nil)) (.cons f_law_0_k21_l3 (.cons (.ite (.cmp .eq (.var 3) (.lst .nil)) (.cons (.ret (.and (.cmp .isn (.call (.law 28) (.cons (.var 5) (.cons (.var 6) .nil))) .non) (.cmp .eq (.call (.law 65) (.cons (.var 5) (.cons (.var 6) .nil))) (.str ("none" : Str))))) .nil) .nil) (.cons (.ret (.and (.cmp .eq (.call (.law 28) (.cons (.var 5) (.cons (.var 6) .nil))) (.b1 .min (.var 3))) (.cmp .eq (.cmp .isn (.call (.law 65) (.cons (.var 5) (.cons (.var 6) .nil))) .non) (.cmp .eq (.ix (.b1 .min (.var 3)) (.int 0)) (.int 0))))) .nil))))))), false⟩
/-! law -/
def f_law_0_k22_c0 : E := (.lc (.call (.next) (.cons (.var 1) (.cons (.bin .add (.ix (.var 2) (.int 1)) (.int 1)) .nil))) (.nm 9) (.rg1 (.ix (.var 2) (.int 0))))
def f_law_0_k22_c1 : E := (.lc (.b1 .abs (.bin .sub (.ix (.var 4) (.var 9)) (.ix (.var 7) (.var 9)))) (.nm 9) (.rg1 (.ix (.var 2) (.int 0))))
def f_law_0_k22 : Fn := ⟨["_law_script", "_law_h", "_law_b", "_law_far", "_law_near", "_law_value", "_law_told_here", "_law_row", "_law_number", "_law_k"], 1, (.cons (.asg (.nm 1) (.call (.mix) (.cons (.var 0) (.cons (.int 22) .nil)))) (.cons (.asg (.nm 2) (.call (.law 3) (.cons (.var 1) (.cons (.ix (.lst (.cons (.int 8) (.cons (.int 20) .nil))) (.call (.next) (.cons (.var 1) (.cons (.int 2) .nil)))) (.cons (.ix (.lst (.cons (.int 9) (.cons (.int 60) (.cons (.int 1000) (.cons (.bin .pow (.int 10) (.int 9)) (.cons (.bin .pow (.int 10) (.int 30)) .nil)))))) (.call (.next) (.cons (.var 1) (.cons (.int 5) .nil)))) (.cons (.int 8) .nil)))))) (.cons (.asg (.tp (.cons (.nm 6) (.cons (.nm 7) .nil))) (.tup (.cons (.make .book (.cons (.ix (.var 2) (.int 0)) (.cons (.ix (.var 2) (.int 1)) (.cons (.ix (.var 2) (.int 2)) .nil)))) (.cons (.b1 .tuple f_law_0_k22_c0) .nil)))) (.cons (.asg (.nm 3) (.call (.law 28) (.cons (.var 6) (.cons (.var 7) .nil)))) (.cons (.ite (.cmp .isn (.var 3) .non) (.cons (.ret (.bl true)) .nil) .nil) (.cons (.asg (.nm 4) (.call (.p 92) (.cons (.var 6) (.cons (.var 7) .nil)))) (.cons (.ite (.or (.cmp .ne (.call (.p 6) (.cons (.var 6) (.cons (.var 4) .nil))) (.lst .nil)) (.cmp .ne (.b1 .max f_law_0_k22_c1) (.var 3))) (.cons (.ret (.bl false)) .nil) .nil) (.cons (.asg (.nm 5) (.call (.p 93) (.cons (.var 6) (.cons (.var 7) .nil)))) (.cons (.ite (.cmp .eq (.var 3) (.int 0)) (.cons (.ret (.and (.cmp .isn (.var 5) .non) (.nott (.call (.p 97) (.cons (.var 6) (.cons (.var 7) (.cons (.int 1) (.cons (.tup (.cons (.tup (.cons (.str ("row" : Str)) (.cons (.int 0) (.cons (.int 1) .nil)))) (.cons (.tup (.cons (.str ("row" : Str)) (.cons (.int 0) (.cons (.neg (.int 1)) .nil)))) .nil))) .nil)))))))) .nil) .nil) (.cons (.ite (.or (.nott (.call (.law 67) (.cons (.var 2) (.cons (.var 7) (.cons (.var 3) (.cons (.var 5) .nil)))))) (.nott (.call (.p 97) (.cons (.var 6) (.cons (.var 7) (.cons (.var 3) (.cons (.var 5) .nil))))))) (.cons (.ret (.bl false)) .nil) .nil) (.cons (.par [5, 8] (.cons (.call (.law 19) (.cons (.var 1) (.cons (.var 2) (.cons (.var 5) .nil)))) (.cons (.b2 .max (.int 1) (.bin .sub (.var 3) (.call (.next) (.cons (.var 1) (.cons (.int 3) .nil))))) .nil))) (.cons (.ret (.cmp .eq (.call (.p 97) (.cons (.var 6) (.cons (.var 7) (.cons (.var 8) (.cons (.var 5) .nil))))) (.call (.law 67) (.cons (.var 2) (.cons (.var 7) (.cons (.var 8) (.cons (.var 5) .nil))))))) .nil)))))))))))), false⟩
/-! law -/
def f_law_0_k23_c0 : E := (.lc (.call (.next) (.cons (.var 1) (.cons (.bin .add (.ix (.var 3) (.int 1)) (.int 1)) .nil))) (.nm 15) (.rg1 (.ix (.var 3) (.int 0))))
def f_law_0_k23_b1 : Ss := (.cons (.asg (.nm 8) f_law_0_k23_c0) (.cons (.put 3 (.int 2) (.bin .add (.ix (.var 3) (.int 2)) (.tup (.cons (.call (.law 2) (.cons (.var 1) (.cons (.var 8) (.cons (.int 2) .nil)))) .nil)))) .nil))
def f_law_0_k23_l2 : S := .for (.nm 4) (.rg1 (.call (.next) (.cons (.var 1) (.cons (.int 4) .nil)))) f_law_0_k23_b1
def f_law_0_k23 : Fn := ⟨["_law_script", "_law_h", "_law_small", "_law_b", "_law_k", "_law_told", "_law_link", "_law_value", "_law_row", "_law_s", "_law_spot", "_law_number", "_law_word", "_law_place", "_law_way", "_law_j"], 1, (.cons (.asg (.nm 1) (.call (.mix) (.cons (.var 0) (.cons (.int 23) .nil)))) (.cons (.asg (.nm 2) (.cmp .eq (.call (.next) (.cons (.var 1) (.cons (.int 2) .nil))) (.int 0))) (.cons (.own 3 (.call (.law 3) (.cons (.var 1) (.cons (.ifx (.var 2) (.int 3) (.ix (.lst (.cons (.int 8) (.cons (.int 20) .nil))) (.call (.next) (.cons (.var 1) (.cons (.int 2) .nil))))) (.cons (.ix (.lst (.cons (.int 3) (.cons (.int 60) (.cons (.bin .pow (.int 10) (.int 30)) .nil)))) (.ifx (.var 2) (.int 0) (.call (.next) (.cons (.var 1) (.cons (.int 3) .nil))))) (.cons (.int 4) .nil)))))) (.cons f_law_0_k23_l2 (.cons (.asg (.nm 5) (.make .book (.cons (.ix (.var 3) (.int 0)) (.cons (.ix (.var 3) (.int 1)) (.cons (.ix (.var 3) (.int 2)) .nil))))) (.cons (.par [9, 8, 7] (.cons (.call (.p 98) (.cons (.var 5) .nil)) (.cons (.call (.p 99) (.cons (.var 5) .nil)) (.cons (.call (.p 100) (.cons (.var 5) .nil)) .nil)))) (.cons (.frz 3) (.cons (.ite (.and (.var 2) (.cmp .ne (.tup (.cons (.var 9) (.cons (.var 8) .nil))) (.call (.law 69) (.cons (.var 3) .nil)))) (.cons (.ret (.bl false)) .nil) .nil) (.cons (.ite (.cmp .ne (.call (.p 6) (.cons (.make .book (.cons (.ix (.var 3) (.int 0)) (.cons (.ix (.var 3) (.int 1)) (.cons (.call (.law 68) (.cons (.var 3) (.cons (.var 9) .nil))) .nil)))) (.cons (.var 8) .nil))) (.lst .nil)) (.cons (.ret (.bl false)) .nil) .nil) (.cons (.ite (.cmp .eq (.var 9) (.int 0)) (.cons (.ret (.and (.cmp .isn (.var 7) .non) (.nott (.call (.p 101) (.cons (.var 5) (.cons (.int 1) (.cons (.tup (.cons (.tup (.cons (.str ("cell" : Str)) (.cons (.int 0) (.cons (.int 1) .nil)))) (.cons (.tup (.cons (.str ("cell" : Str)) (.cons (.int 0) (.cons (.neg (.int 1)) .nil)))) .nil))) .nil))))))) .nil) .nil) (.cons (.ite (.or (.nott (.isa (.var 7) .tuple)) (.or (.nott (.call (.law 67) (.cons (.var 3) (.cons (.var 9) (.cons (.var 7) .nil))))) (.nott (.call (.p 101) (.cons (.var 5) (.cons (.var 9) (.cons (.var 7) .nil))))))) (.cons (.ret (.bl false)) .nil) .nil) (.cons (.par [10, 11] (.cons (.call (.next) (.cons (.var 1) (.cons (.b1 .len (.var 7)) .nil))) (.cons (.b2 .max (.int 1) (.bin .add (.bin .sub (.var 9) (.call (.next) (.cons (.var 1) (.cons (.int 3) .nil)))) (.call (.next) (.cons (.var 1) (.cons (.int 2) .nil))))) .nil))) (.cons (.asg (.tp (.cons (.nm 12) (.cons (.nm 13) (.cons (.nm 14) .nil)))) (.ix (.var 7) (.var 10))) (.cons (.asg (.nm 6) (.tup (.cons (.var 12) (.cons (.var 13) (.cons (.bin .mul (.var 14) (.ix (.lst (.cons (.int 1) (.cons (.neg (.int 1)) .nil))) (.call (.next) (.cons (.var 1) (.cons (.int 2) .nil))))) .nil))))) (.cons (.asg (.nm 7) (.bin .add (.bin .add (.sl (.var 7) .no (.so (.var 10))) (.bin .mul (.tup (.cons (.var 6) .nil)) (.call (.next) (.cons (.var 1) (.cons (.int 3) .nil))))) (.sl (.var 7) (.so (.bin .add (.var 10) (.int 1))) .no))) (.cons (.ite (.call (.p 101) (.cons (.var 5) (.cons (.var 11) (.cons (.ix (.lst (.cons .non (.cons (.tup .nil) (.cons (.int 3) (.cons (.tup (.cons .non .nil)) .nil))))) (.call (.next) (.cons (.var 1) (.cons (.int 4) .nil)))) .nil)))) (.cons (.ret (.bl false)) .nil) .nil) (.cons (.ret (.cmp .eq (.call (.p 101) (.cons (.var 5) (.cons (.var 11) (.cons (.var 7) .nil)))) (.call (.law 67) (.cons (.var 3) (.cons (.var 11) (.cons (.var 7) .nil)))))) .nil))))))))))))))))), false⟩
/-! law -/
def f_law_0_k24_c0 : E := (.lc (.call (.next) (.cons (.var 1) (.cons (.bin .add (.var 14) (.int 1)) .nil))) (.nm 15) (.rg1 (.var 13)))
def f_law_0_k24_c1 : E := (.lc (.call (.law 26) (.cons (.var 1) (.cons (.var 2) (.cons (.int 3) .nil)))) (.nm 15) (.rg1 (.call (.next) (.cons (.var 1) (.cons (.int 6) .nil)))))
def f_law_0_k24_c2 : E := (.lci (.var 16) (.nm 16) (.of (.var 3)) (.nott (.chain .le .le (.ix (.var 16) (.int 2)) (.call (.law 25) (.cons (.var 6) (.cons (.ix (.var 16) (.int 0)) (.cons (.ix (.var 16) (.int 1)) .nil)))) (.ix (.var 16) (.int 3)))))
def f_law_0_k24_b3 : Ss := (.cons (.ite (.cmp .eq f_law_0_k24_c2 (.lst .nil)) (.cons (.app 5 (.var 6)) .nil) .nil) .nil)
def f_law_0_k24_l4 : S := .for (.nm 6) (.of (.call (.law 5) (.cons (.var 13) (.cons (.var 14) .nil)))) f_law_0_k24_b3
def f_law_0_k24_c5 : E := (.lc (.b1 .sum (.var 6)) (.nm 6) (.of (.var 5)))
def f_law_0_k24_c6 : E := (.lci (.var 6) (.nm 6) (.of (.var 5)) (.cmp .eq (.b1 .sum (.var 6)) (.var 8)))
def f_law_0_k24_c7 : E := (.lc (.call (.law 25) (.cons (.var 6) (.cons (.var 10) (.cons (.var 11) .nil)))) (.nm 6) (.of (.var 5)))
def f_law_0_k24 : Fn := ⟨["_law_script", "_law_h", "_law_row", "_law_facts", "_law_great", "_law_fine", "_law_one", "_law_totals_here", "_law_total", "_law_those", "_law_begin", "_law_end", "_law_own", "_law_cells", "_law_most", "_law_k", "_law_fact_here"], 1, (.cons (.asg (.nm 1) (.call (.mix) (.cons (.var 0) (.cons (.int 24) .nil)))) (.cons (.ite (.cmp .eq (.call (.next) (.cons (.var 1) (.cons (.int 6) .nil))) (.int 0)) (.cons (.ret (.call (.law 15) (.cons (.var 1) .nil))) .nil) .nil) (.cons (.asg (.tp (.cons (.nm 13) (.cons (.nm 14) .nil))) (.tup (.cons (.bin .add (.int 1) (.call (.next) (.cons (.var 1) (.cons (.int 4) .nil)))) (.cons (.call (.next) (.cons (.var 1) (.cons (.int 4) .nil))) .nil)))) (.cons (.asg (.nm 2) (.b1 .tuple f_law_0_k24_c0)) (.cons (.asg (.nm 3) (.b1 .tuple f_law_0_k24_c1)) (.cons (.asg (.nm 4) (.make .round (.cons (.var 13) (.cons (.var 14) (.cons (.var 3) .nil))))) (.cons (.ite (.or (.cmp .ne (.prop (.var 4) .round 0) (.var 13)) (.or (.cmp .ne (.prop (.var 4) .round 1) (.var 14)) (.or (.cmp .ne (.prop (.var 4) .round 2) (.var 3)) (.cmp .ne (.leno (.var 4) .round) (.b1 .len (.var 3)))))) (.cons (.ret (.bl false)) .nil) .nil) (.cons (.ite (.or (.nott (.eqo .round (.var 4) (.make .round (.cons (.var 13) (.cons (.var 14) (.cons (.var 3) .nil)))))) (.eqo .round (.var 4) (.make .ring (.cons (.var 13) (.cons (.var 14) (.cons (.var 3) .nil)))))) (.cons (.ret (.bl false)) .nil) .nil) (.cons (.own 5 (.lst .nil)) (.cons f_law_0_k24_l4 (.cons (.frz 5) (.cons (.asg (.nm 7) f_law_0_k24_c5) (.cons (.ite (.cmp .ne (.call (.law 70) (.cons (.var 4) .nil)) (.ifx (.cmp .ne (.var 5) (.lst .nil)) (.tup (.cons (.b1 .min (.var 7)) (.cons (.b1 .max (.var 7)) .nil))) .non)) (.cons (.ret (.bl false)) .nil) .nil) (.cons (.asg (.nm 8) (.bin .sub (.call (.next) (.cons (.var 1) (.cons (.bin .add (.bin .mul (.var 13) (.var 14)) (.int 3)) .nil))) (.int 1))) (.cons (.asg (.nm 9) f_law_0_k24_c6) (.cons (.ite (.cmp .ne (.call (.p 110) (.cons (.var 4) (.cons (.var 8) .nil))) (.ifx (.cmp .ne (.var 9) (.lst .nil)) (.ix (.var 9) (.int 0)) .non)) (.cons (.ret (.bl false)) .nil) .nil) (.cons (.asg (.nm 10) (.call (.next) (.cons (.var 1) (.cons (.var 13) .nil)))) (.cons (.asg (.nm 11) (.bin .add (.bin .add (.var 10) (.int 1)) (.call (.next) (.cons (.var 1) (.cons (.var 13) .nil))))) (.cons (.asg (.nm 12) f_law_0_k24_c7) (.cons (.ret (.cmp .eq (.call (.law 10) (.cons (.var 4) (.cons (.var 10) (.cons (.var 11) .nil)))) (.ifx (.cmp .ne (.var 12) (.lst .nil)) (.tup (.cons (.b1 .min (.var 12)) (.cons (.b1 .max (.var 12)) .nil))) .non))) .nil)))))))))))))))))))), false⟩
/-! law -/
def f_law_0_k25_c0 : E := (.lc (.call (.next) (.cons (.var 1) (.cons (.bin .add (.var 11) (.int 1)) .nil))) (.nm 17) (.rg1 (.var 10)))
def f_law_0_k25_c1 : E := (.lc (.call (.law 26) (.cons (.var 1) (.cons (.var 3) (.cons (.var 4) .nil)))) (.nm 17) (.rg1 (.call (.next) (.cons (.var 1) (.cons (.int 6) .nil)))))
def f_law_0_k25_b2 : Ss := (.cons (.asg (.nm 14) (.call (.p 110) (.cons (.var 5) (.cons (.var 7) .nil)))) (.cons (.ite (.or (.nott (.call (.law 71) (.cons (.var 5) (.cons (.var 14) .nil)))) (.cmp .ne (.b1 .sum (.var 14)) (.var 7))) (.cons (.ret (.bl false)) .nil) .nil) .nil))
def f_law_0_k25_l3 : S := .for (.nm 7) (.of (.lst (.cons (.var 12) (.cons (.var 13) (.cons (.bin .add (.var 12) (.call (.next) (.cons (.var 1) (.cons (.bin .add (.bin .sub (.var 13) (.var 12)) (.int 1)) .nil)))) .nil))))) f_law_0_k25_b2
def f_law_0_k25 : Fn := ⟨["_law_script", "_law_h", "_law_far", "_law_row", "_law_loose", "_law_great", "_law_totals_here", "_law_total", "_law_begin", "_law_end", "_law_cells", "_law_most", "_law_low", "_law_high", "_law_one", "_law_least", "_law_greatest", "_law_k"], 1, (.cons (.asg (.nm 1) (.call (.mix) (.cons (.var 0) (.cons (.int 25) .nil)))) (.cons (.asg (.nm 2) (.ix (.lst (.cons (.int 9) (.cons (.int 60) (.cons (.int 1000) (.cons (.bin .pow (.int 10) (.int 9)) .nil))))) (.call (.next) (.cons (.var 1) (.cons (.int 4) .nil))))) (.cons (.ite (.cmp .eq (.call (.next) (.cons (.var 1) (.cons (.int 12) .nil))) (.int 0)) (.cons (.asg (.nm 2) (.bin .pow (.int 10) (.int 30))) .nil) .nil) (.cons (.asg (.tp (.cons (.nm 10) (.cons (.nm 11) .nil))) (.tup (.cons (.bin .add (.int 1) (.call (.next) (.cons (.var 1) (.cons (.int 6) .nil)))) (.cons (.call (.next) (.cons (.var 1) (.cons (.bin .add (.var 2) (.int 1)) .nil))) .nil)))) (.cons (.asg (.nm 3) (.b1 .tuple f_law_0_k25_c0)) (.cons (.asg (.nm 4) (.ix (.lst (.cons (.int 1) (.cons (.int 3) (.cons (.bin .add (.int 1) (.var 11)) .nil)))) (.call (.next) (.cons (.var 1) (.cons (.int 3) .nil))))) (.cons (.asg (.nm 5) (.make .round (.cons (.var 10) (.cons (.var 11) (.cons (.b1 .tuple f_law_0_k25_c1) .nil))))) (.cons (.asg (.nm 6) (.call (.law 70) (.cons (.var 5) .nil))) (.cons (.ite (.cmp .isn (.var 6) .non) (.cons (.ret (.nott (.call (.law 71) (.cons (.var 5) (.cons (.var 3) .nil))))) .nil) .nil) (.cons (.asg (.tp (.cons (.nm 12) (.cons (.nm 13) .nil))) (.var 6)) (.cons (.ite (.and (.call (.law 71) (.cons (.var 5) (.cons (.var 3) .nil))) (.nott (.chain .le .le (.var 12) (.b1 .sum (.var 3)) (.var 13)))) (.cons (.ret (.bl false)) .nil) .nil) (.cons f_law_0_k25_l3 (.cons (.ite (.or (.cmp .notn (.call (.p 110) (.cons (.var 5) (.cons (.bin .sub (.var 12) (.int 1)) .nil))) .non) (.cmp .notn (.call (.p 110) (.cons (.var 5) (.cons (.bin .add (.var 13) (.int 1)) .nil))) .non)) (.cons (.ret (.bl false)) .nil) .nil) (.cons (.asg (.nm 8) (.call (.next) (.cons (.var 1) (.cons (.var 10) .nil)))) (.cons (.asg (.nm 9) (.bin .add (.bin .add (.var 8) (.int 1)) (.call (.next) (.cons (.var 1) (.cons (.var 10) .nil))))) (.cons (.asg (.tp (.cons (.nm 15) (.cons (.nm 16) .nil))) (.call (.p 112) (.cons (.var 5) (.cons (.var 8) (.cons (.var 9) .nil))))) (.cons (.ite (.or (.nott (.call (.law 72) (.cons (.var 5) (.cons (.var 8) (.cons (.var 9) (.cons (.var 15) .nil)))))) (.nott (.call (.law 72) (.cons (.var 5) (.cons (.var 8) (.cons (.var 9) (.cons (.var 16) .nil))))))) (.cons (.ret (.bl false)) .nil) .nil) (.cons (.ret (.and (.nott (.call (.law 72) (.cons (.var 5) (.cons (.var 8) (.cons (.var 9) (.cons (.bin .sub (.var 15) (.int 1)) .nil)))))) (.nott (.call (.law 72) (.cons (.var 5) (.cons (.var 8) (.cons (.var 9) (.cons (.bin .add (.var 16) (.int 1)) .nil)))))))) .nil)))))))))))))))))), false⟩
/-! law -/
def f_law_0_k27_c0 : E := (.lc (.call (.next) (.cons (.var 1) (.cons (.bin .add (.var 8) (.int 1)) .nil))) (.nm 2) (.rg1 (.var 7)))
def f_law_0_k27_b1 : Ss := (.cons (.asg (.tp (.cons (.nm 14) (.cons (.nm 15) .nil))) (.call (.law 1) (.cons (.var 1) (.cons (.var 7) .nil)))) (.cons (.asg (.nm 11) (.b1 .sum (.sl (.var 9) (.so (.var 14)) (.so (.var 15))))) (.cons (.app 10 (.tup (.cons (.var 14) (.cons (.var 15) (.cons (.b2 .max (.int 0) (.bin .sub (.var 11) (.call (.next) (.cons (.var 1) (.cons (.int 2) .nil))))) (.cons (.bin .add (.var 11) (.call (.next) (.cons (.var 1) (.cons (.int 2) .nil)))) .nil)))))) .nil)))
def f_law_0_k27_l2 : S := .for (.nm 2) (.rg1 (.call (.next) (.cons (.var 1) (.cons (.int 4) .nil)))) f_law_0_k27_b1
def f_law_0_k27_b3 : Ss := (.cons (.expr (.call (.law 52) (.cons (.var 6) .nil))) .nil)
def f_law_0_k27_l4 : S := .for (.nm 6) (.of (.var 4)) f_law_0_k27_b3
def f_law_0_k27 : Fn := ⟨["_law_script", "_law_h", "_law_k", "_law_more", "_law_found", "_law_kept", "_law_thing", "_law_cells", "_law_most", "_law_row", "_law_facts", "_law_own", "_law_told", "_law_great", "_law_begin", "_law_end"], 1, (.cons (.asg (.nm 1) (.call (.mix) (.cons (.var 0) (.cons (.int 27) .nil)))) (.cons (.asg (.tp (.cons (.nm 7) (.cons (.nm 8) .nil))) (.tup (.cons (.bin .add (.int 1) (.call (.next) (.cons (.var 1) (.cons (.int 3) .nil)))) (.cons (.bin .add (.int 1) (.call (.next) (.cons (.var 1) (.cons (.int 3) .nil)))) .nil)))) (.cons (.paro 9 10 (.b1 .tuple f_law_0_k27_c0)) (.cons f_law_0_k27_l2 (.cons (.frz 10) (.cons (.par [12, 13] (.cons (.make .book (.cons (.var 7) (.cons (.var 8) (.cons (.b1 .tuple (.var 10)) .nil)))) (.cons (.make .round (.cons (.var 7) (.cons (.var 8) (.cons (.b1 .tuple (.var 10)) .nil)))) .nil))) (.cons (.asg (.nm 3) (.make .book (.cons (.var 7) (.cons (.var 8) (.cons (.bin .add (.b1 .tuple (.var 10)) (.tup (.cons (.call (.law 2) (.cons (.var 1) (.cons (.var 9) (.cons (.int 2) .nil)))) .nil))) .nil))))) (.cons (.asg (.nm 4) (.call (.law 50) (.cons (.var 12) (.cons (.var 3) (.cons (.var 13) (.cons (.var 9) .nil)))))) (.cons (.asg (.nm 5) (.call (.law 51) (.cons (.call (.law 50) (.cons (.var 12) (.cons (.var 3) (.cons (.var 13) (.cons (.var 9) .nil))))) .nil))) (.cons (.ite (.cmp .ne (.var 4) (.var 5)) (.cons (.ret (.bl false)) .nil) .nil) (.cons f_law_0_k27_l4 (.cons (.ret (.cmp .eq (.call (.law 50) (.cons (.var 12) (.cons (.var 3) (.cons (.var 13) (.cons (.var 9) .nil))))) (.var 5))) .nil)))))))))))), false⟩
/-! law -/
def f_law_0_k28 : Fn := ⟨["_law_script", "_law_h"], 1, (.cons (.asg (.nm 1) (.call (.mix) (.cons (.var 0) (.cons (.int 28) .nil)))) (.cons (.ret (.callv [.law 20, .law 74, .law 75, .law 76] (.ix (.lst (.cons (.fnv (.law 20)) (.cons (.fnv (.law 74)) (.cons (.fnv (.law 75)) (.cons (.fnv (.law 76)) .nil))))) (.call (.next) (.cons (.var 1) (.cons (.int 4) .nil)))))) .nil)), false⟩
/-! check_stretch -/
def f_p_7 : Fn := ⟨["book", "begin", "end"], 3, (.cons (.ite (.or (.nott (.call (.p 1) (.cons (.var 1) (.cons (.int 0) (.cons (.bin .sub (.ix (.fld (.var 0) .book 0) (.int 0)) (.int 1)) .nil))))) (.nott (.call (.p 1) (.cons (.var 2) (.cons (.bin .add (.var 1) (.int 1)) (.cons (.ix (.fld (.var 0) .book 0) (.int 0)) .nil)))))) (.cons (.rais (.err 8) .nil) .nil) .nil) .nil), false⟩
/-! edges_of -/
def f_p_8_b0 : Ss := (.cons (.ext 1 (.lst (.cons (.tup (.cons (.var 2) (.cons (.bin .add (.var 2) (.int 1)) (.cons (.var 4) .nil)))) (.cons (.tup (.cons (.bin .add (.var 2) (.int 1)) (.cons (.var 2) (.cons (.int 0) .nil)))) .nil)))) .nil)
def f_p_8_l1 : S := .for (.nm 2) (.rg1 (.var 3)) f_p_8_b0
def f_p_8_b2 : Ss := (.cons (.ext 1 (.lst (.cons (.tup (.cons (.var 6) (.cons (.var 7) (.cons (.var 9) .nil)))) (.cons (.tup (.cons (.var 7) (.cons (.var 6) (.cons (.neg (.var 8)) .nil)))) .nil)))) .nil)
def f_p_8_l3 : S := .for (.tp (.cons (.nm 6) (.cons (.nm 7) (.cons (.nm 8) (.cons (.nm 9) .nil))))) (.of (.var 5)) f_p_8_b2
def f_p_8 : Fn := ⟨["book", "found", "cell", "cells", "most", "facts", "begin", "end", "low", "high"], 1, (.cons (.asg (.tp (.cons (.nm 3) (.cons (.nm 4) (.cons (.nm 5) .nil)))) (.fld (.var 0) .book 0)) (.cons (.own 1 (.lst .nil)) (.cons f_p_8_l1 (.cons f_p_8_l3 (.cons (.ret (.var 1)) .nil))))), true⟩
/-! distances -/
def f_p_9_b0 : Ss := (.cons (.ite (.and (.cmp .notn (.ix (.var 3) (.var 6)) .non) (.or (.cmp .isn (.ix (.var 3) (.var 7)) .non) (.cmp .lt (.bin .add (.ix (.var 3) (.var 6)) (.var 8)) (.ix (.var 3) (.var 7))))) (.cons (.put 3 (.var 7) (.bin .add (.ix (.var 3) (.var 6)) (.var 8))) (.cons (.asg (.nm 5) (.bl true)) .nil)) .nil) .nil)
def f_p_9_l1 : S := .for (.tp (.cons (.nm 6) (.cons (.nm 7) (.cons (.nm 8) .nil)))) (.of (.var 1)) f_p_9_b0
def f_p_9_b2 : Ss := (.cons (.asg (.nm 5) (.bl false)) (.cons f_p_9_l1 (.cons (.ite (.nott (.var 5)) (.cons (.frz 3) (.cons (.ret (.var 3)) .nil)) .nil) .nil)))
def f_p_9_l3 : S := .for (.nm 4) (.rg1 (.bin .add (.var 0) (.int 1))) f_p_9_b2
def f_p_9 : Fn := ⟨["many", "edges", "first", "found", "turn", "moved", "one", "other", "weight"], 3, (.cons (.own 3 (.rep (.cons .non .nil) (.var 0))) (.cons (.put 3 (.var 2) (.int 0)) (.cons f_p_9_l3 (.cons (.ret .non) .nil)))), false⟩
/-! can_be -/
def f_p_10 : Fn := ⟨["book"], 1, (.cons (.ret (.cmp .notn (.call (.p 9) (.cons (.bin .add (.ix (.fld (.var 0) .book 0) (.int 0)) (.int 1)) (.cons (.call (.p 8) (.cons (.var 0) .nil)) (.cons (.int 0) .nil)))) .non)) .nil), false⟩
/-! is_possible -/
def f_p_11 : Fn := ⟨["book"], 1, (.cons (.expr (.call (.p 3) (.cons (.var 0) .nil))) (.cons (.ret (.call (.p 10) (.cons (.var 0) .nil))) .nil)), false⟩
/-! check_possible -/
def f_p_12 : Fn := ⟨["book"], 1, (.cons (.ite (.nott (.call (.p 10) (.cons (.var 0) .nil))) (.cons (.rais (.err 6) .nil) .nil) .nil) .nil), false⟩
/-! heights -/
def f_p_13_c0 : E := (.lc (.call (.p 9) (.cons (.var 0) (.cons (.var 1) (.cons (.var 4) .nil)))) (.nm 4) (.rg1 (.var 0)))
def f_p_13_c1 : E := (.lc (.bin .sub (.ix (.var 3) (.var 5)) (.ix (.ix (.var 2) (.var 4)) (.var 5))) (.nm 5) (.rg1 (.var 4)))
def f_p_13_b2 : Ss := (.cons (.app 3 (.b1 .max f_p_13_c1)) .nil)
def f_p_13_l3 : S := .for (.nm 4) (.rg2 (.int 1) (.var 0)) f_p_13_b2
def f_p_13 : Fn := ⟨["many", "edges", "tables", "found", "place", "other"], 2, (.cons (.asg (.nm 2) f_p_13_c0) (.cons (.own 3 (.lst (.cons (.int 0) .nil))) (.cons f_p_13_l3 (.cons (.frz 3) (.cons (.ret (.var 3)) .nil))))), false⟩
/-! row_of -/
def f_p_14_c0 : E := (.lc (.bin .sub (.ix (.var 1) (.bin .add (.var 2) (.int 1))) (.ix (.var 1) (.var 2))) (.nm 2) (.rg1 (.ix (.fld (.var 0) .book 0) (.int 0))))
def f_p_14 : Fn := ⟨["book", "found", "cell"], 1, (.cons (.asg (.nm 1) (.call (.p 13) (.cons (.bin .add (.ix (.fld (.var 0) .book 0) (.int 0)) (.int 1)) (.cons (.call (.p 8) (.cons (.var 0) .nil)) .nil)))) (.cons (.ret (.b1 .tuple f_p_14_c0)) .nil)), false⟩
/-! least_row -/
def f_p_15 : Fn := ⟨["book"], 1, (.cons (.expr (.call (.p 3) (.cons (.var 0) .nil))) (.cons (.expr (.call (.p 12) (.cons (.var 0) .nil))) (.cons (.ret (.call (.p 14) (.cons (.var 0) .nil))) .nil))), false⟩
/-! bounds_by -/
def f_p_16 : Fn := ⟨["book", "begin", "end", "edges", "many"], 3, (.cons (.asg (.nm 3) (.call (.p 8) (.cons (.var 0) .nil))) (.cons (.asg (.nm 4) (.bin .add (.ix (.fld (.var 0) .book 0) (.int 0)) (.int 1))) (.cons (.ret (.tup (.cons (.neg (.ix (.call (.p 9) (.cons (.var 4) (.cons (.var 3) (.cons (.var 2) .nil)))) (.var 1))) (.cons (.ix (.call (.p 9) (.cons (.var 4) (.cons (.var 3) (.cons (.var 1) .nil)))) (.var 2)) .nil)))) .nil))), false⟩
/-! bounds -/
def f_p_17 : Fn := ⟨["book", "begin", "end"], 3, (.cons (.expr (.call (.p 3) (.cons (.var 0) .nil))) (.cons (.expr (.call (.p 7) (.cons (.var 0) (.cons (.var 1) (.cons (.var 2) .nil))))) (.cons (.expr (.call (.p 12) (.cons (.var 0) .nil))) (.cons (.ret (.call (.p 16) (.cons (.var 0) (.cons (.var 1) (.cons (.var 2) .nil))))) .nil)))), false⟩
/-! row_with -/
def f_p_18_c0 : E := (.lc (.bin .sub (.ix (.var 6) (.bin .add (.var 7) (.int 1))) (.ix (.var 6) (.var 7))) (.nm 7) (.rg1 (.ix (.fld (.var 0) .book 0) (.int 0))))
def f_p_18 : Fn := ⟨["book", "begin", "end", "number", "edges", "many", "found", "cell"], 4, (.cons (.expr (.call (.p 3) (.cons (.var 0) .nil))) (.cons (.expr (.call (.p 7) (.cons (.var 0) (.cons (.var 1) (.cons (.var 2) .nil))))) (.cons (.ite (.nott (.call (.p 0) (.cons (.var 3) .nil))) (.cons (.rais (.err 7) .nil) .nil) .nil) (.cons (.expr (.call (.p 12) (.cons (.var 0) .nil))) (.cons (.asg (.nm 4) (.bin .add (.call (.p 8) (.cons (.var 0) .nil)) (.lst (.cons (.tup (.cons (.var 1) (.cons (.var 2) (.cons (.var 3) .nil)))) (.cons (.tup (.cons (.var 2) (.cons (.var 1) (.cons (.neg (.var 3)) .nil)))) .nil))))) (.cons (.asg (.nm 5) (.bin .add (.ix (.fld (.var 0) .book 0) (.int 0)) (.int 1))) (.cons (.ite (.cmp .isn (.call (.p 9) (.cons (.var 5) (.cons (.var 4) (.cons (.int 0) .nil)))) .non) (.cons (.ret .non) .nil) .nil) (.cons (.asg (.nm 6) (.call (.p 13) (.cons (.var 5) (.cons (.var 4) .nil)))) (.cons (.ret (.b1 .tuple f_p_18_c0)) .nil))))))))), false⟩
/-! sure_cells -/
def f_p_19_b0 : Ss := (.cons (.asg (.tp (.cons (.nm 3) (.cons (.nm 4) .nil))) (.call (.p 16) (.cons (.var 0) (.cons (.var 2) (.cons (.bin .add (.var 2) (.int 1)) .nil))))) (.cons (.ite (.cmp .eq (.var 3) (.var 4)) (.cons (.app 1 (.tup (.cons (.var 2) (.cons (.var 3) .nil)))) .nil) .nil) .nil))
def f_p_19_l1 : S := .for (.nm 2) (.rg1 (.ix (.fld (.var 0) .book 0) (.int 0))) f_p_19_b0
def f_p_19 : Fn := ⟨["book", "found", "cell", "low", "high"], 1, (.cons (.expr (.call (.p 3) (.cons (.var 0) .nil))) (.cons (.expr (.call (.p 12) (.cons (.var 0) .nil))) (.cons (.own 1 (.lst .nil)) (.cons f_p_19_l1 (.cons (.frz 1) (.cons (.ret (.var 1)) .nil)))))), false⟩
/-! is_needless -/
def f_p_20 : Fn := ⟨["book", "index", "other", "cells", "most", "facts", "begin", "end", "low", "high", "least", "greatest"], 2, (.cons (.asg (.tp (.cons (.nm 3) (.cons (.nm 4) (.cons (.nm 5) .nil)))) (.fld (.var 0) .book 0)) (.cons (.asg (.nm 2) (.make .book (.cons (.var 3) (.cons (.var 4) (.cons (.bin .add (.sl (.var 5) .no (.so (.var 1))) (.sl (.var 5) (.so (.bin .add (.var 1) (.int 1))) .no)) .nil))))) (.cons (.ite (.nott (.call (.p 10) (.cons (.var 2) .nil))) (.cons (.ret (.bl true)) .nil) .nil) (.cons (.asg (.tp (.cons (.nm 6) (.cons (.nm 7) (.cons (.nm 8) (.cons (.nm 9) .nil))))) (.ix (.var 5) (.var 1))) (.cons (.asg (.tp (.cons (.nm 10) (.cons (.nm 11) .nil))) (.call (.p 16) (.cons (.var 2) (.cons (.var 6) (.cons (.var 7) .nil))))) (.cons (.ret (.and (.cmp .le (.var 8) (.var 10)) (.cmp .le (.var 11) (.var 9)))) .nil)))))), false⟩
/-! needless -/
def f_p_21_c0 : E := (.lci (.var 1) (.nm 1) (.rg1 (.b1 .len (.ix (.fld (.var 0) .book 0) (.int 2)))) (.call (.p 20) (.cons (.var 0) (.cons (.var 1) .nil))))
def f_p_21 : Fn := ⟨["book", "index"], 1, (.cons (.expr (.call (.p 3) (.cons (.var 0) .nil))) (.cons (.ret f_p_21_c0) .nil)), false⟩
/-! _law_table -/
def f_law_7_b0 : Ss := (.cons (.put 1 (.tup (.cons (.var 2) (.cons (.var 2) .nil))) (.int 0)) .nil)
def f_law_7_l1 : S := .for (.nm 2) (.rg1 (.bin .add (.var 5) (.int 1))) f_law_7_b0
def f_law_7_c2 : E := (.lc (.tup (.cons (.var 2) (.cons (.bin .add (.var 2) (.int 1)) (.cons (.var 6) .nil)))) (.nm 2) (.rg1 (.var 5)))
def f_law_7_c3 : E := (.lc (.tup (.cons (.bin .add (.var 2) (.int 1)) (.cons (.var 2) (.cons (.int 0) .nil)))) (.nm 2) (.rg1 (.var 5)))
def f_law_7_b4 : Ss := (.cons (.asg (.nm 3) (.bin .add (.var 3) (.lst (.cons (.tup (.cons (.var 8) (.cons (.var 9) (.cons (.var 11) .nil)))) (.cons (.tup (.cons (.var 9) (.cons (.var 8) (.cons (.neg (.var 10)) .nil)))) .nil))))) .nil)
def f_law_7_l5 : S := .for (.tp (.cons (.nm 8) (.cons (.nm 9) (.cons (.nm 10) (.cons (.nm 11) .nil))))) (.of (.var 7)) f_law_7_b4
def f_law_7_b6 : Ss := (.cons (.put 1 (.tup (.cons (.var 12) (.cons (.var 13) .nil))) (.b2 .min (.var 14) (.get (.var 1) (.tup (.cons (.var 12) (.cons (.var 13) .nil))) (.var 14)))) .nil)
def f_law_7_l7 : S := .for (.tp (.cons (.nm 12) (.cons (.nm 13) (.cons (.nm 14) .nil)))) (.of (.var 3)) f_law_7_b6
def f_law_7_b8 : Ss := (.cons (.ite (.and (.cmp .isin (.tup (.cons (.var 12) (.cons (.var 4) .nil))) (.var 1)) (.cmp .isin (.tup (.cons (.var 4) (.cons (.var 13) .nil))) (.var 1))) (.cons (.asg (.nm 15) (.bin .add (.ix (.var 1) (.tup (.cons (.var 12) (.cons (.var 4) .nil)))) (.ix (.var 1) (.tup (.cons (.var 4) (.cons (.var 13) .nil)))))) (.cons (.put 1 (.tup (.cons (.var 12) (.cons (.var 13) .nil))) (.b2 .min (.var 15) (.get (.var 1) (.tup (.cons (.var 12) (.cons (.var 13) .nil))) (.var 15)))) .nil)) .nil) .nil)
def f_law_7_l9 : S := .for (.nm 13) (.rg1 (.bin .add (.var 5) (.int 1))) f_law_7_b8
def f_law_7_b10 : Ss := (.cons f_law_7_l9 .nil)
def f_law_7_l11 : S := .for (.nm 12) (.rg1 (.bin .add (.var 5) (.int 1))) f_law_7_b10
def f_law_7_b12 : Ss := (.cons f_law_7_l11 .nil)
def f_law_7_l13 : S := .for (.nm 4) (.rg1 (.bin .add (.var 5) (.int 1))) f_law_7_b12
def f_law_7_c14 : E := (.lci (.var 2) (.nm 2) (.rg1 (.bin .add (.var 5) (.int 1))) (.cmp .lt (.ix (.var 1) (.tup (.cons (.var 2) (.cons (.var 2) .nil)))) (.int 0)))
def f_law_7 : Fn := ⟨["_law_b", "_law_far_here", "_law_k", "_law_ways", "_law_mid", "_law_cells", "_law_most", "_law_facts", "_law_begin", "_law_end", "_law_low", "_law_high", "_law_one", "_law_other", "_law_weight", "_law_new"], 1, (.cons (.asg (.tp (.cons (.nm 5) (.cons (.nm 6) (.cons (.nm 7) .nil)))) (.var 0)) (.cons (.own 1 (.dnew true)) (.cons f_law_7_l1 (.cons (.asg (.nm 3) (.bin .add f_law_7_c2 f_law_7_c3)) (.cons f_law_7_l5 (.cons f_law_7_l7 (.cons f_law_7_l13 (.cons (.frz 1) (.cons (.ret (.ifx (.cmp .eq f_law_7_c14 (.lst .nil)) (.var 1) .non)) .nil))))))))), false⟩
/-! _law_table -/
def f_law_7_k03_b0 : Ss := (.cons (.put 1 (.tup (.cons (.var 2) (.cons (.var 2) .nil))) (.int 0)) .nil)
def f_law_7_k03_l1 : S := .for (.nm 2) (.rg1 (.bin .add (.var 5) (.int 1))) f_law_7_k03_b0
def f_law_7_k03_c2 : E := (.lc (.tup (.cons (.var 2) (.cons (.bin .add (.var 2) (.int 1)) (.cons (.var 6) .nil)))) (.nm 2) (.rg1 (.var 5)))
def f_law_7_k03_c3 : E := (.lc (.tup (.cons (.bin .add (.var 2) (.int 1)) (.cons (.var 2) (.cons (.int 0) .nil)))) (.nm 2) (.rg1 (.var 5)))
def f_law_7_k03_b4 : Ss := (.cons (.asg (.nm 3) (.bin .add (.var 3) (.lst (.cons (.tup (.cons (.var 8) (.cons (.var 9) (.cons (.var 11) .nil)))) (.cons (.tup (.cons (.var 9) (.cons (.var 8) (.cons (.neg (.var 10)) .nil)))) .nil))))) .nil)
def f_law_7_k03_l5 : S := .for (.tp (.cons (.nm 8) (.cons (.nm 9) (.cons (.nm 10) (.cons (.nm 11) .nil))))) (.of (.var 7)) f_law_7_k03_b4
def f_law_7_k03_b6 : Ss := (.cons (.put 1 (.tup (.cons (.var 12) (.cons (.var 13) .nil))) (.b2 .min (.var 14) (.get (.var 1) (.tup (.cons (.var 12) (.cons (.var 13) .nil))) (.var 14)))) .nil)
def f_law_7_k03_l7 : S := .for (.tp (.cons (.nm 12) (.cons (.nm 13) (.cons (.nm 14) .nil)))) (.of (.var 3)) f_law_7_k03_b6
def f_law_7_k03_b8 : Ss := (.cons (.ite (.and (.cmp .isin (.tup (.cons (.var 12) (.cons (.var 4) .nil))) (.var 1)) (.cmp .isin (.tup (.cons (.var 4) (.cons (.var 13) .nil))) (.var 1))) (.cons (.asg (.nm 15) (.bin .add (.ix (.var 1) (.tup (.cons (.var 12) (.cons (.var 4) .nil)))) (.ix (.var 1) (.tup (.cons (.var 4) (.cons (.var 13) .nil)))))) (.cons (.put 1 (.tup (.cons (.var 12) (.cons (.var 13) .nil))) (.b2 .min (.var 15) (.get (.var 1) (.tup (.cons (.var 12) (.cons (.var 13) .nil))) (.var 15)))) .nil)) .nil) .nil)
def f_law_7_k03_l9 : S := .for (.nm 13) (.rg1 (.bin .add (.var 5) (.int 1))) f_law_7_k03_b8
def f_law_7_k03_b10 : Ss := (.cons f_law_7_k03_l9 .nil)
def f_law_7_k03_l11 : S := .for (.nm 12) (.rg1 (.bin .add (.var 5) (.int 1))) f_law_7_k03_b10
def f_law_7_k03_b12 : Ss := (.cons f_law_7_k03_l11 .nil)
def f_law_7_k03_l13 : S := .for (.nm 4) (.rg1 (.bin .add (.var 5) (.int 1))) f_law_7_k03_b12
def f_law_7_k03_c14 : E := (.lci (.var 2) (.nm 2) (.rg1 (.bin .add (.var 5) (.int 1))) (.cmp .lt (.ix (.var 1) (.tup (.cons (.var 2) (.cons (.var 2) .nil)))) (.int 0)))
def f_law_7_k03 : Fn := ⟨["_law_b", "_law_far", "_law_k", "_law_ways", "_law_mid", "_law_cells", "_law_most", "_law_facts", "_law_begin", "_law_end", "_law_low", "_law_high", "_law_one", "_law_other", "_law_weight", "_law_new"], 1, (.cons (.asg (.tp (.cons (.nm 5) (.cons (.nm 6) (.cons (.nm 7) .nil)))) (.var 0)) (.cons (.own 1 (.dnew true)) (.cons f_law_7_k03_l1 (.cons (.asg (.nm 3) (.bin .add f_law_7_k03_c2 f_law_7_k03_c3)) (.cons f_law_7_k03_l5 (.cons f_law_7_k03_l7 (.cons f_law_7_k03_l13 (.cons (.frz 1) (.cons (.ret (.ifx (.cmp .eq f_law_7_k03_c14 (.lst .nil)) (.var 1) .non)) .nil))))))))), false⟩
/-! _law_table -/
def f_law_7_k04_b0 : Ss := (.cons (.put 1 (.tup (.cons (.var 2) (.cons (.var 2) .nil))) (.int 0)) .nil)
def f_law_7_k04_l1 : S := .for (.nm 2) (.rg1 (.bin .add (.var 5) (.int 1))) f_law_7_k04_b0
def f_law_7_k04_c2 : E := (.lc (.tup (.cons (.var 2) (.cons (.bin .add (.var 2) (.int 1)) (.cons (.var 6) .nil)))) (.nm 2) (.rg1 (.var 5)))
def f_law_7_k04_c3 : E := (.lc (.tup (.cons (.bin .add (.var 2) (.int 1)) (.cons (.var 2) (.cons (.int 0) .nil)))) (.nm 2) (.rg1 (.var 5)))
def f_law_7_k04_b4 : Ss := (.cons (.asg (.nm 3) (.bin .add (.var 3) (.lst (.cons (.tup (.cons (.var 8) (.cons (.var 9) (.cons (.var 11) .nil)))) (.cons (.tup (.cons (.var 9) (.cons (.var 8) (.cons (.neg (.var 10)) .nil)))) .nil))))) .nil)
def f_law_7_k04_l5 : S := .for (.tp (.cons (.nm 8) (.cons (.nm 9) (.cons (.nm 10) (.cons (.nm 11) .nil))))) (.of (.var 7)) f_law_7_k04_b4
def f_law_7_k04_b6 : Ss := (.cons (.put 1 (.tup (.cons (.var 12) (.cons (.var 13) .nil))) (.b2 .min (.var 14) (.get (.var 1) (.tup (.cons (.var 12) (.cons (.var 13) .nil))) (.var 14)))) .nil)
def f_law_7_k04_l7 : S := .for (.tp (.cons (.nm 12) (.cons (.nm 13) (.cons (.nm 14) .nil)))) (.of (.var 3)) f_law_7_k04_b6
def f_law_7_k04_b8 : Ss := (.cons (.ite (.and (.cmp .isin (.tup (.cons (.var 12) (.cons (.var 4) .nil))) (.var 1)) (.cmp .isin (.tup (.cons (.var 4) (.cons (.var 13) .nil))) (.var 1))) (.cons (.asg (.nm 15) (.bin .add (.ix (.var 1) (.tup (.cons (.var 12) (.cons (.var 4) .nil)))) (.ix (.var 1) (.tup (.cons (.var 4) (.cons (.var 13) .nil)))))) (.cons (.put 1 (.tup (.cons (.var 12) (.cons (.var 13) .nil))) (.b2 .min (.var 15) (.get (.var 1) (.tup (.cons (.var 12) (.cons (.var 13) .nil))) (.var 15)))) .nil)) .nil) .nil)
def f_law_7_k04_l9 : S := .for (.nm 13) (.rg1 (.bin .add (.var 5) (.int 1))) f_law_7_k04_b8
def f_law_7_k04_b10 : Ss := (.cons f_law_7_k04_l9 .nil)
def f_law_7_k04_l11 : S := .for (.nm 12) (.rg1 (.bin .add (.var 5) (.int 1))) f_law_7_k04_b10
def f_law_7_k04_b12 : Ss := (.cons f_law_7_k04_l11 .nil)
def f_law_7_k04_l13 : S := .for (.nm 4) (.rg1 (.bin .add (.var 5) (.int 1))) f_law_7_k04_b12
def f_law_7_k04_c14 : E := (.lci (.var 2) (.nm 2) (.rg1 (.bin .add (.var 5) (.int 1))) (.cmp .lt (.ix (.var 1) (.tup (.cons (.var 2) (.cons (.var 2) .nil)))) (.int 0)))
def f_law_7_k04 : Fn := ⟨["_law_b", "_law_far", "_law_k", "_law_ways", "_law_mid", "_law_cells", "_law_most", "_law_facts", "_law_begin", "_law_end", "_law_low", "_law_high", "_law_one", "_law_other", "_law_weight_here", "_law_new"], 1, (.cons (.asg (.tp (.cons (.nm 5) (.cons (.nm 6) (.cons (.nm 7) .nil)))) (.var 0)) (.cons (.own 1 (.dnew true)) (.cons f_law_7_k04_l1 (.cons (.asg (.nm 3) (.bin .add f_law_7_k04_c2 f_law_7_k04_c3)) (.cons f_law_7_k04_l5 (.cons f_law_7_k04_l7 (.cons f_law_7_k04_l13 (.cons (.frz 1) (.cons (.ret (.ifx (.cmp .eq f_law_7_k04_c14 (.lst .nil)) (.var 1) .non)) .nil))))))))), false⟩
/-! _law_within -/
def f_law_8 : Fn := ⟨["_law_far_here", "_law_begin", "_law_end"], 3, (.cons (.ret (.tup (.cons (.neg (.ix (.var 0) (.tup (.cons (.var 2) (.cons (.var 1) .nil))))) (.cons (.ix (.var 0) (.tup (.cons (.var 1) (.cons (.var 2) .nil)))) .nil)))) .nil), false⟩
/-! _law_least_row -/
def f_law_9_b0 : Ss := (.cons (.asg (.nm 4) (.ix (.call (.law 8) (.cons (.var 2) (.cons (.var 1) (.cons (.bin .add (.var 1) (.int 1)) .nil)))) (.int 0))) (.cons (.par [3, 0] (.cons (.bin .add (.var 3) (.tup (.cons (.var 4) .nil))) (.cons (.lst (.cons (.ix (.var 0) (.int 0)) (.cons (.ix (.var 0) (.int 1)) (.cons (.bin .add (.ix (.var 0) (.int 2)) (.tup (.cons (.tup (.cons (.var 1) (.cons (.bin .add (.var 1) (.int 1)) (.cons (.var 4) (.cons (.var 4) .nil))))) .nil))) .nil)))) .nil))) (.cons (.asg (.nm 2) (.call (.law 7) (.cons (.var 0) .nil))) .nil)))
def f_law_9_l1 : S := .for (.nm 1) (.rg1 (.ix (.var 0) (.int 0))) f_law_9_b0
def f_law_9 : Fn := ⟨["_law_b", "_law_k", "_law_far_here", "_law_row", "_law_x"], 1, (.cons (.par [2, 3, 0] (.cons (.call (.law 7) (.cons (.var 0) .nil)) (.cons (.tup .nil) (.cons (.lst (.cons (.ix (.var 0) (.int 0)) (.cons (.ix (.var 0) (.int 1)) (.cons (.b1 .tuple (.ix (.var 0) (.int 2))) .nil)))) .nil)))) (.cons (.ite (.cmp .isn (.var 2) .non) (.cons (.ret .non) .nil) .nil) (.cons f_law_9_l1 (.cons (.ret (.var 3)) .nil)))), false⟩
/-! _law_bounds -/
def f_law_10 : Fn := ⟨["_law_told", "_law_begin", "_law_end"], 3, (.cons (.tri (.cons (.ret (.call (.p 17) (.cons (.var 0) (.cons (.var 1) (.cons (.var 2) .nil))))) .nil) (.cons (.err 6) none (.cons (.ret .non) .nil) .nil) [0, 1, 2, 3, 4, 6, 7, 8]) .nil), false⟩
/-! _law_bounds -/
def f_law_10_k06 : Fn := ⟨["_law_ring", "_law_begin", "_law_end"], 3, (.cons (.tri (.cons (.ret (.call (.p 43) (.cons (.var 0) (.cons (.var 1) (.cons (.var 2) .nil))))) .nil) (.cons (.err 6) none (.cons (.ret .non) .nil) .nil) [0, 1, 2, 3, 6, 8, 10]) .nil), false⟩
/-! _law_bounds -/
def f_law_10_k16 : Fn := ⟨["_law_told"], 0, (.cons (.asg (.nm 0) (.make .book (.cons (.int 4) (.cons (.int 3) (.cons (.tup (.cons (.tup (.cons (.int 0) (.cons (.int 2) (.cons (.int 4) (.cons (.int 4) .nil))))) (.cons (.tup (.cons (.int 1) (.cons (.int 3) (.cons (.int 0) (.cons (.int 2) .nil))))) .nil))) .nil))))) (.cons (.ite (.cmp .ne (.lst (.cons (.call (.p 6) (.cons (.var 0) (.cons (.tup (.cons (.int 1) (.cons (.int 3) (.cons (.int 0) (.cons (.int 0) .nil))))) .nil))) (.cons (.call (.p 6) (.cons (.var 0) (.cons (.tup (.cons (.int 2) (.cons (.int 2) (.cons (.int 1) (.cons (.int 0) .nil))))) .nil))) (.cons (.call (.p 6) (.cons (.var 0) (.cons (.tup (.cons (.int 0) (.cons (.int 0) (.cons (.int 3) (.cons (.int 0) .nil))))) .nil))) .nil)))) (.lst (.cons (.lst (.cons (.int 1) .nil)) (.cons (.lst (.cons (.int 1) .nil)) (.cons (.lst (.cons (.int 0) (.cons (.int 1) .nil))) .nil))))) (.cons (.ret (.bl false)) .nil) .nil) (.cons (.ite (.or (.cmp .ne (.call (.p 17) (.cons (.var 0) (.cons (.int 0) (.cons (.int 1) .nil)))) (.tup (.cons (.int 2) (.cons (.int 3) .nil)))) (.or (.cmp .ne (.call (.p 17) (.cons (.var 0) (.cons (.int 1) (.cons (.int 2) .nil)))) (.tup (.cons (.int 1) (.cons (.int 2) .nil)))) (.cmp .ne (.call (.p 17) (.cons (.var 0) (.cons (.int 2) (.cons (.int 3) .nil)))) (.tup (.cons (.int 0) (.cons (.int 1) .nil)))))) (.cons (.ret (.bl false)) .nil) .nil) (.cons (.ite (.cmp .ne (.call (.p 17) (.cons (.var 0) (.cons (.int 0) (.cons (.int 4) .nil)))) (.tup (.cons (.int 4) (.cons (.int 8) .nil)))) (.cons (.ret (.bl false)) .nil) .nil) (.cons (.ite (.or (.cmp .ne (.call (.p 15) (.cons (.var 0) .nil)) (.tup (.cons (.int 2) (.cons (.int 2) (.cons (.int 0) (.cons (.int 0) .nil)))))) (.cmp .ne (.call (.p 18) (.cons (.var 0) (.cons (.int 2) (.cons (.int 3) (.cons (.int 1) .nil))))) (.tup (.cons (.int 3) (.cons (.int 1) (.cons (.int 1) (.cons (.int 0) .nil))))))) (.cons (.ret (.bl false)) .nil) .nil) (.cons (.ite (.or (.cmp .ne (.call (.p 19) (.cons (.make .book (.cons (.int 2) (.cons (.int 3) (.cons (.tup (.cons (.tup (.cons (.int 0) (.cons (.int 2) (.cons (.int 6) (.cons (.int 9) .nil))))) .nil)) .nil)))) .nil)) (.lst (.cons (.tup (.cons (.int 0) (.cons (.int 3) .nil))) (.cons (.tup (.cons (.int 1) (.cons (.int 3) .nil))) .nil)))) (.call (.p 11) (.cons (.make .book (.cons (.int 2) (.cons (.int 3) (.cons (.tup (.cons (.tup (.cons (.int 0) (.cons (.int 2) (.cons (.int 7) (.cons (.int 9) .nil))))) .nil)) .nil)))) .nil))) (.cons (.ret (.bl false)) .nil) .nil) (.cons (.ret (.cmp .eq (.call (.p 21) (.cons (.make .book (.cons (.int 3) (.cons (.int 1) (.cons (.tup (.cons (.tup (.cons (.int 0) (.cons (.int 3) (.cons (.int 3) (.cons (.int 3) .nil))))) (.cons (.tup (.cons (.int 0) (.cons (.int 1) (.cons (.int 0) (.cons (.int 1) .nil))))) .nil))) .nil)))) .nil)) (.lst (.cons (.int 1) .nil)))) .nil))))))), false⟩
/-! _law_bounds -/
def f_law_10_k24 : Fn := ⟨["_law_great", "_law_begin", "_law_end"], 3, (.cons (.tri (.cons (.ret (.call (.p 112) (.cons (.var 0) (.cons (.var 1) (.cons (.var 2) .nil))))) .nil) (.cons (.err 6) none (.cons (.ret .non) .nil) .nil) [0, 1, 2, 3, 6, 7, 8, 16]) .nil), false⟩
/-! _law_least -/
def f_law_11 : Fn := ⟨["_law_told"], 1, (.cons (.tri (.cons (.ret (.call (.p 15) (.cons (.var 0) .nil))) .nil) (.cons (.err 6) none (.cons (.ret .non) .nil) .nil) [0, 1, 2, 3, 4, 6, 7, 8]) .nil), false⟩
/-! _law_least -/
def f_law_11_k06 : Fn := ⟨["_law_ring"], 1, (.cons (.tri (.cons (.ret (.call (.p 44) (.cons (.var 0) .nil))) .nil) (.cons (.err 6) none (.cons (.ret .non) .nil) .nil) [0, 1, 2, 3, 6, 8, 10]) .nil), false⟩
/-! _law_sure -/
def f_law_12 : Fn := ⟨["_law_told"], 1, (.cons (.tri (.cons (.ret (.call (.p 19) (.cons (.var 0) .nil))) .nil) (.cons (.err 6) none (.cons (.ret .non) .nil) .nil) [0, 1, 2, 3, 4, 6, 7, 8]) .nil), false⟩
/-! _law_needless -/
def f_law_13_b0 : Ss := (.cons (.ite (.cmp .eq (.call (.law 6) (.cons (.lst (.cons (.ix (.var 0) (.int 0)) (.cons (.ix (.var 0) (.int 1)) (.cons (.bin .add (.sl (.ix (.var 0) (.int 2)) .no (.so (.var 3))) (.sl (.ix (.var 0) (.int 2)) (.so (.bin .add (.var 3) (.int 1))) .no)) .nil)))) .nil)) (.var 1)) (.cons (.app 2 (.var 3)) .nil) .nil) .nil)
def f_law_13_l1 : S := .for (.nm 3) (.rg1 (.b1 .len (.ix (.var 0) (.int 2)))) f_law_13_b0
def f_law_13 : Fn := ⟨["_law_b", "_law_fine", "_law_found", "_law_k"], 2, (.cons (.own 2 (.lst .nil)) (.cons f_law_13_l1 (.cons (.frz 2) (.cons (.ret (.var 2)) .nil)))), false⟩
/-! _law_far_needless -/
def f_law_14_b0 : Ss := (.cons (.ite (.cmp .eq (.call (.law 7) (.cons (.lst (.cons (.ix (.var 0) (.int 0)) (.cons (.ix (.var 0) (.int 1)) (.cons (.bin .add (.sl (.ix (.var 0) (.int 2)) .no (.so (.var 3))) (.sl (.ix (.var 0) (.int 2)) (.so (.bin .add (.var 3) (.int 1))) .no)) .nil)))) .nil)) (.var 1)) (.cons (.app 2 (.var 3)) .nil) .nil) .nil)
def f_law_14_l1 : S := .for (.nm 3) (.rg1 (.b1 .len (.ix (.var 0) (.int 2)))) f_law_14_b0
def f_law_14 : Fn := ⟨["_law_b", "_law_far_here", "_law_found", "_law_k"], 2, (.cons (.own 2 (.lst .nil)) (.cons f_law_14_l1 (.cons (.frz 2) (.cons (.ret (.var 2)) .nil)))), false⟩
/-! _law_far -/
def f_law_15_b0 : Ss := (.cons (.asg (.tp (.cons (.nm 12) (.cons (.nm 13) .nil))) (.call (.law 8) (.cons (.var 7) (.cons (.var 3) (.cons (.bin .add (.var 3) (.int 1)) .nil))))) (.cons (.asg (.nm 2) (.bin .add (.var 2) (.ifx (.cmp .eq (.var 12) (.var 13)) (.lst (.cons (.tup (.cons (.var 3) (.cons (.var 12) .nil))) .nil)) (.lst .nil)))) .nil))
def f_law_15_l1 : S := .for (.nm 3) (.rg1 (.ix (.var 1) (.int 0))) f_law_15_b0
def f_law_15 : Fn := ⟨["_law_h", "_law_b", "_law_sure_here", "_law_k", "_law_number", "_law_more", "_law_told", "_law_far_here", "_law_begin", "_law_end", "_law_low", "_law_high", "_law_least_here", "_law_greatest"], 1, (.cons (.asg (.nm 1) (.call (.law 3) (.cons (.var 0) (.cons (.int 12) (.cons (.ix (.lst (.cons (.int 9) (.cons (.int 60) (.cons (.bin .pow (.int 10) (.int 30)) .nil)))) (.call (.next) (.cons (.var 0) (.cons (.int 3) .nil)))) (.cons (.int 12) .nil)))))) (.cons (.par [6, 7] (.cons (.make .book (.cons (.ix (.var 1) (.int 0)) (.cons (.ix (.var 1) (.int 1)) (.cons (.ix (.var 1) (.int 2)) .nil)))) (.cons (.call (.law 7) (.cons (.var 1) .nil)) .nil))) (.cons (.ite (.or (.cmp .ne (.call (.p 11) (.cons (.var 6) .nil)) (.cmp .notn (.var 7) .non)) (.cmp .ne (.call (.law 11) (.cons (.var 6) .nil)) (.call (.law 9) (.cons (.var 1) .nil)))) (.cons (.ret (.bl false)) .nil) .nil) (.cons (.ite (.cmp .ne (.call (.p 21) (.cons (.var 6) .nil)) (.call (.law 14) (.cons (.var 1) (.cons (.var 7) .nil)))) (.cons (.ret (.bl false)) .nil) .nil) (.cons (.asg (.tp (.cons (.nm 8) (.cons (.nm 9) .nil))) (.call (.law 1) (.cons (.var 0) (.cons (.ix (.var 1) (.int 0)) .nil)))) (.cons (.ite (.cmp .isn (.var 7) .non) (.cons (.ret (.and (.cmp .isn (.call (.law 10) (.cons (.var 6) (.cons (.var 8) (.cons (.var 9) .nil)))) .non) (.cmp .isn (.call (.law 12) (.cons (.var 6) .nil)) .non))) .nil) .nil) (.cons (.asg (.tp (.cons (.nm 10) (.cons (.nm 11) .nil))) (.call (.law 8) (.cons (.var 7) (.cons (.var 8) (.cons (.var 9) .nil))))) (.cons (.ite (.cmp .ne (.call (.p 17) (.cons (.var 6) (.cons (.var 8) (.cons (.var 9) .nil)))) (.tup (.cons (.var 10) (.cons (.var 11) .nil)))) (.cons (.ret (.bl false)) .nil) .nil) (.cons (.asg (.nm 2) (.lst .nil)) (.cons f_law_15_l1 (.cons (.asg (.nm 4) (.bin .add (.b2 .max (.int 0) (.bin .sub (.var 10) (.int 1))) (.call (.next) (.cons (.var 0) (.cons (.bin .add (.bin .sub (.var 11) (.var 10)) (.int 3)) .nil))))) (.cons (.asg (.nm 5) (.lst (.cons (.ix (.var 1) (.int 0)) (.cons (.ix (.var 1) (.int 1)) (.cons (.bin .add (.ix (.var 1) (.int 2)) (.tup (.cons (.tup (.cons (.var 8) (.cons (.var 9) (.cons (.var 4) (.cons (.var 4) .nil))))) .nil))) .nil))))) (.cons (.ite (.cmp .ne (.call (.p 18) (.cons (.var 6) (.cons (.var 8) (.cons (.var 9) (.cons (.var 4) .nil))))) (.call (.law 9) (.cons (.var 5) .nil))) (.cons (.ret (.bl false)) .nil) .nil) (.cons (.ret (.cmp .eq (.call (.law 12) (.cons (.var 6) .nil)) (.var 2))) .nil)))))))))))))), false⟩
/-! _law_far -/
def f_law_15_k24_c0 : E := (.lc (.call (.next) (.cons (.var 0) (.cons (.bin .add (.var 8) (.int 1)) .nil))) (.nm 11) (.rg1 (.var 7)))
def f_law_15_k24_c1 : E := (.lc (.call (.law 26) (.cons (.var 0) (.cons (.var 1) (.cons (.int 3) .nil)))) (.nm 11) (.rg1 (.call (.next) (.cons (.var 0) (.cons (.int 9) .nil)))))
def f_law_15_k24 : Fn := ⟨["_law_h", "_law_row", "_law_facts", "_law_due", "_law_begin", "_law_end", "_law_total", "_law_cells", "_law_most", "_law_great", "_law_tables_here", "_law_k"], 1, (.cons (.asg (.tp (.cons (.nm 7) (.cons (.nm 8) .nil))) (.tup (.cons (.bin .add (.int 5) (.call (.next) (.cons (.var 0) (.cons (.int 6) .nil)))) (.cons (.bin .add (.int 1) (.call (.next) (.cons (.var 0) (.cons (.int 6) .nil)))) .nil)))) (.cons (.asg (.nm 1) (.b1 .tuple f_law_15_k24_c0)) (.cons (.asg (.nm 2) (.b1 .tuple f_law_15_k24_c1)) (.cons (.par [9, 10] (.cons (.make .round (.cons (.var 7) (.cons (.var 8) (.cons (.var 2) .nil)))) (.cons (.call (.law 23) (.cons (.var 7) (.cons (.var 8) (.cons (.var 2) .nil)))) .nil))) (.cons (.asg (.nm 3) (.ifx (.cmp .ne (.var 10) (.dnew false)) (.tup (.cons (.b1 .min (.var 10)) (.cons (.b1 .max (.var 10)) .nil))) .non)) (.cons (.ite (.cmp .ne (.call (.law 70) (.cons (.var 9) .nil)) (.var 3)) (.cons (.ret (.bl false)) .nil) .nil) (.cons (.asg (.nm 4) (.call (.next) (.cons (.var 0) (.cons (.var 7) .nil)))) (.cons (.asg (.nm 5) (.bin .add (.bin .add (.var 4) (.int 1)) (.call (.next) (.cons (.var 0) (.cons (.var 7) .nil))))) (.cons (.ite (.cmp .isn (.var 3) .non) (.cons (.ret (.cmp .isn (.call (.law 10) (.cons (.var 9) (.cons (.var 4) (.cons (.var 5) .nil)))) .non)) .nil) .nil) (.cons (.asg (.nm 6) (.bin .add (.ix (.var 3) (.int 0)) (.call (.next) (.cons (.var 0) (.cons (.bin .add (.bin .sub (.ix (.var 3) (.int 1)) (.ix (.var 3) (.int 0))) (.int 1)) .nil))))) (.cons (.ite (.cmp .ne (.call (.p 110) (.cons (.var 9) (.cons (.var 6) .nil))) (.call (.law 9) (.cons (.call (.law 22) (.cons (.var 7) (.cons (.var 8) (.cons (.var 2) (.cons (.var 6) .nil))))) .nil))) (.cons (.ret (.bl false)) .nil) .nil) (.cons (.ret (.cmp .eq (.call (.law 10) (.cons (.var 9) (.cons (.var 4) (.cons (.var 5) .nil)))) (.call (.law 24) (.cons (.var 7) (.cons (.var 10) (.cons (.var 4) (.cons (.var 5) .nil))))))) .nil)))))))))))), false⟩
/-! _law_reaches -/
def f_law_16_c0 : E := (.lci (.var 6) (.nm 6) (.of (.var 5)) (.nott (.chain .le .le (.int 0) (.var 6) (.ix (.var 1) (.int 1)))))
def f_law_16 : Fn := ⟨["_law_told", "_law_b", "_law_begin", "_law_end", "_law_number", "_law_row", "_law_x"], 5, (.cons (.asg (.nm 5) (.call (.p 18) (.cons (.var 0) (.cons (.var 2) (.cons (.var 3) (.cons (.var 4) .nil)))))) (.cons (.ite (.or (.nott (.isa (.var 5) .tuple)) (.or (.cmp .ne (.b1 .len (.var 5)) (.ix (.var 1) (.int 0))) (.cmp .ne f_law_16_c0 (.lst .nil)))) (.cons (.ret (.bl false)) .nil) .nil) (.cons (.ret (.and (.cmp .eq (.call (.p 6) (.cons (.var 0) (.cons (.var 5) .nil))) (.lst .nil)) (.cmp .eq (.b1 .sum (.sl (.var 5) (.so (.var 2)) (.so (.var 3)))) (.var 4)))) .nil))), false⟩
/-! link_edge -/
def f_p_22 : Fn := ⟨["book", "link", "word", "index", "way", "cells", "most", "facts", "begin", "end", "low", "high"], 2, (.cons (.asg (.tp (.cons (.nm 2) (.cons (.nm 3) (.cons (.nm 4) .nil)))) (.var 1)) (.cons (.asg (.tp (.cons (.nm 5) (.cons (.nm 6) (.cons (.nm 7) .nil)))) (.fld (.var 0) .book 0)) (.cons (.asg (.tp (.cons (.nm 8) (.cons (.nm 9) (.cons (.nm 10) (.cons (.nm 11) .nil))))) (.tup (.cons (.var 3) (.cons (.bin .add (.var 3) (.int 1)) (.cons (.int 0) (.cons (.var 6) .nil)))))) (.cons (.ite (.cmp .eq (.var 2) (.str ("fact" : Str))) (.cons (.asg (.tp (.cons (.nm 8) (.cons (.nm 9) (.cons (.nm 10) (.cons (.nm 11) .nil))))) (.ix (.var 7) (.var 3))) .nil) .nil) (.cons (.ite (.cmp .eq (.var 4) (.int 1)) (.cons (.ret (.tup (.cons (.var 8) (.cons (.var 9) (.cons (.var 11) .nil))))) .nil) .nil) (.cons (.ret (.tup (.cons (.var 9) (.cons (.var 8) (.cons (.neg (.var 10)) .nil))))) .nil)))))), false⟩
/-! all_links -/
def f_p_23_b0 : Ss := (.cons (.ext 1 (.lst (.cons (.tup (.cons (.str ("cell" : Str)) (.cons (.var 2) (.cons (.int 1) .nil)))) (.cons (.tup (.cons (.str ("cell" : Str)) (.cons (.var 2) (.cons (.neg (.int 1)) .nil)))) .nil)))) .nil)
def f_p_23_l1 : S := .for (.nm 2) (.rg1 (.ix (.fld (.var 0) .book 0) (.int 0))) f_p_23_b0
def f_p_23_b2 : Ss := (.cons (.ext 1 (.lst (.cons (.tup (.cons (.str ("fact" : Str)) (.cons (.var 3) (.cons (.int 1) .nil)))) (.cons (.tup (.cons (.str ("fact" : Str)) (.cons (.var 3) (.cons (.neg (.int 1)) .nil)))) .nil)))) .nil)
def f_p_23_l3 : S := .for (.nm 3) (.rg1 (.b1 .len (.ix (.fld (.var 0) .book 0) (.int 2)))) f_p_23_b2
def f_p_23 : Fn := ⟨["book", "found", "cell", "index"], 1, (.cons (.own 1 (.lst .nil)) (.cons f_p_23_l1 (.cons f_p_23_l3 (.cons (.ret (.var 1)) .nil)))), true⟩
/-! chain_to -/
def f_p_24_c0 : E := (.lc (.tup (.cons (.var 6) (.cons (.call (.p 22) (.cons (.var 0) (.cons (.var 6) .nil))) .nil))) (.nm 6) (.of (.call (.p 23) (.cons (.var 0) .nil))))
def f_p_24_b1 : Ss := (.cons (.asg (.tp (.cons (.nm 8) (.cons (.nm 9) (.cons (.nm 10) .nil)))) (.var 7)) (.cons (.ite (.cmp .isin (.var 8) (.var 4)) (.cons (.asg (.nm 11) (.bin .add (.ix (.ix (.var 4) (.var 8)) (.int 0)) (.var 10))) (.cons (.ite (.or (.cmp .notin (.var 9) (.var 4)) (.cmp .lt (.var 11) (.ix (.ix (.var 4) (.var 9)) (.int 0)))) (.cons (.put 4 (.var 9) (.tup (.cons (.var 11) (.cons (.bin .add (.ix (.ix (.var 4) (.var 8)) (.int 1)) (.tup (.cons (.var 6) .nil))) .nil)))) .nil) .nil) .nil)) .nil) .nil))
def f_p_24_l2 : S := .for (.tp (.cons (.nm 6) (.cons (.nm 7) .nil))) (.of (.var 3)) f_p_24_b1
def f_p_24_b3 : Ss := (.cons f_p_24_l2 .nil)
def f_p_24_l4 : S := .for (.nm 5) (.rg1 (.bin .add (.ix (.fld (.var 0) .book 0) (.int 0)) (.int 1))) f_p_24_b3
def f_p_24 : Fn := ⟨["book", "first", "last", "links", "found", "turn", "link", "edge", "one", "other", "weight", "new"], 3, (.cons (.asg (.nm 3) f_p_24_c0) (.cons (.own 4 (.dd1 (.var 1) (.tup (.cons (.int 0) (.cons (.tup .nil) .nil))))) (.cons f_p_24_l4 (.cons (.ret (.ix (.ix (.var 4) (.var 2)) (.int 1))) .nil)))), false⟩
/-! check_word -/
def f_p_25 : Fn := ⟨["value"], 1, (.cons (.ite (.or (.nott (.isa (.var 0) .str)) (.cmp .notin (.var 0) (.tup (.cons (.str ("greatest" : Str)) (.cons (.str ("least" : Str)) .nil))))) (.cons (.rais (.err 9) .nil) .nil) .nil) .nil), false⟩
/-! paper -/
def f_p_26 : Fn := ⟨["book", "begin", "end", "word"], 4, (.cons (.expr (.call (.p 3) (.cons (.var 0) .nil))) (.cons (.expr (.call (.p 7) (.cons (.var 0) (.cons (.var 1) (.cons (.var 2) .nil))))) (.cons (.expr (.call (.p 25) (.cons (.var 3) .nil))) (.cons (.expr (.call (.p 12) (.cons (.var 0) .nil))) (.cons (.ite (.cmp .eq (.var 3) (.str ("greatest" : Str))) (.cons (.ret (.call (.p 24) (.cons (.var 0) (.cons (.var 1) (.cons (.var 2) .nil))))) .nil) .nil) (.cons (.ret (.call (.p 24) (.cons (.var 0) (.cons (.var 2) (.cons (.var 1) .nil))))) .nil)))))), false⟩
/-! is_link -/
def f_p_27 : Fn := ⟨["book", "value"], 2, (.cons (.ite (.or (.nott (.isa (.var 1) .tuple)) (.or (.cmp .ne (.b1 .len (.var 1)) (.int 3)) (.nott (.isa (.ix (.var 1) (.int 0)) .str)))) (.cons (.ret (.bl false)) .nil) .nil) (.cons (.ite (.or (.nott (.call (.p 0) (.cons (.ix (.var 1) (.int 2)) .nil))) (.cmp .notin (.ix (.var 1) (.int 2)) (.tup (.cons (.int 1) (.cons (.neg (.int 1)) .nil))))) (.cons (.ret (.bl false)) .nil) .nil) (.cons (.ite (.cmp .eq (.ix (.var 1) (.int 0)) (.str ("fact" : Str))) (.cons (.ret (.call (.p 1) (.cons (.ix (.var 1) (.int 1)) (.cons (.int 0) (.cons (.bin .sub (.b1 .len (.ix (.fld (.var 0) .book 0) (.int 2))) (.int 1)) .nil))))) .nil) .nil) (.cons (.ret (.and (.cmp .eq (.ix (.var 1) (.int 0)) (.str ("cell" : Str))) (.call (.p 1) (.cons (.ix (.var 1) (.int 1)) (.cons (.int 0) (.cons (.bin .sub (.ix (.fld (.var 0) .book 0) (.int 0)) (.int 1)) .nil)))))) .nil)))), false⟩
/-! chain_edge -/
def f_p_28_b0 : Ss := (.cons (.ite (.nott (.call (.p 27) (.cons (.var 0) (.cons (.var 2) .nil)))) (.cons (.ret .non) .nil) .nil) .nil)
def f_p_28_l1 : S := .for (.nm 2) (.of (.var 1)) f_p_28_b0
def f_p_28_c2 : E := (.lc (.call (.p 22) (.cons (.var 0) (.cons (.var 2) .nil))) (.nm 2) (.of (.var 1)))
def f_p_28_b3 : Ss := (.cons (.ite (.cmp .ne (.ix (.ix (.var 3) (.var 4)) (.int 0)) (.ix (.ix (.var 3) (.bin .sub (.var 4) (.int 1))) (.int 1))) (.cons (.ret .non) .nil) .nil) .nil)
def f_p_28_l4 : S := .for (.nm 4) (.rg2 (.int 1) (.b1 .len (.var 3))) f_p_28_b3
def f_p_28_c5 : E := (.lc (.ix (.var 5) (.int 2)) (.nm 5) (.of (.var 3)))
def f_p_28 : Fn := ⟨["book", "value", "link", "edges", "place", "edge"], 2, (.cons (.ite (.or (.nott (.isa (.var 1) .tuple)) (.nott (.chain .le .le (.int 1) (.b1 .len (.var 1)) (.int 40)))) (.cons (.ret .non) .nil) .nil) (.cons f_p_28_l1 (.cons (.asg (.nm 3) f_p_28_c2) (.cons f_p_28_l4 (.cons (.ret (.tup (.cons (.ix (.ix (.var 3) (.int 0)) (.int 0)) (.cons (.ix (.ix (.var 3) (.neg (.int 1))) (.int 1)) (.cons (.b1 .sum f_p_28_c5) .nil))))) .nil))))), false⟩
/-! shows -/
def f_p_29 : Fn := ⟨["book", "begin", "end", "word", "number", "value", "found"], 6, (.cons (.expr (.call (.p 3) (.cons (.var 0) .nil))) (.cons (.expr (.call (.p 7) (.cons (.var 0) (.cons (.var 1) (.cons (.var 2) .nil))))) (.cons (.expr (.call (.p 25) (.cons (.var 3) .nil))) (.cons (.ite (.nott (.call (.p 0) (.cons (.var 4) .nil))) (.cons (.rais (.err 7) .nil) .nil) .nil) (.cons (.asg (.nm 6) (.call (.p 28) (.cons (.var 0) (.cons (.var 5) .nil)))) (.cons (.ite (.cmp .isn (.var 6) .non) (.cons (.ret (.bl false)) .nil) .nil) (.cons (.ite (.cmp .eq (.var 3) (.str ("greatest" : Str))) (.cons (.ret (.and (.cmp .eq (.sl (.var 6) .no (.so (.int 2))) (.tup (.cons (.var 1) (.cons (.var 2) .nil)))) (.cmp .le (.ix (.var 6) (.int 2)) (.var 4)))) .nil) .nil) (.cons (.ret (.and (.cmp .eq (.sl (.var 6) .no (.so (.int 2))) (.tup (.cons (.var 2) (.cons (.var 1) .nil)))) (.cmp .le (.ix (.var 6) (.int 2)) (.neg (.var 4))))) .nil)))))))), false⟩
/-! _law_edge -/
def f_law_17 : Fn := ⟨["_law_b", "_law_link", "_law_most", "_law_begin", "_law_end", "_law_low", "_law_high"], 2, (.cons (.ite (.or (.nott (.isa (.var 1) .tuple)) (.or (.cmp .ne (.b1 .len (.var 1)) (.int 3)) (.or (.cmp .notin (.ix (.var 1) (.int 0)) (.lst (.cons (.str ("fact" : Str)) (.cons (.str ("cell" : Str)) .nil)))) (.cmp .notin (.ix (.var 1) (.int 2)) (.lst (.cons (.int 1) (.cons (.neg (.int 1)) .nil))))))) (.cons (.ret .non) .nil) .nil) (.cons (.ite (.isa (.ix (.var 1) (.int 2)) .bool) (.cons (.ret .non) .nil) .nil) (.cons (.asg (.nm 2) (.ifx (.cmp .eq (.ix (.var 1) (.int 0)) (.str ("fact" : Str))) (.b1 .len (.ix (.var 0) (.int 2))) (.ix (.var 0) (.int 0)))) (.cons (.ite (.or (.isa (.ix (.var 1) (.int 1)) .bool) (.or (.nott (.isa (.ix (.var 1) (.int 1)) .int)) (.nott (.chain .le .lt (.int 0) (.ix (.var 1) (.int 1)) (.var 2))))) (.cons (.ret .non) .nil) .nil) (.cons (.asg (.tp (.cons (.nm 3) (.cons (.nm 4) (.cons (.nm 5) (.cons (.nm 6) .nil))))) (.ifx (.cmp .eq (.ix (.var 1) (.int 0)) (.str ("fact" : Str))) (.ix (.ix (.var 0) (.int 2)) (.ix (.var 1) (.int 1))) (.tup (.cons (.ix (.var 1) (.int 1)) (.cons (.bin .add (.ix (.var 1) (.int 1)) (.int 1)) (.cons (.int 0) (.cons (.ix (.var 0) (.int 1)) .nil))))))) (.cons (.ret (.ifx (.cmp .eq (.ix (.var 1) (.int 2)) (.int 1)) (.tup (.cons (.var 3) (.cons (.var 4) (.cons (.var 6) .nil)))) (.tup (.cons (.var 4) (.cons (.var 3) (.cons (.neg (.var 5)) .nil)))))) .nil)))))), false⟩
/-! _law_edge -/
def f_law_17_k05 : Fn := ⟨["_law_b", "_law_link", "_law_begin", "_law_end", "_law_low", "_law_high"], 2, (.cons (.asg (.tp (.cons (.nm 2) (.cons (.nm 3) (.cons (.nm 4) (.cons (.nm 5) .nil))))) (.ifx (.cmp .eq (.ix (.var 1) (.int 0)) (.str ("fact" : Str))) (.ix (.ix (.var 0) (.int 2)) (.ix (.var 1) (.int 1))) (.tup (.cons (.ix (.var 1) (.int 1)) (.cons (.bin .add (.ix (.var 1) (.int 1)) (.int 1)) (.cons (.int 0) (.cons (.ix (.var 0) (.int 1)) .nil))))))) (.cons (.ret (.ifx (.cmp .eq (.ix (.var 1) (.int 2)) (.int 1)) (.tup (.cons (.var 2) (.cons (.var 3) (.cons (.var 5) .nil)))) (.tup (.cons (.var 3) (.cons (.var 2) (.cons (.neg (.var 4)) .nil)))))) .nil)), false⟩
/-! _law_edge -/
def f_law_17_k22 : Fn := ⟨["_law_b", "_law_row", "_law_link", "_law_most", "_law_k", "_law_ends", "_law_own", "_law_begin", "_law_end", "_law_low", "_law_high"], 3, (.cons (.ite (.or (.nott (.isa (.var 2) .tuple)) (.cmp .ne (.b1 .len (.var 2)) (.int 3))) (.cons (.ret .non) .nil) .nil) (.cons (.ite (.or (.cmp .notin (.ix (.var 2) (.int 0)) (.lst (.cons (.str ("fact" : Str)) (.cons (.str ("cell" : Str)) (.cons (.str ("row" : Str)) .nil))))) (.cmp .notin (.ix (.var 2) (.int 2)) (.lst (.cons (.int 1) (.cons (.neg (.int 1)) .nil))))) (.cons (.ret .non) .nil) .nil) (.cons (.asg (.nm 3) (.ifx (.cmp .eq (.ix (.var 2) (.int 0)) (.str ("fact" : Str))) (.b1 .len (.ix (.var 0) (.int 2))) (.ix (.var 0) (.int 0)))) (.cons (.asg (.nm 4) (.ix (.var 2) (.int 1))) (.cons (.ite (.or (.isa (.var 4) .bool) (.or (.nott (.isa (.var 4) .int)) (.or (.nott (.chain .le .lt (.int 0) (.var 4) (.var 3))) (.isa (.ix (.var 2) (.int 2)) .bool)))) (.cons (.ret .non) .nil) .nil) (.cons (.asg (.nm 5) (.tup (.cons (.var 4) (.cons (.bin .add (.var 4) (.int 1)) (.cons (.int 0) (.cons (.ix (.var 0) (.int 1)) .nil)))))) (.cons (.ite (.cmp .eq (.ix (.var 2) (.int 0)) (.str ("fact" : Str))) (.cons (.asg (.nm 5) (.ix (.ix (.var 0) (.int 2)) (.var 4))) .nil) .nil) (.cons (.ite (.cmp .eq (.ix (.var 2) (.int 0)) (.str ("row" : Str))) (.cons (.asg (.nm 5) (.tup (.cons (.var 4) (.cons (.bin .add (.var 4) (.int 1)) (.cons (.ix (.var 1) (.var 4)) (.cons (.ix (.var 1) (.var 4)) .nil)))))) .nil) .nil) (.cons (.asg (.tp (.cons (.nm 7) (.cons (.nm 8) (.cons (.nm 9) (.cons (.nm 10) .nil))))) (.var 5)) (.cons (.asg (.nm 6) (.b1 .int (.cmp .eq (.ix (.var 2) (.int 0)) (.str ("row" : Str))))) (.cons (.ret (.ifx (.cmp .eq (.ix (.var 2) (.int 2)) (.int 1)) (.tup (.cons (.var 7) (.cons (.var 8) (.cons (.var 10) (.cons (.var 6) .nil))))) (.tup (.cons (.var 8) (.cons (.var 7) (.cons (.neg (.var 9)) (.cons (.var 6) .nil))))))) .nil))))))))))), false⟩
/-! _law_weight -/
def f_law_18_b0 : Ss := (.cons (.asg (.nm 6) (.call (.law 17) (.cons (.var 0) (.cons (.var 5) .nil)))) (.cons (.ite (.or (.cmp .isn (.var 6) .non) (.cmp .ne (.ix (.var 6) (.int 0)) (.var 2))) (.cons (.ret .non) .nil) .nil) (.cons (.par [2, 4] (.cons (.ix (.var 6) (.int 1)) (.cons (.bin .add (.var 4) (.ix (.var 6) (.int 2))) .nil))) .nil)))
def f_law_18_l1 : S := .for (.nm 5) (.of (.var 1)) f_law_18_b0
def f_law_18 : Fn := ⟨["_law_b", "_law_value", "_law_first", "_law_last", "_law_whole", "_law_link", "_law_edge_here"], 4, (.cons (.ite (.or (.nott (.isa (.var 1) .tuple)) (.nott (.chain .le .le (.int 1) (.b1 .len (.var 1)) (.int 40)))) (.cons (.ret .non) .nil) .nil) (.cons (.asg (.nm 4) (.int 0)) (.cons f_law_18_l1 (.cons (.ret (.ifx (.cmp .eq (.var 2) (.var 3)) (.var 4) .non)) .nil)))), false⟩
/-! _law_weight -/
def f_law_18_k05_c0 : E := (.lc (.call (.law 17) (.cons (.var 0) (.cons (.var 4) .nil))) (.nm 4) (.of (.var 1)))
def f_law_18_k05_b1 : Ss := (.cons (.ite (.cmp .ne (.ix (.ix (.var 2) (.bin .sub (.var 3) (.int 1))) (.int 1)) (.ix (.ix (.var 2) (.var 3)) (.int 0))) (.cons (.ret .non) .nil) .nil) .nil)
def f_law_18_k05_l2 : S := .for (.nm 3) (.rg1 (.b1 .len (.var 2))) f_law_18_k05_b1
def f_law_18_k05_c3 : E := (.lc (.ix (.var 5) (.int 2)) (.nm 5) (.of (.var 2)))
def f_law_18_k05 : Fn := ⟨["_law_b", "_law_value", "_law_edges", "_law_k", "_law_link", "_law_edge_here"], 2, (.cons (.asg (.nm 2) f_law_18_k05_c0) (.cons (.ite (.cmp .eq (.var 2) (.lst .nil)) (.cons (.ret .non) .nil) .nil) (.cons f_law_18_k05_l2 (.cons (.ret (.b1 .sum f_law_18_k05_c3)) .nil)))), false⟩
/-! _law_spoilt -/
def f_law_19 : Fn := ⟨["_law_h", "_law_b", "_law_value", "_law_kind", "_law_spot", "_law_link", "_law_back", "_law_last"], 3, (.cons (.asg (.nm 3) (.call (.next) (.cons (.var 0) (.cons (.int 6) .nil)))) (.cons (.asg (.nm 4) (.call (.next) (.cons (.var 0) (.cons (.b1 .len (.var 2)) .nil)))) (.cons (.asg (.nm 5) (.tup (.cons (.ix (.lst (.cons (.str ("fact" : Str)) (.cons (.str ("cell" : Str)) .nil))) (.call (.next) (.cons (.var 0) (.cons (.int 2) .nil)))) (.cons (.call (.next) (.cons (.var 0) (.cons (.b2 .max (.ix (.var 1) (.int 0)) (.b1 .len (.ix (.var 1) (.int 2)))) .nil))) (.cons (.ix (.lst (.cons (.int 1) (.cons (.neg (.int 1)) .nil))) (.call (.next) (.cons (.var 0) (.cons (.int 2) .nil)))) .nil))))) (.cons (.ite (.cmp .eq (.var 3) (.int 0)) (.cons (.ret (.bin .add (.bin .add (.sl (.var 2) .no (.so (.var 4))) (.tup (.cons (.var 5) .nil))) (.sl (.var 2) (.so (.bin .add (.var 4) (.int 1))) .no))) .nil) .nil) (.cons (.ite (.cmp .eq (.var 3) (.int 1)) (.cons (.ret (.bin .add (.sl (.var 2) .no (.so (.var 4))) (.sl (.var 2) (.so (.bin .add (.var 4) (.int 1))) .no))) .nil) .nil) (.cons (.ite (.cmp .eq (.var 3) (.int 2)) (.cons (.asg (.nm 6) (.tup (.cons (.ix (.ix (.var 2) (.var 4)) (.int 0)) (.cons (.ix (.ix (.var 2) (.var 4)) (.int 1)) (.cons (.neg (.ix (.ix (.var 2) (.var 4)) (.int 2))) .nil))))) (.cons (.ret (.bin .add (.bin .add (.sl (.var 2) .no (.so (.var 4))) (.tup (.cons (.ix (.var 2) (.var 4)) (.cons (.var 6) .nil)))) (.sl (.var 2) (.so (.var 4)) .no))) .nil)) .nil) (.cons (.ite (.cmp .eq (.var 3) (.int 3)) (.cons (.asg (.nm 7) (.tup (.cons (.ix (.ix (.var 2) (.neg (.int 1))) (.int 0)) (.cons (.ix (.ix (.var 2) (.neg (.int 1))) (.int 1)) (.cons (.bl true) .nil))))) (.cons (.ret (.ix (.lst (.cons .non (.cons (.b1 .list (.var 2)) (.cons (.tup .nil) (.cons (.bin .add (.var 2) (.tup (.cons .non .nil))) (.cons (.bin .add (.sl (.var 2) .no (.so (.neg (.int 1)))) (.tup (.cons (.var 7) .nil))) .nil)))))) (.call (.next) (.cons (.var 0) (.cons (.int 5) .nil))))) .nil)) .nil) (.cons (.ite (.cmp .eq (.var 3) (.int 4)) (.cons (.ret (.bin .add (.bin .mul (.tup (.cons (.tup (.cons (.str ("cell" : Str)) (.cons (.int 0) (.cons (.int 1) .nil)))) (.cons (.tup (.cons (.str ("cell" : Str)) (.cons (.int 0) (.cons (.neg (.int 1)) .nil)))) .nil))) (.int 20)) (.var 2))) .nil) .nil) (.cons (.ret (.var 2)) .nil))))))))), false⟩
/-! _law_spoilt -/
def f_law_19_k22 : Fn := ⟨["_law_h", "_law_b", "_law_value", "_law_spot", "_law_kind", "_law_word", "_law_place", "_law_way"], 3, (.cons (.par [3, 4] (.cons (.call (.next) (.cons (.var 0) (.cons (.b1 .len (.var 2)) .nil))) (.cons (.call (.next) (.cons (.var 0) (.cons (.int 5) .nil))) .nil))) (.cons (.asg (.tp (.cons (.nm 5) (.cons (.nm 6) (.cons (.nm 7) .nil)))) (.ix (.var 2) (.var 3))) (.cons (.ite (.cmp .eq (.var 4) (.int 0)) (.cons (.ret (.bin .add (.bin .add (.sl (.var 2) .no (.so (.var 3))) (.tup (.cons (.tup (.cons (.ix (.lst (.cons (.str ("fact" : Str)) (.cons (.str ("cell" : Str)) (.cons (.str ("row" : Str)) .nil)))) (.call (.next) (.cons (.var 0) (.cons (.int 3) .nil)))) (.cons (.var 6) (.cons (.var 7) .nil)))) .nil))) (.sl (.var 2) (.so (.bin .add (.var 3) (.int 1))) .no))) .nil) .nil) (.cons (.ite (.cmp .eq (.var 4) (.int 1)) (.cons (.ret (.bin .add (.bin .add (.sl (.var 2) .no (.so (.var 3))) (.tup (.cons (.tup (.cons (.var 5) (.cons (.var 6) (.cons (.neg (.var 7)) .nil)))) .nil))) (.sl (.var 2) (.so (.bin .add (.var 3) (.int 1))) .no))) .nil) .nil) (.cons (.ite (.cmp .eq (.var 4) (.int 2)) (.cons (.ret (.bin .add (.sl (.var 2) .no (.so (.var 3))) (.sl (.var 2) (.so (.bin .add (.var 3) (.int 1))) .no))) .nil) .nil) (.cons (.ite (.cmp .eq (.var 4) (.int 3)) (.cons (.ret (.bin .add (.bin .add (.sl (.var 2) .no (.so (.var 3))) (.bin .mul (.tup (.cons (.tup (.cons (.str ("row" : Str)) (.cons (.int 0) (.cons (.int 1) .nil)))) (.cons (.tup (.cons (.str ("row" : Str)) (.cons (.int 0) (.cons (.neg (.int 1)) .nil)))) .nil))) (.call (.next) (.cons (.var 0) (.cons (.int 20) .nil))))) (.sl (.var 2) (.so (.var 3)) .no))) .nil) .nil) (.cons (.ret (.ix (.lst (.cons .non (.cons (.tup .nil) (.cons (.b1 .list (.var 2)) (.cons (.bin .add (.var 2) (.tup (.cons .non .nil))) (.cons (.tup (.cons (.tup (.cons (.str ("row" : Str)) (.cons (.bl true) (.cons (.int 1) .nil)))) .nil)) .nil)))))) (.call (.next) (.cons (.var 0) (.cons (.int 5) .nil))))) .nil))))))), false⟩
/-! better_walks -/
def f_p_30_b0 : Ss := (.cons (.asg (.tp (.cons (.nm 8) (.cons (.nm 9) (.cons (.nm 10) .nil)))) (.var 7)) (.cons (.ite (.cmp .isin (.var 8) (.var 5)) (.cons (.asg (.nm 11) (.bin .add (.ix (.ix (.var 5) (.var 8)) (.int 0)) (.var 10))) (.cons (.ite (.or (.cmp .notin (.var 9) (.var 5)) (.cmp .lt (.var 11) (.ix (.ix (.var 5) (.var 9)) (.int 0)))) (.cons (.put 5 (.var 9) (.tup (.cons (.var 11) (.cons (.bin .add (.ix (.ix (.var 5) (.var 8)) (.int 1)) (.tup (.cons (.var 6) .nil))) .nil)))) .nil) .nil) .nil)) .nil) .nil))
def f_p_30_l1 : S := .for (.tp (.cons (.nm 6) (.cons (.nm 7) .nil))) (.of (.var 2)) f_p_30_b0
def f_p_30_b2 : Ss := (.cons (.own 5 (.b1 .dict (.var 3))) (.cons f_p_30_l1 (.cons (.frz 5) (.cons (.asg (.nm 3) (.var 5)) .nil))))
def f_p_30_l3 : S := .for (.nm 4) (.rg1 (.bin .add (.ix (.fld (.var 0) .book 0) (.int 0)) (.int 1))) f_p_30_b2
def f_p_30 : Fn := ⟨["book", "walks", "links", "found", "turn", "later", "link", "edge", "one", "other", "weight", "new"], 3, (.cons (.asg (.nm 3) (.var 1)) (.cons f_p_30_l3 (.cons (.ret (.var 3)) .nil))), false⟩
/-! with_fact -/
def f_p_31_b0 : Ss := (.cons (.asg (.tp (.cons (.nm 5) (.cons (.nm 6) (.cons (.nm 7) .nil)))) (.var 4)) (.cons (.ite (.cmp .isin (.var 5) (.var 0)) (.cons (.asg (.nm 8) (.bin .add (.ix (.ix (.var 0) (.var 5)) (.int 0)) (.var 7))) (.cons (.ite (.or (.cmp .notin (.var 6) (.var 2)) (.cmp .lt (.var 8) (.ix (.ix (.var 2) (.var 6)) (.int 0)))) (.cons (.put 2 (.var 6) (.tup (.cons (.var 8) (.cons (.bin .add (.ix (.ix (.var 0) (.var 5)) (.int 1)) (.tup (.cons (.var 3) .nil))) .nil)))) .nil) .nil) .nil)) .nil) .nil))
def f_p_31_l1 : S := .for (.tp (.cons (.nm 3) (.cons (.nm 4) .nil))) (.of (.var 1)) f_p_31_b0
def f_p_31 : Fn := ⟨["walks", "links", "found", "link", "edge", "one", "other", "weight", "new"], 2, (.cons (.own 2 (.b1 .dict (.var 0))) (.cons f_p_31_l1 (.cons (.frz 2) (.cons (.ret (.var 2)) .nil)))), false⟩
/-! bad_walk -/
def f_p_32_c0 : E := (.lci (.tup (.cons (.var 6) (.cons (.call (.p 22) (.cons (.var 0) (.cons (.var 6) .nil))) .nil))) (.nm 6) (.of (.call (.p 23) (.cons (.var 0) .nil))) (.cmp .eq (.ix (.var 6) (.int 0)) (.str ("cell" : Str))))
def f_p_32_c1 : E := (.lci (.tup (.cons (.var 6) (.cons (.call (.p 22) (.cons (.var 0) (.cons (.var 6) .nil))) .nil))) (.nm 6) (.of (.call (.p 23) (.cons (.var 0) .nil))) (.cmp .eq (.ix (.var 6) (.int 0)) (.str ("fact" : Str))))
def f_p_32_b2 : Ss := (.cons (.put 3 (.var 4) (.call (.p 30) (.cons (.var 0) (.cons (.dd1 (.var 4) (.tup (.cons (.int 0) (.cons (.tup .nil) .nil)))) (.cons (.var 1) .nil))))) .nil)
def f_p_32_l3 : S := .for (.nm 4) (.rg1 (.bin .add (.ix (.fld (.var 0) .book 0) (.int 0)) (.int 1))) f_p_32_b2
def f_p_32_b4 : Ss := (.cons (.put 3 (.var 4) (.call (.p 30) (.cons (.var 0) (.cons (.call (.p 31) (.cons (.ix (.var 3) (.var 4)) (.cons (.var 2) .nil))) (.cons (.var 1) .nil))))) (.cons (.ite (.cmp .lt (.ix (.ix (.ix (.var 3) (.var 4)) (.var 4)) (.int 0)) (.int 0)) (.cons (.ret (.tup (.cons (.ix (.ix (.ix (.var 3) (.var 4)) (.var 4)) (.int 1)) (.cons (.var 5) .nil)))) .nil) .nil) .nil))
def f_p_32_l5 : S := .for (.nm 4) (.of (.b1 .list (.var 3))) f_p_32_b4
def f_p_32_b6 : Ss := (.cons (.aug 5 .add (.int 1)) (.cons f_p_32_l5 .nil))
def f_p_32_l7 : S := .whl (.bl true) f_p_32_b6
def f_p_32 : Fn := ⟨["book", "cells", "facts", "tables", "place", "many", "link"], 1, (.cons (.asg (.nm 1) f_p_32_c0) (.cons (.asg (.nm 2) f_p_32_c1) (.cons (.own 3 (.dnew false)) (.cons f_p_32_l3 (.cons (.asg (.nm 5) (.int 0)) (.cons f_p_32_l7 .nil)))))), false⟩
/-! clash -/
def f_p_34 : Fn := ⟨["book"], 1, (.cons (.expr (.call (.p 3) (.cons (.var 0) .nil))) (.cons (.ite (.call (.p 10) (.cons (.var 0) .nil)) (.cons (.ret .non) .nil) .nil) (.cons (.ret (.call (.p 33) (.cons (.var 0) (.cons (.ix (.call (.p 32) (.cons (.var 0) .nil)) (.int 0)) .nil)))) .nil))), false⟩
/-! is_clash -/
def f_p_35 : Fn := ⟨["book", "value", "found"], 2, (.cons (.expr (.call (.p 3) (.cons (.var 0) .nil))) (.cons (.asg (.nm 2) (.call (.p 28) (.cons (.var 0) (.cons (.var 1) .nil)))) (.cons (.ret (.and (.cmp .notn (.var 2) .non) (.and (.cmp .eq (.ix (.var 2) (.int 0)) (.ix (.var 2) (.int 1))) (.cmp .lt (.ix (.var 2) (.int 2)) (.int 0))))) .nil))), false⟩
/-! fewest -/
def f_p_36 : Fn := ⟨["book"], 1, (.cons (.expr (.call (.p 3) (.cons (.var 0) .nil))) (.cons (.ite (.call (.p 10) (.cons (.var 0) .nil)) (.cons (.ret .non) .nil) .nil) (.cons (.ret (.ix (.call (.p 32) (.cons (.var 0) .nil)) (.int 1))) .nil))), false⟩
/-! _law_two -/
def f_law_20_c0 : E := (.lc (.call (.next) (.cons (.var 0) (.cons (.bin .add (.ix (.var 1) (.int 1)) (.int 1)) .nil))) (.nm 3) (.rg1 (.ix (.var 1) (.int 0))))
def f_law_20_c1 : E := (.lc (.call (.law 2) (.cons (.var 0) (.cons (.var 2) (.cons (.int 2) .nil)))) (.nm 3) (.rg1 (.call (.next) (.cons (.var 0) (.cons (.int 3) .nil)))))
def f_law_20 : Fn := ⟨["_law_h", "_law_b", "_law_row", "_law_k"], 1, (.cons (.own 1 (.call (.law 3) (.cons (.var 0) (.cons (.int 6) (.cons (.ix (.lst (.cons (.int 2) (.cons (.int 9) .nil))) (.call (.next) (.cons (.var 0) (.cons (.int 2) .nil)))) (.cons (.int 5) .nil)))))) (.cons (.ite (.cmp .eq (.call (.next) (.cons (.var 0) (.cons (.int 4) .nil))) (.int 0)) (.cons (.frz 1) (.cons (.own 1 (.call (.law 3) (.cons (.var 0) (.cons (.int 10) (.cons (.ix (.lst (.cons (.int 60) (.cons (.bin .pow (.int 10) (.int 30)) .nil))) (.call (.next) (.cons (.var 0) (.cons (.int 2) .nil)))) (.cons (.int 4) .nil)))))) .nil)) (.cons (.ite (.cmp .eq (.call (.next) (.cons (.var 0) (.cons (.int 6) .nil))) (.int 0)) (.cons (.frz 1) (.cons (.own 1 (.call (.law 3) (.cons (.var 0) (.cons (.int 3) (.cons (.int 9) (.cons (.int 8) .nil)))))) .nil)) .nil) .nil)) (.cons (.asg (.nm 2) f_law_20_c0) (.cons (.ite (.cmp .gt (.call (.next) (.cons (.var 0) (.cons (.int 3) .nil))) (.int 0)) (.cons (.put 1 (.int 2) (.bin .add (.ix (.var 1) (.int 2)) (.b1 .tuple f_law_20_c1))) .nil) .nil) (.cons (.frz 1) (.cons (.ret (.var 1)) .nil)))))), false⟩
/-! _law_two -/
def f_law_20_k28 : Fn := ⟨["_law_told", "_law_less"], 0, (.cons (.par [0, 1] (.cons (.make .book (.cons (.int 2) (.cons (.int 3) (.cons (.tup (.cons (.tup (.cons (.int 0) (.cons (.int 2) (.cons (.int 4) (.cons (.int 4) .nil))))) .nil)) .nil)))) (.cons (.make .book (.cons (.int 2) (.cons (.int 3) (.cons (.tup (.cons (.tup (.cons (.int 0) (.cons (.int 2) (.cons (.int 4) (.cons (.int 4) .nil))))) (.cons (.tup (.cons (.int 0) (.cons (.int 1) (.cons (.int 2) (.cons (.int 9) .nil))))) .nil))) .nil)))) .nil))) (.cons (.ite (.or (.nott (.call (.p 70) (.cons (.var 1) (.cons (.var 0) .nil)))) (.or (.call (.p 70) (.cons (.var 0) (.cons (.var 1) .nil))) (.cmp .ne (.call (.p 74) (.cons (.var 0) (.cons (.var 1) .nil))) (.tup (.cons (.int 1) (.cons (.int 3) .nil)))))) (.cons (.ret (.bl false)) .nil) .nil) (.cons (.ite (.nott (.call (.p 71) (.cons (.var 0) (.cons (.make .book (.cons (.int 2) (.cons (.int 3) (.cons (.tup (.cons (.tup (.cons (.int 0) (.cons (.int 2) (.cons (.int 4) (.cons (.int 4) .nil))))) (.cons (.tup (.cons (.int 0) (.cons (.int 1) (.cons (.int 1) (.cons (.int 3) .nil))))) .nil))) .nil)))) .nil)))) (.cons (.ret (.bl false)) .nil) .nil) (.cons (.ite (.cmp .ne (.call (.p 75) (.cons (.var 1) .nil)) (.lst (.cons (.tup (.cons (.int 0) (.cons (.int 1) (.cons (.int 2) (.cons (.int 3) .nil))))) (.cons (.tup (.cons (.int 0) (.cons (.int 2) (.cons (.int 4) (.cons (.int 4) .nil))))) (.cons (.tup (.cons (.int 1) (.cons (.int 2) (.cons (.int 1) (.cons (.int 2) .nil))))) .nil))))) (.cons (.ret (.bl false)) .nil) .nil) (.cons (.ret (.cmp .eq (.call (.p 77) (.cons (.make .book (.cons (.int 3) (.cons (.int 1) (.cons (.tup (.cons (.tup (.cons (.int 0) (.cons (.int 3) (.cons (.int 3) (.cons (.int 3) .nil))))) (.cons (.tup (.cons (.int 0) (.cons (.int 1) (.cons (.int 1) (.cons (.int 1) .nil))))) (.cons (.tup (.cons (.int 1) (.cons (.int 2) (.cons (.int 1) (.cons (.int 1) .nil))))) (.cons (.tup (.cons (.int 2) (.cons (.int 3) (.cons (.int 1) (.cons (.int 1) .nil))))) .nil))))) .nil)))) .nil)) (.lst (.cons (.tup (.cons (.int 0) .nil)) .nil)))) .nil))))), false⟩
/-! _law_fewest -/
def f_law_21_c0 : E := (.lc (.bin .add (.var 4) (.tup (.cons (.var 2) .nil))) (.nm 4) (.of (.var 1)))
def f_law_21_b1 : Ss := (.cons (.asg (.nm 1) (.bin .add (.var 1) f_law_21_c0)) .nil)
def f_law_21_l2 : S := .for (.nm 2) (.of (.ix (.var 0) (.int 2))) f_law_21_b1
def f_law_21_c3 : E := (.lci (.b1 .len (.var 4)) (.nm 4) (.of (.var 1)) (.cmp .isn (.call (.law 7) (.cons (.lst (.cons (.ix (.var 0) (.int 0)) (.cons (.ix (.var 0) (.int 1)) (.cons (.var 4) .nil)))) .nil)) .non))
def f_law_21 : Fn := ⟨["_law_b", "_law_lots", "_law_fact_here", "_law_sizes", "_law_some"], 1, (.cons (.asg (.nm 1) (.lst (.cons (.tup .nil) .nil))) (.cons f_law_21_l2 (.cons (.asg (.nm 3) f_law_21_c3) (.cons (.ret (.ifx (.cmp .ne (.var 3) (.lst .nil)) (.b1 .min (.var 3)) .non)) .nil)))), false⟩
/-! is_ring_fact -/
def f_p_37 : Fn := ⟨["value", "cells"], 2, (.cons (.ite (.or (.nott (.isa (.var 0) .tuple)) (.cmp .ne (.b1 .len (.var 0)) (.int 4))) (.cons (.ret (.bl false)) .nil) .nil) (.cons (.ite (.or (.nott (.call (.p 1) (.cons (.ix (.var 0) (.int 0)) (.cons (.int 0) (.cons (.bin .sub (.var 1) (.int 1)) .nil))))) (.nott (.call (.p 1) (.cons (.ix (.var 0) (.int 1)) (.cons (.bin .add (.ix (.var 0) (.int 0)) (.int 1)) (.cons (.bin .add (.ix (.var 0) (.int 0)) (.var 1)) .nil)))))) (.cons (.ret (.bl false)) .nil) .nil) (.cons (.ret (.and (.call (.p 1) (.cons (.ix (.var 0) (.int 2)) (.cons (.int 0) (.cons (.int 100000000000000000000000000000000) .nil)))) (.call (.p 1) (.cons (.ix (.var 0) (.int 3)) (.cons (.ix (.var 0) (.int 2)) (.cons (.int 100000000000000000000000000000000) .nil)))))) .nil))), false⟩
/-! Ring.__init__ -/
def f_ini_ring_b0 : Ss := (.cons (.ite (.nott (.call (.p 37) (.cons (.var 5) (.cons (.var 1) .nil)))) (.cons (.rais (.err 3) (.cons (.var 4) .nil)) .nil) .nil) .nil)
def f_ini_ring_l1 : S := .for (.tp (.cons (.nm 4) (.cons (.nm 5) .nil))) (.en (.var 3)) f_ini_ring_b0
def f_ini_ring : Fn := ⟨["self", "cells", "most", "facts", "index", "fact"], 4, (.cons (.ite (.nott (.call (.p 1) (.cons (.var 1) (.cons (.int 1) (.cons (.int 8) .nil))))) (.cons (.rais (.err 1) .nil) .nil) .nil) (.cons (.ite (.nott (.call (.p 1) (.cons (.var 2) (.cons (.int 0) (.cons (.int 9) .nil))))) (.cons (.rais (.err 2) .nil) .nil) .nil) (.cons (.ite (.or (.nott (.isa (.var 3) .tuple)) (.cmp .gt (.b1 .len (.var 3)) (.int 12))) (.cons (.rais (.err 3) (.cons .non .nil)) .nil) .nil) (.cons f_ini_ring_l1 (.cons (.seta 0 .ring (.tup (.cons (.var 1) (.cons (.var 2) (.cons (.var 3) .nil))))) .nil))))), false⟩
/-! Ring.cells -/
def f_pr_ring_0 : Fn := ⟨["self"], 1, (.cons (.ret (.ix (.fld (.var 0) .ring 0) (.int 0))) .nil), false⟩
/-! Ring.most -/
def f_pr_ring_1 : Fn := ⟨["self"], 1, (.cons (.ret (.ix (.fld (.var 0) .ring 0) (.int 1))) .nil), false⟩
/-! Ring.facts -/
def f_pr_ring_2 : Fn := ⟨["self"], 1, (.cons (.ret (.ix (.fld (.var 0) .ring 0) (.int 2))) .nil), false⟩
/-! Ring.__len__ -/
def f_len_ring : Fn := ⟨["self"], 1, (.cons (.ret (.b1 .len (.ix (.fld (.var 0) .ring 0) (.int 2)))) .nil), false⟩
/-! Ring.__eq__ -/
def f_eq_ring : Fn := ⟨["self", "other"], 2, (.cons (.ret (.and (.isa (.var 1) (.cls .ring)) (.cmp .eq (.fld (.var 0) .ring 0) (.fld (.var 1) .ring 0)))) .nil), false⟩
/-! edges_with -/
def f_p_38_b0 : Ss := (.cons (.ext 2 (.lst (.cons (.tup (.cons (.var 3) (.cons (.bin .add (.var 3) (.int 1)) (.cons (.var 5) .nil)))) (.cons (.tup (.cons (.bin .add (.var 3) (.int 1)) (.cons (.var 3) (.cons (.int 0) .nil)))) .nil)))) .nil)
def f_p_38_l1 : S := .for (.nm 3) (.rg1 (.var 4)) f_p_38_b0
def f_p_38_b2 : Ss := (.cons (.ite (.cmp .gt (.var 8) (.var 4)) (.cons (.par [8, 9, 10] (.cons (.bin .sub (.var 8) (.var 4)) (.cons (.bin .sub (.var 9) (.var 1)) (.cons (.bin .sub (.var 10) (.var 1)) .nil)))) .nil) .nil) (.cons (.ext 2 (.lst (.cons (.tup (.cons (.var 7) (.cons (.var 8) (.cons (.var 10) .nil)))) (.cons (.tup (.cons (.var 8) (.cons (.var 7) (.cons (.neg (.var 9)) .nil)))) .nil)))) .nil))
def f_p_38_l3 : S := .for (.tp (.cons (.nm 7) (.cons (.nm 8) (.cons (.nm 9) (.cons (.nm 10) .nil))))) (.of (.var 6)) f_p_38_b2
def f_p_38 : Fn := ⟨["ring", "total", "found", "cell", "cells", "most", "facts", "begin", "end", "low", "high"], 2, (.cons (.asg (.tp (.cons (.nm 4) (.cons (.nm 5) (.cons (.nm 6) .nil)))) (.fld (.var 0) .ring 0)) (.cons (.own 2 (.lst (.cons (.tup (.cons (.int 0) (.cons (.var 4) (.cons (.var 1) .nil)))) (.cons (.tup (.cons (.var 4) (.cons (.int 0) (.cons (.neg (.var 1)) .nil)))) .nil)))) (.cons f_p_38_l1 (.cons f_p_38_l3 (.cons (.frz 2) (.cons (.ret (.var 2)) .nil)))))), false⟩
/-! check_ring -/
def f_p_39 : Fn := ⟨["value"], 1, (.cons (.ite (.nott (.isa (.var 0) (.cls .ring))) (.cons (.rais (.err 10) .nil) .nil) .nil) .nil), false⟩
/-! totals_of -/
def f_p_40_b0 : Ss := (.cons (.ite (.cmp .notn (.call (.p 9) (.cons (.bin .add (.ix (.fld (.var 0) .ring 0) (.int 0)) (.int 1)) (.cons (.call (.p 38) (.cons (.var 0) (.cons (.var 2) .nil))) (.cons (.int 0) .nil)))) .non) (.cons (.app 1 (.var 2)) .nil) .nil) .nil)
def f_p_40_l1 : S := .for (.nm 2) (.rg1 (.bin .add (.bin .mul (.ix (.fld (.var 0) .ring 0) (.int 0)) (.ix (.fld (.var 0) .ring 0) (.int 1))) (.int 1))) f_p_40_b0
def f_p_40 : Fn := ⟨["ring", "found", "total"], 1, (.cons (.own 1 (.lst .nil)) (.cons f_p_40_l1 (.cons (.frz 1) (.cons (.ret (.var 1)) .nil)))), false⟩
/-! ring_totals -/
def f_p_41 : Fn := ⟨["ring"], 1, (.cons (.expr (.call (.p 39) (.cons (.var 0) .nil))) (.cons (.ret (.call (.p 40) (.cons (.var 0) .nil))) .nil)), false⟩
/-! bounds_with -/
def f_p_42 : Fn := ⟨["ring", "total", "begin", "end", "cells", "edges", "more", "low", "high"], 4, (.cons (.asg (.nm 4) (.ix (.fld (.var 0) .ring 0) (.int 0))) (.cons (.asg (.nm 5) (.call (.p 38) (.cons (.var 0) (.cons (.var 1) .nil)))) (.cons (.asg (.nm 6) (.int 0)) (.cons (.ite (.cmp .gt (.var 3) (.var 4)) (.cons (.par [3, 6] (.cons (.bin .sub (.var 3) (.var 4)) (.cons (.var 1) .nil))) .nil) .nil) (.cons (.par [7, 8] (.cons (.neg (.ix (.call (.p 9) (.cons (.bin .add (.var 4) (.int 1)) (.cons (.var 5) (.cons (.var 3) .nil)))) (.var 2))) (.cons (.ix (.call (.p 9) (.cons (.bin .add (.var 4) (.int 1)) (.cons (.var 5) (.cons (.var 2) .nil)))) (.var 3)) .nil))) (.cons (.ret (.tup (.cons (.bin .add (.var 7) (.var 6)) (.cons (.bin .add (.var 8) (.var 6)) .nil)))) .nil)))))), false⟩
/-! ring_bounds -/
def f_p_43_c0 : E := (.lc (.call (.p 42) (.cons (.var 0) (.cons (.var 5) (.cons (.var 1) (.cons (.var 2) .nil))))) (.nm 5) (.of (.var 3)))
def f_p_43_c1 : E := (.lc (.var 7) (.tp (.cons (.nm 6) (.cons (.nm 7) .nil))) (.of (.var 4)))
def f_p_43_c2 : E := (.lc (.var 6) (.tp (.cons (.nm 6) (.cons (.nm 7) .nil))) (.of (.var 4)))
def f_p_43 : Fn := ⟨["ring", "begin", "end", "totals", "found", "total", "low", "high"], 3, (.cons (.expr (.call (.p 39) (.cons (.var 0) .nil))) (.cons (.ite (.or (.nott (.call (.p 1) (.cons (.var 1) (.cons (.int 0) (.cons (.bin .sub (.ix (.fld (.var 0) .ring 0) (.int 0)) (.int 1)) .nil))))) (.nott (.call (.p 1) (.cons (.var 2) (.cons (.bin .add (.var 1) (.int 1)) (.cons (.bin .add (.var 1) (.ix (.fld (.var 0) .ring 0) (.int 0))) .nil)))))) (.cons (.rais (.err 8) .nil) .nil) .nil) (.cons (.asg (.nm 3) (.call (.p 40) (.cons (.var 0) .nil))) (.cons (.ite (.nott (.var 3)) (.cons (.rais (.err 6) .nil) .nil) .nil) (.cons (.asg (.nm 4) f_p_43_c0) (.cons (.ret (.tup (.cons (.b1 .min f_p_43_c2) (.cons (.b1 .max f_p_43_c1) .nil)))) .nil)))))), false⟩
/-! ring_row -/
def f_p_44_c0 : E := (.lc (.bin .sub (.ix (.var 3) (.bin .add (.var 4) (.int 1))) (.ix (.var 3) (.var 4))) (.nm 4) (.rg1 (.ix (.fld (.var 0) .ring 0) (.int 0))))
def f_p_44_b1 : Ss := (.cons (.asg (.nm 3) (.call (.p 13) (.cons (.bin .add (.ix (.fld (.var 0) .ring 0) (.int 0)) (.int 1)) (.cons (.call (.p 38) (.cons (.var 0) (.cons (.var 2) .nil))) .nil)))) (.cons (.app 1 (.b1 .tuple f_p_44_c0)) .nil))
def f_p_44_l2 : S := .for (.nm 2) (.of (.call (.p 40) (.cons (.var 0) .nil))) f_p_44_b1
def f_p_44 : Fn := ⟨["ring", "found", "total", "tops", "cell"], 1, (.cons (.expr (.call (.p 39) (.cons (.var 0) .nil))) (.cons (.own 1 (.lst .nil)) (.cons f_p_44_l2 (.cons (.ite (.nott (.var 1)) (.cons (.rais (.err 6) .nil) .nil) .nil) (.cons (.ret (.b1 .min (.var 1))) .nil))))), false⟩
/-! _law_line -/
def f_law_22_b0 : Ss := (.cons (.ite (.cmp .le (.var 6) (.var 0)) (.cons (.app 4 (.tup (.cons (.var 5) (.cons (.var 6) (.cons (.var 7) (.cons (.var 8) .nil)))))) .nil) (.cons (.ite (.or (.cmp .lt (.var 3) (.var 7)) (.and (.cmp .eq (.bin .sub (.var 6) (.var 5)) (.var 0)) (.cmp .gt (.var 3) (.var 8)))) (.cons (.ret .non) .nil) (.cons (.ite (.cmp .lt (.bin .sub (.var 6) (.var 5)) (.var 0)) (.cons (.app 4 (.tup (.cons (.bin .sub (.var 6) (.var 0)) (.cons (.var 5) (.cons (.b2 .max (.int 0) (.bin .sub (.var 3) (.var 8))) (.cons (.bin .sub (.var 3) (.var 7)) .nil)))))) .nil) .nil) .nil)) .nil)) .nil)
def f_law_22_l1 : S := .for (.tp (.cons (.nm 5) (.cons (.nm 6) (.cons (.nm 7) (.cons (.nm 8) .nil))))) (.of (.var 2)) f_law_22_b0
def f_law_22 : Fn := ⟨["_law_cells", "_law_most", "_law_facts", "_law_total", "_law_found", "_law_begin", "_law_end", "_law_low", "_law_high"], 4, (.cons (.own 4 (.lst (.cons (.tup (.cons (.int 0) (.cons (.var 0) (.cons (.var 3) (.cons (.var 3) .nil))))) .nil))) (.cons f_law_22_l1 (.cons (.frz 4) (.cons (.ret (.lst (.cons (.var 0) (.cons (.var 1) (.cons (.b1 .tuple (.var 4)) .nil))))) .nil)))), false⟩
/-! _law_tables -/
def f_law_23_b0 : Ss := (.cons (.asg (.nm 5) (.call (.law 22) (.cons (.var 0) (.cons (.var 1) (.cons (.var 2) (.cons (.var 4) .nil)))))) (.cons (.asg (.nm 6) (.ifx (.cmp .isn (.var 5) .non) .non (.call (.law 7) (.cons (.var 5) .nil)))) (.cons (.ite (.cmp .notn (.var 6) .non) (.cons (.put 3 (.var 4) (.var 6)) .nil) .nil) .nil)))
def f_law_23_l1 : S := .for (.nm 4) (.rg1 (.bin .add (.bin .mul (.var 0) (.var 1)) (.int 1))) f_law_23_b0
def f_law_23 : Fn := ⟨["_law_cells", "_law_most", "_law_facts", "_law_found", "_law_total", "_law_b", "_law_far_here"], 3, (.cons (.own 3 (.dnew false)) (.cons f_law_23_l1 (.cons (.frz 3) (.cons (.ret (.var 3)) .nil)))), false⟩
/-! _law_turned -/
def f_law_24_b0 : Ss := (.cons (.par [7, 8] (.cons (.var 4) (.cons (.var 4) .nil))) (.cons (.ite (.cmp .le (.var 3) (.var 0)) (.cons (.asg (.tp (.cons (.nm 7) (.cons (.nm 8) .nil))) (.call (.law 8) (.cons (.ix (.var 1) (.var 4)) (.cons (.var 2) (.cons (.var 3) .nil))))) .nil) (.cons (.ite (.cmp .lt (.bin .sub (.var 3) (.var 2)) (.var 0)) (.cons (.asg (.tp (.cons (.nm 7) (.cons (.nm 8) .nil))) (.call (.law 8) (.cons (.ix (.var 1) (.var 4)) (.cons (.bin .sub (.var 3) (.var 0)) (.cons (.var 2) .nil))))) (.cons (.par [7, 8] (.cons (.bin .sub (.var 4) (.var 8)) (.cons (.bin .sub (.var 4) (.var 7)) .nil))) .nil)) .nil) .nil)) (.cons (.app 5 (.var 7)) (.cons (.app 6 (.var 8)) .nil))))
def f_law_24_l1 : S := .for (.nm 4) (.of (.var 1)) f_law_24_b0
def f_law_24 : Fn := ⟨["_law_cells", "_law_tables_here", "_law_begin", "_law_end", "_law_total", "_law_lows", "_law_highs", "_law_low", "_law_high"], 4, (.cons (.paro 5 6 (.lst .nil)) (.cons f_law_24_l1 (.cons (.ret (.tup (.cons (.b1 .min (.var 5)) (.cons (.b1 .max (.var 6)) .nil)))) .nil))), false⟩
/-! _law_sum -/
def f_law_25 : Fn := ⟨["_law_row", "_law_begin", "_law_end"], 3, (.cons (.ret (.b1 .sum (.sl (.bin .add (.var 0) (.var 0)) (.so (.var 1)) (.so (.var 2))))) .nil), false⟩
/-! _law_ring_fact -/
def f_law_26 : Fn := ⟨["_law_h", "_law_row", "_law_begin", "_law_end", "_law_own", "_law_low", "_law_high"], 2, (.cons (.asg (.nm 2) (.call (.next) (.cons (.var 0) (.cons (.b1 .len (.var 1)) .nil)))) (.cons (.asg (.nm 3) (.bin .add (.bin .add (.var 2) (.int 1)) (.call (.next) (.cons (.var 0) (.cons (.b1 .len (.var 1)) .nil))))) (.cons (.asg (.nm 4) (.call (.law 25) (.cons (.var 1) (.cons (.var 2) (.cons (.var 3) .nil))))) (.cons (.par [5, 6] (.cons (.b2 .max (.int 0) (.bin .sub (.var 4) (.call (.next) (.cons (.var 0) (.cons (.int 3) .nil))))) (.cons (.bin .add (.var 4) (.call (.next) (.cons (.var 0) (.cons (.int 3) .nil)))) .nil))) (.cons (.ite (.cmp .eq (.call (.next) (.cons (.var 0) (.cons (.int 9) .nil))) (.int 0)) (.cons (.par [5, 6] (.cons (.var 6) (.cons (.bin .add (.var 6) (.int 1)) .nil))) .nil) .nil) (.cons (.ret (.tup (.cons (.var 2) (.cons (.var 3) (.cons (.var 5) (.cons (.var 6) .nil)))))) .nil)))))), false⟩
/-! _law_ring_fact -/
def f_law_26_k24 : Fn := ⟨["_law_h", "_law_row", "_law_loose", "_law_begin", "_law_end", "_law_own", "_law_low", "_law_high"], 3, (.cons (.asg (.nm 3) (.call (.next) (.cons (.var 0) (.cons (.b1 .len (.var 1)) .nil)))) (.cons (.asg (.nm 4) (.bin .add (.bin .add (.var 3) (.int 1)) (.call (.next) (.cons (.var 0) (.cons (.b1 .len (.var 1)) .nil))))) (.cons (.asg (.nm 5) (.call (.law 25) (.cons (.var 1) (.cons (.var 3) (.cons (.var 4) .nil))))) (.cons (.par [6, 7] (.cons (.b2 .max (.int 0) (.bin .sub (.var 5) (.call (.next) (.cons (.var 0) (.cons (.var 2) .nil))))) (.cons (.bin .add (.var 5) (.call (.next) (.cons (.var 0) (.cons (.var 2) .nil)))) .nil))) (.cons (.ite (.cmp .eq (.call (.next) (.cons (.var 0) (.cons (.int 12) .nil))) (.int 0)) (.cons (.par [6, 7] (.cons (.var 7) (.cons (.bin .add (.var 7) (.int 1)) .nil))) .nil) .nil) (.cons (.ret (.tup (.cons (.var 3) (.cons (.var 4) (.cons (.var 6) (.cons (.var 7) .nil)))))) .nil)))))), false⟩
/-! BadRests.__init__ -/
def f_ini_err_12 : Fn := ⟨["self", "index"], 2, .nil, false⟩
/-! is_rest -/
def f_p_45 : Fn := ⟨["value", "cells"], 2, (.cons (.ite (.or (.nott (.isa (.var 0) .tuple)) (.cmp .ne (.b1 .len (.var 0)) (.int 3))) (.cons (.ret (.bl false)) .nil) .nil) (.cons (.ite (.or (.nott (.call (.p 1) (.cons (.ix (.var 0) (.int 0)) (.cons (.int 0) (.cons (.bin .sub (.var 1) (.int 1)) .nil))))) (.nott (.call (.p 1) (.cons (.ix (.var 0) (.int 1)) (.cons (.bin .add (.ix (.var 0) (.int 0)) (.int 1)) (.cons (.var 1) .nil)))))) (.cons (.ret (.bl false)) .nil) .nil) (.cons (.ret (.call (.p 1) (.cons (.ix (.var 0) (.int 2)) (.cons (.int 0) (.cons (.bin .sub (.int 10) (.int 1)) .nil))))) .nil))), false⟩
/-! check_rests -/
def f_p_46_b0 : Ss := (.cons (.ite (.nott (.call (.p 45) (.cons (.var 3) (.cons (.ix (.fld (.var 0) .book 0) (.int 0)) .nil)))) (.cons (.rais (.err 12) (.cons (.var 2) .nil)) .nil) .nil) .nil)
def f_p_46_l1 : S := .for (.tp (.cons (.nm 2) (.cons (.nm 3) .nil))) (.en (.var 1)) f_p_46_b0
def f_p_46 : Fn := ⟨["book", "value", "index", "rest"], 2, (.cons (.ite (.or (.nott (.isa (.var 1) .tuple)) (.cmp .gt (.b1 .len (.var 1)) (.int 12))) (.cons (.rais (.err 12) (.cons .non .nil)) .nil) .nil) (.cons f_p_46_l1 .nil)), false⟩
/-! check_small -/
def f_p_47_b0 : Ss := (.cons (.asg (.nm 2) (.bin .mul (.var 2) (.bin .add (.ix (.fld (.var 0) .book 0) (.int 1)) (.int 1)))) .nil)
def f_p_47_l1 : S := .for (.nm 3) (.rg1 (.ix (.fld (.var 0) .book 0) (.int 0))) f_p_47_b0
def f_p_47 : Fn := ⟨["book", "cells", "many", "cell"], 2, (.cons (.ite (.or (.cmp .gt (.ix (.fld (.var 0) .book 0) (.int 0)) (.var 1)) (.cmp .gt (.ix (.fld (.var 0) .book 0) (.int 1)) (.int 9))) (.cons (.rais (.err 11) .nil) .nil) .nil) (.cons (.asg (.nm 2) (.int 1)) (.cons f_p_47_l1 (.cons (.ite (.cmp .gt (.var 2) (.int 5000)) (.cons (.rais (.err 11) .nil) .nil) .nil) .nil)))), false⟩
/-! agrees -/
def f_p_48_b0 : Ss := (.cons (.ite (.cmp .ne (.bin .mod (.b1 .sum (.sl (.var 0) (.so (.var 2)) (.so (.var 3)))) (.int 10)) (.var 4)) (.cons (.ret (.bl false)) .nil) .nil) .nil)
def f_p_48_l1 : S := .for (.tp (.cons (.nm 2) (.cons (.nm 3) (.cons (.nm 4) .nil)))) (.of (.var 1)) f_p_48_b0
def f_p_48 : Fn := ⟨["row", "rests", "begin", "end", "figure"], 2, (.cons f_p_48_l1 (.cons (.ret (.bl true)) .nil)), false⟩
/-! rows_by -/
def f_p_49_c0 : E := (.lc2 (.bin .add (.var 4) (.tup (.cons (.var 5) .nil))) 4 (.of (.var 2)) 5 (.rg1 (.bin .add (.ix (.fld (.var 0) .book 0) (.int 1)) (.int 1))))
def f_p_49_b1 : Ss := (.cons (.asg (.nm 2) f_p_49_c0) .nil)
def f_p_49_l2 : S := .for (.nm 3) (.rg1 (.ix (.fld (.var 0) .book 0) (.int 0))) f_p_49_b1
def f_p_49_c3 : E := (.lci (.var 4) (.nm 4) (.of (.var 2)) (.and (.nott (.call (.p 5) (.cons (.var 0) (.cons (.var 4) .nil)))) (.call (.p 48) (.cons (.var 4) (.cons (.var 1) .nil)))))
def f_p_49 : Fn := ⟨["book", "rests", "found", "cell", "row", "number"], 2, (.cons (.asg (.nm 2) (.lst (.cons (.tup .nil) .nil))) (.cons f_p_49_l2 (.cons (.ret f_p_49_c3) .nil))), false⟩
/-! rows -/
def f_p_50 : Fn := ⟨["book", "rests"], 2, (.cons (.expr (.call (.p 3) (.cons (.var 0) .nil))) (.cons (.expr (.call (.p 46) (.cons (.var 0) (.cons (.var 1) .nil)))) (.cons (.expr (.call (.p 47) (.cons (.var 0) (.cons (.int 6) .nil)))) (.cons (.ret (.call (.p 49) (.cons (.var 0) (.cons (.var 1) .nil)))) .nil)))), false⟩
/-! nearest -/
def f_p_51_c0 : E := (.lc (.b1 .abs (.bin .sub (.var 7) (.var 8))) (.tp (.cons (.nm 7) (.cons (.nm 8) .nil))) (.zp (.var 2) (.var 4)))
def f_p_51_b1 : Ss := (.cons (.app 3 (.tup (.cons (.b1 .sum f_p_51_c0) (.cons (.var 4) .nil)))) .nil)
def f_p_51_l2 : S := .for (.nm 4) (.of (.call (.p 49) (.cons (.var 0) (.cons (.var 1) .nil)))) f_p_51_b1
def f_p_51_c3 : E := (.lci (.var 4) (.tp (.cons (.nm 6) (.cons (.nm 4) .nil))) (.of (.var 3)) (.cmp .eq (.var 6) (.var 5)))
def f_p_51 : Fn := ⟨["book", "rests", "row", "found", "other", "least", "far", "one", "two"], 3, (.cons (.expr (.call (.p 3) (.cons (.var 0) .nil))) (.cons (.expr (.call (.p 46) (.cons (.var 0) (.cons (.var 1) .nil)))) (.cons (.expr (.call (.p 4) (.cons (.var 0) (.cons (.var 2) .nil)))) (.cons (.expr (.call (.p 47) (.cons (.var 0) (.cons (.int 6) .nil)))) (.cons (.own 3 (.lst .nil)) (.cons f_p_51_l2 (.cons (.ite (.nott (.var 3)) (.cons (.rais (.err 6) .nil) .nil) .nil) (.cons (.asg (.nm 5) (.ix (.b1 .min (.var 3)) (.int 0))) (.cons (.frz 3) (.cons (.ret (.tup (.cons (.var 5) (.cons f_p_51_c3 .nil)))) .nil)))))))))), false⟩
/-! _law_rests -/
def f_law_27_b0 : Ss := (.cons (.asg (.tp (.cons (.nm 6) (.cons (.nm 7) .nil))) (.call (.law 1) (.cons (.var 0) (.cons (.b1 .len (.var 1)) .nil)))) (.cons (.asg (.nm 5) (.ifx (.cmp .gt (.call (.next) (.cons (.var 0) (.cons (.int 6) .nil))) (.int 0)) (.bin .mod (.b1 .sum (.sl (.var 1) (.so (.var 6)) (.so (.var 7)))) (.int 10)) (.call (.next) (.cons (.var 0) (.cons (.int 10) .nil))))) (.cons (.app 3 (.tup (.cons (.var 6) (.cons (.var 7) (.cons (.var 5) .nil))))) .nil)))
def f_law_27_l1 : S := .for (.nm 4) (.rg1 (.call (.next) (.cons (.var 0) (.cons (.bin .add (.var 2) (.int 1)) .nil)))) f_law_27_b0
def f_law_27 : Fn := ⟨["_law_h", "_law_row", "_law_many", "_law_found", "_law_k", "_law_figure", "_law_begin", "_law_end"], 3, (.cons (.own 3 (.lst .nil)) (.cons f_law_27_l1 (.cons (.frz 3) (.cons (.ret (.b1 .tuple (.var 3))) .nil)))), false⟩
/-! _law_told -/
def f_law_28 : Fn := ⟨["_law_told_here", "_law_rests_here"], 2, (.cons (.tri (.cons (.ret (.call (.p 50) (.cons (.var 0) (.cons (.var 1) .nil)))) .nil) (.cons (.err 11) none (.cons (.ret .non) .nil) .nil) [0, 1, 2, 3, 4, 5, 6, 11, 12]) .nil), false⟩
/-! _law_told -/
def f_law_28_k18 : Fn := ⟨["_law_book_here"], 1, (.cons (.tri (.cons (.ret (.call (.p 75) (.cons (.var 0) .nil))) .nil) (.cons (.err 6) none (.cons (.ret .non) .nil) .nil) [0, 1, 2, 3, 4, 6, 15]) .nil), false⟩
/-! _law_told -/
def f_law_28_k21 : Fn := ⟨["_law_told_here", "_law_row"], 2, (.cons (.tri (.cons (.ret (.tup (.cons (.call (.p 91) (.cons (.var 0) (.cons (.var 1) .nil))) (.cons (.call (.p 92) (.cons (.var 0) (.cons (.var 1) .nil))) .nil)))) .nil) (.cons (.err 6) none (.cons (.ret .non) .nil) .nil) [0, 1, 2, 3, 4, 5, 6]) .nil), false⟩
/-! _law_told -/
def f_law_28_k22 : Fn := ⟨["_law_told_here", "_law_row"], 2, (.cons (.tri (.cons (.ret (.call (.p 91) (.cons (.var 0) (.cons (.var 1) .nil)))) .nil) (.cons (.err 6) none (.cons (.ret .non) .nil) .nil) [0, 1, 2, 3, 4, 5, 6, 7]) .nil), false⟩
/-! _law_nearest -/
def f_law_29 : Fn := ⟨["_law_told_here", "_law_rests_here", "_law_row"], 3, (.cons (.tri (.cons (.ret (.call (.p 51) (.cons (.var 0) (.cons (.var 1) (.cons (.var 2) .nil))))) .nil) (.cons (.err 6) none (.cons (.ret .non) .nil) .nil) [0, 1, 2, 3, 4, 5, 6, 11, 12]) .nil), false⟩
/-! all_stretches -/
def f_p_52_c0 : E := (.lc (.tup (.cons (.var 2) (.cons (.var 3) .nil))) (.nm 3) (.rg2 (.bin .add (.var 2) (.int 1)) (.bin .add (.ix (.fld (.var 0) .book 0) (.int 0)) (.int 1))))
def f_p_52_b1 : Ss := (.cons (.ext 1 f_p_52_c0) .nil)
def f_p_52_l2 : S := .for (.nm 2) (.rg1 (.ix (.fld (.var 0) .book 0) (.int 0))) f_p_52_b1
def f_p_52 : Fn := ⟨["book", "found", "begin", "end"], 1, (.cons (.own 1 (.lst .nil)) (.cons f_p_52_l2 (.cons (.frz 1) (.cons (.ret (.var 1)) .nil)))), false⟩
/-! most_left -/
def f_p_53_b0 : Ss := (.cons (.asg (.nm 6) (.b1 .sum (.sl (.var 3) (.so (.var 4)) (.so (.var 5))))) (.cons (.put 2 (.var 6) (.bin .add (.get (.var 2) (.var 6) (.int 0)) (.int 1))) .nil))
def f_p_53_l1 : S := .for (.nm 3) (.of (.var 0)) f_p_53_b0
def f_p_53_c2 : E := (.lc (.ix (.var 2) (.var 6)) (.nm 6) (.of (.var 2)))
def f_p_53 : Fn := ⟨["every", "stretch", "counts", "row", "begin", "end", "own"], 2, (.cons (.asg (.tp (.cons (.nm 4) (.cons (.nm 5) .nil))) (.var 1)) (.cons (.own 2 (.dnew false)) (.cons f_p_53_l1 (.cons (.frz 2) (.cons (.ret (.b1 .max f_p_53_c2)) .nil))))), false⟩
/-! next_stretch -/
def f_p_54_c0 : E := (.lc (.tup (.cons (.call (.p 53) (.cons (.var 2) (.cons (.var 4) .nil))) (.cons (.var 4) .nil))) (.nm 4) (.of (.call (.p 52) (.cons (.var 0) .nil))))
def f_p_54 : Fn := ⟨["book", "rests", "every", "best", "stretch"], 2, (.cons (.expr (.call (.p 3) (.cons (.var 0) .nil))) (.cons (.expr (.call (.p 46) (.cons (.var 0) (.cons (.var 1) .nil)))) (.cons (.expr (.call (.p 47) (.cons (.var 0) (.cons (.int 6) .nil)))) (.cons (.asg (.nm 2) (.call (.p 49) (.cons (.var 0) (.cons (.var 1) .nil)))) (.cons (.ite (.nott (.var 2)) (.cons (.rais (.err 6) .nil) .nil) .nil) (.cons (.asg (.nm 3) (.b1 .min f_p_54_c0)) (.cons (.ret (.bin .add (.ix (.var 3) (.int 1)) (.tup (.cons (.ix (.var 3) (.int 0)) .nil)))) .nil))))))), false⟩
/-! subsets -/
def f_p_55_c0 : E := (.lc2i (.bin .add (.var 4) (.tup (.cons (.var 5) .nil))) 4 (.of (.var 2)) 5 (.of (.var 0)) (.or (.nott (.var 4)) (.cmp .gt (.var 5) (.ix (.var 4) (.neg (.int 1))))))
def f_p_55_b1 : Ss := (.cons (.asg (.nm 2) f_p_55_c0) .nil)
def f_p_55_l2 : S := .for (.nm 3) (.rg1 (.var 1)) f_p_55_b1
def f_p_55 : Fn := ⟨["things", "size", "found", "turn", "some", "thing"], 2, (.cons (.asg (.nm 2) (.lst (.cons (.tup .nil) .nil))) (.cons f_p_55_l2 (.cons (.ret (.var 2)) .nil))), false⟩
/-! subsets -/
def f_p_55_k19_c0 : E := (.lc2i (.bin .add (.var 4) (.tup (.cons (.var 5) .nil))) 4 (.of (.var 2)) 5 (.rg1 (.var 0)) (.or (.nott (.var 4)) (.cmp .gt (.var 5) (.ix (.var 4) (.neg (.int 1))))))
def f_p_55_k19_b1 : Ss := (.cons (.asg (.nm 2) f_p_55_k19_c0) .nil)
def f_p_55_k19_l2 : S := .for (.nm 3) (.rg1 (.var 1)) f_p_55_k19_b1
def f_p_55_k19 : Fn := ⟨["many", "size", "found", "turn", "some", "index"], 2, (.cons (.asg (.nm 2) (.lst (.cons (.tup .nil) .nil))) (.cons f_p_55_k19_l2 (.cons (.ret (.var 2)) .nil))), false⟩
/-! tell_apart -/
def f_p_56_c0 : E := (.lc (.b1 .sum (.sl (.var 3) (.so (.var 4)) (.so (.var 5)))) (.tp (.cons (.nm 4) (.cons (.nm 5) .nil))) (.of (.var 1)))
def f_p_56_b1 : Ss := (.cons (.put 2 (.b1 .tuple f_p_56_c0) (.bl true)) .nil)
def f_p_56_l2 : S := .for (.nm 3) (.of (.var 0)) f_p_56_b1
def f_p_56 : Fn := ⟨["every", "some", "known", "row", "begin", "end"], 2, (.cons (.own 2 (.dnew true)) (.cons f_p_56_l2 (.cons (.ret (.cmp .eq (.b1 .len (.var 2)) (.b1 .len (.var 0)))) .nil))), false⟩
/-! fewest_stretches -/
def f_p_57_b0 : Ss := (.cons (.ite (.call (.p 56) (.cons (.var 2) (.cons (.var 4) .nil))) (.cons (.ret (.var 4)) .nil) .nil) .nil)
def f_p_57_l1 : S := .for (.nm 4) (.of (.call (.p 55) (.cons (.call (.p 52) (.cons (.var 0) .nil)) (.cons (.var 3) .nil)))) f_p_57_b0
def f_p_57_b2 : Ss := (.cons f_p_57_l1 (.cons (.aug 3 .add (.int 1)) .nil))
def f_p_57_l3 : S := .whl (.bl true) f_p_57_b2
def f_p_57 : Fn := ⟨["book", "rests", "every", "size", "some"], 2, (.cons (.expr (.call (.p 3) (.cons (.var 0) .nil))) (.cons (.expr (.call (.p 46) (.cons (.var 0) (.cons (.var 1) .nil)))) (.cons (.expr (.call (.p 47) (.cons (.var 0) (.cons (.int 4) .nil)))) (.cons (.asg (.nm 2) (.call (.p 49) (.cons (.var 0) (.cons (.var 1) .nil)))) (.cons (.asg (.nm 3) (.int 0)) (.cons f_p_57_l3 .nil)))))), false⟩
/-! _law_stretches -/
def f_law_30_c0 : E := (.lc (.tup (.cons (.var 2) (.cons (.var 3) .nil))) (.nm 3) (.rg2 (.bin .add (.var 2) (.int 1)) (.bin .add (.var 0) (.int 1))))
def f_law_30_b1 : Ss := (.cons (.asg (.nm 1) (.bin .add (.var 1) f_law_30_c0)) .nil)
def f_law_30_l2 : S := .for (.nm 2) (.rg1 (.var 0)) f_law_30_b1
def f_law_30 : Fn := ⟨["_law_cells", "_law_found", "_law_begin", "_law_end"], 1, (.cons (.asg (.nm 1) (.lst .nil)) (.cons f_law_30_l2 (.cons (.ret (.var 1)) .nil))), false⟩
/-! _law_worst -/
def f_law_31_c0 : E := (.lc (.b1 .sum (.sl (.var 4) (.so (.var 1)) (.so (.var 2)))) (.nm 4) (.of (.var 0)))
def f_law_31_c1 : E := (.lci (.var 6) (.nm 6) (.of (.var 3)) (.cmp .eq (.var 6) (.var 5)))
def f_law_31_c2 : E := (.lc (.b1 .len f_law_31_c1) (.nm 5) (.of (.var 3)))
def f_law_31 : Fn := ⟨["_law_fine", "_law_begin", "_law_end", "_law_own", "_law_row", "_law_number", "_law_x"], 3, (.cons (.asg (.nm 3) f_law_31_c0) (.cons (.ret (.b1 .max f_law_31_c2)) .nil)), false⟩
/-! _law_next_one -/
def f_law_32 : Fn := ⟨["_law_told", "_law_rests"], 2, (.cons (.tri (.cons (.ret (.call (.p 54) (.cons (.var 0) (.cons (.var 1) .nil)))) .nil) (.cons (.err 6) none (.cons (.ret .non) .nil) .nil) [0, 1, 2, 3, 4, 6, 11, 12]) .nil), false⟩
/-! _law_few -/
def f_law_33 : Fn := ⟨["_law_told"], 1, (.cons (.tri (.cons (.ret (.call (.p 57) (.cons (.var 0) (.cons (.tup .nil) .nil)))) .nil) (.cons (.err 11) none (.cons (.ret .non) .nil) .nil) [0, 1, 2, 3, 4, 6, 11, 12]) .nil), false⟩
/-! fits_with -/
def f_p_58_b0 : Ss := (.cons (.asg (.tp (.cons (.nm 5) (.cons (.nm 6) (.cons (.nm 7) (.cons (.nm 8) .nil))))) (.ix (.ix (.fld (.var 0) .book 0) (.int 2)) (.var 3))) (.cons (.asg (.nm 4) (.bin .add (.bin .mul (.int 2) (.ix (.fld (.var 0) .book 0) (.int 0))) (.bin .mul (.int 2) (.var 3)))) (.cons (.put 2 (.var 4) (.tup (.cons (.var 5) (.cons (.var 6) (.cons (.bin .add (.var 8) (.int 1)) .nil))))) (.cons (.put 2 (.bin .add (.var 4) (.int 1)) (.tup (.cons (.var 6) (.cons (.var 5) (.cons (.bin .sub (.int 1) (.var 7)) .nil))))) .nil))))
def f_p_58_l1 : S := .for (.nm 3) (.of (.var 1)) f_p_58_b0
def f_p_58 : Fn := ⟨["book", "some", "edges", "index", "place", "begin", "end", "low", "high"], 2, (.cons (.own 2 (.call (.p 8) (.cons (.var 0) .nil))) (.cons f_p_58_l1 (.cons (.frz 2) (.cons (.ret (.cmp .notn (.call (.p 9) (.cons (.bin .add (.ix (.fld (.var 0) .book 0) (.int 0)) (.int 1)) (.cons (.var 2) (.cons (.int 0) .nil)))) .non)) .nil)))), false⟩
/-! fewest_off -/
def f_p_59_c0 : E := (.lci (.var 4) (.nm 4) (.of (.call (.p 55) (.cons (.var 1) (.cons (.var 2) .nil)))) (.call (.p 58) (.cons (.var 0) (.cons (.var 4) .nil))))
def f_p_59_b1 : Ss := (.cons (.asg (.nm 3) f_p_59_c0) (.cons (.ite (.var 3) (.cons (.ret (.var 3)) .nil) .nil) .nil))
def f_p_59_l2 : S := .for (.nm 2) (.rg1 (.bin .add (.b1 .len (.var 1)) (.int 1))) f_p_59_b1
def f_p_59 : Fn := ⟨["book", "every", "size", "found", "some"], 1, (.cons (.expr (.call (.p 3) (.cons (.var 0) .nil))) (.cons (.asg (.nm 1) (.lrg (.b1 .len (.ix (.fld (.var 0) .book 0) (.int 2))))) (.cons f_p_59_l2 (.cons (.ret (.lst .nil)) .nil)))), false⟩
/-! Desk.__init__ -/
def f_ini_desk : Fn := ⟨["self", "cells", "most"], 3, (.cons (.seta 0 .desk (.tup (.cons (.make .book (.cons (.var 1) (.cons (.var 2) (.cons (.tup .nil) .nil)))) .nil))) .nil), false⟩
/-! Desk.book -/
def f_pr_desk_0 : Fn := ⟨["self"], 1, (.cons (.ret (.ix (.fld (.var 0) .desk 0) (.neg (.int 1)))) .nil), false⟩
/-! Desk.undo -/
def f_me_desk_4 : Fn := ⟨["self"], 1, (.cons (.ite (.cmp .eq (.b1 .len (.fld (.var 0) .desk 0)) (.int 1)) (.cons (.ret (.bl false)) .nil) .nil) (.cons (.seta 0 .desk (.sl (.fld (.var 0) .desk 0) .no (.so (.neg (.int 1))))) (.cons (.ret (.bl true)) .nil))), false⟩
/-! Desk.undo -/
def f_me_desk_4_k14 : Fn := ⟨["self"], 1, (.cons (.expr (.call (.p 66) (.cons (.int 0) .nil))) .nil), false⟩
/-! _law_due -/
def f_law_34 : Fn := ⟨["_law_b", "_law_fact_here", "_law_far", "_law_begin", "_law_end"], 2, (.cons (.asg (.nm 2) (.call (.law 7) (.cons (.var 0) .nil))) (.cons (.ite (.cmp .isn (.var 2) .non) (.cons (.ret (.str ("none" : Str))) .nil) .nil) (.cons (.par [3, 4] (.cons (.ix (.var 1) (.int 0)) (.cons (.ix (.var 1) (.int 1)) .nil))) (.cons (.ret (.tup (.cons (.neg (.ix (.var 2) (.tup (.cons (.var 4) (.cons (.var 3) .nil))))) (.cons (.ix (.var 2) (.tup (.cons (.var 3) (.cons (.var 4) .nil)))) .nil)))) .nil)))), false⟩
/-! InvalidText.__init__ -/
def f_ini_err_17 : Fn := ⟨["self", "line", "word"], 3, .nil, false⟩
/-! number_at -/
def f_p_61_b0 : Ss := (.cons (.ite (.cmp .notin (.var 7) (.str ("0123456789" : Str))) (.cons (.asg (.nm 6) (.bl false)) .nil) .nil) .nil)
def f_p_61_l1 : S := .for (.nm 7) (.of (.var 5)) f_p_61_b0
def f_p_61 : Fn := ⟨["words", "line", "place", "low", "high", "word", "fine", "sign"], 5, (.cons (.ite (.cmp .ge (.var 2) (.b1 .len (.var 0))) (.cons (.rais (.err 17) (.cons (.var 1) (.cons (.bin .add (.var 2) (.int 1)) .nil))) .nil) .nil) (.cons (.asg (.nm 5) (.ix (.var 0) (.var 2))) (.cons (.asg (.nm 6) (.and (.cmp .le (.b1 .len (.var 5)) (.int 33)) (.or (.cmp .ne (.ix (.var 5) (.int 0)) (.str ("0" : Str))) (.cmp .eq (.var 5) (.str ("0" : Str)))))) (.cons f_p_61_l1 (.cons (.ite (.or (.nott (.var 6)) (.nott (.chain .le .le (.var 3) (.b1 .int (.var 5)) (.var 4)))) (.cons (.rais (.err 17) (.cons (.var 1) (.cons (.bin .add (.var 2) (.int 1)) .nil))) .nil) .nil) (.cons (.ret (.b1 .int (.var 5))) .nil)))))), false⟩
/-! check_line -/
def f_p_62 : Fn := ⟨["words", "line", "head"], 3, (.cons (.ite (.cmp .ne (.sl (.var 0) .no (.so (.int 1))) (.lst (.cons (.var 2) .nil))) (.cons (.rais (.err 17) (.cons (.var 1) (.cons (.int 1) .nil))) .nil) .nil) .nil), false⟩
/-! check_length -/
def f_p_63 : Fn := ⟨["words", "line", "many"], 3, (.cons (.ite (.cmp .gt (.b1 .len (.var 0)) (.var 2)) (.cons (.rais (.err 17) (.cons (.var 1) (.cons (.bin .add (.var 2) (.int 1)) .nil))) .nil) .nil) .nil), false⟩
/-! read_fact -/
def f_p_64 : Fn := ⟨["words", "line", "cells", "begin", "end", "low", "high"], 3, (.cons (.expr (.call (.p 62) (.cons (.var 0) (.cons (.var 1) (.cons (.str ("fact" : Str)) .nil))))) (.cons (.asg (.nm 3) (.call (.p 61) (.cons (.var 0) (.cons (.var 1) (.cons (.int 1) (.cons (.int 0) (.cons (.bin .sub (.var 2) (.int 1)) .nil))))))) (.cons (.asg (.nm 4) (.call (.p 61) (.cons (.var 0) (.cons (.var 1) (.cons (.int 2) (.cons (.bin .add (.var 3) (.int 1)) (.cons (.var 2) .nil))))))) (.cons (.asg (.nm 5) (.call (.p 61) (.cons (.var 0) (.cons (.var 1) (.cons (.int 3) (.cons (.int 0) (.cons (.int 100000000000000000000000000000000) .nil))))))) (.cons (.asg (.nm 6) (.call (.p 61) (.cons (.var 0) (.cons (.var 1) (.cons (.int 4) (.cons (.var 5) (.cons (.int 100000000000000000000000000000000) .nil))))))) (.cons (.expr (.call (.p 63) (.cons (.var 0) (.cons (.var 1) (.cons (.int 5) .nil))))) (.cons (.ret (.tup (.cons (.var 3) (.cons (.var 4) (.cons (.var 5) (.cons (.var 6) .nil)))))) .nil))))))), false⟩
/-! _law_head -/
def f_law_39 : Fn := ⟨["_law_h", "_law_b", "_law_bad", "_law_heads"], 3, (.cons (.asg (.nm 3) (.lst (.cons (.lst (.cons (.str ("cell 1 1" : Str)) (.cons (.int 1) .nil))) (.cons (.lst (.cons (.str ("cells" : Str)) (.cons (.int 2) .nil))) (.cons (.lst (.cons (.str ("cells 1" : Str)) (.cons (.int 3) .nil))) (.cons (.lst (.cons (.str ("" : Str)) (.cons (.int 1) .nil))) (.cons (.lst (.cons (.str ("cells 0 1" : Str)) (.cons (.int 2) .nil))) (.cons (.lst (.cons (.str ("cells 21 1" : Str)) (.cons (.int 2) .nil))) (.cons (.lst (.cons (.str ("1 1" : Str)) (.cons (.int 1) .nil))) .nil))))))))) (.cons (.asg (.nm 3) (.bin .add (.var 3) (.lst (.cons (.lst (.cons (.bin .add (.bin .add (.str ("cells " : Str)) (.var 2)) (.str (" 1" : Str))) (.cons (.int 2) .nil))) (.cons (.lst (.cons (.bin .add (.str ("cells 20 " : Str)) (.var 2)) (.cons (.int 3) .nil))) (.cons (.lst (.cons (.str ("cells 20 1 1" : Str)) (.cons (.int 4) .nil))) .nil)))))) (.cons (.ret (.ix (.var 3) (.call (.next) (.cons (.var 0) (.cons (.b1 .len (.var 3)) .nil))))) .nil))), false⟩
/-! _law_fact_fault -/
def f_law_40 : Fn := ⟨["_law_h", "_law_cells", "_law_bad", "_law_great", "_law_faults"], 3, (.cons (.asg (.nm 3) (.b1 .str (.bin .add (.bin .pow (.int 10) (.int 32)) (.int 1)))) (.cons (.own 4 (.lst (.cons (.lst (.cons (.str ("fact" : Str)) (.cons (.int 2) .nil))) (.cons (.lst (.cons (.str ("fact 0" : Str)) (.cons (.int 3) .nil))) (.cons (.lst (.cons (.str ("fact 0 1" : Str)) (.cons (.int 4) .nil))) (.cons (.lst (.cons (.str ("fact 0 1 2" : Str)) (.cons (.int 5) .nil))) (.cons (.lst (.cons (.str ("fact 0 1 2 3 4" : Str)) (.cons (.int 6) .nil))) .nil))))))) (.cons (.app 4 (.lst (.cons (.str ("facts 0 1 2 3" : Str)) (.cons (.int 1) .nil)))) (.cons (.frz 4) (.cons (.asg (.nm 4) (.bin .add (.var 4) (.lst (.cons (.lst (.cons (.bin .add (.bin .add (.str ("fact " : Str)) (.var 2)) (.str (" 1 2 3" : Str))) (.cons (.int 2) .nil))) (.cons (.lst (.cons (.bin .add (.bin .add (.str ("fact 0 " : Str)) (.var 2)) (.str (" 2 3" : Str))) (.cons (.int 3) .nil))) (.cons (.lst (.cons (.bin .add (.bin .add (.str ("fact 0 1 " : Str)) (.var 2)) (.str (" 3" : Str))) (.cons (.int 4) .nil))) .nil)))))) (.cons (.asg (.nm 4) (.bin .add (.var 4) (.lst (.cons (.lst (.cons (.bin .add (.str ("fact 0 1 2 " : Str)) (.var 2)) (.cons (.int 5) .nil))) (.cons (.lst (.cons (.str ("fact 0 0 2 3" : Str)) (.cons (.int 3) .nil))) (.cons (.lst (.cons (.str ("fact 0 1 3 2" : Str)) (.cons (.int 5) .nil))) (.cons (.lst (.cons (.bin .add (.str ("fact 0 1 0 " : Str)) (.var 3)) (.cons (.int 5) .nil))) .nil))))))) (.cons (.asg (.nm 4) (.bin .add (.var 4) (.lst (.cons (.lst (.cons (.bin .add (.bin .add (.str ("fact 0 " : Str)) (.b1 .str (.bin .add (.var 1) (.int 1)))) (.str (" 2 3" : Str))) (.cons (.int 3) .nil))) (.cons (.lst (.cons (.bin .add (.bin .add (.str ("fact " : Str)) (.b1 .str (.var 1))) (.str (" 1 2 3" : Str))) (.cons (.int 2) .nil))) (.cons (.lst (.cons (.str ("0 1 2 3" : Str)) (.cons (.int 1) .nil))) .nil)))))) (.cons (.ret (.ix (.var 4) (.call (.next) (.cons (.var 0) (.cons (.b1 .len (.var 4)) .nil))))) .nil)))))))), false⟩
/-! _law_fault -/
def f_law_41 : Fn := ⟨["_law_h", "_law_lines", "_law_b", "_law_bad", "_law_kind", "_law_spot", "_law_one", "_law_more"], 3, (.cons (.asg (.nm 3) (.ix (.lst (.cons (.str ("x" : Str)) (.cons (.str ("-1" : Str)) (.cons (.str ("01" : Str)) (.cons (.str ("+1" : Str)) (.cons (.str ("1.0" : Str)) (.cons (.str ("00" : Str)) .nil))))))) (.call (.next) (.cons (.var 0) (.cons (.int 6) .nil))))) (.cons (.asg (.nm 4) (.call (.next) (.cons (.var 0) (.cons (.int 5) .nil)))) (.cons (.ite (.cmp .eq (.var 4) (.int 0)) (.cons (.asg (.nm 6) (.call (.law 39) (.cons (.var 0) (.cons (.var 2) (.cons (.var 3) .nil))))) (.cons (.ret (.lst (.cons (.bin .add (.lst (.cons (.ix (.var 6) (.int 0)) .nil)) (.sl (.var 1) (.so (.int 1)) .no)) (.cons (.int 1) (.cons (.ix (.var 6) (.int 1)) .nil))))) .nil)) .nil) (.cons (.asg (.nm 5) (.bin .add (.int 1) (.call (.next) (.cons (.var 0) (.cons (.b1 .len (.var 1)) .nil))))) (.cons (.ite (.cmp .eq (.var 4) (.int 1)) (.cons (.ret (.lst (.cons (.bin .add (.bin .add (.sl (.var 1) .no (.so (.var 5))) (.lst (.cons (.ix (.lst (.cons (.str ("" : Str)) (.cons (.str ("  " : Str)) .nil))) (.call (.next) (.cons (.var 0) (.cons (.int 2) .nil)))) .nil))) (.sl (.var 1) (.so (.var 5)) .no)) (.cons (.bin .add (.var 5) (.int 1)) (.cons (.int 1) .nil))))) .nil) .nil) (.cons (.ite (.cmp .eq (.var 4) (.int 2)) (.cons (.asg (.nm 7) (.bin .mul (.lst (.cons (.str ("fact 0 1 0 1" : Str)) .nil)) (.bin .sub (.int 13) (.b1 .len (.var 1))))) (.cons (.ret (.lst (.cons (.bin .add (.bin .add (.var 1) (.var 7)) (.lst (.cons (.ix (.lst (.cons (.str ("fact 0 1 0 1" : Str)) (.cons (.str ("x" : Str)) .nil))) (.call (.next) (.cons (.var 0) (.cons (.int 2) .nil)))) .nil))) (.cons (.int 14) (.cons (.int 1) .nil))))) .nil)) .nil) (.cons (.asg (.nm 6) (.call (.law 40) (.cons (.var 0) (.cons (.ix (.var 2) (.int 0)) (.cons (.var 3) .nil))))) (.cons (.ret (.lst (.cons (.bin .add (.bin .add (.sl (.var 1) .no (.so (.var 5))) (.lst (.cons (.ix (.var 6) (.int 0)) .nil))) (.sl (.var 1) (.so (.var 5)) .no)) (.cons (.bin .add (.var 5) (.int 1)) (.cons (.ix (.var 6) (.int 1)) .nil))))) .nil)))))))), false⟩
/-! _law_bad_one -/
def f_law_46 : Fn := ⟨["_law_h", "_law_name", "_law_bad", "_law_one"], 2, (.cons (.asg (.nm 2) (.lst (.cons .non (.cons (.bl true) (.cons (.str ("1" : Str)) (.cons (.tup (.cons (.int 1) .nil)) (.cons (.lst (.cons (.int 1) .nil)) .nil))))))) (.cons (.asg (.nm 3) (.tup (.cons (.int 0) (.cons (.int 2) (.cons (.int 1) (.cons (.int 3) .nil)))))) (.cons (.ite (.cmp .isin (.var 1) (.lst (.cons (.str ("cells" : Str)) (.cons (.str ("begin" : Str)) (.cons (.str ("end" : Str)) .nil))))) (.cons (.asg (.nm 2) (.bin .add (.var 2) (.lst (.cons (.neg (.int 1)) (.cons (.int 21) (.cons (.ifx (.cmp .ne (.var 1) (.str ("cells" : Str))) (.int 9) (.int 0)) .nil)))))) .nil) .nil) (.cons (.ite (.cmp .eq (.var 1) (.str ("most" : Str))) (.cons (.asg (.nm 2) (.bin .add (.var 2) (.lst (.cons (.neg (.int 1)) (.cons (.bin .add (.bin .pow (.int 10) (.int 30)) (.int 1)) .nil))))) .nil) .nil) (.cons (.ite (.cmp .eq (.var 1) (.str ("facts" : Str))) (.cons (.asg (.nm 2) (.lst (.cons .non (.cons (.lst .nil) (.cons (.bin .mul (.tup (.cons (.var 3) .nil)) (.int 13)) (.cons (.tup (.cons (.var 3) (.cons (.tup (.cons (.int 0) (.cons (.int 0) (.cons (.int 1) (.cons (.int 3) .nil))))) .nil))) (.cons (.tup (.cons (.var 3) (.cons (.tup (.cons (.int 0) (.cons (.int 2) (.cons (.int 3) (.cons (.int 1) .nil))))) .nil))) (.cons (.tup (.cons (.var 3) (.cons (.tup (.cons (.int 0) (.cons (.int 2) (.cons (.neg (.int 1)) (.cons (.int 1) .nil))))) .nil))) (.cons (.tup (.cons (.var 3) (.cons .non .nil))) (.cons (.int 3) .nil)))))))))) (.cons (.asg (.nm 2) (.bin .add (.var 2) (.lst (.cons (.tup (.cons (.var 3) (.cons (.tup (.cons (.int 8) (.cons (.int 9) (.cons (.int 0) (.cons (.int 0) .nil))))) .nil))) (.cons (.tup (.cons (.var 3) (.cons (.tup (.cons (.int 0) (.cons (.int 2) (.cons (.int 1) .nil)))) .nil))) (.cons (.tup (.cons (.var 3) (.cons (.tup (.cons (.int 0) (.cons (.int 2) (.cons (.int 1) (.cons (.bin .add (.bin .pow (.int 10) (.int 32)) (.int 1)) .nil))))) .nil))) (.cons (.tup (.cons (.var 3) (.cons (.tup (.cons (.int 0) (.cons (.bl true) (.cons (.int 1) (.cons (.int 3) .nil))))) .nil))) .nil))))))) .nil)) .nil) (.cons (.ite (.cmp .isin (.var 1) (.lst (.cons (.str ("book" : Str)) (.cons (.str ("ring" : Str)) .nil)))) (.cons (.asg (.nm 2) (.lst (.cons .non (.cons (.tup (.cons (.int 3) (.cons (.int 2) (.cons (.tup .nil) .nil)))) (.cons (.int 3) (.cons (.str ("a" : Str)) (.cons (.ifx (.cmp .eq (.var 1) (.str ("book" : Str))) (.make .ring (.cons (.int 1) (.cons (.int 0) (.cons (.tup .nil) .nil)))) (.make .book (.cons (.int 1) (.cons (.int 0) (.cons (.tup .nil) .nil))))) .nil))))))) .nil) .nil) (.cons (.ite (.cmp .eq (.var 1) (.str ("row" : Str))) (.cons (.asg (.nm 2) (.lst (.cons .non (.cons (.lst (.cons (.int 0) (.cons (.int 0) (.cons (.int 0) .nil)))) (.cons (.tup (.cons (.int 0) (.cons (.int 0) .nil))) (.cons (.tup (.cons (.int 0) (.cons (.int 0) (.cons (.int 3) .nil)))) (.cons (.tup (.cons (.int 0) (.cons (.neg (.int 1)) (.cons (.int 0) .nil)))) (.cons (.tup (.cons (.int 0) (.cons (.bl true) (.cons (.int 0) .nil)))) (.cons (.tup (.cons (.str ("0" : Str)) (.cons (.int 0) (.cons (.int 0) .nil)))) (.cons (.int 3) .nil)))))))))) .nil) .nil) (.cons (.ite (.cmp .eq (.var 1) (.str ("word" : Str))) (.cons (.asg (.nm 2) (.lst (.cons .non (.cons (.bl true) (.cons (.str ("most" : Str)) (.cons (.int 3) (.cons (.tup (.cons (.str ("least" : Str)) .nil)) (.cons (.str ("" : Str)) .nil)))))))) .nil) .nil) (.cons (.ite (.cmp .eq (.var 1) (.str ("rests" : Str))) (.cons (.asg (.nm 3) (.tup (.cons (.int 0) (.cons (.int 3) (.cons (.int 4) .nil))))) (.cons (.asg (.nm 2) (.lst (.cons .non (.cons (.lst .nil) (.cons (.bin .mul (.tup (.cons (.var 3) .nil)) (.int 13)) (.cons (.tup (.cons (.var 3) (.cons (.tup (.cons (.int 0) (.cons (.int 0) (.cons (.int 1) .nil)))) .nil))) (.cons (.tup (.cons (.var 3) (.cons (.tup (.cons (.int 0) (.cons (.int 3) (.cons (.int 10) .nil)))) .nil))) (.cons (.tup (.cons (.var 3) (.cons (.tup (.cons (.int 0) (.cons (.int 3) (.cons (.neg (.int 1)) .nil)))) .nil))) (.cons (.tup (.cons (.var 3) (.cons (.tup (.cons (.int 0) (.cons (.int 4) (.cons (.int 1) .nil)))) .nil))) (.cons (.int 3) .nil)))))))))) (.cons (.asg (.nm 2) (.bin .add (.var 2) (.lst (.cons (.tup (.cons (.var 3) (.cons .non .nil))) (.cons (.tup (.cons (.var 3) (.cons (.tup (.cons (.int 0) (.cons (.int 3) .nil))) .nil))) (.cons (.tup (.cons (.var 3) (.cons (.tup (.cons (.int 0) (.cons (.int 3) (.cons (.bl true) .nil)))) .nil))) .nil)))))) .nil))) .nil) (.cons (.ret (.ix (.var 2) (.call (.next) (.cons (.var 0) (.cons (.b1 .len (.var 2)) .nil))))) .nil)))))))))), false⟩
/-! _law_bad_one -/
def f_law_46_k26 : Fn := ⟨["_law_h", "_law_name", "_law_bad", "_law_one"], 2, (.cons (.asg (.nm 2) (.lst (.cons .non (.cons (.bl true) (.cons (.str ("1" : Str)) (.cons (.tup (.cons (.int 1) .nil)) (.cons (.lst (.cons (.int 1) .nil)) .nil))))))) (.cons (.ite (.cmp .isin (.var 1) (.lst (.cons (.str ("cells" : Str)) (.cons (.str ("begin" : Str)) (.cons (.str ("end" : Str)) .nil))))) (.cons (.asg (.nm 2) (.bin .add (.var 2) (.lst (.cons (.neg (.int 1)) (.cons (.int 11) (.cons (.ifx (.cmp .ne (.var 1) (.str ("cells" : Str))) (.int 6) (.int 0)) .nil)))))) .nil) .nil) (.cons (.ite (.cmp .eq (.var 1) (.str ("most" : Str))) (.cons (.asg (.nm 2) (.bin .add (.var 2) (.lst (.cons (.neg (.int 1)) (.cons (.bin .add (.bin .pow (.int 10) (.int 30)) (.int 1)) .nil))))) .nil) .nil) (.cons (.ite (.cmp .eq (.var 1) (.str ("facts" : Str))) (.cons (.asg (.nm 3) (.tup (.cons (.int 0) (.cons (.int 2) (.cons (.int 1) (.cons (.int 3) .nil)))))) (.cons (.asg (.nm 2) (.lst (.cons .non (.cons (.lst .nil) (.cons (.bin .mul (.tup (.cons (.var 3) .nil)) (.int 9)) (.cons (.tup (.cons (.var 3) (.cons (.tup (.cons (.int 0) (.cons (.int 0) (.cons (.int 1) (.cons (.int 3) .nil))))) .nil))) (.cons (.tup (.cons (.var 3) (.cons (.tup (.cons (.int 0) (.cons (.int 2) (.cons (.int 3) (.cons (.int 1) .nil))))) .nil))) (.cons (.tup (.cons (.var 3) (.cons (.tup (.cons (.int 0) (.cons (.int 11) (.cons (.int 1) (.cons (.int 1) .nil))))) .nil))) (.cons (.tup (.cons (.var 3) (.cons .non .nil))) (.cons (.int 3) .nil)))))))))) (.cons (.asg (.nm 2) (.bin .add (.var 2) (.lst (.cons (.tup (.cons (.var 3) (.cons (.tup (.cons (.int 10) (.cons (.int 11) (.cons (.int 0) (.cons (.int 0) .nil))))) .nil))) (.cons (.tup (.cons (.var 3) (.cons (.tup (.cons (.int 0) (.cons (.int 2) (.cons (.int 1) .nil)))) .nil))) (.cons (.tup (.cons (.var 3) (.cons (.tup (.cons (.int 0) (.cons (.bl true) (.cons (.int 1) (.cons (.int 3) .nil))))) .nil))) .nil)))))) .nil))) .nil) (.cons (.ite (.cmp .isin (.var 1) (.lst (.cons (.str ("book" : Str)) (.cons (.str ("great" : Str)) .nil)))) (.cons (.asg (.nm 2) (.lst (.cons .non (.cons (.tup (.cons (.int 3) (.cons (.int 2) (.cons (.tup .nil) .nil)))) (.cons (.int 3) (.cons (.str ("a" : Str)) (.cons (.make .ring (.cons (.int 3) (.cons (.int 0) (.cons (.tup .nil) .nil)))) (.cons (.ifx (.cmp .eq (.var 1) (.str ("book" : Str))) (.make .round (.cons (.int 3) (.cons (.int 0) (.cons (.tup .nil) .nil)))) (.make .book (.cons (.int 3) (.cons (.int 0) (.cons (.tup .nil) .nil))))) .nil)))))))) .nil) .nil) (.cons (.ite (.cmp .eq (.var 1) (.str ("row" : Str))) (.cons (.asg (.nm 2) (.lst (.cons .non (.cons (.lst (.cons (.int 0) (.cons (.int 0) (.cons (.int 0) .nil)))) (.cons (.tup (.cons (.int 0) (.cons (.int 0) .nil))) (.cons (.tup (.cons (.int 0) (.cons (.int 0) (.cons (.int 3) .nil)))) (.cons (.tup (.cons (.int 0) (.cons (.neg (.int 1)) (.cons (.int 0) .nil)))) (.cons (.tup (.cons (.int 0) (.cons (.bl true) (.cons (.int 0) .nil)))) (.cons (.tup (.cons (.str ("0" : Str)) (.cons (.int 0) (.cons (.int 0) .nil)))) (.cons (.int 3) .nil)))))))))) .nil) .nil) (.cons (.ite (.cmp .eq (.var 1) (.str ("number" : Str))) (.cons (.asg (.nm 2) (.bin .add (.var 2) (.lst (.cons (.int 0) (.cons (.neg (.int 1)) .nil))))) .nil) .nil) (.cons (.ret (.ix (.var 2) (.call (.next) (.cons (.var 0) (.cons (.b1 .len (.var 2)) .nil))))) .nil)))))))), false⟩
/-! _wall -/
def f_p_66_b0 : Ss := (.cons .pass .nil)
def f_p_66_l1 : S := .whl (.bl true) f_p_66_b0
def f_p_66 : Fn := ⟨["k"], 1, (.cons f_p_66_l1 .nil), false⟩
/-! Desk.copy -/
def f_me_desk_5_k14 : Fn := ⟨["self"], 1, (.cons (.expr (.call (.p 66) (.cons (.int 1) .nil))) .nil), false⟩
/-! Desk.copy -/
def f_me_desk_5_k16 : Fn := ⟨["self"], 1, (.cons (.expr (.call (.p 66) (.cons (.int 0) .nil))) .nil), false⟩
/-! _law_early -/
def f_law_48 : Fn := ⟨["_law_kind", "_law_n", "_law_told"], 3, (.cons (.ite (.cmp .eq (.var 0) (.int 0)) (.cons (.expr (.make .book (.cons (.int 0) (.cons (.var 1) (.cons (.tup .nil) .nil))))) .nil) .nil) (.cons (.ite (.cmp .eq (.var 0) (.int 1)) (.cons (.expr (.make .book (.cons (.var 1) (.cons (.neg (.var 1)) (.cons (.tup .nil) .nil))))) .nil) .nil) (.cons (.ite (.cmp .eq (.var 0) (.int 2)) (.cons (.expr (.make .book (.cons (.var 1) (.cons (.var 1) (.cons (.tup (.cons (.tup (.cons (.int 0) (.cons (.var 1) (.cons (.var 1) (.cons (.var 1) .nil))))) (.cons (.tup (.cons (.int 0) (.cons (.var 1) (.cons (.var 1) (.cons (.int 0) .nil))))) .nil))) .nil))))) .nil) .nil) (.cons (.ite (.cmp .eq (.var 0) (.int 3)) (.cons (.expr (.call (.p 11) (.cons (.tup (.cons (.var 1) (.cons (.var 1) (.cons (.tup .nil) .nil)))) .nil))) .nil) .nil) (.cons (.ite (.cmp .eq (.var 0) (.int 4)) (.cons (.expr (.call (.p 6) (.cons (.var 2) (.cons (.bin .mul (.tup (.cons (.bin .add (.var 1) (.int 1)) .nil)) (.var 1)) .nil)))) .nil) .nil) (.cons (.ite (.cmp .eq (.var 0) (.int 5)) (.cons (.expr (.call (.p 15) (.cons (.make .book (.cons (.var 1) (.cons (.var 1) (.cons (.tup (.cons (.tup (.cons (.int 0) (.cons (.var 1) (.cons (.bin .add (.bin .mul (.var 1) (.var 1)) (.int 1)) (.cons (.bin .add (.bin .mul (.var 1) (.var 1)) (.int 1)) .nil))))) .nil)) .nil)))) .nil))) .nil) .nil) (.cons (.ite (.cmp .eq (.var 0) (.int 6)) (.cons (.expr (.call (.p 18) (.cons (.var 2) (.cons (.int 0) (.cons (.var 1) (.cons (.b1 .str (.var 1)) .nil)))))) .nil) .nil) (.cons (.ite (.cmp .eq (.var 0) (.int 7)) (.cons (.expr (.call (.p 17) (.cons (.var 2) (.cons (.var 1) (.cons (.var 1) .nil))))) .nil) .nil) .nil)))))))), false⟩
/-! Desk.take -/
def f_me_desk_3_k15 : Fn := ⟨["self", "index"], 2, (.cons (.expr (.call (.p 66) (.cons (.int 0) .nil))) .nil), false⟩
/-! _law_copied -/
def f_law_51_c0 : E := (.lc (.call (.law 51) (.cons (.var 1) .nil)) (.nm 1) (.of (.var 0)))
def f_law_51_c1 : E := (.lc (.call (.law 51) (.cons (.var 1) .nil)) (.nm 1) (.of (.var 0)))
def f_law_51 : Fn := ⟨["_law_thing", "_law_one"], 1, (.cons (.ite (.isa (.var 0) .list) (.cons (.ret f_law_51_c0) .nil) .nil) (.cons (.ite (.isa (.var 0) .tuple) (.cons (.ret (.b1 .tuple f_law_51_c1)) .nil) .nil) (.cons (.ret (.var 0)) .nil))), false⟩
/-! _law_copied -/
def f_law_51_k27_c0 : E := (.lc (.call (.law 51) (.cons (.var 1) .nil)) (.nm 1) (.of (.var 0)))
def f_law_51_k27 : Fn := ⟨["_law_thing", "_law_one"], 1, (.cons (.ite (.isa (.var 0) .list) (.cons (.ret f_law_51_k27_c0) .nil) .nil) (.cons (.ret (.var 0)) .nil)), false⟩
/-! _law_chains -/
def f_law_53 : Fn := ⟨["_law_told", "_law_chain", "_law_off"], 0, (.cons (.asg (.nm 0) (.make .book (.cons (.int 4) (.cons (.int 3) (.cons (.tup (.cons (.tup (.cons (.int 0) (.cons (.int 2) (.cons (.int 4) (.cons (.int 4) .nil))))) (.cons (.tup (.cons (.int 1) (.cons (.int 3) (.cons (.int 0) (.cons (.int 2) .nil))))) .nil))) .nil))))) (.cons (.asg (.nm 1) (.tup (.cons (.tup (.cons (.str ("fact" : Str)) (.cons (.int 0) (.cons (.neg (.int 1)) .nil)))) (.cons (.tup (.cons (.str ("cell" : Str)) (.cons (.int 0) (.cons (.int 1) .nil)))) (.cons (.tup (.cons (.str ("fact" : Str)) (.cons (.int 1) (.cons (.int 1) .nil)))) .nil))))) (.cons (.ite (.or (.nott (.call (.p 29) (.cons (.var 0) (.cons (.int 2) (.cons (.int 3) (.cons (.str ("greatest" : Str)) (.cons (.int 1) (.cons (.var 1) .nil)))))))) (.call (.p 29) (.cons (.var 0) (.cons (.int 2) (.cons (.int 3) (.cons (.str ("greatest" : Str)) (.cons (.int 0) (.cons (.var 1) .nil)))))))) (.cons (.ret (.bl false)) .nil) .nil) (.cons (.ite (.cmp .notn (.call (.p 34) (.cons (.var 0) .nil)) .non) (.cons (.ret (.bl false)) .nil) .nil) (.cons (.ite (.or (.nott (.call (.p 29) (.cons (.var 0) (.cons (.int 0) (.cons (.int 4) (.cons (.str ("greatest" : Str)) (.cons (.int 8) (.cons (.call (.p 26) (.cons (.var 0) (.cons (.int 0) (.cons (.int 4) (.cons (.str ("greatest" : Str)) .nil))))) .nil)))))))) (.cmp .notn (.call (.p 36) (.cons (.var 0) .nil)) .non)) (.cons (.ret (.bl false)) .nil) .nil) (.cons (.asg (.nm 2) (.make .book (.cons (.int 2) (.cons (.int 3) (.cons (.tup (.cons (.tup (.cons (.int 0) (.cons (.int 2) (.cons (.int 7) (.cons (.int 9) .nil))))) (.cons (.tup (.cons (.int 0) (.cons (.int 1) (.cons (.int 0) (.cons (.int 2) .nil))))) .nil))) .nil))))) (.cons (.ite (.or (.cmp .ne (.call (.p 36) (.cons (.var 2) .nil)) (.int 1)) (.nott (.call (.p 35) (.cons (.var 2) (.cons (.call (.p 34) (.cons (.var 2) .nil)) .nil))))) (.cons (.ret (.bl false)) .nil) .nil) (.cons (.ret (.call (.p 35) (.cons (.var 2) (.cons (.tup (.cons (.tup (.cons (.str ("fact" : Str)) (.cons (.int 0) (.cons (.neg (.int 1)) .nil)))) (.cons (.tup (.cons (.str ("cell" : Str)) (.cons (.int 0) (.cons (.int 1) .nil)))) (.cons (.tup (.cons (.str ("cell" : Str)) (.cons (.int 1) (.cons (.int 1) .nil)))) .nil)))) .nil)))) .nil)))))))), false⟩
/-! _law_rings -/
def f_law_54 : Fn := ⟨["_law_told"], 0, (.cons (.asg (.nm 0) (.make .ring (.cons (.int 3) (.cons (.int 2) (.cons (.tup (.cons (.tup (.cons (.int 2) (.cons (.int 4) (.cons (.int 4) (.cons (.int 4) .nil))))) (.cons (.tup (.cons (.int 0) (.cons (.int 2) (.cons (.int 0) (.cons (.int 2) .nil))))) .nil))) .nil))))) (.cons (.ite (.or (.cmp .ne (.call (.p 41) (.cons (.var 0) .nil)) (.lst (.cons (.int 4) .nil))) (.or (.cmp .ne (.call (.p 43) (.cons (.var 0) (.cons (.int 0) (.cons (.int 1) .nil)))) (.tup (.cons (.int 2) (.cons (.int 2) .nil)))) (.cmp .ne (.call (.p 43) (.cons (.var 0) (.cons (.int 1) (.cons (.int 4) .nil)))) (.tup (.cons (.int 4) (.cons (.int 4) .nil)))))) (.cons (.ret (.bl false)) .nil) .nil) (.cons (.ret (.cmp .eq (.call (.p 44) (.cons (.var 0) .nil)) (.tup (.cons (.int 2) (.cons (.int 0) (.cons (.int 2) .nil)))))) .nil))), false⟩
/-! _law_smalls -/
def f_law_55 : Fn := ⟨["_law_told"], 0, (.cons (.asg (.nm 0) (.make .book (.cons (.int 3) (.cons (.int 1) (.cons (.tup (.cons (.tup (.cons (.int 0) (.cons (.int 3) (.cons (.int 1) (.cons (.int 2) .nil))))) .nil)) .nil))))) (.cons (.ite (.or (.cmp .ne (.call (.p 50) (.cons (.var 0) (.cons (.tup (.cons (.tup (.cons (.int 0) (.cons (.int 2) (.cons (.int 0) .nil)))) .nil)) .nil))) (.lst (.cons (.tup (.cons (.int 0) (.cons (.int 0) (.cons (.int 1) .nil)))) .nil))) (.cmp .ne (.call (.p 54) (.cons (.var 0) (.cons (.tup .nil) .nil))) (.tup (.cons (.int 0) (.cons (.int 1) (.cons (.int 3) .nil)))))) (.cons (.ret (.bl false)) .nil) .nil) (.cons (.ite (.cmp .ne (.call (.p 51) (.cons (.var 0) (.cons (.tup .nil) (.cons (.tup (.cons (.int 1) (.cons (.int 1) (.cons (.int 1) .nil)))) .nil)))) (.tup (.cons (.int 1) (.cons (.lst (.cons (.tup (.cons (.int 0) (.cons (.int 1) (.cons (.int 1) .nil)))) (.cons (.tup (.cons (.int 1) (.cons (.int 0) (.cons (.int 1) .nil)))) (.cons (.tup (.cons (.int 1) (.cons (.int 1) (.cons (.int 0) .nil)))) .nil)))) .nil)))) (.cons (.ret (.bl false)) .nil) .nil) (.cons (.ite (.or (.cmp .ne (.call (.p 57) (.cons (.var 0) (.cons (.tup (.cons (.tup (.cons (.int 0) (.cons (.int 2) (.cons (.int 1) .nil)))) .nil)) .nil))) (.tup (.cons (.tup (.cons (.int 0) (.cons (.int 1) .nil))) (.cons (.tup (.cons (.int 0) (.cons (.int 3) .nil))) .nil)))) (.cmp .ne (.call (.p 59) (.cons (.var 0) .nil)) (.lst (.cons (.tup .nil) .nil)))) (.cons (.ret (.bl false)) .nil) .nil) (.cons (.ite (.cmp .ne (.call (.p 59) (.cons (.make .book (.cons (.int 2) (.cons (.int 1) (.cons (.tup (.cons (.tup (.cons (.int 0) (.cons (.int 2) (.cons (.int 3) (.cons (.int 3) .nil))))) .nil)) .nil)))) .nil)) (.lst (.cons (.tup (.cons (.int 0) .nil)) .nil))) (.cons (.ret (.bl false)) .nil) .nil) (.cons (.ret (.cmp .eq (.call (.p 59) (.cons (.make .book (.cons (.int 1) (.cons (.int 9) (.cons (.tup (.cons (.tup (.cons (.int 0) (.cons (.int 1) (.cons (.int 1) (.cons (.int 1) .nil))))) (.cons (.tup (.cons (.int 0) (.cons (.int 1) (.cons (.int 3) (.cons (.int 3) .nil))))) (.cons (.tup (.cons (.int 0) (.cons (.int 1) (.cons (.int 4) (.cons (.int 4) .nil))))) .nil)))) .nil)))) .nil)) (.lst .nil))) .nil)))))), false⟩
/-! check_two -/
def f_p_67 : Fn := ⟨["one", "other"], 2, (.cons (.expr (.call (.p 3) (.cons (.var 0) .nil))) (.cons (.expr (.call (.p 3) (.cons (.var 1) .nil))) (.cons (.ite (.cmp .ne (.ix (.fld (.var 0) .book 0) (.int 0)) (.ix (.fld (.var 1) .book 0) (.int 0))) (.cons (.rais (.err 15) .nil) .nil) .nil) .nil))), false⟩
/-! asked_of -/
def f_p_68_c0 : E := (.lc (.tup (.cons (.var 5) (.cons (.bin .add (.var 5) (.int 1)) (.cons (.int 0) (.cons (.var 3) .nil))))) (.nm 5) (.rg1 (.var 2)))
def f_p_68_c1 : E := (.lc (.var 6) (.nm 6) (.of (.var 4)))
def f_p_68 : Fn := ⟨["book", "found", "cells", "most", "facts", "cell", "fact"], 1, (.cons (.asg (.tp (.cons (.nm 2) (.cons (.nm 3) (.cons (.nm 4) .nil)))) (.fld (.var 0) .book 0)) (.cons (.asg (.nm 1) f_p_68_c0) (.cons (.ret (.bin .add (.var 1) f_p_68_c1)) .nil))), false⟩
/-! is_within -/
def f_p_69_b0 : Ss := (.cons (.asg (.tp (.cons (.nm 6) (.cons (.nm 7) .nil))) (.call (.p 16) (.cons (.var 0) (.cons (.var 2) (.cons (.var 3) .nil))))) (.cons (.ite (.or (.cmp .lt (.var 6) (.var 4)) (.cmp .gt (.var 7) (.var 5))) (.cons (.ret (.bl false)) .nil) .nil) .nil))
def f_p_69_l1 : S := .for (.tp (.cons (.nm 2) (.cons (.nm 3) (.cons (.nm 4) (.cons (.nm 5) .nil))))) (.of (.call (.p 68) (.cons (.var 1) .nil))) f_p_69_b0
def f_p_69 : Fn := ⟨["one", "other", "begin", "end", "low", "high", "least", "greatest"], 2, (.cons (.ite (.nott (.call (.p 10) (.cons (.var 0) .nil))) (.cons (.ret (.bl true)) .nil) .nil) (.cons f_p_69_l1 (.cons (.ret (.bl true)) .nil))), false⟩
/-! within -/
def f_p_70 : Fn := ⟨["one", "other"], 2, (.cons (.expr (.call (.p 67) (.cons (.var 0) (.cons (.var 1) .nil)))) (.cons (.ret (.call (.p 69) (.cons (.var 0) (.cons (.var 1) .nil)))) .nil)), false⟩
/-! alike -/
def f_p_71 : Fn := ⟨["one", "other"], 2, (.cons (.expr (.call (.p 67) (.cons (.var 0) (.cons (.var 1) .nil)))) (.cons (.ret (.and (.call (.p 69) (.cons (.var 0) (.cons (.var 1) .nil))) (.call (.p 69) (.cons (.var 1) (.cons (.var 0) .nil))))) .nil)), false⟩
/-! row_by_edges -/
def f_p_72_c0 : E := (.lc (.bin .sub (.ix (.var 2) (.bin .add (.var 3) (.int 1))) (.ix (.var 2) (.var 3))) (.nm 3) (.rg1 (.var 0)))
def f_p_72 : Fn := ⟨["cells", "edges", "found", "cell"], 2, (.cons (.ite (.cmp .isn (.call (.p 9) (.cons (.bin .add (.var 0) (.int 1)) (.cons (.var 1) (.cons (.int 0) .nil)))) .non) (.cons (.ret .non) .nil) .nil) (.cons (.asg (.nm 2) (.call (.p 13) (.cons (.bin .add (.var 0) (.int 1)) (.cons (.var 1) .nil)))) (.cons (.ret (.b1 .tuple f_p_72_c0)) .nil))), false⟩
/-! rows_outside -/
def f_p_73_b0 : Ss := (.cons (.asg (.nm 10) (.call (.p 72) (.cons (.var 2) (.cons (.bin .add (.var 3) (.lst (.cons (.var 9) .nil))) .nil)))) (.cons (.ite (.cmp .notn (.var 10) .non) (.cons (.app 4 (.var 10)) .nil) .nil) .nil))
def f_p_73_l1 : S := .for (.nm 9) (.of (.tup (.cons (.tup (.cons (.var 5) (.cons (.var 6) (.cons (.bin .sub (.var 7) (.int 1)) .nil)))) (.cons (.tup (.cons (.var 6) (.cons (.var 5) (.cons (.bin .sub (.neg (.var 8)) (.int 1)) .nil)))) .nil)))) f_p_73_b0
def f_p_73_b2 : Ss := (.cons f_p_73_l1 .nil)
def f_p_73_l3 : S := .for (.tp (.cons (.nm 5) (.cons (.nm 6) (.cons (.nm 7) (.cons (.nm 8) .nil))))) (.of (.call (.p 68) (.cons (.var 1) .nil))) f_p_73_b2
def f_p_73 : Fn := ⟨["one", "other", "cells", "edges", "found", "begin", "end", "low", "high", "more", "row"], 2, (.cons (.asg (.nm 2) (.ix (.fld (.var 0) .book 0) (.int 0))) (.cons (.asg (.nm 3) (.call (.p 8) (.cons (.var 0) .nil))) (.cons (.own 4 (.lst .nil)) (.cons f_p_73_l3 (.cons (.frz 4) (.cons (.ret (.var 4)) .nil)))))), false⟩
/-! first_unlike -/
def f_p_74 : Fn := ⟨["one", "other"], 2, (.cons (.expr (.call (.p 67) (.cons (.var 0) (.cons (.var 1) .nil)))) (.cons (.ret (.mind (.bin .add (.call (.p 73) (.cons (.var 0) (.cons (.var 1) .nil))) (.call (.p 73) (.cons (.var 1) (.cons (.var 0) .nil)))))) .nil)), false⟩
/-! _law_like -/
def f_law_57_c0 : E := (.lc (.call (.next) (.cons (.var 0) (.cons (.bin .add (.var 5) (.int 1)) .nil))) (.nm 8) (.rg1 (.var 4)))
def f_law_57_c1 : E := (.lc (.call (.law 2) (.cons (.var 0) (.cons (.var 3) (.cons (.int 3) .nil)))) (.nm 8) (.rg1 (.call (.next) (.cons (.var 0) (.cons (.int 4) .nil)))))
def f_law_57 : Fn := ⟨["_law_h", "_law_b", "_law_kind", "_law_row", "_law_cells", "_law_most", "_law_facts", "_law_low", "_law_k", "_law_begin", "_law_end", "_law_high"], 2, (.cons (.asg (.tp (.cons (.nm 4) (.cons (.nm 5) (.cons (.nm 6) .nil)))) (.var 1)) (.cons (.asg (.nm 2) (.call (.next) (.cons (.var 0) (.cons (.int 6) .nil)))) (.cons (.asg (.nm 3) f_law_57_c0) (.cons (.ite (.and (.cmp .eq (.var 2) (.int 0)) (.cmp .ne (.var 6) (.tup .nil))) (.cons (.ret (.lst (.cons (.var 4) (.cons (.var 5) (.cons (.sl (.var 6) (.so (.int 1)) .no) .nil))))) .nil) .nil) (.cons (.ite (.cmp .eq (.var 2) (.int 1)) (.cons (.ret (.lst (.cons (.var 4) (.cons (.var 5) (.cons (.bin .add (.var 6) (.tup (.cons (.call (.law 2) (.cons (.var 0) (.cons (.var 3) (.cons (.int 3) .nil)))) .nil))) .nil))))) .nil) .nil) (.cons (.ite (.and (.cmp .eq (.var 2) (.int 2)) (.cmp .ne (.var 6) (.tup .nil))) (.cons (.asg (.tp (.cons (.nm 9) (.cons (.nm 10) (.cons (.nm 7) (.cons (.nm 11) .nil))))) (.ix (.var 6) (.int 0))) (.cons (.asg (.nm 7) (.b2 .max (.int 0) (.bin .sub (.var 7) (.call (.next) (.cons (.var 0) (.cons (.int 2) .nil)))))) (.cons (.ret (.lst (.cons (.var 4) (.cons (.var 5) (.cons (.bin .add (.tup (.cons (.tup (.cons (.var 9) (.cons (.var 10) (.cons (.var 7) (.cons (.b2 .max (.var 7) (.bin .sub (.bin .add (.var 11) (.call (.next) (.cons (.var 0) (.cons (.int 3) .nil)))) (.int 1))) .nil))))) .nil)) (.sl (.var 6) (.so (.int 1)) .no)) .nil))))) .nil))) .nil) (.cons (.ite (.cmp .eq (.var 2) (.int 3)) (.cons (.ret (.lst (.cons (.var 4) (.cons (.b2 .max (.int 0) (.bin .sub (.bin .add (.var 5) (.call (.next) (.cons (.var 0) (.cons (.int 3) .nil)))) (.int 1))) (.cons (.var 6) .nil))))) .nil) .nil) (.cons (.ite (.cmp .eq (.var 2) (.int 4)) (.cons (.ret (.lst (.cons (.var 4) (.cons (.var 5) (.cons (.rev (.var 6)) .nil))))) .nil) .nil) (.cons (.ret (.lst (.cons (.var 4) (.cons (.var 5) (.cons (.b1 .tuple f_law_57_c1) .nil))))) .nil))))))))), false⟩
/-! _law_apart -/
def f_law_58 : Fn := ⟨["_law_one", "_law_other"], 2, (.cons (.tri (.cons (.expr (.call (.p 70) (.cons (.var 0) (.cons (.var 1) .nil)))) .nil) (.cons (.err 15) none (.cons (.ret (.bl true)) .nil) .nil) [0, 1, 2, 3, 4, 15]) (.cons (.ret (.bl false)) .nil)), false⟩
/-! closed -/
def f_p_75_b0 : Ss := (.cons (.app 1 (.bin .add (.tup (.cons (.var 2) (.cons (.var 3) .nil))) (.call (.p 16) (.cons (.var 0) (.cons (.var 2) (.cons (.var 3) .nil)))))) .nil)
def f_p_75_l1 : S := .for (.nm 3) (.rg2 (.bin .add (.var 2) (.int 1)) (.bin .add (.ix (.fld (.var 0) .book 0) (.int 0)) (.int 1))) f_p_75_b0
def f_p_75_b2 : Ss := (.cons f_p_75_l1 .nil)
def f_p_75_l3 : S := .for (.nm 2) (.rg1 (.ix (.fld (.var 0) .book 0) (.int 0))) f_p_75_b2
def f_p_75 : Fn := ⟨["book", "found", "begin", "end"], 1, (.cons (.expr (.call (.p 3) (.cons (.var 0) .nil))) (.cons (.expr (.call (.p 12) (.cons (.var 0) .nil))) (.cons (.own 1 (.lst .nil)) (.cons f_p_75_l3 (.cons (.frz 1) (.cons (.ret (.var 1)) .nil)))))), false⟩
/-! _law_closed -/
def f_law_59_b0 : Ss := (.cons (.app 3 (.tup (.cons (.var 1) (.cons (.var 4) (.cons (.neg (.ix (.var 2) (.tup (.cons (.var 4) (.cons (.var 1) .nil))))) (.cons (.ix (.var 2) (.tup (.cons (.var 1) (.cons (.var 4) .nil)))) .nil)))))) .nil)
def f_law_59_l1 : S := .for (.nm 4) (.rg2 (.bin .add (.var 1) (.int 1)) (.bin .add (.ix (.var 0) (.int 0)) (.int 1))) f_law_59_b0
def f_law_59_b2 : Ss := (.cons f_law_59_l1 .nil)
def f_law_59_l3 : S := .for (.nm 1) (.rg1 (.ix (.var 0) (.int 0))) f_law_59_b2
def f_law_59 : Fn := ⟨["_law_b", "_law_begin", "_law_far", "_law_found", "_law_end"], 1, (.cons (.paro 2 3 (.call (.law 7) (.cons (.var 0) .nil))) (.cons (.ite (.cmp .isn (.var 2) .non) (.cons (.ret .non) .nil) .nil) (.cons f_law_59_l3 (.cons (.frz 3) (.cons (.ret (.var 3)) .nil))))), false⟩
/-! says_same -/
def f_p_76_c0 : E := (.lc (.ix (.var 4) (.var 5)) (.nm 5) (.of (.var 1)))
def f_p_76 : Fn := ⟨["book", "some", "cells", "most", "facts", "index"], 2, (.cons (.asg (.tp (.cons (.nm 2) (.cons (.nm 3) (.cons (.nm 4) .nil)))) (.fld (.var 0) .book 0)) (.cons (.ret (.call (.p 69) (.cons (.make .book (.cons (.var 2) (.cons (.var 3) (.cons (.b1 .tuple f_p_76_c0) .nil)))) (.cons (.var 0) .nil)))) .nil)), false⟩
/-! smallest_kept -/
def f_p_77_c0 : E := (.lci (.var 4) (.nm 4) (.of (.call (.p 55) (.cons (.var 1) (.cons (.var 2) .nil)))) (.call (.p 76) (.cons (.var 0) (.cons (.var 4) .nil))))
def f_p_77_b1 : Ss := (.cons (.asg (.nm 3) f_p_77_c0) (.cons (.ite (.var 3) (.cons (.ret (.var 3)) .nil) .nil) (.cons (.aug 2 .add (.int 1)) .nil)))
def f_p_77_l2 : S := .whl (.bl true) f_p_77_b1
def f_p_77 : Fn := ⟨["book", "many", "size", "found", "some"], 1, (.cons (.expr (.call (.p 3) (.cons (.var 0) .nil))) (.cons (.asg (.nm 1) (.b1 .len (.ix (.fld (.var 0) .book 0) (.int 2)))) (.cons (.asg (.nm 2) (.int 0)) (.cons f_p_77_l2 .nil)))), false⟩
/-! row_of_tops -/
def f_p_78_b0 : Ss := (.cons (.app 2 (.bin .sub (.var 3) (.var 1))) (.cons (.asg (.nm 1) (.var 3)) .nil))
def f_p_78_l1 : S := .for (.nm 3) (.of (.var 0)) f_p_78_b0
def f_p_78 : Fn := ⟨["tops", "before", "found", "top"], 1, (.cons (.asg (.nm 1) (.int 0)) (.cons (.own 2 (.lst .nil)) (.cons f_p_78_l1 (.cons (.frz 2) (.cons (.ret (.b1 .tuple (.var 2))) .nil))))), false⟩
/-! tops_of -/
def f_p_79_b0 : Ss := (.cons (.aug 2 .add (.var 3)) (.cons (.app 1 (.var 2)) .nil))
def f_p_79_l1 : S := .for (.nm 3) (.of (.var 0)) f_p_79_b0
def f_p_79 : Fn := ⟨["row", "found", "whole", "number"], 1, (.cons (.own 1 (.lst .nil)) (.cons (.asg (.nm 2) (.int 0)) (.cons f_p_79_l1 (.cons (.frz 1) (.cons (.ret (.var 1)) .nil))))), false⟩
/-! fewest_ahead -/
def f_p_80_c0 : E := (.lc (.ix (.call (.p 16) (.cons (.var 0) (.cons (.int 0) (.cons (.var 1) .nil)))) (.int 0)) (.nm 1) (.rg2 (.int 1) (.bin .add (.ix (.fld (.var 0) .book 0) (.int 0)) (.int 1))))
def f_p_80 : Fn := ⟨["book", "end"], 1, (.cons (.expr (.call (.p 3) (.cons (.var 0) .nil))) (.cons (.expr (.call (.p 12) (.cons (.var 0) .nil))) (.cons (.ret (.call (.p 78) (.cons f_p_80_c0 .nil))) .nil))), false⟩
/-! most_ahead -/
def f_p_81_c0 : E := (.lc (.ix (.call (.p 16) (.cons (.var 0) (.cons (.int 0) (.cons (.var 1) .nil)))) (.int 1)) (.nm 1) (.rg2 (.int 1) (.bin .add (.ix (.fld (.var 0) .book 0) (.int 0)) (.int 1))))
def f_p_81 : Fn := ⟨["book", "end"], 1, (.cons (.expr (.call (.p 3) (.cons (.var 0) .nil))) (.cons (.expr (.call (.p 12) (.cons (.var 0) .nil))) (.cons (.ret (.call (.p 78) (.cons f_p_81_c0 .nil))) .nil))), false⟩
/-! check_fitting -/
def f_p_82 : Fn := ⟨["book", "value"], 2, (.cons (.expr (.call (.p 4) (.cons (.var 0) (.cons (.var 1) .nil)))) (.cons (.ite (.call (.p 5) (.cons (.var 0) (.cons (.var 1) .nil))) (.cons (.rais (.err 5) .nil) .nil) .nil) .nil)), false⟩
/-! _law_tops -/
def f_law_60_c0 : E := (.lc (.b1 .sum (.sl (.var 0) .no (.so (.bin .add (.var 1) (.int 1))))) (.nm 1) (.rg1 (.b1 .len (.var 0))))
def f_law_60 : Fn := ⟨["_law_row_here", "_law_k"], 1, (.cons (.ret f_law_60_c0) .nil), false⟩
/-! _law_row -/
def f_law_61_c0 : E := (.lc (.bin .sub (.ix (.var 0) (.var 1)) (.ifx (.cmp .gt (.var 1) (.int 0)) (.ix (.var 0) (.bin .sub (.var 1) (.int 1))) (.int 0))) (.nm 1) (.rg1 (.b1 .len (.var 0))))
def f_law_61 : Fn := ⟨["_law_tops_here", "_law_k"], 1, (.cons (.ret (.b1 .tuple f_law_61_c0)) .nil), false⟩
/-! _law_any -/
def f_law_62 : Fn := ⟨["_law_h", "_law_b", "_law_told", "_law_begin", "_law_end", "_law_low", "_law_high"], 3, (.cons (.asg (.tp (.cons (.nm 3) (.cons (.nm 4) .nil))) (.call (.law 1) (.cons (.var 0) (.cons (.ix (.var 1) (.int 0)) .nil)))) (.cons (.asg (.tp (.cons (.nm 5) (.cons (.nm 6) .nil))) (.call (.p 17) (.cons (.var 2) (.cons (.var 3) (.cons (.var 4) .nil))))) (.cons (.ret (.call (.p 18) (.cons (.var 2) (.cons (.var 3) (.cons (.var 4) (.cons (.bin .add (.var 5) (.call (.next) (.cons (.var 0) (.cons (.bin .add (.bin .sub (.var 6) (.var 5)) (.int 1)) .nil)))) .nil)))))) .nil))), false⟩
/-! _law_mixed -/
def f_law_63 : Fn := ⟨["_law_told", "_law_one", "_law_other"], 3, (.cons (.tri (.cons (.ret (.call (.p 83) (.cons (.var 0) (.cons (.var 1) (.cons (.var 2) .nil))))) .nil) (.cons (.err 5) none (.cons (.ret .non) .nil) .nil) [0, 1, 2, 3, 4, 5, 6, 7, 8]) .nil), false⟩
/-! far_edge -/
def f_p_84 : Fn := ⟨["book", "row", "link", "word", "place", "way"], 3, (.cons (.asg (.tp (.cons (.nm 3) (.cons (.nm 4) (.cons (.nm 5) .nil)))) (.var 2)) (.cons (.ite (.cmp .ne (.var 3) (.str ("row" : Str))) (.cons (.ret (.call (.p 22) (.cons (.var 0) (.cons (.var 2) .nil)))) .nil) .nil) (.cons (.ite (.cmp .eq (.var 5) (.int 1)) (.cons (.ret (.tup (.cons (.var 4) (.cons (.bin .add (.var 4) (.int 1)) (.cons (.ix (.var 1) (.var 4)) .nil))))) .nil) .nil) (.cons (.ret (.tup (.cons (.bin .add (.var 4) (.int 1)) (.cons (.var 4) (.cons (.neg (.ix (.var 1) (.var 4))) .nil))))) .nil)))), false⟩
/-! widened -/
def f_p_85_b0 : Ss := (.cons (.ext 4 (.lst (.cons (.tup (.cons (.str ("row" : Str)) (.cons (.var 7) (.cons (.int 1) .nil)))) (.cons (.tup (.cons (.str ("row" : Str)) (.cons (.var 7) (.cons (.neg (.int 1)) .nil)))) .nil)))) .nil)
def f_p_85_l1 : S := .for (.nm 7) (.rg1 (.ix (.fld (.var 0) .book 0) (.int 0))) f_p_85_b0
def f_p_85_b2 : Ss := (.cons (.asg (.tp (.cons (.nm 8) (.cons (.nm 9) (.cons (.nm 10) .nil)))) (.call (.p 84) (.cons (.var 0) (.cons (.var 1) (.cons (.var 6) .nil))))) (.cons (.ite (.cmp .eq (.ix (.var 6) (.int 0)) (.var 3)) (.cons (.aug 10 .add (.var 2)) .nil) .nil) (.cons (.app 5 (.tup (.cons (.var 6) (.cons (.tup (.cons (.var 8) (.cons (.var 9) (.cons (.var 10) .nil)))) .nil)))) .nil)))
def f_p_85_l3 : S := .for (.nm 6) (.of (.var 4)) f_p_85_b2
def f_p_85 : Fn := ⟨["book", "row", "slack", "word", "links", "found", "link", "place", "begin", "end", "weight"], 3, (.cons (.asg (.nm 3) (.str ("fact" : Str))) (.cons (.own 4 (.call (.p 23) (.cons (.var 0) .nil))) (.cons (.ite (.cmp .notn (.var 1) .non) (.cons (.asg (.nm 3) (.str ("row" : Str))) (.cons f_p_85_l1 .nil)) .nil) (.cons (.own 5 (.lst .nil)) (.cons (.frz 4) (.cons f_p_85_l3 (.cons (.frz 5) (.cons (.ret (.var 5)) .nil)))))))), false⟩
/-! can_with -/
def f_p_86_c0 : E := (.lc (.var 4) (.tp (.cons (.nm 3) (.cons (.nm 4) .nil))) (.of (.call (.p 85) (.cons (.var 0) (.cons (.var 1) (.cons (.var 2) .nil))))))
def f_p_86 : Fn := ⟨["book", "row", "slack", "link", "edge"], 3, (.cons (.ret (.cmp .notn (.call (.p 9) (.cons (.bin .add (.ix (.fld (.var 0) .book 0) (.int 0)) (.int 1)) (.cons f_p_86_c0 (.cons (.int 0) .nil)))) .non)) .nil), false⟩
/-! least_slack -/
def f_p_87_b0 : Ss := (.cons (.aug 2 .mul (.int 2)) .nil)
def f_p_87_l1 : S := .whl (.nott (.call (.p 86) (.cons (.var 0) (.cons (.var 1) (.cons (.var 2) .nil))))) f_p_87_b0
def f_p_87_b2 : Ss := (.cons (.asg (.nm 4) (.bin .fdiv (.bin .add (.var 3) (.var 2)) (.int 2))) (.cons (.ite (.call (.p 86) (.cons (.var 0) (.cons (.var 1) (.cons (.var 4) .nil)))) (.cons (.asg (.nm 2) (.var 4)) .nil) (.cons (.asg (.nm 3) (.var 4)) .nil)) .nil))
def f_p_87_l3 : S := .whl (.cmp .gt (.bin .sub (.var 2) (.var 3)) (.int 1)) f_p_87_b2
def f_p_87 : Fn := ⟨["book", "row", "high", "low", "middle"], 2, (.cons (.asg (.nm 2) (.int 1)) (.cons (.ite (.call (.p 86) (.cons (.var 0) (.cons (.var 1) (.cons (.int 0) .nil)))) (.cons (.ret (.int 0)) .nil) .nil) (.cons f_p_87_l1 (.cons (.asg (.nm 3) (.bin .fdiv (.var 2) (.int 2))) (.cons f_p_87_l3 (.cons (.ret (.var 2)) .nil)))))), false⟩
/-! bad_ring -/
def f_p_88_c0 : E := (.dcm (.var 6) (.tup (.cons (.int 0) (.cons (.tup .nil) .nil))) 6 (.rg1 (.bin .add (.ix (.fld (.var 0) .book 0) (.int 0)) (.int 1))))
def f_p_88_b1 : Ss := (.cons (.asg (.tp (.cons (.nm 11) (.cons (.nm 12) (.cons (.nm 13) .nil)))) (.var 8)) (.cons (.asg (.nm 9) (.bin .add (.ix (.ix (.var 4) (.var 11)) (.int 0)) (.var 13))) (.cons (.ite (.cmp .lt (.var 9) (.ix (.ix (.var 5) (.var 12)) (.int 0))) (.cons (.put 5 (.var 12) (.tup (.cons (.var 9) (.cons (.bin .add (.ix (.ix (.var 4) (.var 11)) (.int 1)) (.tup (.cons (.tup (.cons (.var 7) (.cons (.var 8) .nil))) .nil))) .nil)))) .nil) .nil) .nil)))
def f_p_88_l2 : S := .for (.tp (.cons (.nm 7) (.cons (.nm 8) .nil))) (.of (.var 3)) f_p_88_b1
def f_p_88_b3 : Ss := (.cons (.asg (.nm 10) (.call (.p 89) (.cons (.ix (.ix (.var 4) (.var 6)) (.int 1)) .nil))) (.cons (.ite (.cmp .notn (.var 10) .non) (.cons (.ret (.var 10)) .nil) .nil) .nil))
def f_p_88_l4 : S := .for (.nm 6) (.of (.var 4)) f_p_88_b3
def f_p_88_b5 : Ss := (.cons (.own 5 (.b1 .dict (.var 4))) (.cons f_p_88_l2 (.cons (.frz 5) (.cons (.asg (.nm 4) (.var 5)) (.cons f_p_88_l4 .nil)))))
def f_p_88_l6 : S := .whl (.bl true) f_p_88_b5
def f_p_88 : Fn := ⟨["book", "row", "slack", "links", "ways", "later", "place", "link", "edge", "new", "found", "one", "other", "weight"], 3, (.cons (.asg (.nm 3) (.call (.p 85) (.cons (.var 0) (.cons (.var 1) (.cons (.var 2) .nil))))) (.cons (.asg (.nm 4) f_p_88_c0) (.cons f_p_88_l6 .nil))), false⟩
/-! ring_in -/
def f_p_89_c0 : E := (.lc (.var 6) (.tp (.cons (.nm 6) (.cons (.nm 7) .nil))) (.of (.var 5)))
def f_p_89_c1 : E := (.lc (.ix (.var 7) (.int 2)) (.tp (.cons (.nm 6) (.cons (.nm 7) .nil))) (.of (.var 5)))
def f_p_89_b2 : Ss := (.cons (.put 1 (.ix (.var 4) (.int 0)) (.var 2)) (.cons (.ite (.cmp .isin (.ix (.var 4) (.int 1)) (.var 1)) (.cons (.asg (.nm 5) (.sl (.var 0) (.so (.ix (.var 1) (.ix (.var 4) (.int 1)))) (.so (.bin .add (.var 2) (.int 1))))) (.cons (.ite (.cmp .lt (.b1 .sum f_p_89_c1) (.int 0)) (.cons (.ret (.b1 .tuple f_p_89_c0)) .nil) .nil) .nil)) .nil) .nil))
def f_p_89_l3 : S := .for (.tp (.cons (.nm 2) (.cons (.tp (.cons (.nm 3) (.cons (.nm 4) .nil))) .nil))) (.en (.var 0)) f_p_89_b2
def f_p_89 : Fn := ⟨["way", "seen", "index", "link", "edge", "inner", "name", "own"], 1, (.cons (.own 1 (.dnew false)) (.cons f_p_89_l3 (.cons (.ret .non) .nil))), false⟩
/-! check_question -/
def f_p_90 : Fn := ⟨["book", "row"], 2, (.cons (.expr (.call (.p 3) (.cons (.var 0) .nil))) (.cons (.expr (.call (.p 4) (.cons (.var 0) (.cons (.var 1) .nil)))) (.cons (.expr (.call (.p 12) (.cons (.var 0) .nil))) .nil))), false⟩
/-! least_distance -/
def f_p_91 : Fn := ⟨["book", "row"], 2, (.cons (.expr (.call (.p 90) (.cons (.var 0) (.cons (.var 1) .nil)))) (.cons (.ret (.call (.p 87) (.cons (.var 0) (.cons (.var 1) .nil)))) .nil)), false⟩
/-! near_row -/
def f_p_92_c0 : E := (.lc (.var 4) (.tp (.cons (.nm 3) (.cons (.nm 4) .nil))) (.of (.var 2)))
def f_p_92 : Fn := ⟨["book", "row", "links", "link", "edge"], 2, (.cons (.expr (.call (.p 90) (.cons (.var 0) (.cons (.var 1) .nil)))) (.cons (.asg (.nm 2) (.call (.p 85) (.cons (.var 0) (.cons (.var 1) (.cons (.call (.p 87) (.cons (.var 0) (.cons (.var 1) .nil))) .nil))))) (.cons (.ret (.call (.p 72) (.cons (.ix (.fld (.var 0) .book 0) (.int 0)) (.cons f_p_92_c0 .nil)))) .nil))), false⟩
/-! far_paper -/
def f_p_93 : Fn := ⟨["book", "row", "least"], 2, (.cons (.expr (.call (.p 90) (.cons (.var 0) (.cons (.var 1) .nil)))) (.cons (.asg (.nm 2) (.call (.p 87) (.cons (.var 0) (.cons (.var 1) .nil)))) (.cons (.ite (.cmp .eq (.var 2) (.int 0)) (.cons (.ret .non) .nil) .nil) (.cons (.ret (.call (.p 88) (.cons (.var 0) (.cons (.var 1) (.cons (.bin .sub (.var 2) (.int 1)) .nil))))) .nil)))), false⟩
/-! _law_paper -/
def f_law_65 : Fn := ⟨["_law_told_here", "_law_row"], 2, (.cons (.tri (.cons (.ret (.call (.p 93) (.cons (.var 0) (.cons (.var 1) .nil)))) .nil) (.cons (.err 6) none (.cons (.ret (.str ("none" : Str))) .nil) .nil) [0, 1, 2, 3, 4, 5, 6]) .nil), false⟩
/-! is_far_link -/
def f_p_94 : Fn := ⟨["book", "value"], 2, (.cons (.ite (.and (.isa (.var 1) .tuple) (.and (.cmp .eq (.b1 .len (.var 1)) (.int 3)) (.and (.isa (.ix (.var 1) (.int 0)) .str) (.cmp .eq (.ix (.var 1) (.int 0)) (.str ("row" : Str)))))) (.cons (.ret (.and (.call (.p 1) (.cons (.ix (.var 1) (.int 1)) (.cons (.int 0) (.cons (.bin .sub (.ix (.fld (.var 0) .book 0) (.int 0)) (.int 1)) .nil)))) (.and (.call (.p 0) (.cons (.ix (.var 1) (.int 2)) .nil)) (.cmp .isin (.ix (.var 1) (.int 2)) (.tup (.cons (.int 1) (.cons (.neg (.int 1)) .nil))))))) .nil) .nil) (.cons (.ret (.call (.p 27) (.cons (.var 0) (.cons (.var 1) .nil)))) .nil)), false⟩
/-! far_chain -/
def f_p_95_b0 : Ss := (.cons (.ite (.nott (.call (.p 94) (.cons (.var 0) (.cons (.var 3) .nil)))) (.cons (.ret .non) .nil) .nil) .nil)
def f_p_95_l1 : S := .for (.nm 3) (.of (.var 2)) f_p_95_b0
def f_p_95_c2 : E := (.lc (.call (.p 84) (.cons (.var 0) (.cons (.var 1) (.cons (.var 3) .nil)))) (.nm 3) (.of (.var 2)))
def f_p_95_b3 : Ss := (.cons (.ite (.cmp .ne (.ix (.var 6) (.int 0)) (.ix (.ix (.var 4) (.bin .sub (.var 5) (.int 1))) (.int 1))) (.cons (.ret .non) .nil) .nil) .nil)
def f_p_95_l4 : S := .for (.tp (.cons (.nm 5) (.cons (.nm 6) .nil))) (.en (.var 4)) f_p_95_b3
def f_p_95_c5 : E := (.lci (.var 3) (.nm 3) (.of (.var 2)) (.cmp .eq (.ix (.var 3) (.int 0)) (.str ("row" : Str))))
def f_p_95_c6 : E := (.lc (.ix (.var 6) (.int 2)) (.nm 6) (.of (.var 4)))
def f_p_95 : Fn := ⟨["book", "row", "value", "link", "edges", "place", "edge"], 3, (.cons (.ite (.or (.nott (.isa (.var 2) .tuple)) (.nott (.chain .le .le (.int 1) (.b1 .len (.var 2)) (.int 40)))) (.cons (.ret .non) .nil) .nil) (.cons f_p_95_l1 (.cons (.asg (.nm 4) f_p_95_c2) (.cons f_p_95_l4 (.cons (.ret (.tup (.cons (.b1 .sum f_p_95_c6) (.cons (.b1 .len f_p_95_c5) .nil)))) .nil))))), false⟩
/-! check_number -/
def f_p_96 : Fn := ⟨["value"], 1, (.cons (.ite (.or (.nott (.call (.p 0) (.cons (.var 0) .nil))) (.cmp .lt (.var 0) (.int 1))) (.cons (.rais (.err 7) .nil) .nil) .nil) .nil), false⟩
/-! shows_far -/
def f_p_97 : Fn := ⟨["book", "row", "number", "value", "found"], 4, (.cons (.expr (.call (.p 3) (.cons (.var 0) .nil))) (.cons (.expr (.call (.p 4) (.cons (.var 0) (.cons (.var 1) .nil)))) (.cons (.expr (.call (.p 96) (.cons (.var 2) .nil))) (.cons (.asg (.nm 4) (.call (.p 95) (.cons (.var 0) (.cons (.var 1) (.cons (.var 3) .nil))))) (.cons (.ret (.and (.cmp .notn (.var 4) .non) (.cmp .lt (.bin .add (.ix (.var 4) (.int 0)) (.bin .mul (.ix (.var 4) (.int 1)) (.bin .sub (.var 2) (.int 1)))) (.int 0)))) .nil))))), false⟩
/-! _law_sums -/
def f_law_66_c0 : E := (.lc (.call (.law 17) (.cons (.var 0) (.cons (.var 1) (.cons (.var 5) .nil)))) (.nm 5) (.of (.var 2)))
def f_law_66_b1 : Ss := (.cons (.ite (.cmp .ne (.ix (.ix (.var 3) (.bin .sub (.var 4) (.int 1))) (.int 1)) (.ix (.ix (.var 3) (.var 4)) (.int 0))) (.cons (.ret .non) .nil) .nil) .nil)
def f_law_66_l2 : S := .for (.nm 4) (.rg1 (.b1 .len (.var 3))) f_law_66_b1
def f_law_66_c3 : E := (.lc (.ix (.var 6) (.int 3)) (.nm 6) (.of (.var 3)))
def f_law_66_c4 : E := (.lc (.ix (.var 6) (.int 2)) (.nm 6) (.of (.var 3)))
def f_law_66 : Fn := ⟨["_law_b", "_law_row", "_law_value", "_law_edges", "_law_k", "_law_link", "_law_edge_here"], 3, (.cons (.ite (.or (.nott (.isa (.var 2) .tuple)) (.nott (.chain .le .le (.int 1) (.b1 .len (.var 2)) (.int 40)))) (.cons (.ret .non) .nil) .nil) (.cons (.asg (.nm 3) f_law_66_c0) (.cons (.ite (.cmp .isin .non (.var 3)) (.cons (.ret .non) .nil) .nil) (.cons f_law_66_l2 (.cons (.ret (.tup (.cons (.b1 .sum f_law_66_c4) (.cons (.b1 .sum f_law_66_c3) .nil)))) .nil))))), false⟩
/-! _law_shows -/
def f_law_67 : Fn := ⟨["_law_b", "_law_row", "_law_number", "_law_value", "_law_own"], 4, (.cons (.asg (.nm 4) (.call (.law 66) (.cons (.var 0) (.cons (.var 1) (.cons (.var 3) .nil))))) (.cons (.ret (.and (.cmp .notn (.var 4) .non) (.cmp .lt (.bin .add (.ix (.var 4) (.int 0)) (.bin .mul (.ix (.var 4) (.int 1)) (.bin .sub (.var 2) (.int 1)))) (.int 0)))) .nil)), false⟩
/-! _law_shows -/
def f_law_67_k23_c0 : E := (.lc (.call (.law 17) (.cons (.var 0) (.cons (.var 6) .nil))) (.nm 6) (.of (.var 2)))
def f_law_67_k23_b1 : Ss := (.cons (.ite (.cmp .ne (.ix (.ix (.var 3) (.bin .sub (.var 4) (.int 1))) (.int 1)) (.ix (.ix (.var 3) (.var 4)) (.int 0))) (.cons (.ret (.bl false)) .nil) .nil) .nil)
def f_law_67_k23_l2 : S := .for (.nm 4) (.rg1 (.b1 .len (.var 3))) f_law_67_k23_b1
def f_law_67_k23_c3 : E := (.lci (.var 6) (.nm 6) (.of (.var 2)) (.cmp .eq (.ix (.var 6) (.int 0)) (.str ("fact" : Str))))
def f_law_67_k23_c4 : E := (.lc (.ix (.var 7) (.int 2)) (.nm 7) (.of (.var 3)))
def f_law_67_k23 : Fn := ⟨["_law_b", "_law_number", "_law_value", "_law_edges", "_law_k", "_law_facts", "_law_link", "_law_edge_here"], 3, (.cons (.asg (.nm 3) f_law_67_k23_c0) (.cons f_law_67_k23_l2 (.cons (.asg (.nm 5) (.b1 .len f_law_67_k23_c3)) (.cons (.ret (.and (.cmp .ne (.var 3) (.lst .nil)) (.cmp .lt (.bin .add (.b1 .sum f_law_67_k23_c4) (.bin .mul (.var 5) (.bin .sub (.var 1) (.int 1)))) (.int 0)))) .nil)))), false⟩
/-! least_off -/
def f_p_98 : Fn := ⟨["book"], 1, (.cons (.expr (.call (.p 3) (.cons (.var 0) .nil))) (.cons (.ret (.call (.p 87) (.cons (.var 0) (.cons .non .nil)))) .nil)), false⟩
/-! off_row -/
def f_p_99_c0 : E := (.lc (.var 3) (.tp (.cons (.nm 2) (.cons (.nm 3) .nil))) (.of (.var 1)))
def f_p_99 : Fn := ⟨["book", "links", "link", "edge"], 1, (.cons (.expr (.call (.p 3) (.cons (.var 0) .nil))) (.cons (.asg (.nm 1) (.call (.p 85) (.cons (.var 0) (.cons .non (.cons (.call (.p 87) (.cons (.var 0) (.cons .non .nil))) .nil))))) (.cons (.ret (.call (.p 72) (.cons (.ix (.fld (.var 0) .book 0) (.int 0)) (.cons f_p_99_c0 .nil)))) .nil))), false⟩
/-! off_paper -/
def f_p_100 : Fn := ⟨["book", "least"], 1, (.cons (.expr (.call (.p 3) (.cons (.var 0) .nil))) (.cons (.asg (.nm 1) (.call (.p 87) (.cons (.var 0) (.cons .non .nil)))) (.cons (.ite (.cmp .eq (.var 1) (.int 0)) (.cons (.ret .non) .nil) .nil) (.cons (.ret (.call (.p 88) (.cons (.var 0) (.cons .non (.cons (.bin .sub (.var 1) (.int 1)) .nil))))) .nil)))), false⟩
/-! shows_off -/
def f_p_101_c0 : E := (.lci (.var 5) (.nm 5) (.of (.var 2)) (.cmp .eq (.ix (.var 5) (.int 0)) (.str ("fact" : Str))))
def f_p_101 : Fn := ⟨["book", "number", "value", "found", "facts", "link"], 3, (.cons (.expr (.call (.p 3) (.cons (.var 0) .nil))) (.cons (.expr (.call (.p 96) (.cons (.var 1) .nil))) (.cons (.asg (.nm 3) (.call (.p 28) (.cons (.var 0) (.cons (.var 2) .nil)))) (.cons (.ite (.or (.cmp .isn (.var 3) .non) (.cmp .ne (.ix (.var 3) (.int 0)) (.ix (.var 3) (.int 1)))) (.cons (.ret (.bl false)) .nil) .nil) (.cons (.asg (.nm 4) (.b1 .len f_p_101_c0)) (.cons (.ret (.cmp .lt (.bin .add (.ix (.var 3) (.int 2)) (.bin .mul (.var 4) (.bin .sub (.var 1) (.int 1)))) (.int 0))) .nil)))))), false⟩
/-! _law_wide -/
def f_law_68_c0 : E := (.lc (.tup (.cons (.var 2) (.cons (.var 3) (.cons (.b2 .max (.int 0) (.bin .sub (.var 4) (.var 1))) (.cons (.bin .add (.var 5) (.var 1)) .nil))))) (.tp (.cons (.nm 2) (.cons (.nm 3) (.cons (.nm 4) (.cons (.nm 5) .nil))))) (.of (.ix (.var 0) (.int 2))))
def f_law_68 : Fn := ⟨["_law_b", "_law_s", "_law_begin", "_law_end", "_law_low", "_law_high"], 2, (.cons (.ret (.b1 .tuple f_law_68_c0)) .nil), false⟩
/-! _law_all_off -/
def f_law_69_b0 : Ss := (.cons (.asg (.nm 8) (.b1 .sum (.sl (.var 2) (.so (.var 4)) (.so (.var 5))))) (.cons (.app 3 (.max3 (.int 0) (.bin .sub (.var 6) (.var 8)) (.bin .sub (.var 8) (.var 7)))) .nil))
def f_law_69_l1 : S := .for (.tp (.cons (.nm 4) (.cons (.nm 5) (.cons (.nm 6) (.cons (.nm 7) .nil))))) (.of (.ix (.var 0) (.int 2))) f_law_69_b0
def f_law_69_b2 : Ss := (.cons (.own 3 (.lst (.cons (.int 0) .nil))) (.cons f_law_69_l1 (.cons (.app 1 (.tup (.cons (.b1 .max (.var 3)) (.cons (.var 2) .nil)))) (.cons (.frz 3) .nil))))
def f_law_69_l3 : S := .for (.nm 2) (.of (.call (.law 5) (.cons (.ix (.var 0) (.int 0)) (.cons (.ix (.var 0) (.int 1)) .nil)))) f_law_69_b2
def f_law_69 : Fn := ⟨["_law_b", "_law_found", "_law_row", "_law_off", "_law_begin", "_law_end", "_law_low", "_law_high", "_law_own"], 1, (.cons (.own 1 (.lst .nil)) (.cons f_law_69_l3 (.cons (.ret (.b1 .min (.var 1))) .nil))), false⟩
/-! Round.__init__ -/
def f_ini_round_b0 : Ss := (.cons (.ite (.nott (.call (.p 37) (.cons (.var 5) (.cons (.var 1) .nil)))) (.cons (.rais (.err 3) (.cons (.var 4) .nil)) .nil) .nil) .nil)
def f_ini_round_l1 : S := .for (.tp (.cons (.nm 4) (.cons (.nm 5) .nil))) (.en (.var 3)) f_ini_round_b0
def f_ini_round : Fn := ⟨["self", "cells", "most", "facts", "index", "fact"], 4, (.cons (.ite (.nott (.call (.p 1) (.cons (.var 1) (.cons (.int 1) (.cons (.int 10) .nil))))) (.cons (.rais (.err 1) .nil) .nil) .nil) (.cons (.ite (.nott (.call (.p 1) (.cons (.var 2) (.cons (.int 0) (.cons (.int 1000000000000000000000000000000) .nil))))) (.cons (.rais (.err 2) .nil) .nil) .nil) (.cons (.ite (.or (.nott (.isa (.var 3) .tuple)) (.cmp .gt (.b1 .len (.var 3)) (.int 8))) (.cons (.rais (.err 3) (.cons .non .nil)) .nil) .nil) (.cons f_ini_round_l1 (.cons (.seta 0 .round (.tup (.cons (.var 1) (.cons (.var 2) (.cons (.var 3) .nil))))) .nil))))), false⟩
/-! Round.cells -/
def f_pr_round_0 : Fn := ⟨["self"], 1, (.cons (.ret (.ix (.fld (.var 0) .round 0) (.int 0))) .nil), false⟩
/-! Round.most -/
def f_pr_round_1 : Fn := ⟨["self"], 1, (.cons (.ret (.ix (.fld (.var 0) .round 0) (.int 1))) .nil), false⟩
/-! Round.facts -/
def f_pr_round_2 : Fn := ⟨["self"], 1, (.cons (.ret (.ix (.fld (.var 0) .round 0) (.int 2))) .nil), false⟩
/-! Round.__len__ -/
def f_len_round : Fn := ⟨["self"], 1, (.cons (.ret (.b1 .len (.ix (.fld (.var 0) .round 0) (.int 2)))) .nil), false⟩
/-! Round.__eq__ -/
def f_eq_round : Fn := ⟨["self", "other"], 2, (.cons (.ret (.and (.isa (.var 1) (.cls .round)) (.cmp .eq (.fld (.var 0) .round 0) (.fld (.var 1) .round 0)))) .nil), false⟩
/-! check_round -/
def f_p_102 : Fn := ⟨["value"], 1, (.cons (.ite (.nott (.isa (.var 0) (.cls .round))) (.cons (.rais (.err 16) .nil) .nil) .nil) .nil), false⟩
/-! sloped_edges -/
def f_p_103_b0 : Ss := (.cons (.ext 1 (.lst (.cons (.tup (.cons (.var 2) (.cons (.bin .add (.var 2) (.int 1)) (.cons (.var 4) (.cons (.int 0) .nil))))) (.cons (.tup (.cons (.bin .add (.var 2) (.int 1)) (.cons (.var 2) (.cons (.int 0) (.cons (.int 0) .nil))))) .nil)))) .nil)
def f_p_103_l1 : S := .for (.nm 2) (.rg1 (.var 3)) f_p_103_b0
def f_p_103_b2 : Ss := (.cons (.ite (.cmp .gt (.var 7) (.var 3)) (.cons (.ext 1 (.lst (.cons (.tup (.cons (.var 6) (.cons (.bin .sub (.var 7) (.var 3)) (.cons (.var 9) (.cons (.neg (.int 1)) .nil))))) (.cons (.tup (.cons (.bin .sub (.var 7) (.var 3)) (.cons (.var 6) (.cons (.neg (.var 8)) (.cons (.int 1) .nil))))) .nil)))) .nil) (.cons (.ext 1 (.lst (.cons (.tup (.cons (.var 6) (.cons (.var 7) (.cons (.var 9) (.cons (.int 0) .nil))))) (.cons (.tup (.cons (.var 7) (.cons (.var 6) (.cons (.neg (.var 8)) (.cons (.int 0) .nil))))) .nil)))) .nil)) .nil)
def f_p_103_l3 : S := .for (.tp (.cons (.nm 6) (.cons (.nm 7) (.cons (.nm 8) (.cons (.nm 9) .nil))))) (.of (.var 5)) f_p_103_b2
def f_p_103 : Fn := ⟨["ring", "found", "cell", "cells", "most", "facts", "begin", "end", "low", "high"], 1, (.cons (.asg (.tp (.cons (.nm 3) (.cons (.nm 4) (.cons (.nm 5) .nil)))) (.fld (.var 0) .ring 0)) (.cons (.own 1 (.lst (.cons (.tup (.cons (.int 0) (.cons (.var 3) (.cons (.int 0) (.cons (.int 1) .nil))))) (.cons (.tup (.cons (.var 3) (.cons (.int 0) (.cons (.int 0) (.cons (.neg (.int 1)) .nil))))) .nil)))) (.cons f_p_103_l1 (.cons f_p_103_l3 (.cons (.frz 1) (.cons (.ret (.var 1)) .nil)))))), false⟩
/-! side_of -/
def f_p_104_c0 : E := (.dcm (.var 5) (.tup (.cons (.int 0) (.cons (.int 0) (.cons (.tup (.cons (.tup (.cons (.var 5) (.cons (.int 0) (.cons (.int 0) .nil)))) .nil)) .nil)))) 5 (.rg1 (.var 2)))
def f_p_104_b1 : Ss := (.cons (.asg (.nm 10) (.bin .add (.bin .add (.ix (.ix (.var 3) (.var 6)) (.int 0)) (.var 8)) (.bin .mul (.var 9) (.var 1)))) (.cons (.ite (.cmp .lt (.var 10) (.ix (.ix (.var 4) (.var 7)) (.int 0))) (.cons (.asg (.nm 12) (.bin .add (.ix (.ix (.var 3) (.var 6)) (.int 1)) (.var 9))) (.cons (.put 4 (.var 7) (.tup (.cons (.var 10) (.cons (.var 12) (.cons (.bin .add (.ix (.ix (.var 3) (.var 6)) (.int 2)) (.tup (.cons (.tup (.cons (.var 7) (.cons (.var 10) (.cons (.var 12) .nil)))) .nil))) .nil))))) .nil)) .nil) .nil))
def f_p_104_l2 : S := .for (.tp (.cons (.nm 6) (.cons (.nm 7) (.cons (.nm 8) (.cons (.nm 9) .nil))))) (.of (.call (.p 103) (.cons (.var 0) .nil))) f_p_104_b1
def f_p_104_b3 : Ss := (.cons (.asg (.nm 11) (.call (.p 105) (.cons (.ix (.ix (.var 3) (.var 5)) (.int 2)) .nil))) (.cons (.ite (.cmp .notn (.var 11) .non) (.cons (.ret (.ix (.var 11) (.int 0))) .nil) .nil) .nil))
def f_p_104_l4 : S := .for (.nm 5) (.of (.var 3)) f_p_104_b3
def f_p_104_b5 : Ss := (.cons (.own 4 (.b1 .dict (.var 3))) (.cons f_p_104_l2 (.cons (.frz 4) (.cons (.asg (.nm 3) (.var 4)) (.cons f_p_104_l4 .nil)))))
def f_p_104_l6 : S := .whl (.bl true) f_p_104_b5
def f_p_104 : Fn := ⟨["ring", "total", "many", "ways", "later", "place", "one", "other", "weight", "slope", "new", "found", "sloped"], 2, (.cons (.asg (.nm 2) (.bin .add (.ix (.fld (.var 0) .ring 0) (.int 0)) (.int 1))) (.cons (.ite (.cmp .notn (.call (.p 9) (.cons (.var 2) (.cons (.call (.p 38) (.cons (.var 0) (.cons (.var 1) .nil))) (.cons (.int 0) .nil)))) .non) (.cons (.ret (.int 0)) .nil) .nil) (.cons (.asg (.nm 3) f_p_104_c0) (.cons f_p_104_l6 .nil)))), false⟩
/-! turn_in -/
def f_p_105_b0 : Ss := (.cons (.ite (.and (.cmp .eq (.ix (.ix (.var 0) (.var 2)) (.int 0)) (.ix (.ix (.var 0) (.var 1)) (.int 0))) (.cmp .lt (.ix (.ix (.var 0) (.var 1)) (.int 1)) (.ix (.ix (.var 0) (.var 2)) (.int 1)))) (.cons (.asg (.nm 3) (.bin .sub (.ix (.ix (.var 0) (.var 1)) (.int 2)) (.ix (.ix (.var 0) (.var 2)) (.int 2)))) (.cons (.ite (.cmp .eq (.var 3) (.int 0)) (.cons (.ret (.tup (.cons .non .nil))) .nil) .nil) (.cons (.ret (.tup (.cons (.bin .fdiv (.var 3) (.b1 .abs (.var 3))) .nil))) .nil))) .nil) .nil)
def f_p_105_l1 : S := .for (.nm 2) (.rg1 (.var 1)) f_p_105_b0
def f_p_105_b2 : Ss := (.cons f_p_105_l1 .nil)
def f_p_105_l3 : S := .for (.nm 1) (.rg1 (.b1 .len (.var 0))) f_p_105_b2
def f_p_105 : Fn := ⟨["steps", "last", "first", "slope"], 1, (.cons f_p_105_l3 (.cons (.ret .non) .nil)), false⟩
/-! some_total -/
def f_p_106_b0 : Ss := (.cons (.asg (.nm 3) (.bin .fdiv (.bin .add (.var 1) (.var 2)) (.int 2))) (.cons (.asg (.nm 4) (.call (.p 104) (.cons (.var 0) (.cons (.var 3) .nil)))) (.cons (.ite (.cmp .eq (.var 4) (.int 0)) (.cons (.ret (.var 3)) .nil) .nil) (.cons (.ite (.cmp .isn (.var 4) .non) (.cons (.ret .non) .nil) .nil) (.cons (.ite (.cmp .gt (.var 4) (.int 0)) (.cons (.asg (.nm 1) (.bin .add (.var 3) (.int 1))) .nil) (.cons (.asg (.nm 2) (.bin .sub (.var 3) (.int 1))) .nil)) .nil)))))
def f_p_106_l1 : S := .whl (.cmp .le (.var 1) (.var 2)) f_p_106_b0
def f_p_106 : Fn := ⟨["ring", "low", "high", "middle", "side"], 1, (.cons (.par [1, 2] (.cons (.int 0) (.cons (.bin .mul (.ix (.fld (.var 0) .ring 0) (.int 0)) (.ix (.fld (.var 0) .ring 0) (.int 1))) .nil))) (.cons f_p_106_l1 (.cons (.ret .non) .nil))), false⟩
/-! totals_by -/
def f_p_107_b0 : Ss := (.cons (.asg (.nm 5) (.bin .fdiv (.bin .add (.var 4) (.var 3)) (.int 2))) (.cons (.ite (.cmp .gt (.var 3) (.var 4)) (.cons (.asg (.nm 5) (.bin .fdiv (.bin .add (.bin .add (.var 4) (.var 3)) (.int 1)) (.int 2))) .nil) .nil) (.cons (.ite (.cmp .eq (.call (.p 104) (.cons (.var 0) (.cons (.var 5) .nil))) (.int 0)) (.cons (.asg (.nm 4) (.var 5)) .nil) (.cons (.ite (.cmp .gt (.var 3) (.var 4)) (.cons (.asg (.nm 3) (.bin .sub (.var 5) (.int 1))) .nil) (.cons (.asg (.nm 3) (.bin .add (.var 5) (.int 1))) .nil)) .nil)) .nil)))
def f_p_107_l1 : S := .whl (.cmp .ne (.var 4) (.var 3)) f_p_107_b0
def f_p_107_b2 : Ss := (.cons (.asg (.nm 4) (.var 1)) (.cons f_p_107_l1 (.cons (.app 2 (.var 4)) .nil)))
def f_p_107_l3 : S := .for (.nm 3) (.of (.tup (.cons (.int 0) (.cons (.bin .mul (.ix (.fld (.var 0) .ring 0) (.int 0)) (.ix (.fld (.var 0) .ring 0) (.int 1))) .nil)))) f_p_107_b2
def f_p_107 : Fn := ⟨["ring", "middle", "ends", "far", "near", "half"], 1, (.cons (.asg (.nm 1) (.call (.p 106) (.cons (.var 0) .nil))) (.cons (.ite (.cmp .isn (.var 1) .non) (.cons (.ret .non) .nil) .nil) (.cons (.own 2 (.lst .nil)) (.cons f_p_107_l3 (.cons (.frz 2) (.cons (.ret (.b1 .tuple (.var 2))) .nil)))))), false⟩
/-! totals_or_none -/
def f_p_108 : Fn := ⟨["ring", "found"], 1, (.cons (.expr (.call (.p 102) (.cons (.var 0) .nil))) (.cons (.asg (.nm 1) (.call (.p 107) (.cons (.var 0) .nil))) (.cons (.ite (.cmp .isn (.var 1) .non) (.cons (.rais (.err 6) .nil) .nil) .nil) (.cons (.ret (.var 1)) .nil)))), false⟩
/-! round_totals -/
def f_p_109 : Fn := ⟨["great"], 1, (.cons (.ret (.call (.p 108) (.cons (.var 0) .nil))) .nil), false⟩
/-! round_with -/
def f_p_110_c0 : E := (.lc (.bin .sub (.ix (.var 3) (.bin .add (.var 4) (.int 1))) (.ix (.var 3) (.var 4))) (.nm 4) (.rg1 (.var 2)))
def f_p_110 : Fn := ⟨["great", "total", "cells", "tops", "cell"], 2, (.cons (.expr (.call (.p 102) (.cons (.var 0) .nil))) (.cons (.ite (.nott (.call (.p 0) (.cons (.var 1) .nil))) (.cons (.rais (.err 7) .nil) .nil) .nil) (.cons (.asg (.nm 2) (.ix (.fld (.var 0) .round 0) (.int 0))) (.cons (.ite (.cmp .isn (.call (.p 9) (.cons (.bin .add (.var 2) (.int 1)) (.cons (.call (.p 38) (.cons (.var 0) (.cons (.var 1) .nil))) (.cons (.int 0) .nil)))) .non) (.cons (.ret .non) .nil) .nil) (.cons (.asg (.nm 3) (.call (.p 13) (.cons (.bin .add (.var 2) (.int 1)) (.cons (.call (.p 38) (.cons (.var 0) (.cons (.var 1) .nil))) .nil)))) (.cons (.ret (.b1 .tuple f_p_110_c0)) .nil)))))), false⟩
/-! extreme -/
def f_p_111_b0 : Ss := (.cons (.asg (.nm 8) (.bin .fdiv (.bin .add (.var 6) (.var 7)) (.int 2))) (.cons (.asg (.nm 9) (.bin .mul (.var 5) (.ix (.call (.p 42) (.cons (.var 0) (.cons (.var 8) (.cons (.var 1) (.cons (.var 2) .nil))))) (.var 3)))) (.cons (.ite (.cmp .gt (.bin .mul (.var 5) (.ix (.call (.p 42) (.cons (.var 0) (.cons (.bin .add (.var 8) (.int 1)) (.cons (.var 1) (.cons (.var 2) .nil))))) (.var 3))) (.var 9)) (.cons (.asg (.nm 6) (.bin .add (.var 8) (.int 1))) .nil) (.cons (.asg (.nm 7) (.var 8)) .nil)) .nil)))
def f_p_111_l1 : S := .whl (.cmp .lt (.var 6) (.var 7)) f_p_111_b0
def f_p_111 : Fn := ⟨["ring", "begin", "end", "which", "totals", "sign", "low", "high", "middle", "here"], 5, (.cons (.asg (.nm 5) (.int 1)) (.cons (.ite (.cmp .eq (.var 3) (.int 0)) (.cons (.asg (.nm 5) (.neg (.int 1))) .nil) .nil) (.cons (.asg (.tp (.cons (.nm 6) (.cons (.nm 7) .nil))) (.var 4)) (.cons f_p_111_l1 (.cons (.ret (.ix (.call (.p 42) (.cons (.var 0) (.cons (.var 6) (.cons (.var 1) (.cons (.var 2) .nil))))) (.var 3))) .nil))))), false⟩
/-! round_bounds -/
def f_p_112 : Fn := ⟨["great", "begin", "end", "totals"], 3, (.cons (.expr (.call (.p 102) (.cons (.var 0) .nil))) (.cons (.ite (.or (.nott (.call (.p 1) (.cons (.var 1) (.cons (.int 0) (.cons (.bin .sub (.ix (.fld (.var 0) .round 0) (.int 0)) (.int 1)) .nil))))) (.nott (.call (.p 1) (.cons (.var 2) (.cons (.bin .add (.var 1) (.int 1)) (.cons (.bin .add (.var 1) (.ix (.fld (.var 0) .round 0) (.int 0))) .nil)))))) (.cons (.rais (.err 8) .nil) .nil) .nil) (.cons (.asg (.nm 3) (.call (.p 108) (.cons (.var 0) .nil))) (.cons (.ret (.tup (.cons (.call (.p 111) (.cons (.var 0) (.cons (.var 1) (.cons (.var 2) (.cons (.int 0) (.cons (.var 3) .nil)))))) (.cons (.call (.p 111) (.cons (.var 0) (.cons (.var 1) (.cons (.var 2) (.cons (.int 1) (.cons (.var 3) .nil)))))) .nil)))) .nil)))), false⟩
/-! _law_totals -/
def f_law_70 : Fn := ⟨["_law_great"], 1, (.cons (.tri (.cons (.ret (.call (.p 109) (.cons (.var 0) .nil))) .nil) (.cons (.err 6) none (.cons (.ret .non) .nil) .nil) [0, 1, 2, 3, 6, 7, 8, 16]) .nil), false⟩
/-! _law_ask -/
def f_law_43_k26 : Fn := ⟨["_law_kind", "_law_t", "_law_turn"], 3, (.cons (.ite (.cmp .lt (.var 0) (.int 6)) (.cons (.ret (.call (.law 42) (.cons (.var 0) (.cons (.var 1) (.cons (.var 2) .nil))))) .nil) .nil) (.cons (.ite (.cmp .eq (.var 0) (.int 6)) (.cons (.ret (.call (.p 101) (.cons (.ix (.var 1) (.int 0)) (.cons (.ix (.var 1) (.int 1)) (.cons (.tup .nil) .nil))))) .nil) .nil) (.cons (.ite (.cmp .eq (.var 0) (.int 7)) (.cons (.ret (.make .round (.cons (.ix (.var 1) (.int 0)) (.cons (.ix (.var 1) (.int 1)) (.cons (.ix (.var 1) (.int 2)) .nil))))) .nil) .nil) (.cons (.ite (.cmp .eq (.var 0) (.int 8)) (.cons (.ret (.call (.p 109) (.cons (.ix (.var 1) (.int 0)) .nil))) .nil) .nil) (.cons (.ite (.cmp .eq (.var 0) (.int 9)) (.cons (.ret (.call (.p 110) (.cons (.ix (.var 1) (.int 0)) (.cons (.ix (.var 1) (.int 1)) .nil)))) .nil) .nil) (.cons (.ret (.call (.p 112) (.cons (.ix (.var 1) (.int 0)) (.cons (.ix (.var 1) (.int 1)) (.cons (.ix (.var 1) (.int 2)) .nil))))) .nil)))))), false⟩
/-! _law_ahead -/
def f_law_74 : Fn := ⟨["_law_told"], 0, (.cons (.asg (.nm 0) (.make .book (.cons (.int 3) (.cons (.int 2) (.cons (.tup (.cons (.tup (.cons (.int 0) (.cons (.int 2) (.cons (.int 1) (.cons (.int 3) .nil))))) (.cons (.tup (.cons (.int 1) (.cons (.int 3) (.cons (.int 2) (.cons (.int 3) .nil))))) .nil))) .nil))))) (.cons (.ite (.or (.cmp .ne (.call (.p 80) (.cons (.var 0) .nil)) (.tup (.cons (.int 0) (.cons (.int 1) (.cons (.int 1) .nil))))) (.cmp .ne (.call (.p 81) (.cons (.var 0) .nil)) (.tup (.cons (.int 2) (.cons (.int 1) (.cons (.int 2) .nil)))))) (.cons (.ret (.bl false)) .nil) .nil) (.cons (.ret (.cmp .eq (.call (.p 83) (.cons (.var 0) (.cons (.tup (.cons (.int 0) (.cons (.int 2) (.cons (.int 0) .nil)))) (.cons (.tup (.cons (.int 2) (.cons (.int 0) (.cons (.int 2) .nil)))) .nil)))) (.tup (.cons (.tup (.cons (.int 0) (.cons (.int 2) (.cons (.int 0) .nil)))) (.cons (.tup (.cons (.int 2) (.cons (.int 0) (.cons (.int 2) .nil)))) .nil))))) .nil))), false⟩
/-! _law_near -/
def f_law_75 : Fn := ⟨["_law_chain", "_law_off", "_law_told", "_law_row"], 0, (.cons (.par [2, 3] (.cons (.make .book (.cons (.int 3) (.cons (.int 9) (.cons (.tup (.cons (.tup (.cons (.int 0) (.cons (.int 3) (.cons (.int 20) (.cons (.int 20) .nil))))) .nil)) .nil)))) (.cons (.tup (.cons (.int 1) (.cons (.int 2) (.cons (.int 3) .nil)))) .nil))) (.cons (.ite (.or (.cmp .ne (.call (.p 91) (.cons (.var 2) (.cons (.var 3) .nil))) (.int 5)) (.or (.cmp .ne (.call (.p 92) (.cons (.var 2) (.cons (.var 3) .nil))) (.tup (.cons (.int 5) (.cons (.int 7) (.cons (.int 8) .nil))))) (.cmp .notn (.call (.p 93) (.cons (.var 2) (.cons (.tup (.cons (.int 9) (.cons (.int 9) (.cons (.int 2) .nil)))) .nil))) .non))) (.cons (.ret (.bl false)) .nil) .nil) (.cons (.ite (.nott (.call (.p 97) (.cons (.var 2) (.cons (.var 3) (.cons (.int 5) (.cons (.call (.p 93) (.cons (.var 2) (.cons (.var 3) .nil))) .nil)))))) (.cons (.ret (.bl false)) .nil) .nil) (.cons (.asg (.nm 0) (.tup (.cons (.tup (.cons (.str ("fact" : Str)) (.cons (.int 0) (.cons (.neg (.int 1)) .nil)))) (.cons (.tup (.cons (.str ("row" : Str)) (.cons (.int 0) (.cons (.int 1) .nil)))) (.cons (.tup (.cons (.str ("row" : Str)) (.cons (.int 1) (.cons (.int 1) .nil)))) (.cons (.tup (.cons (.str ("row" : Str)) (.cons (.int 2) (.cons (.int 1) .nil)))) .nil)))))) (.cons (.ite (.or (.nott (.call (.p 97) (.cons (.var 2) (.cons (.var 3) (.cons (.int 5) (.cons (.var 0) .nil)))))) (.call (.p 97) (.cons (.var 2) (.cons (.var 3) (.cons (.int 6) (.cons (.var 0) .nil)))))) (.cons (.ret (.bl false)) .nil) .nil) (.cons (.asg (.nm 1) (.make .book (.cons (.int 2) (.cons (.int 9) (.cons (.tup (.cons (.tup (.cons (.int 0) (.cons (.int 1) (.cons (.int 2) (.cons (.int 2) .nil))))) (.cons (.tup (.cons (.int 1) (.cons (.int 2) (.cons (.int 3) (.cons (.int 3) .nil))))) (.cons (.tup (.cons (.int 0) (.cons (.int 2) (.cons (.int 10) (.cons (.int 10) .nil))))) .nil)))) .nil))))) (.cons (.ite (.or (.cmp .ne (.call (.p 98) (.cons (.var 1) .nil)) (.int 2)) (.or (.cmp .ne (.call (.p 99) (.cons (.var 1) .nil)) (.tup (.cons (.int 3) (.cons (.int 5) .nil)))) (.nott (.call (.p 101) (.cons (.var 1) (.cons (.int 2) (.cons (.call (.p 100) (.cons (.var 1) .nil)) .nil))))))) (.cons (.ret (.bl false)) .nil) .nil) (.cons (.ret (.call (.p 101) (.cons (.var 1) (.cons (.int 2) (.cons (.tup (.cons (.tup (.cons (.str ("fact" : Str)) (.cons (.int 2) (.cons (.neg (.int 1)) .nil)))) (.cons (.tup (.cons (.str ("fact" : Str)) (.cons (.int 0) (.cons (.int 1) .nil)))) (.cons (.tup (.cons (.str ("fact" : Str)) (.cons (.int 1) (.cons (.int 1) .nil)))) .nil)))) .nil))))) .nil)))))))), false⟩
/-! _law_rounds -/
def f_law_76 : Fn := ⟨["_law_told", "_law_great"], 0, (.cons (.asg (.nm 0) (.make .round (.cons (.int 3) (.cons (.int 2) (.cons (.tup (.cons (.tup (.cons (.int 2) (.cons (.int 4) (.cons (.int 4) (.cons (.int 4) .nil))))) (.cons (.tup (.cons (.int 0) (.cons (.int 2) (.cons (.int 0) (.cons (.int 2) .nil))))) .nil))) .nil))))) (.cons (.ite (.or (.cmp .ne (.call (.p 109) (.cons (.var 0) .nil)) (.tup (.cons (.int 4) (.cons (.int 4) .nil)))) (.or (.cmp .ne (.call (.p 112) (.cons (.var 0) (.cons (.int 0) (.cons (.int 1) .nil)))) (.tup (.cons (.int 2) (.cons (.int 2) .nil)))) (.cmp .ne (.call (.p 112) (.cons (.var 0) (.cons (.int 1) (.cons (.int 4) .nil)))) (.tup (.cons (.int 4) (.cons (.int 4) .nil)))))) (.cons (.ret (.bl false)) .nil) .nil) (.cons (.ite (.or (.cmp .ne (.call (.p 110) (.cons (.var 0) (.cons (.int 4) .nil))) (.tup (.cons (.int 2) (.cons (.int 0) (.cons (.int 2) .nil))))) (.cmp .notn (.call (.p 110) (.cons (.var 0) (.cons (.int 5) .nil))) .non)) (.cons (.ret (.bl false)) .nil) .nil) (.cons (.asg (.nm 1) (.make .round (.cons (.int 4) (.cons (.bin .pow (.int 10) (.int 30)) (.cons (.tup (.cons (.tup (.cons (.int 3) (.cons (.int 5) (.cons (.bin .pow (.int 10) (.int 30)) (.cons (.bin .pow (.int 10) (.int 31)) .nil))))) (.cons (.tup (.cons (.int 1) (.cons (.int 3) (.cons (.int 0) (.cons (.int 5) .nil))))) .nil))) .nil))))) (.cons (.ite (.or (.cmp .ne (.call (.p 109) (.cons (.var 1) .nil)) (.tup (.cons (.bin .pow (.int 10) (.int 30)) (.cons (.bin .add (.bin .mul (.int 2) (.bin .pow (.int 10) (.int 30))) (.int 5)) .nil)))) (.cmp .ne (.call (.p 112) (.cons (.var 1) (.cons (.int 3) (.cons (.int 4) .nil)))) (.tup (.cons (.int 0) (.cons (.bin .pow (.int 10) (.int 30)) .nil))))) (.cons (.ret (.bl false)) .nil) .nil) (.cons (.ret (.cmp .eq (.ix (.call (.p 112) (.cons (.var 1) (.cons (.int 0) (.cons (.int 2) .nil)))) (.int 1)) (.bin .add (.bin .pow (.int 10) (.int 30)) (.int 5)))) .nil)))))), false⟩
def noFn : Fn := ⟨[], 0, .nil, false⟩
def pL : List Fn := [f_p_0, f_p_1, f_p_2, f_p_3, f_p_4, f_p_5, f_p_6, f_p_7, f_p_8, f_p_9, f_p_10, f_p_11, f_p_12, f_p_13, f_p_14, f_p_15, f_p_16, f_p_17, f_p_18, f_p_19, f_p_20, f_p_21, f_p_22, f_p_23, f_p_24, f_p_25, f_p_26, f_p_27, f_p_28, f_p_29, f_p_30, f_p_31, f_p_32, noFn, f_p_34, f_p_35, f_p_36, f_p_37, f_p_38, f_p_39, f_p_40, f_p_41, f_p_42, f_p_43, f_p_44, f_p_45, f_p_46, f_p_47, f_p_48, f_p_49, f_p_50, f_p_51, f_p_52, f_p_53, f_p_54, f_p_55, f_p_56, f_p_57, f_p_58, f_p_59, noFn, f_p_61, f_p_62, f_p_63, f_p_64, noFn, f_p_66, f_p_67, f_p_68, f_p_69, f_p_70, f_p_71, f_p_72, f_p_73, f_p_74, f_p_75, f_p_76, f_p_77, f_p_78, f_p_79, f_p_80, f_p_81, f_p_82, noFn, f_p_84, f_p_85, f_p_86, f_p_87, f_p_88, f_p_89, f_p_90, f_p_91, f_p_92, f_p_93, f_p_94, f_p_95, f_p_96, f_p_97, f_p_98, f_p_99, f_p_100, f_p_101, f_p_102, f_p_103, f_p_104, f_p_105, f_p_106, f_p_107, f_p_108, f_p_109, f_p_110, f_p_111, f_p_112]
/-- all defs of the program that are read -/
def pT : F → Option Fn
  | .p i => pL[i]?
  | .eq .book => some f_eq_book
  | .eq .ring => some f_eq_ring
  | .eq .round => some f_eq_round
  | .ini .book => some f_ini_book
  | .ini .desk => some f_ini_desk
  | .ini .ring => some f_ini_ring
  | .ini .round => some f_ini_round
  | .len .book => some f_len_book
  | .len .ring => some f_len_ring
  | .len .round => some f_len_round
  | .me .desk 4 => some f_me_desk_4
  | .pr .book 0 => some f_pr_book_0
  | .pr .book 1 => some f_pr_book_1
  | .pr .book 2 => some f_pr_book_2
  | .pr .desk 0 => some f_pr_desk_0
  | .pr .ring 0 => some f_pr_ring_0
  | .pr .ring 1 => some f_pr_ring_1
  | .pr .ring 2 => some f_pr_ring_2
  | .pr .round 0 => some f_pr_round_0
  | .pr .round 1 => some f_pr_round_1
  | .pr .round 2 => some f_pr_round_2
  | _ => none
end MP

end
section
set_option Elab.async false
set_option linter.all false
set_option maxRecDepth 100000
set_option maxHeartbeats 1000000
/-! The small Python's runs, in plain Lean. -/
namespace MP
open PySem

section
variable {T : F → Option Fn} {N n : Nat} {s : Sto} {fn : Fn} {ds : List D}
theorem callp {i : Nat} (h : T (.p i) = some fn) : callN T N (n + 1) (.p i) ds s = runFn ⟨callN T N n, N⟩ fn ds s := by
  show (match T (.p i) with | some fn => runFn ⟨callN T N n, N⟩ fn ds s | none => .st) = _
  rw [h]
theorem calll {i : Nat} (h : T (.law i) = some fn) : callN T N (n + 1) (.law i) ds s = runFn ⟨callN T N n, N⟩ fn ds s := by
  show (match T (.law i) with | some fn => runFn ⟨callN T N n, N⟩ fn ds s | none => .st) = _
  rw [h]
theorem callpr {k : Cl} {i : Nat} (h : T (.pr k i) = some fn) : callN T N (n + 1) (.pr k i) ds s = runFn ⟨callN T N n, N⟩ fn ds s := by
  show (match T (.pr k i) with | some fn => runFn ⟨callN T N n, N⟩ fn ds s | none => .st) = _
  rw [h]
theorem calllen {k : Cl} (h : T (.len k) = some fn) : callN T N (n + 1) (.len k) ds s = runFn ⟨callN T N n, N⟩ fn ds s := by
  show (match T (.len k) with | some fn => runFn ⟨callN T N n, N⟩ fn ds s | none => .st) = _
  rw [h]
theorem calleq {k : Cl} (h : T (.eq k) = some fn) : callN T N (n + 1) (.eq k) ds s = runFn ⟨callN T N n, N⟩ fn ds s := by
  show (match T (.eq k) with | some fn => runFn ⟨callN T N n, N⟩ fn ds s | none => .st) = _
  rw [h]
theorem callini {k : Cl} (h : T (.ini k) = some fn) : callN T N (n + 1) (.ini k) ds s = runIni ⟨callN T N n, N⟩ k fn ds s := by
  show (match T (.ini k) with | some fn => runIni ⟨callN T N n, N⟩ k fn ds s | none => .st) = _
  rw [h]
end
section
variable {c : Cfg} {ρ : Env} {s : Sto}
@[simp] theorem ev_var {i : Nat} {d : D} (h : ρ[i]? = some (some d)) : ev c (.var i) ρ s = .ok d s := by unfold ev; rw [h]
end
@[simp] theorem go_ite {α : Type} {p : Prop} [Decidable p] {a b : Rs α} {ρ : Env} {f : α → Sto → R} : (if p then a else b).go ρ f = if p then a.go ρ f else b.go ρ f := by split <;> rfl
theorem pow30 : binD .pow (.int 10) (.int 30) = some (.int 1000000000000000000000000000000) := rfl
theorem bT_nm {i : Nat} {d : D} {ρ : Env} : bindT (.nm i) d ρ = some (ρ.set i (some d)) := rfl
theorem bT_tup {ts : Tgs} {ds : List D} {ρ : Env} : bindT (.tp ts) (.tup ds) ρ = bindTs ts ds ρ := rfl
theorem bT_lst {ts : Tgs} {ds : List D} {ρ : Env} : bindT (.tp ts) (.lst ds) ρ = bindTs ts ds ρ := rfl
theorem bTs_nil {ρ : Env} : bindTs .nil [] ρ = some ρ := rfl
theorem bTs_cons {t : Tg} {ts : Tgs} {d : D} {ds : List D} {ρ : Env} : bindTs (.cons t ts) (d :: ds) ρ = (match bindT t d ρ with
    | some ρ' => bindTs ts ds ρ'
    | none => none) := rfl
/-! ### loops -/
theorem forL_keep {f : D → Env → Sto → R} {P : Env → Prop} {s : Sto} : ∀ {xs : List D} {ρ : Env}, (∀ x ∈ xs, ∀ ρ, P ρ → ∃ ρ', f x ρ s = .nx ρ' s ∧ P ρ') → P ρ → ∃ ρ', forL f xs ρ s = .nx ρ' s ∧ P ρ'
  | [], ρ, _, hp => ⟨ρ, rfl, hp⟩
  | x :: xs, ρ, h, hp => by
    obtain ⟨ρ1, e1, p1⟩ := h x (List.mem_cons_self ..) ρ hp
    obtain ⟨ρ2, e2, p2⟩ := forL_keep (fun y hy => h y (List.mem_cons_of_mem _ hy)) p1
    refine ⟨ρ2, ?_, p2⟩
    unfold forL
    rw [e1]
    exact e2
theorem lciL_pure {f : D → Sto → Rs (Option D)} {g : D → Option D} {s : Sto} : ∀ {xs acc : List D}, (∀ x ∈ xs, f x s = .ok (g x) s) → acc.length + xs.length ≤ lim → lciL f acc xs s = .ok (.lst (acc ++ xs.filterMap g)) s
  | [], acc, _, _ => by simp [lciL]
  | x :: xs, acc, h, hl => by
    unfold lciL
    rw [h x (List.mem_cons_self ..)]
    simp only [Rs.nox_ok, Rs.bind_ok]
    have h' : ∀ y ∈ xs, f y s = .ok (g y) s := fun y hy => h y (List.mem_cons_of_mem _ hy)
    rw [List.length_cons] at hl
    cases e : g x with
    | none =>
      simp only
      rw [lciL_pure h' (by omega), List.filterMap_cons, e]
    | some d =>
      simp only
      rw [if_pos (by omega), lciL_pure h' (by simp; omega), List.filterMap_cons, e]
      simp
theorem lcL_inv {f : D → Sto → Rs D} {P : Sto → Prop} {Q : D → Prop} : ∀ {xs acc : List D} {s : Sto}, (∀ x ∈ xs, ∀ s, P s → ∃ d s', f x s = .ok d s' ∧ P s' ∧ Q d) → P s → acc.length + xs.length ≤ lim →
    ∃ ds s', lcL f acc xs s = .ok (.lst (acc ++ ds)) s' ∧ P s' ∧ ds.length = xs.length ∧ ∀ d ∈ ds, Q d
  | [], acc, s, _, hp, _ => ⟨[], s, by simp [lcL], hp, rfl, fun d h => by cases h⟩
  | x :: xs, acc, s, h, hp, hl => by
    rw [List.length_cons] at hl
    obtain ⟨d, s1, e1, p1, q1⟩ := h x (List.mem_cons_self ..) s hp
    obtain ⟨ds, s2, e2, p2, l2, q2⟩ := lcL_inv (acc := acc ++ [d]) (fun y hy => h y (List.mem_cons_of_mem _ hy)) p1 (by simp; omega)
    refine ⟨d :: ds, s2, ?_, p2, by simp [l2], fun z hz => ?_⟩
    · unfold lcL
      rw [e1]
      simp only [Rs.nox_ok, Rs.bind_ok]
      rw [if_pos (by omega), e2]
      simp
    · rcases List.mem_cons.mp hz with rfl | hz
      · exact q1
      · exact q2 z hz
theorem enL_mem : ∀ {l : List D} {k : Nat} {x : D}, x ∈ enL k l → ∃ i d, x = .tup [.int i, d] ∧ d ∈ l
  | [], k, x, h => by cases h
  | y :: l, k, x, h => by
    unfold enL at h
    rcases List.mem_cons.mp h with rfl | h
    · exact ⟨_, y, rfl, List.mem_cons_self ..⟩
    · obtain ⟨i, d, e, hd⟩ := enL_mem h
      exact ⟨i, d, e, List.mem_cons_of_mem _ hd⟩
theorem cutL_map {α β : Type} {f : α → β} {l : List α} {lo hi : Option Int} : cutL (l.map f) lo hi = (cutL l lo hi).map f := by
  unfold cutL
  simp [List.map_drop, List.map_take]
theorem intsOf_map : ∀ {l : List Int}, intsOf (l.map D.int) = some l
  | [] => rfl
  | x :: l => by
    simp only [List.map_cons, intsOf]
    rw [intsOf_map]
/-! ### draws -/
structure Dr (s : Sto) : Prop where
  ex : ∃ st cells ix, s = [.dr st cells ix] ∧ 0 ≤ ix ∧ cells.length ≤ 63
theorem drawn_ok {st : Int} {cells : List Int} {ix b : Int} (h0 : 0 < b) (hi : 0 ≤ ix) : 0 ≤ (drawn st cells ix b).1 ∧ (drawn st cells ix b).1 < b ∧ ∃ st' cells' ix', (drawn st cells ix b).2 = .dr st' cells' ix' ∧ 0 ≤ ix' ∧ cells'.length = cells.length := by
  unfold drawn
  simp only
  generalize (cells ++ [0]).getD _ 0 = c
  by_cases hc : 1000000000000000000 ≤ c
  · simp only [if_pos hc]
    exact ⟨Int.emod_nonneg _ (by omega), Int.emod_lt_of_pos _ h0, _, _, _, rfl, hi, by rw [List.length_set]⟩
  · simp only [if_neg hc]
    exact ⟨Int.emod_nonneg _ (by omega), Int.emod_lt_of_pos _ h0, _, _, _, rfl, by omega, rfl⟩
theorem prim_next {s : Sto} (h : Dr s) {b : Int} (h0 : 0 < b) (h1 : b < 2 ^ 2000) : ∃ r s', primNext [.hnd 0, .int b] s = .ok (.int r) s' ∧ Dr s' ∧ 0 ≤ r ∧ r < b := by
  obtain ⟨st, cells, ix, rfl, hi, hl⟩ := h.ex
  have hc : 0 < b ∧ b < 2 ^ 2000 ∧ 0 ≤ ix ∧ cells.length < 1000 := ⟨h0, h1, hi, by omega⟩
  obtain ⟨d1, d2, st', cells', ix', d3, d4, d5⟩ := drawn_ok (st := st) (cells := cells) h0 hi
  refine ⟨(drawn st cells ix b).1, [(drawn st cells ix b).2], ?_, ?_, d1, d2⟩
  · show (if 0 < b ∧ b < 2 ^ 2000 ∧ 0 ≤ ix ∧ cells.length < 1000 then _ else _) = _
    rw [if_pos hc]
    rfl
  · rw [d3]
    exact ⟨⟨_, _, _, rfl, d4, by omega⟩⟩
theorem big_lt {b : Int} (h : b < 10 ^ 40) : b < 2 ^ 2000 := Int.lt_trans h (by decide +kernel)
theorem r_next {T : F → Option Fn} {N : Nat} (m : Nat) {s : Sto} (h : Dr s) {b : Int} (h0 : 0 < b) (h1 : b < 10 ^ 40) (hm : 1 ≤ m := by omega) : ∃ r s', callN T N m .next [.hnd 0, .int b] s = .ok (.int r) s' ∧ Dr s' ∧ 0 ≤ r ∧ r < b := by
  cases m with
  | zero => omega
  | succ m => exact prim_next h h0 (big_lt h1)
theorem b1_len {x : D} : b1D .len x = (lenD x).map D.int := by cases x <;> rfl
theorem r_mix {T : F → Option Fn} {N n : Nat} {ns : List Int} {seed : Int} (h : ns.length ≤ 63) : ∃ s', callN T N (n + 1) .mix [.scr ns, .int seed] [] = .ok (.hnd 0) s' ∧ Dr s' :=
  ⟨_, rfl, ⟨⟨_, _, _, rfl, by omega, h⟩⟩⟩
/-! ### books -/
abbrev F4 := Int × Int × Int × Int
def fD (f : F4) : D := .tup [.int f.1, .int f.2.1, .int f.2.2.1, .int f.2.2.2]
def okF (cells : Int) (f : F4) : Prop := 0 ≤ f.1 ∧ f.1 < f.2.1 ∧ f.2.1 ≤ cells ∧ 0 ≤ f.2.2.1 ∧ f.2.2.1 ≤ f.2.2.2 ∧ f.2.2.2 ≤ 100000000000000000000000000000000
def bookD (cells most : Int) (fs : List F4) : D := .ins .book [.tup [.int cells, .int most, .tup (fs.map fD)]]
structure Bk (T : F → Option Fn) : Prop where
  p0 : T (.p 0) = some f_p_0
  p1 : T (.p 1) = some f_p_1
  p2 : T (.p 2) = some f_p_2
  ini : T (.ini .book) = some f_ini_book
section
variable {T : F → Option Fn} {N n : Nat} {s : Sto}
theorem r_integer (h : Bk T) {i : Int} : callN T N (n + 1) (.p 0) [.int i] s = .ok (.bl true) s := by
  rw [callp h.p0]; rfl
theorem r_from (h : Bk T) {v lo hi : Int} : callN T N (n + 2) (.p 1) [.int v, .int lo, .int hi] s = .ok (.bl (decide (lo ≤ v) && decide (v ≤ hi))) s := by
  rw [callp h.p1]
  simp [runFn, runIni, start, exs, exe, ev, evs, evo, evr, cmpD, binD, ixD, slD, b1D, b2D, isaD, truD, lenD, itD, bT_nm, bT_tup, bT_lst, bTs_nil, bTs_cons, parE, at', isFresh, negD, isNon, L2.atI, L2.ixN, slotsT, slotsTs, wipeE, Rs.nox, lim, f_p_1, r_integer h]
  by_cases h1 : lo ≤ v <;> simp [h1]
theorem r_fact (h : Bk T) {f : F4} {cells : Int} (hf : okF cells f) : callN T N (n + 3) (.p 2) [fD f, .int cells] s = .ok (.bl true) s := by
  obtain ⟨h1, h2, h3, h4, h5, h6⟩ := hf
  rw [callp h.p2]
  have a1 : f.1 ≤ cells - 1 := by omega
  have a2 : f.1 + 1 ≤ f.2.1 := by omega
  have a3 : f.2.2.1 ≤ 100000000000000000000000000000000 := by omega
  simp [runFn, runIni, start, exs, exe, ev, evs, evo, evr, cmpD, binD, ixD, slD, b1D, b2D, isaD, truD, lenD, itD, bT_nm, bT_tup, bT_lst, bTs_nil, bTs_cons, parE, at', isFresh, negD, isNon, L2.atI, L2.ixN, slotsT, slotsTs, wipeE, Rs.nox, lim, f_p_2, fD, r_from h, eqD, isP, eqF, h1, h2, h3, h4, h5, h6, a1, a2, a3]
theorem r_book_l {c : Cfg} {a b : Option D} {cells most : Int} {fs : List F4} (hc : ∀ f ∈ fs, c.call (.p 2) [fD f, .int cells] s = .ok (.bl true) s) :
    ∃ a' b', exe c f_ini_book_l1 [some (.ins .book []), some (.int cells), some (.int most), some (.tup (fs.map fD)), a, b] s = .nx [some (.ins .book []), some (.int cells), some (.int most), some (.tup (fs.map fD)), a', b'] s := by
  unfold f_ini_book_l1
  simp [runFn, runIni, start, exs, exe, ev, evs, evo, evr, cmpD, binD, ixD, slD, b1D, b2D, isaD, truD, lenD, itD, bT_nm, bT_tup, bT_lst, bTs_nil, bTs_cons, parE, at', isFresh, negD, isNon, L2.atI, L2.ixN, slotsT, slotsTs, wipeE, Rs.nox, lim]
  have := forL_keep (s := s) (P := fun ρ => ∃ a b, ρ = [some (.ins .book []), some (.int cells), some (.int most), some (.tup (fs.map fD)), a, b]) (xs := enL 0 (fs.map fD)) (ρ := [some (.ins .book []), some (.int cells), some (.int most), some (.tup (fs.map fD)), a, b])
    (f := fun x ρ s => match bindT (.tp (.cons (.nm 4) (.cons (.nm 5) .nil))) x ρ with
      | some ρ' => exs c f_ini_book_b0 ρ' s
      | none => .st) (fun x hx ρ ⟨a, b, e⟩ => by
    subst e
    obtain ⟨i, d, rfl, hd⟩ := enL_mem hx
    obtain ⟨f, hf, rfl⟩ := List.mem_map.mp hd
    refine ⟨_, ?_, some (.int i), some (fD f), rfl⟩
    simp [runFn, runIni, start, exs, exe, ev, evs, evo, evr, cmpD, binD, ixD, slD, b1D, b2D, isaD, truD, lenD, itD, bT_nm, bT_tup, bT_lst, bTs_nil, bTs_cons, parE, at', isFresh, negD, isNon, L2.atI, L2.ixN, slotsT, slotsTs, wipeE, Rs.nox, lim, f_ini_book_b0, hc f hf]) ⟨a, b, rfl⟩
  obtain ⟨ρ', e1, a', b', e2⟩ := this
  subst e2
  exact ⟨a', b', e1⟩
theorem r_book (h : Bk T) {cells most : Int} {fs : List F4} (c1 : 1 ≤ cells) (c2 : cells ≤ 20) (m1 : 0 ≤ most) (m2 : most ≤ 1000000000000000000000000000000) (hl : fs.length ≤ 12) (hf : ∀ f ∈ fs, okF cells f) :
    callN T N (n + 4) (.ini .book) [.int cells, .int most, .tup (fs.map fD)] s = .ok (bookD cells most fs) s := by
  rw [callini h.ini]
  have hl' : ¬ (12 : Int) < (fs.length : Int) := by omega
  obtain ⟨a', b', e⟩ := r_book_l (s := s) (c := ⟨callN T N (n + 3), N⟩) (a := none) (b := none) (cells := cells) (most := most) (fs := fs) (fun f hx => r_fact h (hf f hx))
  simp [runFn, runIni, start, exs, exe, ev, evs, evo, evr, cmpD, binD, ixD, slD, b1D, b2D, isaD, truD, lenD, itD, bT_nm, bT_tup, bT_lst, bTs_nil, bTs_cons, parE, at', isFresh, negD, isNon, L2.atI, L2.ixN, slotsT, slotsTs, wipeE, Rs.nox, lim, f_ini_book, r_from h, c1, c2, m1, m2, hl', e]
  simp [bookD]
/-! ### properties, == -/
theorem eqL_refl {f : D → D → Bool} : ∀ {l : List D}, (∀ x ∈ l, f x x = true) → eqL f l l = true
  | [], _ => rfl
  | x :: l, h => by
    unfold eqL
    rw [h x (List.mem_cons_self ..), eqL_refl fun y hy => h y (List.mem_cons_of_mem _ hy)]
    rfl
/-- plain data of ints in tuples and lists -/
theorem eqF_refl : ∀ (n : Nat) (d : D), isP n d = true → eqF n d d = true
  | 0, d, h => by
    cases d <;> first | (simp [isP] at h; done) | (simp [eqF]; done)
  | n + 1, d, h => by
    cases d with
    | tup ds =>
      unfold isP at h
      unfold eqF
      exact eqL_refl fun x hx => eqF_refl n x (List.all_eq_true.mp h x hx)
    | lst ds =>
      unfold isP at h
      unfold eqF
      exact eqL_refl fun x hx => eqF_refl n x (List.all_eq_true.mp h x hx)
    | _ => first | (simp [isP] at h; done) | (simp [eqF]; done)
theorem eqD_refl {d : D} (h : isP 8 d = true) : eqD d d = some true := by
  unfold eqD
  rw [h, eqF_refl 8 d h]
  rfl
theorem isP_fD {k : Nat} {f : F4} : isP (k + 1) (fD f) = true := by simp [isP, fD]
theorem isP_fs {k : Nat} {fs : List F4} : isP (k + 2) (.tup (fs.map fD)) = true := by
  unfold isP
  rw [List.all_eq_true]
  intro x hx
  obtain ⟨f, _, rfl⟩ := List.mem_map.mp hx
  exact isP_fD
theorem isP_ints {k : Nat} {l : List Int} : (l.map D.int).all (isP k) = true := by
  rw [List.all_eq_true]
  intro x hx
  obtain ⟨f, _, rfl⟩ := List.mem_map.mp hx
  cases k <;> rfl
def heldD (cells most : Int) (fs : List F4) : D := .tup [.int cells, .int most, .tup (fs.map fD)]
theorem isP_held {cells most : Int} {fs : List F4} : isP 8 (heldD cells most fs) = true := by
  unfold heldD isP
  simp only [List.all_cons, List.all_nil, Bool.and_true]
  rw [show isP 7 (.tup (fs.map fD)) = true from isP_fs]
  rfl
theorem eqL_len {f : D → D → Bool} : ∀ {a b : List D}, a.length ≠ b.length → eqL f a b = false
  | [], [], h => absurd rfl h
  | [], _ :: _, _ => rfl
  | _ :: _, [], _ => rfl
  | x :: a, y :: b, h => by
    unfold eqL
    rw [eqL_len (fun e => h (by simp [e]))]
    simp
structure Bq (T : F → Option Fn) : Prop where
  c : T (.pr .book 0) = some f_pr_book_0
  m : T (.pr .book 1) = some f_pr_book_1
  f : T (.pr .book 2) = some f_pr_book_2
  l : T (.len .book) = some f_len_book
  e : T (.eq .book) = some f_eq_book
theorem r_cells (h : Bq T) {cells most : Int} {fs : List F4} : callN T N (n + 1) (.pr .book 0) [bookD cells most fs] s = .ok (.int cells) s := by
  rw [callpr h.c]; rfl
theorem r_most (h : Bq T) {cells most : Int} {fs : List F4} : callN T N (n + 1) (.pr .book 1) [bookD cells most fs] s = .ok (.int most) s := by
  rw [callpr h.m]; rfl
theorem r_facts (h : Bq T) {cells most : Int} {fs : List F4} : callN T N (n + 1) (.pr .book 2) [bookD cells most fs] s = .ok (.tup (fs.map fD)) s := by
  rw [callpr h.f]; rfl
theorem r_len (h : Bq T) {cells most : Int} {fs : List F4} : callN T N (n + 1) (.len .book) [bookD cells most fs] s = .ok (.int fs.length) s := by
  rw [calllen h.l]
  simp [runFn, runIni, start, exs, exe, ev, evs, evo, evr, cmpD, binD, ixD, slD, b1D, b2D, isaD, truD, lenD, itD, bT_nm, bT_tup, bT_lst, bTs_nil, bTs_cons, parE, at', isFresh, negD, isNon, L2.atI, L2.ixN, slotsT, slotsTs, wipeE, Rs.nox, lim, f_len_book, bookD]
theorem r_eqB (h : Bq T) {cells most cells' most' : Int} {fs fs' : List F4} : callN T N (n + 1) (.eq .book) [bookD cells most fs, bookD cells' most' fs'] s = .ok (.bl (eqF 8 (heldD cells most fs) (heldD cells' most' fs'))) s := by
  rw [calleq h.e]
  have e : eqD (heldD cells most fs) (heldD cells' most' fs') = some (eqF 8 (heldD cells most fs) (heldD cells' most' fs')) := by
    unfold eqD
    rw [isP_held, isP_held]
    rfl
  unfold heldD at e ⊢
  simp [runFn, runIni, start, exs, exe, ev, evs, evo, evr, cmpD, binD, ixD, slD, b1D, b2D, isaD, truD, lenD, itD, bT_nm, bT_tup, bT_lst, bTs_nil, bTs_cons, parE, at', isFresh, negD, isNon, L2.atI, L2.ixN, slotsT, slotsTs, wipeE, Rs.nox, lim, f_eq_book, bookD, e]
theorem r_eqT (h : Bq T) {cells most : Int} {fs : List F4} {ds : List D} : callN T N (n + 1) (.eq .book) [bookD cells most fs, .tup ds] s = .ok (.bl false) s := by
  rw [calleq h.e]
  simp [runFn, runIni, start, exs, exe, ev, evs, evo, evr, cmpD, binD, ixD, slD, b1D, b2D, isaD, truD, lenD, itD, bT_nm, bT_tup, bT_lst, bTs_nil, bTs_cons, parE, at', isFresh, negD, isNon, L2.atI, L2.ixN, slotsT, slotsTs, wipeE, Rs.nox, lim, f_eq_book, bookD]
/-! ### rows -/
def rowD (r : List Int) : D := .tup (r.map D.int)
def seg (r : List Int) (f : F4) : Int := (cutL r (some f.1) (some f.2.1)).sum
def fits (r : List Int) (f : F4) : Bool := decide (f.2.2.1 ≤ seg r f) && decide (seg r f ≤ f.2.2.2)
structure Bw (T : F → Option Fn) : Prop where
  p3 : T (.p 3) = some f_p_3
  p4 : T (.p 4) = some f_p_4
  p5 : T (.p 5) = some f_p_5
  p6 : T (.p 6) = some f_p_6
theorem r_check_book (h : Bw T) {cells most : Int} {fs : List F4} : callN T N (n + 1) (.p 3) [bookD cells most fs] s = .ok .non s := by
  rw [callp h.p3]; rfl
theorem r_check_row (h : Bw T) (hb : Bk T) {cells most : Int} {fs : List F4} {r : List Int} (hl : (r.length : Int) = cells) (hr : ∀ x ∈ r, 0 ≤ x ∧ x ≤ most) : callN T N (n + 3) (.p 4) [bookD cells most fs, rowD r] s = .ok .non s := by
  rw [callp h.p4]
  have loop : ∀ a, ∃ a', exe ⟨callN T N (n + 2), N⟩ f_p_4_l1 [some (bookD cells most fs), some (rowD r), a] s = .nx [some (bookD cells most fs), some (rowD r), a'] s := fun a => by
    unfold f_p_4_l1
    simp [runFn, runIni, start, exs, exe, ev, evs, evo, evr, cmpD, binD, ixD, slD, b1D, b2D, isaD, truD, lenD, itD, bT_nm, bT_tup, bT_lst, bTs_nil, bTs_cons, parE, at', isFresh, negD, isNon, L2.atI, L2.ixN, slotsT, slotsTs, wipeE, Rs.nox, lim, rowD]
    have := forL_keep (s := s) (P := fun ρ => ∃ a, ρ = [some (bookD cells most fs), some (rowD r), a]) (xs := r.map D.int) (ρ := [some (bookD cells most fs), some (rowD r), a])
      (f := fun x ρ s => match bindT (.nm 2) x ρ with
        | some ρ' => exs ⟨callN T N (n + 2), N⟩ f_p_4_b0 ρ' s
        | none => .st) (fun x hx ρ ⟨a, e⟩ => by
      subst e
      obtain ⟨i, hi, rfl⟩ := List.mem_map.mp hx
      obtain ⟨h1, h2⟩ := hr i hi
      refine ⟨_, ?_, some (.int i), rfl⟩
      simp [runFn, runIni, start, exs, exe, ev, evs, evo, evr, cmpD, binD, ixD, slD, b1D, b2D, isaD, truD, lenD, itD, bT_nm, bT_tup, bT_lst, bTs_nil, bTs_cons, parE, at', isFresh, negD, isNon, L2.atI, L2.ixN, slotsT, slotsTs, wipeE, Rs.nox, lim, f_p_4_b0, bookD, r_from hb, h1, h2]) ⟨a, rfl⟩
    obtain ⟨ρ', e1, a', e2⟩ := this
    subst e2
    exact ⟨a', e1⟩
  obtain ⟨a', e⟩ := loop none
  have e0 : eqD (.int cells) (.int cells) = some true := eqD_refl rfl
  simp [runFn, runIni, start, exs, exe, ev, evs, evo, evr, cmpD, binD, ixD, slD, b1D, b2D, isaD, truD, lenD, itD, bT_nm, bT_tup, bT_lst, bTs_nil, bTs_cons, parE, at', isFresh, negD, isNon, L2.atI, L2.ixN, slotsT, slotsTs, wipeE, Rs.nox, lim, f_p_4, e]
  simp [bookD, rowD, hl, e0] at e ⊢
  simp [e]
def brk (r : List Int) : Nat → List F4 → List D
  | _, [] => []
  | k, f :: fs => (if fits r f then [] else [.int k]) ++ brk r (k + 1) fs
theorem brk_len {r : List Int} : ∀ {k : Nat} {fs : List F4}, (brk r k fs).length ≤ fs.length
  | _, [] => Nat.le_refl _
  | k, f :: fs => by
    have := brk_len (r := r) (k := k + 1) (fs := fs)
    unfold brk
    split <;> simp <;> omega
theorem r_broken_l {c : Cfg} {cells most : Int} {fs0 : List F4} {r : List Int} : ∀ {fs : List F4} {k : Nat} {acc : List D} {a b e f g h : Option D}, acc.length + fs.length ≤ 1000 →
    ∃ a' b' e' f' g' h', forL (fun x ρ s => match bindT (.tp (.cons (.nm 3) (.cons (.nm 4) .nil))) x ρ with
      | some ρ' => exs c f_p_5_b0 ρ' s
      | none => .st) (enL k (fs.map fD)) [some (bookD cells most fs0), some (rowD r), some (.lst acc), a, b, e, f, g, h] s = .nx [some (bookD cells most fs0), some (rowD r), some (.lst (acc ++ brk r k fs)), a', b', e', f', g', h'] s
  | [], k, acc, a, b, e, f, g, h, _ => ⟨a, b, e, f, g, h, by simp [enL, forL, brk]⟩
  | x :: fs, k, acc, a, b, e, f, g, h, hl => by
    rw [List.length_cons] at hl
    have hs : b1D .sum (.tup (cutL (r.map D.int) (some x.1) (some x.2.1))) = some (.int (seg r x)) := by
      show (intsOf (cutL (r.map D.int) (some x.1) (some x.2.1))).map _ = _
      rw [cutL_map, intsOf_map]
      rfl
    have step : exs c f_p_5_b0 [some (bookD cells most fs0), some (rowD r), some (.lst acc), some (.int k), some (fD x), e, f, g, h] s = .nx [some (bookD cells most fs0), some (rowD r), some (.lst (acc ++ (if fits r x then [] else [.int k]))), some (.int k), some (fD x), some (.int x.1), some (.int x.2.1), some (.int x.2.2.1), some (.int x.2.2.2)] s := by
      unfold fits
      have hla : acc.length < 16777216 := by omega
      by_cases h1 : x.2.2.1 ≤ seg r x
      · by_cases h2 : seg r x ≤ x.2.2.2
        · simp [f_p_5_b0, exs, exe, ev, evo, slD, bT_nm, bT_tup, bT_lst, bTs_nil, bTs_cons, fD, rowD, hs, cmpD, truD, h1, h2]
        · simp [f_p_5_b0, exs, exe, ev, evo, slD, bT_nm, bT_tup, bT_lst, bTs_nil, bTs_cons, fD, rowD, hs, cmpD, truD, h1, h2, at', hla, lim]
      · simp [f_p_5_b0, exs, exe, ev, evo, slD, bT_nm, bT_tup, bT_lst, bTs_nil, bTs_cons, fD, rowD, hs, cmpD, truD, h1, at', hla, lim]
    obtain ⟨a', b', e', f', g', h', ih⟩ := r_broken_l (c := c) (cells := cells) (most := most) (fs0 := fs0) (r := r) (fs := fs) (k := k + 1) (acc := acc ++ (if fits r x then [] else [.int k])) (a := some (.int k)) (b := some (fD x)) (e := some (.int x.1)) (f := some (.int x.2.1)) (g := some (.int x.2.2.1)) (h := some (.int x.2.2.2)) (by split <;> simp <;> omega)
    refine ⟨a', b', e', f', g', h', ?_⟩
    rw [List.map_cons]
    unfold enL forL
    have hb : bindT (.tp (.cons (.nm 3) (.cons (.nm 4) .nil))) (.tup [.int (k : Int), fD x]) [some (bookD cells most fs0), some (rowD r), some (.lst acc), a, b, e, f, g, h] = some [some (bookD cells most fs0), some (rowD r), some (.lst acc), some (.int k), some (fD x), e, f, g, h] := rfl
    simp only [hb, step, R.bind_nx]
    rw [ih, List.append_assoc]
    rfl
theorem r_broken (h : Bw T) (hb : Bk T) {cells most : Int} {fs : List F4} {r : List Int} (hl : (r.length : Int) = cells) (hr : ∀ x ∈ r, 0 ≤ x ∧ x ≤ most) (hf : fs.length ≤ 1000) : callN T N (n + 4) (.p 6) [bookD cells most fs, rowD r] s = .ok (.lst (brk r 0 fs)) s := by
  have e5 : callN T N (n + 3) (.p 5) [bookD cells most fs, rowD r] s = .ok (.lst (brk r 0 fs)) s := by
    rw [callp h.p5]
    obtain ⟨a', b', e', f', g', h', e⟩ := r_broken_l (s := s) (c := ⟨callN T N (n + 2), N⟩) (cells := cells) (most := most) (fs0 := fs) (r := r) (fs := fs) (k := 0) (acc := []) (a := none) (b := none) (e := none) (f := none) (g := none) (h := none) (by simpa using hf)
    have el : exe ⟨callN T N (n + 2), N⟩ f_p_5_l1 [some (bookD cells most fs), some (rowD r), some (.lst []), none, none, none, none, none, none] s = .nx [some (bookD cells most fs), some (rowD r), some (.lst (brk r 0 fs)), a', b', e', f', g', h'] s := by
      unfold f_p_5_l1
      rw [exe]
      have : evr ⟨callN T N (n + 2), N⟩ (.en (.ix (.fld (.var 0) .book 0) (.int 2))) [some (bookD cells most fs), some (rowD r), some (.lst []), none, none, none, none, none, none] s = .ok (enL 0 (fs.map fD)) s := rfl
      rw [this]
      exact e
    simp [runFn, runIni, start, exs, exe, ev, evs, evo, evr, cmpD, binD, ixD, slD, b1D, b2D, isaD, truD, lenD, itD, bT_nm, bT_tup, bT_lst, bTs_nil, bTs_cons, parE, at', isFresh, negD, isNon, L2.atI, L2.ixN, slotsT, slotsTs, wipeE, Rs.nox, lim, f_p_5, el]
  rw [callp h.p6]
  simp [runFn, runIni, start, exs, exe, ev, evs, evo, evr, cmpD, binD, ixD, slD, b1D, b2D, isaD, truD, lenD, itD, bT_nm, bT_tup, bT_lst, bTs_nil, bTs_cons, parE, at', isFresh, negD, isNon, L2.atI, L2.ixN, slotsT, slotsTs, wipeE, Rs.nox, lim, f_p_6, r_check_book h, r_check_row h hb hl hr, e5]
end
end MP

end
section
set_option Elab.async false
set_option linter.all false
set_option maxRecDepth 100000
set_option maxHeartbeats 1000000
/-! Drawn books: what the laws' own helpers draw. -/
namespace MP
open PySem

theorem sum_bounds {M : Int} : ∀ {l : List Int}, (∀ x ∈ l, 0 ≤ x ∧ x ≤ M) → 0 ≤ l.sum ∧ l.sum ≤ l.length * M
  | [], _ => by simp
  | x :: l, h => by
    obtain ⟨h1, h2⟩ := sum_bounds (M := M) (l := l) fun y hy => h y (List.mem_cons_of_mem _ hy)
    obtain ⟨h3, h4⟩ := h x (List.mem_cons_self ..)
    rw [List.sum_cons, List.length_cons]
    refine ⟨by omega, ?_⟩
    have : ((l.length + 1 : Nat) : Int) * M = l.length * M + M := by rw [Int.natCast_add, Int.add_mul]; simp
    omega
theorem cutL_mem {α : Type} {l : List α} {lo hi : Option Int} {x : α} (h : x ∈ cutL l lo hi) : x ∈ l := List.mem_of_mem_drop (List.mem_of_mem_take h)
theorem cutL_len {α : Type} {l : List α} {lo hi : Option Int} : (cutL l lo hi).length ≤ l.length := by
  unfold cutL
  rw [List.length_take, List.length_drop]
  omega
theorem seg_bounds {r : List Int} {f : F4} {M : Int} (hM : 0 ≤ M) (h : ∀ x ∈ r, 0 ≤ x ∧ x ≤ M) (hl : r.length ≤ 20) : 0 ≤ seg r f ∧ seg r f ≤ 20 * M := by
  unfold seg
  obtain ⟨h1, h2⟩ := sum_bounds (M := M) (l := cutL r (some f.1) (some f.2.1)) fun x hx => h x (cutL_mem hx)
  have h3 : (cutL r (some f.1) (some f.2.1)).length ≤ 20 := Nat.le_trans cutL_len hl
  refine ⟨h1, Int.le_trans h2 (Int.mul_le_mul_of_nonneg_right (by omega) hM)⟩
theorem ex_map {α : Type} {g : α → D} {P : α → Prop} : ∀ {ds : List D}, (∀ d ∈ ds, ∃ a, d = g a ∧ P a) → ∃ l : List α, ds = l.map g ∧ ∀ a ∈ l, P a
  | [], _ => ⟨[], rfl, fun a h => by cases h⟩
  | d :: ds, h => by
    obtain ⟨a, rfl, pa⟩ := h d (List.mem_cons_self ..)
    obtain ⟨l, rfl, pl⟩ := ex_map (g := g) (P := P) fun d hd => h d (List.mem_cons_of_mem _ hd)
    exact ⟨a :: l, rfl, fun b hb => (List.mem_cons.mp hb).elim (fun e => e ▸ pa) (pl b)⟩
theorem rgD_nat {n : Int} (h0 : 0 ≤ n) (h : n < 1000000) : rgD 0 n = some ((List.range n.toNat).map fun i => .int (0 + (i : Nat))) := by
  unfold rgD
  rw [if_pos]
  · simp
  · simp; omega
section
variable {T : F → Option Fn} {N n : Nat} {s : Sto}
theorem r_stretch (h1 : T (.law 1) = some f_law_1) (hd : Dr s) {k : Int} (k1 : 1 ≤ k) (k2 : k ≤ 1000) : ∃ b e s', callN T N (n + 2) (.law 1) [.hnd 0, .int k] s = .ok (.tup [.int b, .int e]) s' ∧ Dr s' ∧ 0 ≤ b ∧ b < e ∧ e ≤ k := by
  obtain ⟨b, s1, e1, d1, b1, b2⟩ := r_next (T := T) (N := N) (n + 1) hd (b := k) (by omega) (by omega)
  obtain ⟨x, s2, e2, d2, x1, x2⟩ := r_next (T := T) (N := N) (n + 1) d1 (b := k - b) (by omega) (by omega)
  refine ⟨b, b + 1 + x, s2, ?_, d2, b1, by omega, by omega⟩
  rw [calll h1]
  simp [runFn, runIni, MP.start, exs, exe, ev, evs, evo, evr, cmpD, binD, ixD, slD, b1D, b2D, isaD, truD, lenD, itD, bT_nm, bT_tup, bT_lst, bTs_nil, bTs_cons, parE, at', isFresh, negD, isNon, L2.atI, L2.ixN, slotsT, slotsTs, wipeE, Rs.nox, lim, f_law_1, e1, e2]
theorem r_drawfact2 (h1 : T (.law 1) = some f_law_1) (h2 : T (.law 2) = some f_law_2) (hd : Dr s) {r : List Int} {M loose : Int} (hM : 0 ≤ M) (hM2 : M ≤ 1000000000000000000000000000000) (hr : ∀ x ∈ r, 0 ≤ x ∧ x ≤ M) (l1 : 1 ≤ r.length) (l2 : r.length ≤ 20) (o1 : 1 ≤ loose) (o2 : loose ≤ 1000000000000000000000000000001) :
    ∃ f s', callN T N (n + 3) (.law 2) [.hnd 0, .lst (r.map D.int), .int loose] s = .ok (fD f) s' ∧ Dr s' ∧ okF r.length f ∧ f.2.2.2 ≤ 99999999999999999999999999999999 := by
  obtain ⟨b, e, s1, c1, d1, b1, b2, b3⟩ := r_stretch (T := T) (N := N) (n := n) h1 hd (k := r.length) (by omega) (by omega)
  obtain ⟨x1, s2, c2, d2, y1, y2⟩ := r_next (T := T) (N := N) (n + 2) d1 (b := loose) (by omega) (by omega)
  obtain ⟨x2, s3, c3, d3, y3, y4⟩ := r_next (T := T) (N := N) (n + 2) d2 (b := loose) (by omega) (by omega)
  obtain ⟨x3, s4, c4, d4, y5, y6⟩ := r_next (T := T) (N := N) (n + 2) d3 (b := 12) (by omega) (by omega)
  obtain ⟨x4, s5, c5, d5, y7, y8⟩ := r_next (T := T) (N := N) (n + 2) d4 (b := loose) (by omega) (by omega)
  obtain ⟨g1, g2⟩ := seg_bounds (f := (b, e, 0, 0)) hM hr l2
  have hs : b1D .sum (.lst (cutL (r.map D.int) (some b) (some e))) = some (.int (seg r (b, e, 0, 0))) := by
    show (intsOf (cutL (r.map D.int) (some b) (some e))).map _ = _
    rw [cutL_map, intsOf_map]
    rfl
  obtain ⟨low, hlow⟩ : ∃ low, b2D .max (.int 0) (.int (seg r (b, e, 0, 0) - x1)) = some (.int low) ∧ 0 ≤ low ∧ low ≤ seg r (b, e, 0, 0) := by
    refine ⟨_, rfl, ?_, ?_⟩ <;> split <;> omega
  obtain ⟨hlow, hl0, hl1⟩ := hlow
  by_cases h0 : x3 = 0
  · refine ⟨(b, e, seg r (b, e, 0, 0) + x2, seg r (b, e, 0, 0) + x2 + x4), s5, ?_, d5, ⟨b1, b2, b3, ?_, ?_, ?_⟩, ?_⟩
    · rw [calll h2]
      subst h0
      have e0 : eqD (.int 0) (.int 0) = some true := rfl
      simp [f_law_2, runFn, start, exs, exe, ev, evs, evo, slD, lenD, bT_nm, bT_tup, bT_lst, bTs_nil, bTs_cons, parE, binD, b1_len, hs, c1, c2, c3, c4, c5, hlow, cmpD, truD, e0, fD, lim]
    all_goals simp only; omega
  · refine ⟨(b, e, low, seg r (b, e, 0, 0) + x2), s4, ?_, d4, ⟨b1, b2, b3, ?_, ?_, ?_⟩, ?_⟩
    · rw [calll h2]
      have e0 : eqD (.int x3) (.int 0) = some false := by
        unfold eqD
        simp [isP, eqF, h0]
      simp [f_law_2, runFn, start, exs, exe, ev, evs, evo, slD, lenD, bT_nm, bT_tup, bT_lst, bTs_nil, bTs_cons, parE, binD, b1_len, hs, c1, c2, c3, c4, c5, hlow, cmpD, truD, e0, fD, lim]
    all_goals simp only; omega
theorem r_drawfact (h1 : T (.law 1) = some f_law_1) (h2 : T (.law 2) = some f_law_2) (hd : Dr s) {r : List Int} {M loose : Int} (hM : 0 ≤ M) (hM2 : M ≤ 1000000000000000000000000000000) (hr : ∀ x ∈ r, 0 ≤ x ∧ x ≤ M) (l1 : 1 ≤ r.length) (l2 : r.length ≤ 20) (o1 : 1 ≤ loose) (o2 : loose ≤ 1000000000000000000000000000001) :
    ∃ f s', callN T N (n + 3) (.law 2) [.hnd 0, .lst (r.map D.int), .int loose] s = .ok (fD f) s' ∧ Dr s' ∧ okF r.length f := by
  obtain ⟨f, s', h3, h4, h5, _⟩ := r_drawfact2 (T := T) (N := N) (n := n) h1 h2 hd hM hM2 hr l1 l2 o1 o2
  exact ⟨f, s', h3, h4, h5⟩
theorem rows_of {c : Cfg} {e : E} {ρ : Env} {i : Nat} {k : Int} {P : D → Prop} (hd : Dr s) (k0 : 0 ≤ k) (k1 : k < 1000000) (h : ∀ x s, Dr s → ∃ d s', ev c e ((wipeE ρ [i]).set i (some x)) s = .ok d s' ∧ Dr s' ∧ P d) {r : Sr} (hr : evr c r ρ s = .ok ((List.range k.toNat).map fun i => .int (0 + (i : Nat))) s) :
    ∃ ds s', ev c (.lc e (.nm i) r) ρ s = .ok (.lst ds) s' ∧ Dr s' ∧ (ds.length : Int) = k ∧ ∀ d ∈ ds, P d := by
  obtain ⟨ds, s', e1, d1, l1, p1⟩ := lcL_inv (f := fun x s => match bindT (.nm i) x (wipeE ρ (slotsT (.nm i))) with
    | some ρ' => ev c e ρ' s
    | none => .st) (P := Dr) (Q := P) (xs := (List.range k.toNat).map fun i => .int (0 + (i : Nat))) (acc := []) (s := s) (fun x _ s hs => h x s hs) hd (by simp [lim]; omega)
  refine ⟨ds, s', ?_, d1, by rw [l1]; simp; omega, p1⟩
  rw [ev, hr]
  exact e1
structure Ld (T : F → Option Fn) : Prop where
  l1 : T (.law 1) = some f_law_1
  l2 : T (.law 2) = some f_law_2
  l3 : T (.law 3) = some f_law_3
/-- a drawn book -/
theorem r_drawbook2 (h : Ld T) (hd : Dr s) {c0 m0 w0 : Int} (c1 : 1 ≤ c0) (c2 : c0 ≤ 20) (m1 : 0 ≤ m0) (m2 : m0 ≤ 1000000000000000000000000000000) (w1 : 0 ≤ w0) (w2 : w0 ≤ 12) :
    ∃ (cells most : Int) (fs : List F4) (s' : Sto), callN T N (n + 4) (.law 3) [.hnd 0, .int c0, .int m0, .int w0] s = .ok (.lst [.int cells, .int most, .tup (fs.map fD)]) s' ∧ Dr s' ∧ 1 ≤ cells ∧ cells ≤ c0 ∧ 0 ≤ most ∧ most ≤ m0 ∧ (fs.length : Int) ≤ w0 ∧ ∀ f ∈ fs, okF cells f ∧ f.2.2.2 ≤ 99999999999999999999999999999999 := by
  obtain ⟨x1, s1, e1, d1, y1, y2⟩ := r_next (T := T) (N := N) (n + 3) hd (b := c0) (by omega) (by omega)
  obtain ⟨x2, s2, e2, d2, y3, y4⟩ := r_next (T := T) (N := N) (n + 3) d1 (b := m0 + 1) (by omega) (by omega)
  obtain ⟨rows, s3, e3, d3, l3, p3⟩ := rows_of (c := ⟨callN T N (n + 3), N⟩) (e := .call .next (.cons (.var 0) (.cons (.bin .add (.var 2) (.int 1)) .nil))) (ρ := [some (.hnd 0), some (.int (1 + x1)), some (.int x2), some (.int w0), none, none, none, none]) (i := 7) (k := 1 + x1) (P := fun d => ∃ a, d = D.int a ∧ 0 ≤ a ∧ a ≤ x2) d2 (by omega) (by omega)
    (fun x s hs => by
      obtain ⟨a, s', e, d', a1, a2⟩ := r_next (T := T) (N := N) (n + 3) hs (b := x2 + 1) (by omega) (by omega)
      refine ⟨.int a, s', ?_, d', a, rfl, a1, by omega⟩
      simp [runFn, runIni, MP.start, exs, exe, ev, evs, evo, evr, cmpD, binD, ixD, slD, b1D, b2D, isaD, truD, lenD, itD, bT_nm, bT_tup, bT_lst, bTs_nil, bTs_cons, parE, at', isFresh, negD, isNon, L2.atI, L2.ixN, slotsT, slotsTs, wipeE, Rs.nox, lim, e]) (r := .rg1 (.var 1)) (by
      simp [runFn, runIni, MP.start, exs, exe, ev, evs, evo, evr, cmpD, binD, ixD, slD, b1D, b2D, isaD, truD, lenD, itD, bT_nm, bT_tup, bT_lst, bTs_nil, bTs_cons, parE, at', isFresh, negD, isNon, L2.atI, L2.ixN, slotsT, slotsTs, wipeE, Rs.nox, lim, rgD_nat (n := 1 + x1) (by omega) (by omega)])
  obtain ⟨r, rfl, hr⟩ := ex_map (g := D.int) p3
  rw [List.length_map] at l3
  obtain ⟨x4, s4, e4, d4, y5, y6⟩ := r_next (T := T) (N := N) (n + 3) d3 (b := 4) (by omega) (by omega)
  obtain ⟨loose, hlo⟩ : ∃ loose : Int, ixD (.lst [.int 1, .int 2, .int 2, .int (1 + x2)]) (.int x4) = some (.int loose) ∧ 1 ≤ loose ∧ loose ≤ 1000000000000000000000000000001 := by
    have : x4 = 0 ∨ x4 = 1 ∨ x4 = 2 ∨ x4 = 3 := by omega
    rcases this with rfl | rfl | rfl | rfl
    · exact ⟨1, rfl, by omega, by omega⟩
    · exact ⟨2, rfl, by omega, by omega⟩
    · exact ⟨2, rfl, by omega, by omega⟩
    · exact ⟨1 + x2, rfl, by omega, by omega⟩
  obtain ⟨hlo, lo1, lo2⟩ := hlo
  obtain ⟨x5, s5, e5, d5, y7, y8⟩ := r_next (T := T) (N := N) (n + 3) d4 (b := w0 + 1) (by omega) (by omega)
  obtain ⟨fds, s6, e6, d6, l6, p6⟩ := rows_of (s := s5) (c := ⟨callN T N (n + 3), N⟩) (e := .call (.law 2) (.cons (.var 0) (.cons (.var 4) (.cons (.var 5) .nil)))) (ρ := [some (.hnd 0), some (.int (1 + x1)), some (.int x2), some (.int w0), some (.lst (r.map D.int)), some (.int loose), none, none]) (i := 7) (k := x5) (P := fun d => ∃ f, d = fD f ∧ okF (1 + x1) f ∧ f.2.2.2 ≤ 99999999999999999999999999999999) d5 (by omega) (by omega)
    (fun x s hs => by
      obtain ⟨f, s', e, d', hf, hf2⟩ := r_drawfact2 (T := T) (N := N) (n := n) h.l1 h.l2 hs (r := r) (M := x2) (loose := loose) (by omega) (by omega) hr (by omega) (by omega) lo1 lo2
      refine ⟨fD f, s', ?_, d', f, rfl, by rw [← l3]; exact hf, hf2⟩
      simp [runFn, runIni, MP.start, exs, exe, ev, evs, evo, evr, cmpD, binD, ixD, slD, b1D, b2D, isaD, truD, lenD, itD, bT_nm, bT_tup, bT_lst, bTs_nil, bTs_cons, parE, at', isFresh, negD, isNon, L2.atI, L2.ixN, slotsT, slotsTs, wipeE, Rs.nox, lim, e]) (r := .rg1 (.int x5)) (by
      simp [runFn, runIni, MP.start, exs, exe, ev, evs, evo, evr, cmpD, binD, ixD, slD, b1D, b2D, isaD, truD, lenD, itD, bT_nm, bT_tup, bT_lst, bTs_nil, bTs_cons, parE, at', isFresh, negD, isNon, L2.atI, L2.ixN, slotsT, slotsTs, wipeE, Rs.nox, lim, rgD_nat (n := x5) (by omega) (by omega)])
  obtain ⟨fs, rfl, hf⟩ := ex_map (g := fD) p6
  rw [List.length_map] at l6
  have e6' : ev ⟨callN T N (n + 3), N⟩ f_law_3_c1 [some (.hnd 0), some (.int (1 + x1)), some (.int x2), some (.int w0), some (.lst (r.map D.int)), some (.int loose), none, none] s4 = .ok (.lst (fs.map fD)) s6 := by
    have : evr ⟨callN T N (n + 3), N⟩ (.rg1 (.call .next (.cons (.var 0) (.cons (.bin .add (.var 3) (.int 1)) .nil)))) [some (.hnd 0), some (.int (1 + x1)), some (.int x2), some (.int w0), some (.lst (r.map D.int)), some (.int loose), none, none] s4 = evr ⟨callN T N (n + 3), N⟩ (.rg1 (.int x5)) [some (.hnd 0), some (.int (1 + x1)), some (.int x2), some (.int w0), some (.lst (r.map D.int)), some (.int loose), none, none] s5 := by
      simp [runFn, runIni, MP.start, exs, exe, ev, evs, evo, evr, cmpD, binD, ixD, slD, b1D, b2D, isaD, truD, lenD, itD, bT_nm, bT_tup, bT_lst, bTs_nil, bTs_cons, parE, at', isFresh, negD, isNon, L2.atI, L2.ixN, slotsT, slotsTs, wipeE, Rs.nox, lim, e5]
    unfold f_law_3_c1
    rw [ev] at e6 ⊢
    rw [this]
    exact e6
  have e3' : ev ⟨callN T N (n + 3), N⟩ f_law_3_c0 [some (.hnd 0), some (.int (1 + x1)), some (.int x2), some (.int w0), none, none, none, none] s2 = .ok (.lst (r.map D.int)) s3 := e3
  refine ⟨1 + x1, x2, fs, s6, ?_, d6, by omega, by omega, y3, by omega, by omega, hf⟩
  rw [calll h.l3]
  simp [f_law_3, runFn, start, exs, exe, ev, evs, bT_nm, bT_tup, bTs_nil, bTs_cons, binD, e1, e2, e3', e4, hlo, e6', lim, b1D]
theorem r_drawbook (h : Ld T) (hd : Dr s) {c0 m0 w0 : Int} (c1 : 1 ≤ c0) (c2 : c0 ≤ 20) (m1 : 0 ≤ m0) (m2 : m0 ≤ 1000000000000000000000000000000) (w1 : 0 ≤ w0) (w2 : w0 ≤ 12) :
    ∃ (cells most : Int) (fs : List F4) (s' : Sto), callN T N (n + 4) (.law 3) [.hnd 0, .int c0, .int m0, .int w0] s = .ok (.lst [.int cells, .int most, .tup (fs.map fD)]) s' ∧ Dr s' ∧ 1 ≤ cells ∧ cells ≤ c0 ∧ 0 ≤ most ∧ most ≤ m0 ∧ (fs.length : Int) ≤ w0 ∧ ∀ f ∈ fs, okF cells f := by
  obtain ⟨cells, most, fs, s', h1, h2, h3, h4, h5, h6, h7, h8⟩ := r_drawbook2 (T := T) (N := N) (n := n) h hd c1 c2 m1 m2 w1 w2
  exact ⟨cells, most, fs, s', h1, h2, h3, h4, h5, h6, h7, fun f hf => (h8 f hf).1⟩
theorem r_holds (h4 : T (.law 4) = some f_law_4) {r : List Int} {f : F4} : callN T N (n + 1) (.law 4) [rowD r, fD f] s = .ok (.bl (fits r f)) s := by
  rw [calll h4]
  have hs : b1D .sum (.tup (cutL (r.map D.int) (some f.1) (some f.2.1))) = some (.int (seg r f)) := by
    show (intsOf (cutL (r.map D.int) (some f.1) (some f.2.1))).map _ = _
    rw [cutL_map, intsOf_map]
    rfl
  unfold fits
  by_cases h1 : f.2.2.1 ≤ seg r f <;> simp [f_law_4, runFn, start, exs, exe, ev, evo, ixD, slD, L2.atI, L2.ixN, fD, rowD, hs, cmpD, h1]
end
end MP

end
section
set_option linter.all false
/-! Ways in graphs: least weights; plain Lean. -/
namespace MP
abbrev Eg := Nat × Nat × Int
/-- ways from a -/
inductive Wk (E : List Eg) (a : Nat) : Nat → Int → Prop
  | nil : Wk E a a 0
  | snoc {b c : Nat} {w x : Int} : Wk E a b w → (b, c, x) ∈ E → Wk E a c (w + x)
def Feas (p : Nat → Int) (E : List Eg) : Prop := ∀ a b w, (a, b, w) ∈ E → p b ≤ p a + w
def Dist (E : List Eg) (a b : Nat) (d : Int) : Prop := Wk E a b d ∧ ∀ w, Wk E a b w → d ≤ w
section
variable {E E' : List Eg} {a b c : Nat} {w v d d' : Int} {p : Nat → Int}
theorem Wk.one (h : (a, b, w) ∈ E) : Wk E a b w := by
  have := Wk.snoc (Wk.nil (E := E) (a := a)) h
  rwa [Int.zero_add] at this
theorem Wk.append (h : Wk E a b w) (k : Wk E b c v) : Wk E a c (w + v) := by
  induction k with
  | nil => rw [Int.add_zero]; exact h
  | snoc k e ih => rw [← Int.add_assoc]; exact .snoc ih e
theorem Wk.mono (hs : ∀ e, e ∈ E → e ∈ E') (h : Wk E a b w) : Wk E' a b w := by
  induction h with
  | nil => exact .nil
  | snoc h e ih => exact .snoc ih (hs _ e)
theorem Wk.feas (hp : Feas p E) (h : Wk E a b w) : p b ≤ p a + w := by
  induction h with
  | nil => omega
  | snoc h e ih => have := hp _ _ _ e; omega
theorem Dist.unique (h : Dist E a b d) (h' : Dist E a b d') : d = d' := by
  have := h.2 _ h'.1; have := h'.2 _ h.1; omega
theorem Dist.congr (hs : ∀ e, e ∈ E ↔ e ∈ E') (h : Dist E a b d) : Dist E' a b d :=
  ⟨h.1.mono fun e => (hs e).mp, fun w hw => h.2 w (hw.mono fun e => (hs e).mpr)⟩
theorem Dist.tri {x y z : Int} (h : Dist E a b x) (k : Dist E b c y) (l : Dist E a c z) : z ≤ x + y := l.2 _ (h.1.append k.1)
theorem Dist.edge {x y : Int} (h : Dist E a b x) (e : (b, c, w) ∈ E) (l : Dist E a c y) : y ≤ x + w := l.2 _ (.snoc h.1 e)
theorem Dist.self (hp : Feas p E) : Dist E a a 0 := ⟨.nil, fun w h => by have := h.feas hp; omega⟩
theorem Dist.feas (hp : Feas p E) (h : Dist E a b d) : p b ≤ p a + d := h.1.feas hp
theorem least_int {P : Int → Prop} {lo : Int} (hlo : ∀ x, P x → lo ≤ x) : ∀ {n : Nat} {x : Int}, P x → (x - lo).toNat ≤ n → ∃ d, P d ∧ ∀ y, P y → d ≤ y
  | 0, x, hx, hn => ⟨x, hx, fun y hy => by have := hlo x hx; have := hlo y hy; omega⟩
  | n + 1, x, hx, hn => by
    by_cases h : ∃ y, P y ∧ y < x
    · obtain ⟨y, hy, hlt⟩ := h
      exact least_int (n := n) hlo hy (by have := hlo y hy; omega)
    · exact ⟨x, hx, fun y hy => by
        by_cases q : y < x
        · exact absurd ⟨y, hy, q⟩ h
        · omega⟩
theorem exists_dist (hp : Feas p E) (h : Wk E a b w) : ∃ d, Dist E a b d := by
  obtain ⟨d, h1, h2⟩ := least_int (P := Wk E a b) (lo := p b - p a) (fun x hx => by have := hx.feas hp; omega) h (Nat.le_refl _)
  exact ⟨d, h1, h2⟩
end
/-! ### one after the other: each edge again and again -/
abbrev Fd := List (Option Int)
def gt (f : Fd) (v : Nat) : Option Int := f.getD v none
def relax (st : Fd × Bool) (e : Eg) : Fd × Bool := match gt st.1 e.1, gt st.1 e.2.1 with
  | some x, none => (st.1.set e.2.1 (some (x + e.2.2)), true)
  | some x, some y => if x + e.2.2 < y then (st.1.set e.2.1 (some (x + e.2.2)), true) else st
  | none, _ => st
def pass (E : List Eg) (f : Fd) : Fd × Bool := E.foldl relax (f, false)
def bf (E : List Eg) : Nat → Fd → Option Fd
  | 0, _ => none
  | k + 1, f => if (pass E f).2 then bf E k (pass E f).1 else some (pass E f).1
def dists (n : Nat) (E : List Eg) (s : Nat) : Option Fd := bf E (n + 1) ((List.replicate n none).set s (some 0))
section
variable {E : List Eg} {n s : Nat} {f g : Fd} {b : Bool} {p : Nat → Int}
theorem gt_set {i v : Nat} {x : Option Int} (h : i < f.length) : gt (f.set i x) v = if v = i then x else gt f v := by
  unfold gt
  rw [List.getD_eq_getElem?_getD, List.getD_eq_getElem?_getD]
  by_cases e : v = i
  · subst e; rw [if_pos rfl, List.getElem?_set_self h]; rfl
  · rw [if_neg e, List.getElem?_set_ne (Ne.symm e)]
theorem relax_len (st : Fd × Bool) (e : Eg) : (relax st e).1.length = st.1.length := by
  unfold relax
  split
  · simp
  · split <;> simp
  · rfl
/-- what one step does -/
theorem relax_gt {st : Fd × Bool} {e : Eg} (h : e.2.1 < st.1.length) (v : Nat) : gt (relax st e).1 v = gt st.1 v ∨ (v = e.2.1 ∧ ∃ x, gt st.1 e.1 = some x ∧ gt (relax st e).1 v = some (x + e.2.2) ∧ ∀ y, gt st.1 v = some y → x + e.2.2 < y) := by
  unfold relax
  split
  · rename_i x h1 h2
    simp only
    rw [gt_set h]
    by_cases q : v = e.2.1
    · subst q
      rw [if_pos rfl]
      exact .inr ⟨rfl, x, h1, rfl, fun y hy => by rw [h2] at hy; cases hy⟩
    · rw [if_neg q]; exact .inl rfl
  · rename_i x y h1 h2
    split
    · rename_i hlt
      simp only
      rw [gt_set h]
      by_cases q : v = e.2.1
      · subst q
        rw [if_pos rfl]
        exact .inr ⟨rfl, x, h1, rfl, fun z hz => by rw [h2] at hz; cases hz; exact hlt⟩
      · rw [if_neg q]; exact .inl rfl
    · exact .inl rfl
  · exact .inl rfl
/-- behind the step the edge holds -/
theorem relax_holds {st : Fd × Bool} {e : Eg} (h : e.2.1 < st.1.length) {x : Int} (hx : gt st.1 e.1 = some x) : ∃ y, gt (relax st e).1 e.2.1 = some y ∧ y ≤ x + e.2.2 := by
  unfold relax
  rw [hx]
  cases h2 : gt st.1 e.2.1 with
  | none => exact ⟨x + e.2.2, by simp only; rw [gt_set h, if_pos rfl], by omega⟩
  | some y =>
    simp only
    split
    · exact ⟨x + e.2.2, by simp only; rw [gt_set h, if_pos rfl], by omega⟩
    · exact ⟨y, h2, by omega⟩
theorem relax_flag {st : Fd × Bool} {e : Eg} (h : (relax st e).2 = false) : relax st e = st ∧ st.2 = false ∧ ∀ x, gt st.1 e.1 = some x → ∃ y, gt st.1 e.2.1 = some y ∧ y ≤ x + e.2.2 := by
  unfold relax at h ⊢
  split at h
  · cases h
  · split at h
    · cases h
    · rename_i x y h1 h2 hn
      exact ⟨if_neg hn, h, fun z hz => by rw [h1] at hz; cases hz; exact ⟨y, h2, by omega⟩⟩
  · rename_i h1
    exact ⟨rfl, h, fun z hz => by rw [h1] at hz; cases hz⟩
theorem fold_flag : ∀ {E : List Eg} {st : Fd × Bool}, (E.foldl relax st).2 = false → E.foldl relax st = st ∧ st.2 = false ∧ ∀ e ∈ E, ∀ x, gt st.1 e.1 = some x → ∃ y, gt st.1 e.2.1 = some y ∧ y ≤ x + e.2.2
  | [], st, h => ⟨rfl, h, fun e he => by cases he⟩
  | e :: E, st, h => by
    rw [List.foldl_cons] at h ⊢
    obtain ⟨h1, h2, h3⟩ := fold_flag h
    obtain ⟨k1, k2, k3⟩ := relax_flag h2
    rw [k1] at h1 h3 ⊢
    exact ⟨h1, k2, fun e' he' => by
      rcases List.mem_cons.mp he' with rfl | he'
      · exact k3
      · exact h3 e' he'⟩
theorem fold_len : ∀ {E : List Eg} {st : Fd × Bool}, (E.foldl relax st).1.length = st.1.length
  | [], _ => rfl
  | e :: E, st => by rw [List.foldl_cons, fold_len, relax_len]
/-- what stands is the weight of a way -/
def Snd_ (E : List Eg) (s : Nat) (f : Fd) : Prop := ∀ v x, gt f v = some x → Wk E s v x
theorem relax_snd {st : Fd × Bool} {e : Eg} (h : e.2.1 < st.1.length) (he : e ∈ E) (hs : Snd_ E s st.1) : Snd_ E s (relax st e).1 := fun v x hx => by
  rcases relax_gt h v with q | ⟨rfl, y, h1, h2, _⟩
  · rw [q] at hx; exact hs v x hx
  · rw [h2] at hx; cases hx
    exact .snoc (hs _ _ h1) he
theorem relax_le {st : Fd × Bool} {e : Eg} (h : e.2.1 < st.1.length) {v : Nat} {x : Int} (hx : gt st.1 v = some x) : ∃ y, gt (relax st e).1 v = some y ∧ y ≤ x := by
  rcases relax_gt h v with q | ⟨rfl, y, h1, h2, h3⟩
  · rw [q]; exact ⟨x, hx, by omega⟩
  · exact ⟨_, h2, by have := h3 x hx; omega⟩
def Inb (n : Nat) (E : List Eg) : Prop := ∀ e ∈ E, e.1 < n ∧ e.2.1 < n
theorem fold_snd : ∀ {F : List Eg} {st : Fd × Bool}, (∀ e ∈ F, e ∈ E ∧ e.2.1 < st.1.length) → Snd_ E s st.1 → Snd_ E s (F.foldl relax st).1
  | [], st, _, hs => hs
  | e :: F, st, h, hs => by
    rw [List.foldl_cons]
    obtain ⟨h1, h2⟩ := h e (List.mem_cons_self ..)
    exact fold_snd (fun e' he' => by rw [relax_len]; exact h e' (List.mem_cons_of_mem _ he')) (relax_snd h2 h1 hs)
theorem fold_le : ∀ {F : List Eg} {st : Fd × Bool}, (∀ e ∈ F, e.2.1 < st.1.length) → ∀ {v : Nat} {x : Int}, gt st.1 v = some x → ∃ y, gt (F.foldl relax st).1 v = some y ∧ y ≤ x
  | [], st, _, v, x, hx => ⟨x, hx, by omega⟩
  | e :: F, st, h, v, x, hx => by
    rw [List.foldl_cons]
    obtain ⟨y, h1, h2⟩ := relax_le (h e (List.mem_cons_self ..)) hx
    obtain ⟨z, h3, h4⟩ := fold_le (F := F) (st := relax st e) (fun e' he' => by rw [relax_len]; exact h e' (List.mem_cons_of_mem _ he')) h1
    exact ⟨z, h3, by omega⟩
def Fix (E : List Eg) (f : Fd) : Prop := ∀ e ∈ E, ∀ x, gt f e.1 = some x → ∃ y, gt f e.2.1 = some y ∧ y ≤ x + e.2.2
theorem bf_some : ∀ {k : Nat} {f : Fd}, Inb f.length E → Snd_ E s f → (∃ z, gt f s = some z ∧ z ≤ 0) → bf E k f = some g → g.length = f.length ∧ Snd_ E s g ∧ Fix E g ∧ ∃ z, gt g s = some z ∧ z ≤ 0
  | 0, f, _, _, _, h => by cases h
  | k + 1, f, hi, hs, hz, h => by
    unfold bf at h
    have hl : (pass E f).1.length = f.length := fold_len
    have hs' : Snd_ E s (pass E f).1 := fold_snd (st := (f, false)) (fun e he => ⟨he, (hi e he).2⟩) hs
    obtain ⟨z, z1, z2⟩ := hz
    obtain ⟨z', z3, z4⟩ := fold_le (F := E) (st := (f, false)) (fun e he => (hi e he).2) z1
    split at h
    · obtain ⟨h1, h2⟩ := bf_some (k := k) (f := (pass E f).1) (by rw [hl]; exact hi) hs' ⟨z', z3, by omega⟩ h
      exact ⟨h1.trans hl, h2⟩
    · rename_i hf
      cases h
      have hf' : (E.foldl relax (f, false)).2 = false := by simpa [pass] using hf
      obtain ⟨h1, h2, h3⟩ := fold_flag hf'
      refine ⟨hl, hs', ?_, z', z3, by omega⟩
      show Fix E (E.foldl relax (f, false)).1
      rw [h1]
      exact h3
theorem Fix.walk (hf : Fix E f) {v : Nat} {w : Int} {z : Int} (h : Wk E s v w) (hz : gt f s = some z) : ∃ y, gt f v = some y ∧ y ≤ z + w := by
  induction h with
  | nil => exact ⟨z, hz, by omega⟩
  | snoc h e ih =>
    obtain ⟨y, h1, h2⟩ := ih
    obtain ⟨y', h3, h4⟩ := hf _ e y h1
    exact ⟨y', h3, by simp only at h4; omega⟩
theorem init_gt {v : Nat} (hs : s < n) : gt ((List.replicate n none).set s (some 0)) v = if v = s then some 0 else none := by
  rw [gt_set (by simpa using hs)]
  split
  · rfl
  · unfold gt
    rw [List.getD_eq_getElem?_getD, List.getElem?_replicate]
    split <;> rfl
theorem dists_some (hi : Inb n E) (hs : s < n) (h : dists n E s = some g) : g.length = n ∧ gt g s = some 0 ∧ (∀ v w, Wk E s v w → ∃ d, gt g v = some d ∧ Dist E s v d) := by
  have hl : ((List.replicate n (none : Option Int)).set s (some 0)).length = n := by simp
  obtain ⟨h1, h2, h3, z, h4, h5⟩ := bf_some (s := s) (by rw [hl]; exact hi) (fun v x hx => by
    rw [init_gt hs] at hx
    split at hx
    · rename_i e; subst e; cases hx; exact .nil
    · cases hx) ⟨0, by rw [init_gt hs, if_pos rfl], by omega⟩ h
  have z0 : z = 0 := by
    obtain ⟨y, y1, y2⟩ := h3.walk (h2 _ _ h4) h4
    rw [h4] at y1; cases y1
    omega
  subst z0
  refine ⟨h1.trans hl, h4, fun v w hw => ?_⟩
  obtain ⟨d, d1, d2⟩ := h3.walk hw h4
  refine ⟨d, d1, h2 _ _ d1, fun w' hw' => ?_⟩
  obtain ⟨d', d3, d4⟩ := h3.walk hw' h4
  rw [d1] at d3; cases d3
  omega
/-- where each place is reached, the weights let themselves be kept -/
theorem dists_feas (hi : Inb n E) (hs : s < n) (hr : ∀ v, v < n → ∃ w, Wk E s v w) (h : dists n E s = some g) : Feas (fun v => (gt g v).getD 0) E := fun a b w he => by
  obtain ⟨ha, hb⟩ := hi _ he
  obtain ⟨_, _, h3⟩ := dists_some hi hs h
  obtain ⟨wa, ka⟩ := hr a ha
  obtain ⟨wb, kb⟩ := hr b hb
  obtain ⟨x, x1, x2⟩ := h3 _ _ ka
  obtain ⟨y, y1, y2⟩ := h3 _ _ kb
  simp only [x1, y1, Option.getD_some]
  exact x2.edge he y2
/-! ### it comes to an end -/
theorem countP_lt {α : Type} {P Q : α → Bool} : ∀ {l : List α}, (∀ x ∈ l, P x = true → Q x = true) → (∃ x ∈ l, Q x = true ∧ P x = false) → l.countP P < l.countP Q
  | [], _, h => by obtain ⟨x, hx, _⟩ := h; cases hx
  | y :: l, hpq, h => by
    have hle : l.countP P ≤ l.countP Q := List.countP_mono_left fun x hx => hpq x (List.mem_cons_of_mem _ hx)
    obtain ⟨x, hx, q1, q2⟩ := h
    rw [List.countP_cons, List.countP_cons]
    rcases List.mem_cons.mp hx with rfl | hx
    · rw [q1, q2]; simp; omega
    · have := countP_lt (fun z hz => hpq z (List.mem_cons_of_mem _ hz)) ⟨x, hx, q1, q2⟩
      have hy := hpq y (List.mem_cons_self ..)
      cases hP : P y with
      | false => simp; split <;> omega
      | true => rw [hy hP]; simp; omega
def tight (d : Nat → Int) (f : Fd) (v : Nat) : Bool := decide (gt f v = some (d v))
theorem relax_tight {d : Nat → Int} (hd : ∀ v, v < n → Dist E s v (d v)) {st : Fd × Bool} {e : Eg} (hl : st.1.length = n) (he : e ∈ E) (hi : Inb n E) (hs : Snd_ E s st.1) {v : Nat} (hv : v < n) (ht : tight d st.1 v = true) : tight d (relax st e).1 v = true := by
  have h2 : e.2.1 < st.1.length := by rw [hl]; exact (hi e he).2
  have ht' : gt st.1 v = some (d v) := of_decide_eq_true ht
  obtain ⟨y, h1, h3⟩ := relax_le h2 ht'
  have := (hd v hv).2 _ (relax_snd h2 he hs v y h1)
  unfold tight
  rw [h1]
  simp; omega
theorem fold_tight {d : Nat → Int} (hd : ∀ v, v < n → Dist E s v (d v)) (hi : Inb n E) : ∀ {F : List Eg} {st : Fd × Bool}, st.1.length = n → (∀ e ∈ F, e ∈ E) → Snd_ E s st.1 → ∀ {v : Nat}, v < n → tight d st.1 v = true → tight d (F.foldl relax st).1 v = true
  | [], st, _, _, _, v, _, ht => ht
  | e :: F, st, hl, hF, hs, v, hv, ht => by
    rw [List.foldl_cons]
    have he := hF e (List.mem_cons_self ..)
    exact fold_tight hd hi (by rw [relax_len]; exact hl) (fun e' he' => hF e' (List.mem_cons_of_mem _ he')) (relax_snd (by rw [hl]; exact (hi e he).2) he hs) hv (relax_tight hd hl he hi hs hv ht)
theorem pass_new {d : Nat → Int} (hd : ∀ v, v < n → Dist E s v (d v)) (hi : Inb n E) {a b : Nat} {w : Int} : ∀ {F : List Eg} {st : Fd × Bool}, st.1.length = n → (∀ e ∈ F, e ∈ E) → Snd_ E s st.1 → (a, b, w) ∈ F → tight d st.1 a = true → d b = d a + w → tight d (F.foldl relax st).1 b = true
  | [], st, _, _, _, hm, _, _ => by cases hm
  | e :: F, st, hl, hF, hs, hm, ha, hdb => by
    rw [List.foldl_cons]
    have he := hF e (List.mem_cons_self ..)
    have h2 : e.2.1 < st.1.length := by rw [hl]; exact (hi e he).2
    have hs' := relax_snd h2 he hs
    have hl' : (relax st e).1.length = n := by rw [relax_len]; exact hl
    have hF' : ∀ e ∈ F, e ∈ E := fun e' he' => hF e' (List.mem_cons_of_mem _ he')
    rcases List.mem_cons.mp hm with rfl | hm
    · have hb : b < n := (hi _ he).2
      refine fold_tight hd hi hl' hF' hs' hb ?_
      obtain ⟨y, y1, y2⟩ := relax_holds h2 (of_decide_eq_true ha)
      have := (hd b hb).2 _ (hs' b y y1)
      unfold tight
      rw [y1]
      simp at y2 ⊢; omega
    · have hav : a < n := (hi _ (hF' _ hm)).1
      exact pass_new hd hi hl' hF' hs' hm (relax_tight hd hl he hi hs hav ha) hdb
/-- a way from what is tight to what is not has a tight edge -/
theorem tight_edge {d : Nat → Int} (hd : ∀ v, v < n → Dist E s v (d v)) (hi : Inb n E) {f : Fd} (hs : tight d f s = true) {v : Nat} {w : Int} (h : Wk E s v w) (hv : v < n) (hw : w = d v) (ht : tight d f v = false) : ∃ a b x, (a, b, x) ∈ E ∧ tight d f a = true ∧ d b = d a + x ∧ b < n ∧ tight d f b = false := by
  induction h with
  | nil => rw [hs] at ht; cases ht
  | @snoc b c u x h e ih =>
    obtain ⟨hb, hc⟩ := hi _ e
    have h1 := (hd b hb).2 _ h
    have h2 := (hd b hb).edge e (hd c hv)
    have hu : u = d b := by omega
    cases hq : tight d f b with
    | true => exact ⟨b, c, x, e, hq, by omega, hv, ht⟩
    | false => exact ih hb hu hq
theorem bf_ends {d : Nat → Int} (hd : ∀ v, v < n → Dist E s v (d v)) (hi : Inb n E) (hsn : s < n) : ∀ {k : Nat} {f : Fd}, f.length = n → Snd_ E s f → tight d f s = true → n + 1 ≤ (List.range n).countP (tight d f) + k → bf E k f ≠ none
  | 0, f, hl, _, _, hk, _ => by
    have : (List.range n).countP (tight d f) ≤ (List.range n).length := List.countP_le_length
    rw [List.length_range] at this
    omega
  | k + 1, f, hl, hs, ht, hk, h => by
    unfold bf at h
    split at h
    · rename_i hf
      have hl' : (pass E f).1.length = n := by rw [← hl]; exact fold_len
      have hs' : Snd_ E s (pass E f).1 := fold_snd (st := (f, false)) (fun e he => ⟨he, by rw [hl]; exact (hi e he).2⟩) hs
      have keep : ∀ v, v < n → tight d f v = true → tight d (pass E f).1 v = true := fun v hv q => fold_tight (st := (f, false)) hd hi hl (fun e he => he) hs hv q
      refine bf_ends hd hi hsn hl' hs' (keep s hsn ht) ?_ h
      have : (List.range n).countP (tight d f) < (List.range n).countP (tight d (pass E f).1) := by
        refine countP_lt (fun v hv q => keep v (List.mem_range.mp hv) q) ?_
        by_cases all : ∀ v, v < n → tight d f v = true
        · exfalso
          have nomove : ∀ {F : List Eg}, (∀ e ∈ F, e ∈ E) → (F.foldl relax (f, false)) = (f, false) := by
            intro F
            induction F with
            | nil => intro _; rfl
            | cons e F ih =>
              intro hF
              rw [List.foldl_cons]
              have he := hF e (List.mem_cons_self ..)
              obtain ⟨h1, h2⟩ := hi e he
              have a1 : gt f e.1 = some (d e.1) := of_decide_eq_true (all _ h1)
              have a2 : gt f e.2.1 = some (d e.2.1) := of_decide_eq_true (all _ h2)
              have a3 : d e.2.1 ≤ d e.1 + e.2.2 := (hd _ h1).edge he (hd _ h2)
              have : relax (f, false) e = (f, false) := by
                unfold relax
                simp only [a1, a2]
                rw [if_neg (by omega)]
              rw [this]
              exact ih fun e' he' => hF e' (List.mem_cons_of_mem _ he')
          have := nomove (F := E) fun e he => he
          unfold pass at hf
          rw [this] at hf
          cases hf
        · obtain ⟨v, hv⟩ := Classical.not_forall.mp all
          rw [Classical.not_imp] at hv
          obtain ⟨hv, hq⟩ := hv
          obtain ⟨a, b, x, he, h1, h2, h3, h4⟩ := tight_edge hd hi ht (hd v hv).1 hv rfl (by simpa using hq)
          exact ⟨b, List.mem_range.mpr h3, pass_new (st := (f, false)) hd hi hl (fun e he => he) hs he h1 h2, h4⟩
      omega
    · cases h
theorem dists_ends (hp : Feas p E) (hi : Inb n E) (hs : s < n) (hr : ∀ v, v < n → ∃ w, Wk E s v w) : ∃ g, dists n E s = some g := by
  have hd : ∀ v, ∃ d, v < n → Dist E s v d := fun v => by
    by_cases hv : v < n
    · obtain ⟨w, hw⟩ := hr v hv
      obtain ⟨d, h⟩ := exists_dist hp hw
      exact ⟨d, fun _ => h⟩
    · exact ⟨0, fun h => absurd h hv⟩
  let d : Nat → Int := fun v => Classical.choose (hd v)
  have hd' : ∀ v, v < n → Dist E s v (d v) := fun v => Classical.choose_spec (hd v)
  have d0 : d s = 0 := (hd' s hs).unique (Dist.self hp)
  have t0 : tight d ((List.replicate n none).set s (some 0)) s = true := by
    unfold tight
    rw [init_gt hs, if_pos rfl, d0]
    simp
  have := bf_ends hd' hi hs (k := n + 1) (f := (List.replicate n none).set s (some 0)) (by simp) (fun v x hx => by
    rw [init_gt hs] at hx
    split at hx
    · rename_i e; subst e; cases hx; exact .nil
    · cases hx) t0 (by omega)
  cases q : dists n E s with
  | none => exact absurd q this
  | some g => exact ⟨g, rfl⟩
theorem dists_iff (hi : Inb n E) (hs : s < n) (hr : ∀ v, v < n → ∃ w, Wk E s v w) : (∃ g, dists n E s = some g) ↔ ∃ p, Feas p E :=
  ⟨fun ⟨g, h⟩ => ⟨_, dists_feas hi hs hr h⟩, fun ⟨p, h⟩ => dists_ends h hi hs hr⟩
end
end MP

end
section
set_option linter.all false
/-! Tables of least weights between all places. -/
namespace MP
def omin : Option Int → Option Int → Option Int
  | none, y => y
  | some a, none => some a
  | some a, some b => some (if b < a then b else a)
def oadd : Option Int → Option Int → Option Int
  | some a, some b => some (a + b)
  | _, _ => none
def OLe (x y : Option Int) : Prop := ∀ b, y = some b → ∃ a, x = some a ∧ a ≤ b
abbrev Tb := Nat → Nat → Option Int
def st2 (k : Nat) (T : Tb) (a b : Nat) : Tb := fun x y => if x = a ∧ y = b then omin (T a b) (oadd (T a k) (T k b)) else T x y
def row2 (k : Nat) (bs : List Nat) (T : Tb) (a : Nat) : Tb := bs.foldl (fun T b => st2 k T a b) T
def ph (n : Nat) (as : List Nat) (k : Nat) (T : Tb) : Tb := as.foldl (fun T a => row2 k (List.range n) T a) T
def fw (n : Nat) (ks : List Nat) (T : Tb) : Tb := ks.foldl (fun T k => ph n (List.range n) k T) T
theorem OLe.refl {x : Option Int} : OLe x x := fun b h => ⟨b, h, by omega⟩
theorem OLe.trans {x y z : Option Int} (h : OLe x y) (k : OLe y z) : OLe x z := fun b hb => by
  obtain ⟨a, h1, h2⟩ := k b hb
  obtain ⟨a', h3, h4⟩ := h a h1
  exact ⟨a', h3, by omega⟩
theorem omin_le1 {x y : Option Int} : OLe (omin x y) x := fun b h => by
  subst h
  cases y with
  | none => exact ⟨b, rfl, by omega⟩
  | some c => exact ⟨_, rfl, by split <;> omega⟩
theorem omin_le2 {x y : Option Int} : OLe (omin x y) y := fun b h => by
  subst h
  cases x with
  | none => exact ⟨b, rfl, by omega⟩
  | some c => exact ⟨_, rfl, by split <;> omega⟩
theorem omin_cases (x y : Option Int) : omin x y = x ∨ omin x y = y := by
  cases x with
  | none => exact .inr rfl
  | some a =>
    cases y with
    | none => exact .inl rfl
    | some b =>
      simp only [omin]
      split
      · exact .inr rfl
      · exact .inl rfl
theorem omin_idem {x y : Option Int} : omin (omin x y) y = omin x y := by
  cases x with
  | none => cases y <;> simp [omin]
  | some a =>
    cases y with
    | none => rfl
    | some b =>
      simp only [omin]
      congr 1
      by_cases h : b < a
      · rw [if_pos h, if_neg (by omega)]
      · rw [if_neg h, if_neg h]
theorem omin_of_le {x y : Option Int} (h : OLe x y) : omin x y = x := by
  cases x with
  | none =>
    cases y with
    | none => rfl
    | some b => obtain ⟨a, h1, _⟩ := h b rfl; cases h1
  | some a =>
    cases y with
    | none => rfl
    | some b =>
      obtain ⟨a', h1, h2⟩ := h b rfl
      cases h1
      simp only [omin]
      rw [if_neg (by omega)]
theorem oadd_le {x y x' y' : Option Int} (h : OLe x x') (k : OLe y y') : OLe (oadd x y) (oadd x' y') := fun b hb => by
  cases x' with
  | none => cases hb
  | some a =>
    cases y' with
    | none => cases hb
    | some c =>
      cases hb
      obtain ⟨a', h1, h2⟩ := h a rfl
      obtain ⟨c', h3, h4⟩ := k c rfl
      subst h1 h3
      exact ⟨_, rfl, by omega⟩
theorem oadd_assoc {x y z : Option Int} : oadd (oadd x y) z = oadd x (oadd y z) := by
  cases x <;> cases y <;> cases z <;> simp [oadd, Int.add_assoc]
/-- not below 0 -/
def Nn (x : Option Int) : Prop := ∀ z, x = some z → 0 ≤ z
theorem le_add_l {x y : Option Int} (h : Nn x) : OLe y (oadd x y) := fun b hb => by
  cases x with
  | none => cases hb
  | some a =>
    cases y with
    | none => cases hb
    | some c => cases hb; have := h a rfl; exact ⟨c, rfl, by omega⟩
theorem le_add_r {x y : Option Int} (h : Nn x) : OLe y (oadd y x) := fun b hb => by
  cases x with
  | none => cases y <;> cases hb
  | some a =>
    cases y with
    | none => cases hb
    | some c => cases hb; have := h a rfl; exact ⟨c, rfl, by omega⟩
section
variable {k : Nat} {T T' : Tb} {n : Nat}
/-! entries only fall -/
theorem st2_le (x y a b : Nat) : OLe (st2 k T a b x y) (T x y) := by
  unfold st2
  split
  · rename_i h; rw [h.1, h.2]; exact omin_le1
  · exact .refl
theorem row2_le (x y a : Nat) : ∀ {bs : List Nat} {T : Tb}, OLe (row2 k bs T a x y) (T x y)
  | [], T => .refl
  | b :: bs, T => by
    unfold row2
    rw [List.foldl_cons]
    exact OLe.trans (row2_le x y a (bs := bs) (T := st2 k T a b)) (st2_le x y a b)
theorem ph_le (x y : Nat) : ∀ {as : List Nat} {T : Tb}, OLe (ph n as k T x y) (T x y)
  | [], T => .refl
  | a :: as, T => by
    unfold ph
    rw [List.foldl_cons]
    exact OLe.trans (ph_le x y (as := as) (T := row2 k (List.range n) T a)) (row2_le x y a)
theorem fw_le (x y : Nat) : ∀ {ks : List Nat} {T : Tb}, OLe (fw n ks T x y) (T x y)
  | [], T => .refl
  | k :: ks, T => by
    unfold fw
    rw [List.foldl_cons]
    exact OLe.trans (fw_le x y (ks := ks) (T := ph n (List.range n) k T)) (ph_le x y)
/-! entries are weights of ways -/
def WS (E : List Eg) (T : Tb) : Prop := ∀ x y w, T x y = some w → Wk E x y w
variable {E : List Eg}
theorem st2_ws {a b : Nat} (h : WS E T) : WS E (st2 k T a b) := fun x y w hw => by
  unfold st2 at hw
  split at hw
  · rename_i e
    obtain ⟨rfl, rfl⟩ := e
    rcases omin_cases (T x y) (oadd (T x k) (T k y)) with q | q
    · rw [q] at hw; exact h _ _ _ hw
    · rw [q] at hw
      cases h1 : T x k with
      | none => rw [h1] at hw; cases hw
      | some u =>
        cases h2 : T k y with
        | none => rw [h1, h2] at hw; cases hw
        | some v =>
          rw [h1, h2] at hw
          cases hw
          exact (h _ _ _ h1).append (h _ _ _ h2)
  · exact h _ _ _ hw
theorem row2_ws {a : Nat} : ∀ {bs : List Nat} {T : Tb}, WS E T → WS E (row2 k bs T a)
  | [], T, h => h
  | b :: bs, T, h => by
    unfold row2
    rw [List.foldl_cons]
    exact row2_ws (bs := bs) (st2_ws h)
theorem ph_ws : ∀ {as : List Nat} {T : Tb}, WS E T → WS E (ph n as k T)
  | [], T, h => h
  | a :: as, T, h => by
    unfold ph
    rw [List.foldl_cons]
    exact ph_ws (as := as) (row2_ws h)
theorem fw_ws : ∀ {ks : List Nat} {T : Tb}, WS E T → WS E (fw n ks T)
  | [], T, h => h
  | k :: ks, T, h => by
    unfold fw
    rw [List.foldl_cons]
    exact fw_ws (ks := ks) (ph_ws h)
/-! one turn -/
def Dn (k : Nat) (T T' : Tb) (x y : Nat) : Prop := T' x y = omin (T x y) (oadd (T x k) (T k y))
structure Ri (k : Nat) (T T' : Tb) : Prop where
  r : ∀ y, T' k y = T k y
  c : ∀ x, T' x k = T x k
  e : ∀ x y, T' x y = T x y ∨ Dn k T T' x y
theorem row_k (hk : Nn (T k k)) (y : Nat) : omin (T k y) (oadd (T k k) (T k y)) = T k y := omin_of_le (le_add_l hk)
theorem col_k (hk : Nn (T k k)) (x : Nat) : omin (T x k) (oadd (T x k) (T k k)) = T x k := omin_of_le (le_add_r hk)
theorem st2_val {a b : Nat} (h : Ri k T T') : st2 k T' a b = fun x y => if x = a ∧ y = b then omin (T a b) (oadd (T a k) (T k b)) else T' x y := by
  funext x y
  unfold st2
  split
  · rw [h.c, h.r]
    rcases h.e a b with q | q
    · rw [q]
    · rw [q, omin_idem]
  · rfl
theorem st2_ri (hk : Nn (T k k)) {a b : Nat} (h : Ri k T T') : Ri k T (st2 k T' a b) := by
  rw [st2_val h]
  refine ⟨fun y => ?_, fun x => ?_, fun x y => ?_⟩
  · split
    · rename_i e
      obtain ⟨e1, e2⟩ := e
      subst e1; subst e2
      exact row_k hk _
    · exact h.r y
  · split
    · rename_i e
      obtain ⟨e1, e2⟩ := e
      subst e1; subst e2
      exact col_k hk _
    · exact h.c x
  · unfold Dn
    simp only
    split
    · rename_i e
      obtain ⟨e1, e2⟩ := e
      subst e1; subst e2
      exact .inr rfl
    · exact h.e x y
theorem st2_dn {a b x y : Nat} (h : Ri k T T') (hd : (x = a ∧ y = b) ∨ Dn k T T' x y) : Dn k T (st2 k T' a b) x y := by
  rw [st2_val h]
  unfold Dn
  simp only
  split
  · rename_i e; rw [e.1, e.2]
  · rename_i e
    rcases hd with hd | hd
    · exact absurd hd e
    · exact hd
theorem row2_ri (hk : Nn (T k k)) {a : Nat} : ∀ {bs : List Nat} {T' : Tb}, Ri k T T' → Ri k T (row2 k bs T' a) ∧ ∀ x y, ((x = a ∧ y ∈ bs) ∨ Dn k T T' x y) → Dn k T (row2 k bs T' a) x y
  | [], T', h => ⟨h, fun x y hd => hd.elim (fun z => by cases z.2) id⟩
  | b :: bs, T', h => by
    unfold row2
    rw [List.foldl_cons]
    obtain ⟨h1, h2⟩ := row2_ri hk (a := a) (bs := bs) (st2_ri hk (a := a) (b := b) h)
    refine ⟨h1, fun x y hd => h2 x y ?_⟩
    rcases hd with ⟨e, hm⟩ | hd
    · rcases List.mem_cons.mp hm with e2 | hm
      · exact .inr (st2_dn h (.inl ⟨e, e2⟩))
      · exact .inl ⟨e, hm⟩
    · exact .inr (st2_dn h (.inr hd))
theorem ph_ri (hk : Nn (T k k)) : ∀ {as : List Nat} {T' : Tb}, Ri k T T' → Ri k T (ph n as k T') ∧ ∀ x y, ((x ∈ as ∧ y < n) ∨ Dn k T T' x y) → Dn k T (ph n as k T') x y
  | [], T', h => ⟨h, fun x y hd => hd.elim (fun z => by cases z.1) id⟩
  | a :: as, T', h => by
    unfold ph
    rw [List.foldl_cons]
    obtain ⟨k1, k2⟩ := row2_ri hk (a := a) (bs := List.range n) h
    obtain ⟨h1, h2⟩ := ph_ri hk (as := as) k1
    refine ⟨h1, fun x y hd => h2 x y ?_⟩
    rcases hd with ⟨hm, hy⟩ | hd
    · rcases List.mem_cons.mp hm with e | hm
      · exact .inr (k2 x y (.inl ⟨e, List.mem_range.mpr hy⟩))
      · exact .inl ⟨hm, hy⟩
    · exact .inr (k2 x y (.inr hd))
theorem ph_spec (hk : Nn (T k k)) {x y : Nat} (hx : x < n) (hy : y < n) : ph n (List.range n) k T x y = omin (T x y) (oadd (T x k) (T k y)) :=
  (ph_ri (n := n) hk (as := List.range n) (T' := T) ⟨fun _ => rfl, fun _ => rfl, fun _ _ => .inl rfl⟩).2 x y (.inl ⟨List.mem_range.mpr hx, hy⟩)
/-! closed by m -/
def Cl1 (n : Nat) (T : Tb) (m : Nat) : Prop := ∀ a c, a < n → c < n → OLe (T a c) (oadd (T a m) (T m c))
theorem ph_cl (hkn : k < n) (hk : Nn (T k k)) {m : Nat} (hm : m < n) (h : Cl1 n T m) : Cl1 n (ph n (List.range n) k T) m := fun a c ha hc => by
  rw [ph_spec hk ha hc, ph_spec hk ha hm, ph_spec hk hm hc]
  rcases omin_cases (T a m) (oadd (T a k) (T k m)) with q | q <;> rcases omin_cases (T m c) (oadd (T m k) (T k c)) with r | r <;> rw [q, r]
  · exact OLe.trans omin_le1 (h a c ha hc)
  · -- a m, m k, k c
    refine OLe.trans omin_le2 ?_
    rw [← oadd_assoc]
    exact oadd_le (h a k ha hkn) .refl
  · refine OLe.trans omin_le2 ?_
    rw [oadd_assoc]
    exact oadd_le .refl (h k c hkn hc)
  · refine OLe.trans omin_le2 ?_
    rw [oadd_assoc]
    refine oadd_le .refl ?_
    rw [← oadd_assoc]
    refine OLe.trans (le_add_l hk) (oadd_le (h k k hkn hkn) .refl)
theorem ph_clk (hkn : k < n) (hk : Nn (T k k)) : Cl1 n (ph n (List.range n) k T) k := fun a c ha hc => by
  rw [ph_spec hk ha hc, ph_spec hk ha hkn, ph_spec hk hkn hc, row_k hk, col_k hk]
  exact omin_le2
theorem Nn.of_le {x y : Option Int} (h : OLe x y) (hx : Nn x) : Nn y := fun z hz => by
  obtain ⟨a, h1, h2⟩ := h z hz
  have := hx a h1
  omega
theorem fw_cl : ∀ {ks : List Nat} {T : Tb}, (∀ k ∈ ks, k < n) → (∀ v, v < n → Nn (fw n ks T v v)) → ∀ m, m < n → (m ∈ ks ∨ Cl1 n T m) → Cl1 n (fw n ks T) m
  | [], T, _, _, m, hm, h => h.elim (fun z => by cases z) id
  | k :: ks, T, hks, hn, m, hm, h => by
    unfold fw at hn ⊢
    rw [List.foldl_cons] at hn ⊢
    have hkn := hks k (List.mem_cons_self ..)
    have hk : Nn (T k k) := Nn.of_le (OLe.trans (fw_le k k (ks := ks)) (ph_le (n := n) k k)) (hn k hkn)
    refine fw_cl (ks := ks) (fun k' h' => hks k' (List.mem_cons_of_mem _ h')) hn m hm ?_
    rcases h with h | h
    · rcases List.mem_cons.mp h with rfl | h
      · exact .inr (ph_clk hkn hk)
      · exact .inl h
    · exact .inr (ph_cl hkn hk hm h)
/-- the table of a graph -/
structure T0 (n : Nat) (E : List Eg) (T : Tb) : Prop where
  ws : WS E T
  eg : ∀ a b w, (a, b, w) ∈ E → OLe (T a b) (some w)
  dg : ∀ v, v < n → OLe (T v v) (some 0)
theorem fw_dist (hi : Inb n E) (h0 : T0 n E T) (hn : ∀ v, v < n → Nn (fw n (List.range n) T v v)) {a b : Nat} {w : Int} (ha : a < n) (hw : Wk E a b w) : ∃ d, fw n (List.range n) T a b = some d ∧ Dist E a b d := by
  have cl : ∀ m, m < n → Cl1 n (fw n (List.range n) T) m := fun m hm => fw_cl (fun k hk => List.mem_range.mp hk) hn m hm (.inl (List.mem_range.mpr hm))
  have low : ∀ {b : Nat} {w : Int}, Wk E a b w → ∃ d, fw n (List.range n) T a b = some d ∧ d ≤ w := fun hw => by
    induction hw with
    | nil => exact OLe.trans (fw_le a a) (h0.dg a ha) 0 rfl
    | @snoc b c w x h e ih =>
      obtain ⟨d, h1, h2⟩ := ih
      obtain ⟨hb, hc⟩ := hi _ e
      obtain ⟨x', h3, h4⟩ := OLe.trans (fw_le (n := n) (ks := List.range n) b c) (h0.eg _ _ _ e) x rfl
      obtain ⟨z, h5, h6⟩ := cl b hb a c ha hc (d + x') (by rw [h1, h3]; rfl)
      exact ⟨z, h5, by omega⟩
  obtain ⟨d, h1, h2⟩ := low hw
  refine ⟨d, h1, fw_ws h0.ws _ _ _ h1, fun w' hw' => ?_⟩
  obtain ⟨d', h3, h4⟩ := low hw'
  rw [h1] at h3; cases h3
  exact h4
theorem fw_none (h0 : T0 n E T) {v : Nat} {z : Int} (hv : fw n (List.range n) T v v = some z) (hz : z < 0) (p : Nat → Int) : ¬ Feas p E := fun hp => by
  have := (fw_ws h0.ws _ _ _ hv).feas hp
  omega
theorem fw_feas (hi : Inb n E) (h0 : T0 n E T) (h1 : 0 < n) (hr : ∀ v, v < n → ∃ w, Wk E 0 v w) (hn : ∀ v, v < n → Nn (fw n (List.range n) T v v)) : ∃ p, Feas p E := by
  refine ⟨fun v => (fw n (List.range n) T 0 v).getD 0, fun a b w he => ?_⟩
  obtain ⟨ha, hb⟩ := hi _ he
  obtain ⟨wa, ka⟩ := hr a ha
  obtain ⟨wb, kb⟩ := hr b hb
  obtain ⟨x, x1, x2⟩ := fw_dist hi h0 hn h1 ka
  obtain ⟨y, y1, y2⟩ := fw_dist hi h0 hn h1 kb
  simp only [x1, y1, Option.getD_some]
  exact x2.edge he y2
end
end MP

end
section
set_option Elab.async false
set_option linter.all false
set_option maxRecDepth 100000
set_option maxHeartbeats 1000000
/-! Loops as folds; least weights by the program. -/
namespace MP
open PySem
theorem exs_nx {c : Cfg} {st : S} {r : Ss} {ρ ρ' : Env} {s s' : Sto} (h : exe c st ρ s = .nx ρ' s') {x : R} (k : exs c r ρ' s' = x) : exs c (.cons st r) ρ s = x := by
  rw [exs, h]
  exact k
theorem exs_rt {c : Cfg} {st : S} {r : Ss} {ρ : Env} {s s' : Sto} {d : D} (h : exe c st ρ s = .rt d s') : exs c (.cons st r) ρ s = .rt d s' := by
  rw [exs, h]
  rfl
theorem exs_ex {c : Cfg} {st : S} {r : Ss} {ρ ρ' : Env} {s s' : Sto} {k : Cl} {ds : List D} (h : exe c st ρ s = .ex k ds ρ' s') : exs c (.cons st r) ρ s = .ex k ds ρ' s' := by
  rw [exs, h]
  rfl
theorem runFn_rt {c : Cfg} {fn : Fn} {ds : List D} {s s' : Sto} {d : D} (hl : ds.length = fn.pars) (h : exs c fn.body (start fn ds) s = .rt d s') : runFn c fn ds s = .ok d s' := by
  unfold runFn
  rw [if_pos hl, h]
theorem runFn_nx {c : Cfg} {fn : Fn} {ds : List D} {s s' : Sto} {ρ : Env} (hl : ds.length = fn.pars) (hf : fn.fresh = false) (h : exs c fn.body (start fn ds) s = .nx ρ s') : runFn c fn ds s = .ok .non s' := by
  unfold runFn
  rw [if_pos hl, h, hf]
  rfl
theorem runFn_ex {c : Cfg} {fn : Fn} {ds : List D} {s s' : Sto} {k : Cl} {es : List D} {ρ : Env} (hl : ds.length = fn.pars) (h : exs c fn.body (start fn ds) s = .ex k es ρ s') : runFn c fn ds s = .ex k es s' := by
  unfold runFn
  rw [if_pos hl, h]
theorem ite_nx {c : Cfg} {t : E} {a : Ss} {ρ : Env} {s s' : Sto} (h : ev c t ρ s = .ok (.bl false) s') : exe c (.ite t a .nil) ρ s = .nx ρ s' := by
  rw [exe, h]
  simp [truD, exs]
theorem ite_t {c : Cfg} {t : E} {a b : Ss} {ρ : Env} {s s' : Sto} (h : ev c t ρ s = .ok (.bl true) s') : exe c (.ite t a b) ρ s = exs c a ρ s' := by
  rw [exe, h]
  simp [truD]
theorem ite_f {c : Cfg} {t : E} {a b : Ss} {ρ : Env} {s s' : Sto} (h : ev c t ρ s = .ok (.bl false) s') : exe c (.ite t a b) ρ s = exs c b ρ s' := by
  rw [exe, h]
  simp [truD]
theorem exe_ret {c : Cfg} {e : E} {ρ : Env} {s s' : Sto} {d : D} (h : ev c e ρ s = .ok d s') : exe c (.ret e) ρ s = .rt d s' := by
  rw [exe, h]
  rfl
theorem exe_expr {c : Cfg} {e : E} {ρ : Env} {s s' : Sto} {d : D} (h : ev c e ρ s = .ok d s') : exe c (.expr e) ρ s = .nx ρ s' := by
  rw [exe, h]
  rfl
theorem exe_asg {c : Cfg} {e : E} {ρ : Env} {s s' : Sto} {d : D} {i : Nat} (h : ev c e ρ s = .ok d s') : exe c (.asg (.nm i) e) ρ s = .nx (ρ.set i (some d)) s' := by
  rw [exe, h]
  rfl
structure Like (fn fn' : Fn) : Prop where
  n : fn.names.length = fn'.names.length
  p : fn.pars = fn'.pars
  b : fn.body = fn'.body
  f : fn.fresh = fn'.fresh
theorem Like.run {fn fn' : Fn} (h : Like fn fn') (c : Cfg) (ds : List D) (s : Sto) : runFn c fn ds s = runFn c fn' ds s := by
  obtain ⟨n1, p1, b1, f1⟩ := fn
  obtain ⟨n2, p2, b2, f2⟩ := fn'
  obtain ⟨h1, h2, h3, h4⟩ := h
  simp only at h1 h2 h3 h4
  subst h2 h3 h4
  unfold runFn start
  simp only [h1]
theorem Like.refl (fn : Fn) : Like fn fn := ⟨rfl, rfl, rfl, rfl⟩
/-- a law's def, but for its names -/
theorem callk {T : F → Option Fn} {N n : Nat} {s : Sto} {fn fn' : Fn} {ds : List D} {i : Nat} (h : T (.law i) = some fn) (l : Like fn fn') : callN T N (n + 1) (.law i) ds s = runFn ⟨callN T N n, N⟩ fn' ds s := by
  rw [calll h, l.run]
theorem forL_fold {α σ : Type} {f : D → Env → Sto → R} {s : Sto} {P : σ → Env → Prop} {g : α → D} {step : σ → α → σ} : ∀ {l : List α} {st : σ} {ρ : Env}, (∀ a ∈ l, ∀ st ρ, P st ρ → ∃ ρ', f (g a) ρ s = .nx ρ' s ∧ P (step st a) ρ') → P st ρ →
    ∃ ρ', forL f (l.map g) ρ s = .nx ρ' s ∧ P (l.foldl step st) ρ'
  | [], st, ρ, _, hp => ⟨ρ, rfl, hp⟩
  | a :: l, st, ρ, h, hp => by
    obtain ⟨ρ1, e1, p1⟩ := h a (List.mem_cons_self ..) st ρ hp
    obtain ⟨ρ2, e2, p2⟩ := forL_fold (fun b hb => h b (List.mem_cons_of_mem _ hb)) p1
    refine ⟨ρ2, ?_, p2⟩
    rw [List.map_cons]
    unfold forL
    rw [e1]
    exact e2
theorem lcL_map {α : Type} {f : D → Sto → Rs D} {g h : α → D} {s : Sto} : ∀ {l : List α} {acc : List D}, (∀ a ∈ l, f (g a) s = .ok (h a) s) → acc.length + l.length ≤ lim → lcL f acc (l.map g) s = .ok (.lst (acc ++ l.map h)) s
  | [], acc, _, _ => by simp [lcL]
  | a :: l, acc, hh, hl => by
    rw [List.length_cons] at hl
    rw [List.map_cons, List.map_cons]
    unfold lcL
    rw [hh a (List.mem_cons_self ..)]
    simp only [Rs.nox_ok, Rs.bind_ok]
    rw [if_pos (by omega), lcL_map (fun b hb => hh b (List.mem_cons_of_mem _ hb)) (by simp; omega)]
    simp
theorem ev_lc {α : Type} {c : Cfg} {e : E} {t : Tg} {r : Sr} {ρ : Env} {s : Sto} {g h : α → D} {l : List α} (hr : evr c r ρ s = .ok (l.map g) s) (hl : l.length ≤ lim) (hh : ∀ a ∈ l, ∃ ρ', bindT t (g a) (wipeE ρ (slotsT t)) = some ρ' ∧ ev c e ρ' s = .ok (h a) s) : ev c (.lc e t r) ρ s = .ok (.lst (l.map h)) s := by
  rw [ev, hr]
  simp only [Rs.bind_ok]
  rw [lcL_map (h := h) (fun a ha => ?_) (by simpa using hl)]
  · simp
  · obtain ⟨ρ', e1, e2⟩ := hh a ha
    rw [e1]
    exact e2
theorem rg_nat {k : Nat} (h : k < 1000000) : rgD 0 (k : Int) = some ((List.range k).map fun i => D.int ((i : Nat) : Int)) := by
  rw [rgD_nat (by omega) (by omega)]
  simp
theorem rgD_one {n : Int} (h0 : 1 ≤ n) (h : n < 1000000) : rgD 1 n = some ((List.range (n - 1).toNat).map fun i => .int (1 + (i : Nat))) := by
  unfold rgD
  rw [if_pos]
  simp; omega
theorem rg_one {k : Nat} (h : k < 1000000) (h1 : 1 ≤ k) : rgD 1 (k : Int) = some ((List.range (k - 1)).map fun i => D.int ((i + 1 : Nat) : Int)) := by
  rw [rgD_one (by omega) (by omega)]
  have e : ((k : Int) - 1).toNat = k - 1 := by omega
  have e2 : (fun i : Nat => D.int (1 + (i : Int))) = fun i : Nat => D.int ((i + 1 : Nat) : Int) := by
    funext i
    have : (1 : Int) + (i : Int) = ((i + 1 : Nat) : Int) := by omega
    rw [this]
  rw [e, e2]
theorem evr_rg1 {c : Cfg} {e : E} {ρ : Env} {s s' : Sto} {k : Int} (h : ev c e ρ s = .ok (.int k) s') (k0 : 0 ≤ k) (k1 : k < 1000000) : evr c (.rg1 e) ρ s = .ok ((List.range k.toNat).map fun i => .int (0 + (i : Nat))) s' := by
  rw [evr, h]
  simp only [Rs.bind_ok]
  rw [rgD_nat k0 k1]
  simp only [Rs.opt_some]
theorem evr_rg2 {c : Cfg} {a b : E} {ρ : Env} {s s' s2 : Sto} {k : Int} (ha : ev c a ρ s = .ok (.int 1) s') (h : ev c b ρ s' = .ok (.int k) s2) (k0 : 1 ≤ k) (k1 : k < 1000000) : evr c (.rg2 a b) ρ s = .ok ((List.range (k - 1).toNat).map fun i => .int (1 + (i : Nat))) s2 := by
  rw [evr, ha]
  simp only [Rs.bind_ok]
  rw [h]
  simp only [Rs.bind_ok]
  rw [rgD_one k0 k1]
  simp only [Rs.opt_some]
theorem evr_rg1n {c : Cfg} {e : E} {ρ : Env} {s s' : Sto} {k : Nat} (h : ev c e ρ s = .ok (.int (k : Int)) s') (k1 : k < 1000000) : evr c (.rg1 e) ρ s = .ok ((List.range k).map fun i => .int ((i : Nat) : Int)) s' := by
  have e1 := evr_rg1 h (by omega) (by omega)
  have e2 : (fun i : Nat => D.int (0 + (i : Int))) = fun i : Nat => D.int ((i : Nat) : Int) := by
    funext i
    rw [Int.zero_add]
  rw [Int.toNat_natCast, e2] at e1
  exact e1
theorem evr_rg2n {c : Cfg} {a b : E} {ρ : Env} {s s' s2 : Sto} {k : Nat} (ha : ev c a ρ s = .ok (.int 1) s') (h : ev c b ρ s' = .ok (.int (k : Int)) s2) (k0 : 1 ≤ k) (k1 : k < 1000000) : evr c (.rg2 a b) ρ s = .ok ((List.range (k - 1)).map fun i => .int ((i + 1 : Nat) : Int)) s2 := by
  have e1 := evr_rg2 ha h (by omega) (by omega)
  have e : ((k : Int) - 1).toNat = k - 1 := by omega
  have e2 : (fun i : Nat => D.int (1 + (i : Int))) = fun i : Nat => D.int ((i + 1 : Nat) : Int) := by
    funext i
    have : (1 : Int) + (i : Int) = ((i + 1 : Nat) : Int) := by omega
    rw [this]
  rw [e, e2] at e1
  exact e1
/-! ### plain data -/
def eD (e : Eg) : D := .tup [.int e.1, .int e.2.1, .int e.2.2]
def oD : Option Int → D
  | none => .non
  | some i => .int i
def fdD (f : Fd) : D := .lst (f.map oD)
theorem at_nat {α : Type} {l : List α} {i : Nat} (h : i < l.length) : L2.atI l (i : Int) = some l[i] := by
  unfold L2.atI L2.ixN
  rw [if_pos (by omega), if_pos (by omega)]
  simp [h]
theorem gt_get {f : Fd} {v : Nat} (h : v < f.length) : f[v] = gt f v := by
  unfold gt
  rw [List.getD_eq_getElem?_getD, List.getElem?_eq_getElem h]
  rfl
theorem ix_fd {f : Fd} {v : Nat} (h : v < f.length) : ixD (fdD f) (.int (v : Int)) = some (oD (gt f v)) := by
  show L2.atI (f.map oD) _ = _
  rw [at_nat (by simpa using h)]
  simp [gt_get h]
theorem set_fd {f : Fd} {v : Nat} {x : Option Int} (h : v < f.length) : setD (fdD f) (.int (v : Int)) (oD x) = some (fdD (f.set v x)) := by
  show (L2.ixN (f.map oD).length (v : Int)).map (fun j => D.lst ((f.map oD).set j (oD x))) = _
  have : L2.ixN (f.map oD).length (v : Int) = some v := by
    unfold L2.ixN
    rw [List.length_map, if_pos (by omega), if_pos (by omega)]
    simp
  rw [this]
  simp [fdD, List.map_set]
section
variable {T : F → Option Fn} {N n : Nat} {s : Sto}
theorem relax_run {c : Cfg} {v0 v1 v2 v4 : Option D} {f : Fd} {mv : Bool} {e : Eg} {x y z : Option D} (h1 : e.1 < f.length) (h2 : e.2.1 < f.length) :
    exs c f_p_9_b0 [v0, v1, v2, some (fdD f), v4, some (.bl mv), some (.int e.1), some (.int e.2.1), some (.int e.2.2)] s = .nx [v0, v1, v2, some (fdD (relax (f, mv) e).1), v4, some (.bl (relax (f, mv) e).2), some (.int e.1), some (.int e.2.1), some (.int e.2.2)] s := by
  have i1 := ix_fd h1
  have i2 := ix_fd h2
  unfold relax
  cases g1 : gt f e.1 with
  | none =>
    rw [g1] at i1
    simp [f_p_9_b0, exs, exe, ev, i1, cmpD, oD, isNon, truD, g1]
  | some x =>
    rw [g1] at i1
    have st := set_fd (x := some (x + e.2.2)) h2
    simp only [oD] at i1 st
    cases g2 : gt f e.2.1 with
    | none =>
      rw [g2] at i2
      simp [f_p_9_b0, exs, exe, ev, i1, i2, cmpD, oD, isNon, truD, g1, g2, binD, at', st, bT_nm]
    | some y =>
      rw [g2] at i2
      simp only [oD] at i2
      by_cases hlt : x + e.2.2 < y
      · simp [f_p_9_b0, exs, exe, ev, i1, i2, cmpD, oD, isNon, truD, g1, g2, binD, at', st, bT_nm, hlt]
      · simp [f_p_9_b0, exs, exe, ev, i1, i2, cmpD, oD, isNon, truD, g1, g2, binD, at', st, bT_nm, hlt]
theorem pass_run {c : Cfg} {v0 v1 v2 v4 : Option D} {f : Fd} {mv : Bool} {E : List Eg} {x y z : Option D} (hi : Inb f.length E) (hE : v1 = some (.lst (E.map eD))) :
    ∃ x' y' z', exe c f_p_9_l1 [v0, v1, v2, some (fdD f), v4, some (.bl mv), x, y, z] s = .nx [v0, v1, v2, some (fdD (E.foldl relax (f, mv)).1), v4, some (.bl (E.foldl relax (f, mv)).2), x', y', z'] s := by
  unfold f_p_9_l1
  rw [exe]
  have er : evr c (.of (.var 1)) [v0, v1, v2, some (fdD f), v4, some (.bl mv), x, y, z] s = .ok (E.map eD) s := by
    subst hE; rfl
  rw [er]
  simp only [Rs.go_ok]
  obtain ⟨ρ', e1, p1⟩ := forL_fold (s := s) (g := eD) (l := E) (st := (f, mv)) (step := relax) (P := fun st ρ => st.1.length = f.length ∧ ∃ x y z, ρ = [v0, v1, v2, some (fdD st.1), v4, some (.bl st.2), x, y, z])
    (f := fun x ρ s => match bindT (.tp (.cons (.nm 6) (.cons (.nm 7) (.cons (.nm 8) .nil)))) x ρ with
      | some ρ' => exs c f_p_9_b0 ρ' s
      | none => .st) (ρ := [v0, v1, v2, some (fdD f), v4, some (.bl mv), x, y, z])
    (fun e he st ρ ⟨hl, x, y, z, e0⟩ => by
      subst e0
      obtain ⟨h1, h2⟩ := hi e he
      refine ⟨_, ?_, by rw [relax_len]; exact hl, some (.int e.1), some (.int e.2.1), some (.int e.2.2), rfl⟩
      exact relax_run (x := none) (y := none) (z := none) (mv := st.2) (by rw [hl]; exact h1) (by rw [hl]; exact h2)) ⟨rfl, x, y, z, rfl⟩
  obtain ⟨_, x', y', z', e2⟩ := p1
  subst e2
  exact ⟨x', y', z', e1⟩
theorem turns_run {c : Cfg} {v0 v1 v2 : Option D} {E : List Eg} (hE : v1 = some (.lst (E.map eD))) : ∀ {xs : List D} {f : Fd} {t mv x y z : Option D}, Inb f.length E →
    (∃ g, bf E xs.length f = some g ∧ forL (fun x ρ s => match bindT (.nm 4) x ρ with
      | some ρ' => exs c f_p_9_b2 ρ' s
      | none => .st) xs [v0, v1, v2, some (fdD f), t, mv, x, y, z] s = .rt (fdD g) s) ∨ (bf E xs.length f = none ∧ ∃ ρ', forL (fun x ρ s => match bindT (.nm 4) x ρ with
      | some ρ' => exs c f_p_9_b2 ρ' s
      | none => .st) xs [v0, v1, v2, some (fdD f), t, mv, x, y, z] s = .nx ρ' s)
  | [], f, t, mv, x, y, z, _ => .inr ⟨rfl, _, rfl⟩
  | u :: xs, f, t, mv, x, y, z, hi => by
    obtain ⟨x', y', z', e1⟩ := pass_run (s := s) (c := c) (v0 := v0) (v1 := v1) (v2 := v2) (v4 := some u) (f := f) (mv := false) (E := E) (x := x) (y := y) (z := z) hi hE
    have hl : (E.foldl relax (f, false)).1.length = f.length := fold_len
    cases hm : (E.foldl relax (f, false)).2 with
    | false =>
      rw [hm] at e1
      refine .inl ⟨(pass E f).1, ?_, ?_⟩
      · rw [List.length_cons]
        unfold bf
        rw [if_neg (by unfold pass; rw [hm]; decide)]
      · unfold forL
        have : exs c f_p_9_b2 [v0, v1, v2, some (fdD f), some u, mv, x, y, z] s = .rt (fdD (pass E f).1) s := by
          simp [f_p_9_b2, exs, exe, ev, bT_nm, e1, truD]
          rfl
        simp only [bT_nm, List.set_cons_succ, List.set_cons_zero]
        rw [this]
        rfl
    | true =>
      rw [hm] at e1
      have hb : bf E (u :: xs).length f = bf E xs.length (pass E f).1 := by
        rw [List.length_cons]
        rw [bf]
        rw [if_pos (by unfold pass; rw [hm])]
      rw [hb]
      have : exs c f_p_9_b2 [v0, v1, v2, some (fdD f), some u, mv, x, y, z] s = .nx [v0, v1, v2, some (fdD (pass E f).1), some u, some (.bl true), x', y', z'] s := by
        simp [f_p_9_b2, exs, exe, ev, bT_nm, e1, truD]
        rfl
      have ih := turns_run (c := c) (v0 := v0) (v1 := v1) (v2 := v2) hE (xs := xs) (f := (pass E f).1) (t := some u) (mv := some (.bl true)) (x := x') (y := y') (z := z') (by unfold pass; rw [hl]; exact hi)
      unfold forL
      simp only [bT_nm, List.set_cons_succ, List.set_cons_zero] at ih ⊢
      rw [this]
      exact ih
theorem rep_non {many : Nat} : (List.replicate many [D.non]).flatten = (List.replicate many (none : Option Int)).map oD := by
  rw [List.map_replicate]
  induction many with
  | zero => rfl
  | succ k ih => rw [List.replicate_succ, List.flatten_cons, ih, List.replicate_succ]; rfl
theorem le_lim {n : Nat} (h : n ≤ 100000) : n ≤ lim := Nat.le_trans h (by decide)
theorem ev_rep {c : Cfg} {es : Es} {b : E} {ρ : Env} {s s1 s2 : Sto} {ds : List D} {k : Int} (h1 : evs c es ρ s = .ok ds s1) (hl : ds.length ≤ lim) (h2 : ev c b ρ s1 = .ok (.int k) s2) (h3 : (decide (k < 16777216) && decide (0 ≤ k) && decide (ds.length * k.toNat ≤ lim)) = true) : ev c (.rep es b) ρ s = .ok (.lst (List.replicate k.toNat ds).flatten) s2 := by
  rw [ev, h1]
  simp only [Rs.bind_ok]
  rw [if_pos hl, h2]
  simp only [Rs.bind_ok]
  rw [if_pos h3]
theorem rep_ok {many : Nat} (hn : many ≤ 1000) : (decide ((many : Int) < 16777216) && decide (0 ≤ (many : Int)) && decide (([D.non] : List D).length * ((many : Int)).toNat ≤ lim)) = true := by
  have h1 : ([D.non] : List D).length * ((many : Int)).toNat ≤ lim := by
    rw [Int.toNat_natCast, List.length_singleton, Nat.one_mul]
    exact le_lim (by omega)
  rw [decide_eq_true h1, Bool.and_true, Bool.and_eq_true, decide_eq_true_eq, decide_eq_true_eq]
  exact ⟨by omega, by omega⟩
theorem ev_rep1 {c : Cfg} {ρ : Env} {s : Sto} {many : Nat} (h0 : ρ[0]? = some (some (.int (many : Int)))) (hn : many ≤ 1000) : ev c (.rep (.cons .non .nil) (.var 0)) ρ s = .ok (fdD (List.replicate many none)) s := by
  rw [ev_rep (ds := [.non]) (s1 := s) (s2 := s) (k := (many : Int)) rfl (le_lim (by decide)) (ev_var h0) (rep_ok hn), Int.toNat_natCast, rep_non]
  rfl
theorem dist_u1 {c : Cfg} {v1 v2 : Option D} {many : Nat} (hn : many ≤ 1000) : exe c (.own 3 (.rep (.cons .non .nil) (.var 0))) [some (.int (many : Int)), v1, v2, none, none, none, none, none, none] s = .nx [some (.int (many : Int)), v1, v2, some (fdD (List.replicate many none)), none, none, none, none, none] s := by
  rw [exe, ev_rep1 rfl hn]
  rfl
theorem dist_u2 {c : Cfg} {v0 v1 : Option D} {many first : Nat} (hs : first < many) : exe c (.put 3 (.var 2) (.int 0)) [v0, v1, some (.int (first : Int)), some (fdD (List.replicate many none)), none, none, none, none, none] s = .nx [v0, v1, some (.int (first : Int)), some (fdD ((List.replicate many none).set first (some 0))), none, none, none, none, none] s := by
  have st := set_fd (f := List.replicate many none) (v := first) (x := some 0) (by simpa using hs)
  simp only [oD] at st
  simp [exe, ev, at', st]
def dsD : Option Fd → D
  | some g => fdD g
  | none => .non
theorem r_dist (h : T (.p 9) = some f_p_9) {many first : Nat} {E : List Eg} (hi : Inb many E) (hs : first < many) (hn : many ≤ 1000) : callN T N (n + 1) (.p 9) [.int (many : Int), .lst (E.map eD), .int (first : Int)] s = .ok (dsD (dists many E first)) s := by
  rw [callp h]
  have er : evr ⟨callN T N n, N⟩ (.rg1 (.bin .add (.var 0) (.int 1))) [some (.int (many : Int)), some (.lst (E.map eD)), some (.int (first : Int)), some (fdD ((List.replicate many none).set first (some 0))), none, none, none, none, none] s = .ok ((List.range (many + 1)).map fun i => .int ((i : Nat) : Int)) s :=
    evr_rg1n (by rfl) (by omega)
  have tr := turns_run (s := s) (c := ⟨callN T N n, N⟩) (v0 := some (.int (many : Int))) (v1 := some (.lst (E.map eD))) (v2 := some (.int (first : Int))) (E := E) rfl (xs := (List.range (many + 1)).map fun i => D.int ((i : Nat) : Int)) (f := (List.replicate many none).set first (some 0)) (t := none) (mv := none) (x := none) (y := none) (z := none) (by simpa using hi)
  rw [List.length_map, List.length_range] at tr
  have u1 := dist_u1 (s := s) (c := ⟨callN T N n, N⟩) (v1 := some (.lst (E.map eD))) (v2 := some (.int (first : Int))) (many := many) hn
  have u2 := dist_u2 (s := s) (c := ⟨callN T N n, N⟩) (v0 := some (.int (many : Int))) (v1 := some (.lst (E.map eD))) (many := many) hs
  have u3 : exe ⟨callN T N n, N⟩ f_p_9_l3 [some (.int (many : Int)), some (.lst (E.map eD)), some (.int (first : Int)), some (fdD ((List.replicate many none).set first (some 0))), none, none, none, none, none] s = forL (fun x ρ s => match bindT (.nm 4) x ρ with
      | some ρ' => exs ⟨callN T N n, N⟩ f_p_9_b2 ρ' s
      | none => .st) ((List.range (many + 1)).map fun i => D.int ((i : Nat) : Int)) [some (.int (many : Int)), some (.lst (E.map eD)), some (.int (first : Int)), some (fdD ((List.replicate many none).set first (some 0))), none, none, none, none, none] s := by
    unfold f_p_9_l3
    rw [exe, er]
    rfl
  rcases tr with ⟨g, e1, e2⟩ | ⟨e1, ρ', e2⟩
  · rw [show dists many E first = some g from e1]
    rw [e2] at u3
    exact runFn_rt rfl (exs_nx u1 (exs_nx u2 (exs_rt u3)))
  · rw [show dists many E first = none from e1]
    rw [e2] at u3
    exact runFn_rt rfl (exs_nx u1 (exs_nx u2 (exs_nx u3 (exs_rt rfl))))
end
end MP

end
section
set_option Elab.async false
set_option linter.all false
set_option maxRecDepth 100000
set_option maxHeartbeats 1000000
/-! Books as graphs; rows as weights; the least row. Plain Lean. -/
namespace MP
open PySem
def cEd (cells : Nat) (most : Int) : List Eg := (List.range cells).flatMap fun k => [(k, k + 1, most), (k + 1, k, 0)]
def fEd (fs : List F4) : List Eg := fs.flatMap fun f => [(f.1.toNat, f.2.1.toNat, f.2.2.2), (f.2.1.toNat, f.1.toNat, -f.2.2.1)]
def bEd (cells : Nat) (most : Int) (fs : List F4) : List Eg := cEd cells most ++ fEd fs
section
variable {cells : Nat} {most : Int} {fs : List F4} {E : List Eg} {r : List Int} {p : Nat → Int}
theorem mem_cEd {e : Eg} : e ∈ cEd cells most ↔ ∃ k, k < cells ∧ (e = (k, k + 1, most) ∨ e = (k + 1, k, 0)) := by
  unfold cEd
  rw [List.mem_flatMap]
  constructor
  · rintro ⟨k, hk, h⟩
    exact ⟨k, List.mem_range.mp hk, by simpa using h⟩
  · rintro ⟨k, hk, h⟩
    exact ⟨k, List.mem_range.mpr hk, by simpa using h⟩
theorem mem_fEd {e : Eg} : e ∈ fEd fs ↔ ∃ f ∈ fs, e = (f.1.toNat, f.2.1.toNat, f.2.2.2) ∨ e = (f.2.1.toNat, f.1.toNat, -f.2.2.1) := by
  unfold fEd
  rw [List.mem_flatMap]
  constructor
  · rintro ⟨k, hk, h⟩
    exact ⟨k, hk, by simpa using h⟩
  · rintro ⟨k, hk, h⟩
    exact ⟨k, hk, by simpa using h⟩
theorem cEd_in : ∀ e, e ∈ cEd cells most → e ∈ bEd cells most fs := fun e h => List.mem_append_left _ h
theorem inb_c : Inb (cells + 1) (cEd cells most) := fun e he => by
  obtain ⟨k, hk, rfl | rfl⟩ := mem_cEd.mp he <;> exact ⟨by simp only; omega, by simp only; omega⟩
theorem inb_f (hf : ∀ f ∈ fs, okF cells f) : Inb (cells + 1) (fEd fs) := fun e he => by
  obtain ⟨f, hm, h⟩ := mem_fEd.mp he
  obtain ⟨h1, h2, h3, _⟩ := hf f hm
  rcases h with rfl | rfl <;> exact ⟨by simp only; omega, by simp only; omega⟩
theorem Inb.append {n : Nat} {E E' : List Eg} (h : Inb n E) (h' : Inb n E') : Inb n (E ++ E') := fun e he => (List.mem_append.mp he).elim (h e) (h' e)
theorem inb_b (hf : ∀ f ∈ fs, okF cells f) : Inb (cells + 1) (bEd cells most fs) := inb_c.append (inb_f hf)
theorem reach_up (h : ∀ e, e ∈ cEd cells most → e ∈ E) (a : Nat) : ∀ d, a + d ≤ cells → ∃ w, Wk E a (a + d) w
  | 0, _ => ⟨0, .nil⟩
  | d + 1, hd => by
    obtain ⟨w, hw⟩ := reach_up h a d (by omega)
    exact ⟨w + most, .snoc hw (h _ (mem_cEd.mpr ⟨a + d, by omega, .inl rfl⟩))⟩
theorem reach_dn (h : ∀ e, e ∈ cEd cells most → e ∈ E) (b : Nat) : ∀ d, b + d ≤ cells → ∃ w, Wk E (b + d) b w
  | 0, _ => ⟨0, .nil⟩
  | d + 1, hd => by
    obtain ⟨w, hw⟩ := reach_dn h b d (by omega)
    have h1 : Wk E (b + (d + 1)) (b + d) 0 := .one (h _ (mem_cEd.mpr ⟨b + d, by omega, .inr rfl⟩))
    exact ⟨0 + w, h1.append hw⟩
theorem reach (h : ∀ e, e ∈ cEd cells most → e ∈ E) {a b : Nat} (ha : a ≤ cells) (hb : b ≤ cells) : ∃ w, Wk E a b w := by
  by_cases q : a ≤ b
  · obtain ⟨d, rfl⟩ := Nat.le.dest q
    exact reach_up h a d hb
  · obtain ⟨d, rfl⟩ := Nat.le.dest (show b ≤ a by omega)
    exact reach_dn h b d ha
/-! ### rows and weights -/
def pot (r : List Int) (v : Nat) : Int := (r.take v).sum
theorem pot_zero : pot r 0 = 0 := by simp [pot]
theorem take_sum : ∀ {r : List Int} {k : Nat} (h : k < r.length), (r.take (k + 1)).sum = (r.take k).sum + r[k]
  | x :: r, 0, _ => by simp
  | x :: r, k + 1, h => by
    have := take_sum (r := r) (k := k) (by simpa using h)
    rw [List.take_succ_cons, List.take_succ_cons, List.sum_cons, List.sum_cons, this]
    simp only [List.getElem_cons_succ]
    omega
theorem pot_succ {k : Nat} (h : k < r.length) : pot r (k + 1) = pot r k + r[k] := take_sum h
theorem sIx_nat {n d : Nat} {k : Int} (h : 0 ≤ k) : HT.sIx n d (some k) = min k.toNat n := by
  obtain ⟨m, rfl⟩ : ∃ m : Nat, k = m := ⟨k.toNat, by omega⟩
  rw [Int.toNat_natCast]
  exact HT.sIx_nat n d m
theorem cut_nat {α : Type} {l : List α} {b e : Int} (hb : 0 ≤ b) (he : b ≤ e) (hl : e ≤ l.length) : cutL l (some b) (some e) = (l.take e.toNat).drop b.toNat := by
  unfold cutL
  rw [sIx_nat hb, sIx_nat (by omega), Nat.min_eq_left (by omega), Nat.min_eq_left (by omega), List.drop_take]
theorem seg_pot {f : F4} (hb : 0 ≤ f.1) (he : f.1 ≤ f.2.1) (hl : f.2.1 ≤ r.length) : seg r f = pot r f.2.1.toNat - pot r f.1.toNat := by
  unfold seg pot
  rw [cut_nat hb he hl]
  have h := List.take_append_drop f.1.toNat (r.take f.2.1.toNat)
  rw [List.take_take, Nat.min_eq_left (by omega)] at h
  have h2 := congrArg List.sum h
  rw [List.sum_append] at h2
  omega
structure RowOk (cells : Nat) (most : Int) (r : List Int) : Prop where
  len : r.length = cells
  rng : ∀ x ∈ r, 0 ≤ x ∧ x ≤ most
def Fit (cells : Nat) (most : Int) (fs : List F4) (r : List Int) : Prop := RowOk cells most r ∧ ∀ f ∈ fs, fits r f = true
theorem fits_iff {f : F4} (hf : okF cells f) (hl : r.length = cells) : fits r f = true ↔ f.2.2.1 ≤ pot r f.2.1.toNat - pot r f.1.toNat ∧ pot r f.2.1.toNat - pot r f.1.toNat ≤ f.2.2.2 := by
  obtain ⟨h1, h2, h3, _⟩ := hf
  unfold fits
  rw [seg_pot h1 (by omega) (by omega), Bool.and_eq_true, decide_eq_true_eq, decide_eq_true_eq]
theorem fit_feas (hf : ∀ f ∈ fs, okF cells f) (h : Fit cells most fs r) : Feas (pot r) (bEd cells most fs) := fun a b w he => by
  rcases List.mem_append.mp he with he | he
  · obtain ⟨k, hk, e⟩ := mem_cEd.mp he
    have hk' : k < r.length := by rw [h.1.len]; exact hk
    have := pot_succ hk'
    have := h.1.rng _ (List.getElem_mem hk')
    rcases e with e | e <;> cases e <;> omega
  · obtain ⟨f, hm, e⟩ := mem_fEd.mp he
    have := (fits_iff (hf f hm) h.1.len).mp (h.2 f hm)
    rcases e with e | e <;> cases e <;> omega
def rowOf (p : Nat → Int) (cells : Nat) : List Int := (List.range cells).map fun k => p (k + 1) - p k
theorem rowOf_len : (rowOf p cells).length = cells := by simp [rowOf]
theorem pot_rowOf : ∀ {v : Nat}, v ≤ cells → pot (rowOf p cells) v = p v - p 0
  | 0, _ => by rw [pot_zero]; omega
  | v + 1, h => by
    rw [pot_succ (by rw [rowOf_len]; omega), pot_rowOf (by omega)]
    simp [rowOf]
    omega
theorem feas_fit (hf : ∀ f ∈ fs, okF cells f) (h : Feas p (bEd cells most fs)) : Fit cells most fs (rowOf p cells) := by
  refine ⟨⟨rowOf_len, fun x hx => ?_⟩, fun f hm => ?_⟩
  · obtain ⟨k, hk, rfl⟩ := List.mem_map.mp hx
    have hk' := List.mem_range.mp hk
    have h1 := h k (k + 1) most (cEd_in _ (mem_cEd.mpr ⟨k, hk', .inl rfl⟩))
    have h2 := h (k + 1) k 0 (cEd_in _ (mem_cEd.mpr ⟨k, hk', .inr rfl⟩))
    omega
  · rw [fits_iff (hf f hm) rowOf_len]
    obtain ⟨h1, h2, h3, _⟩ := hf f hm
    rw [pot_rowOf (by omega), pot_rowOf (by omega)]
    have k1 := h _ _ _ (List.mem_append_right _ (mem_fEd.mpr ⟨f, hm, .inl rfl⟩))
    have k2 := h _ _ _ (List.mem_append_right _ (mem_fEd.mpr ⟨f, hm, .inr rfl⟩))
    omega
theorem rowOf_pot (hl : r.length = cells) : rowOf (pot r) cells = r := by
  apply List.ext_getElem (by rw [rowOf_len, hl])
  intro i h1 h2
  have := pot_succ h2
  simp [rowOf]
  omega
end
/-! ### heights -/
def hstep (d : Nat → Nat → Int) (h : List Int) (p : Nat) : List Int := h ++ [(maxI ((List.range p).map fun o => h.getD o 0 - d p o)).getD 0]
def hts (d : Nat → Nat → Int) (m : Nat) : List Int := (List.range m).foldl (fun h i => hstep d h (i + 1)) [0]
section
variable {d : Nat → Nat → Int} {n m : Nat} {E : List Eg}
theorem hts_succ : hts d (m + 1) = hstep d (hts d m) (m + 1) := by
  unfold hts
  rw [List.range_succ, List.foldl_append]
  rfl
theorem hts_len : ∀ m, (hts d m).length = m + 1
  | 0 => rfl
  | m + 1 => by rw [hts_succ, hstep, List.length_append, hts_len m]; rfl
def ht (d : Nat → Nat → Int) (v : Nat) : Int := (hts d v).getD v 0
theorem hts_get : ∀ {m v : Nat}, v ≤ m → (hts d m).getD v 0 = ht d v
  | 0, v, h => by
    have : v = 0 := by omega
    subst this; rfl
  | m + 1, v, h => by
    by_cases e : v = m + 1
    · subst e; rfl
    · rw [hts_succ, hstep, List.getD_eq_getElem?_getD, List.getElem?_append_left (by rw [hts_len]; omega), ← List.getD_eq_getElem?_getD]
      exact hts_get (by omega)
theorem ht_zero : ht d 0 = 0 := rfl
theorem ht_succ (v : Nat) : ∃ o, o ≤ v ∧ ht d (v + 1) = ht d o - d (v + 1) o ∧ ∀ o', o' ≤ v → ht d o' - d (v + 1) o' ≤ ht d (v + 1) := by
  have e : ht d (v + 1) = (maxI ((List.range (v + 1)).map fun o => (hts d v).getD o 0 - d (v + 1) o)).getD 0 := by
    unfold ht
    rw [hts_succ, hstep, List.getD_eq_getElem?_getD, List.getElem?_append_right (by rw [hts_len]; omega), hts_len]
    simp
  have hmap : ((List.range (v + 1)).map fun o => (hts d v).getD o 0 - d (v + 1) o) = (List.range (v + 1)).map fun o => ht d o - d (v + 1) o := by
    apply List.map_congr_left
    intro o ho
    have := List.mem_range.mp ho
    rw [hts_get (by omega)]
  rw [hmap] at e
  cases hm : maxI ((List.range (v + 1)).map fun o => ht d o - d (v + 1) o) with
  | none =>
    exfalso
    rw [List.range_succ_eq_map, List.map_cons] at hm
    cases hm
  | some k =>
    obtain ⟨h1, h2, h3⟩ := maxI_spec hm
    rw [hm, Option.getD_some] at e
    obtain ⟨o, ho, eo⟩ := List.mem_map.mp h2
    have := List.mem_range.mp ho
    exact ⟨o, by omega, by rw [e, ← eo], fun o' ho' => by
      rw [e]
      exact h3 _ (List.mem_map.mpr ⟨o', List.mem_range.mpr (by omega), rfl⟩)⟩
theorem ht_le (hd : ∀ a b, a < n → b < n → Dist E a b (d a b)) : ∀ {v : Nat}, v < n → ∀ a b, a ≤ v → b ≤ v → ht d b ≤ ht d a + d a b
  | 0, h, a, b, ha, hb => by
    have ea : a = 0 := by omega
    have eb : b = 0 := by omega
    subst ea eb
    have h1 := hd 0 0 h h
    -- a closed way may be gone twice
    have h2 := h1.2 _ (h1.1.append h1.1)
    omega
  | v + 1, h, a, b, ha, hb => by
    have ih := ht_le hd (v := v) (by omega)
    obtain ⟨o, ho, e1, e2⟩ := ht_succ (d := d) v
    by_cases qa : a = v + 1
    · by_cases qb : b = v + 1
      · subst qa qb
        have h1 := hd (v + 1) (v + 1) h h
        have h2 := h1.2 _ (h1.1.append h1.1)
        omega
      · subst qa
        have := e2 b (by omega)
        omega
    · by_cases qb : b = v + 1
      · subst qb
        have t := (hd a (v + 1) (by omega) h).tri (hd (v + 1) o h (by omega)) (hd a o (by omega) (by omega))
        have := ih a o (by omega) (by omega)
        omega
      · exact ih a b (by omega) (by omega)
theorem ht_feas (hi : Inb n E) (hd : ∀ a b, a < n → b < n → Dist E a b (d a b)) : Feas (ht d) E := fun a b w he => by
  obtain ⟨ha, hb⟩ := hi _ he
  have h1 := (hd a b ha hb).2 _ (.one he)
  by_cases q : a ≤ b
  · have := ht_le hd hb a b q (Nat.le_refl _)
    omega
  · have := ht_le hd ha a b (Nat.le_refl _) (by omega)
    omega
/-- no other has less at the first place where they differ -/
theorem ht_least (hd : ∀ a b, a < n → b < n → Dist E a b (d a b)) {q : Nat → Int} (hq : Feas q E) (h0 : q 0 = 0) : ∀ {v : Nat}, v < n → (∀ o, o < v → q o = ht d o) → ht d v ≤ q v
  | 0, _, _ => by rw [ht_zero, h0]; omega
  | v + 1, hv, h => by
    obtain ⟨o, ho, e1, _⟩ := ht_succ (d := d) v
    have := (hd (v + 1) o hv (by omega)).feas hq
    rw [h o (by omega)] at this
    omega
end
/-! ### a number in a stretch -/
section
variable {E : List Eg} {n b e : Nat} {x : Int} {d : Nat → Nat → Int}
theorem with_feas (hi : Inb n E) (hd : ∀ a b, a < n → b < n → Dist E a b (d a b)) (hb : b < n) (he : e < n) (h1 : -d e b ≤ x) (h2 : x ≤ d b e) : ∃ p, Feas p (E ++ [(b, e, x), (e, b, -x)]) := by
  have hbb : d b b = 0 := by
    have h1 := (hd b b hb hb).2 _ .nil
    have h2 := (hd b b hb hb).2 _ ((hd b b hb hb).1.append (hd b b hb hb).1)
    omega
  have hee : d e e = 0 := by
    have h1 := (hd e e he he).2 _ .nil
    have h2 := (hd e e he he).2 _ ((hd e e he he).1.append (hd e e he he).1)
    omega
  refine ⟨fun v => if d b v ≤ x + d e v then d b v else x + d e v, fun u v w hw => ?_⟩
  rcases List.mem_append.mp hw with hw | hw
  · obtain ⟨hu, hv⟩ := hi _ hw
    have t1 := (hd b u hb hu).edge hw (hd b v hb hv)
    have t2 := (hd e u he hu).edge hw (hd e v he hv)
    simp only
    split <;> split <;> omega
  · simp only [List.mem_cons, List.not_mem_nil, or_false, Prod.mk.injEq] at hw
    rcases hw with ⟨rfl, rfl, rfl⟩ | ⟨rfl, rfl, rfl⟩
    · simp only [hbb, hee]
      split <;> split <;> omega
    · simp only [hbb, hee]
      split <;> split <;> omega
theorem with_not (hd : Dist E b e (d b e)) (hd' : Dist E e b (d e b)) (h : x < -d e b ∨ d b e < x) (p : Nat → Int) : ¬ Feas p (E ++ [(b, e, x), (e, b, -x)]) := fun hp => by
  have hp1 : Feas p E := fun u v w hw => hp u v w (List.mem_append_left _ hw)
  have h1 := hd.feas hp1
  have h2 := hd'.feas hp1
  have h3 := hp b e x (by simp)
  have h4 := hp e b (-x) (by simp)
  omega
end
end MP

end
section
set_option Elab.async false
set_option linter.all false
set_option maxRecDepth 100000
set_option maxHeartbeats 1000000
/-! Runs of bounding.py. -/
namespace MP
open PySem
theorem forL_pre {α : Type} {f : D → Env → Sto → R} {s : Sto} {l : List α} {P : List α → Env → Prop} {g : α → D} (h : ∀ pre a post, l = pre ++ a :: post → ∀ ρ, P pre ρ → ∃ ρ', f (g a) ρ s = .nx ρ' s ∧ P (pre ++ [a]) ρ') : ∀ {post pre : List α} {ρ : Env}, l = pre ++ post → P pre ρ →
    ∃ ρ', forL f (post.map g) ρ s = .nx ρ' s ∧ P l ρ'
  | [], pre, ρ, e, hp => ⟨ρ, rfl, by rw [List.append_nil] at e; rw [e]; exact hp⟩
  | a :: post, pre, ρ, e, hp => by
    obtain ⟨ρ1, e1, p1⟩ := h pre a post e ρ hp
    obtain ⟨ρ2, e2, p2⟩ := forL_pre h (post := post) (pre := pre ++ [a]) (by rw [e]; simp) p1
    refine ⟨ρ2, ?_, p2⟩
    rw [List.map_cons]
    unfold forL
    rw [e1]
    exact e2
theorem flat2_len {α β : Type} {g : α → List β} (hg : ∀ a, (g a).length = 2) : ∀ {l : List α}, (l.flatMap g).length = 2 * l.length
  | [] => rfl
  | a :: l => by rw [List.flatMap_cons, List.length_append, hg, flat2_len hg, List.length_cons]; omega
theorem range_pre {m a : Nat} {pre post : List Nat} (h : List.range m = pre ++ a :: post) : a = pre.length ∧ pre.length < m := by
  have hl : (List.range m).length = pre.length + (post.length + 1) := by rw [h]; simp
  rw [List.length_range] at hl
  have : (List.range m)[pre.length]? = some a := by rw [h]; simp
  rw [List.getElem?_range (by omega)] at this
  exact ⟨by simpa using this.symm, by omega⟩
theorem own_lst {c : Cfg} {i : Nat} {es : Es} {ρ : Env} {s s' : Sto} {ds : List D} (h : evs c es ρ s = .ok ds s') (hl : ds.length ≤ lim) : exe c (.own i (.lst es)) ρ s = .nx (ρ.set i (some (.lst ds))) s' := by
  rw [exe, ev, h]
  simp only [Rs.bind_ok]
  rw [if_pos hl]
  rfl
structure Bd (T : F → Option Fn) : Prop where
  k : Bk T
  w : Bw T
  p7 : T (.p 7) = some f_p_7
  p8 : T (.p 8) = some f_p_8
  p9 : T (.p 9) = some f_p_9
  p10 : T (.p 10) = some f_p_10
  p11 : T (.p 11) = some f_p_11
  p12 : T (.p 12) = some f_p_12
  p13 : T (.p 13) = some f_p_13
/-- a book as the laws draw it -/
structure Bo (cells : Nat) (most : Int) (fs : List F4) : Prop where
  c1 : 1 ≤ cells
  c2 : cells ≤ 20
  m1 : 0 ≤ most
  m2 : most ≤ 1000000000000000000000000000000
  l : fs.length ≤ 12
  f : ∀ f ∈ fs, okF cells f
section
variable {T : F → Option Fn} {N n : Nat} {s : Sto} {cells : Nat} {most : Int} {fs : List F4}
theorem edges_l1 {c : Cfg} {vb v5 x : Option D} {acc : List Eg} (hc : cells ≤ 1000) (ha : acc.length ≤ 1000) :
    ∃ x', exe c f_p_8_l1 [vb, some (.lst (acc.map eD)), x, some (.int (cells : Int)), some (.int most), v5, none, none, none, none] s = .nx [vb, some (.lst ((acc ++ cEd cells most).map eD)), x', some (.int (cells : Int)), some (.int most), v5, none, none, none, none] s := by
  unfold f_p_8_l1
  rw [exe, evr_rg1n (k := cells) rfl (by omega)]
  simp only [Rs.go_ok]
  obtain ⟨ρ', e1, x', e2⟩ := forL_pre (s := s) (l := List.range cells) (g := fun i : Nat => D.int (i : Int)) (P := fun pre ρ => ∃ x, ρ = [vb, some (.lst ((acc ++ pre.flatMap fun k => [(k, k + 1, most), (k + 1, k, 0)]).map eD)), x, some (.int (cells : Int)), some (.int most), v5, none, none, none, none])
    (f := fun x ρ s => match bindT (.nm 2) x ρ with
      | some ρ' => exs c f_p_8_b0 ρ' s
      | none => .st) (fun pre a post hl ρ ⟨x, e⟩ => by
      subst e
      obtain ⟨rfl, hlt⟩ := range_pre hl
      refine ⟨_, ?_, some (.int (pre.length : Int)), rfl⟩
      have hlen : (acc ++ pre.flatMap fun k => [(k, k + 1, most), (k + 1, k, (0 : Int))]).length ≤ 10000 := by
        rw [List.length_append, flat2_len fun _ => rfl]
        omega
      generalize hA : (acc ++ pre.flatMap fun k => [(k, k + 1, most), (k + 1, k, (0 : Int))]) = A at hlen
      have hle : (A.map eD).length + 2 ≤ lim := le_lim (by rw [List.length_map]; omega)
      have e3 : (acc ++ (pre ++ [pre.length]).flatMap fun k => [(k, k + 1, most), (k + 1, k, (0 : Int))]) = A ++ [(pre.length, pre.length + 1, most), (pre.length + 1, pre.length, 0)] := by
        rw [← hA]; simp
      rw [e3]
      simp only [bT_nm, List.set_cons_succ, List.set_cons_zero]
      have ee : ev c (.lst (.cons (.tup (.cons (.var 2) (.cons (.bin .add (.var 2) (.int 1)) (.cons (.var 4) .nil)))) (.cons (.tup (.cons (.bin .add (.var 2) (.int 1)) (.cons (.var 2) (.cons (.int 0) .nil)))) .nil))) [vb, some (.lst (A.map eD)), some (.int (pre.length : Int)), some (.int (cells : Int)), some (.int most), v5, none, none, none, none] s = .ok (.lst [eD (pre.length, pre.length + 1, most), eD (pre.length + 1, pre.length, 0)]) s := rfl
      unfold f_p_8_b0
      rw [exs, exe]
      simp only [at', List.getElem?_cons_succ, List.getElem?_cons_zero]
      rw [ee]
      simp only [Rs.go_ok]
      rw [if_pos (by simpa using hle)]
      simp [exs]) (post := List.range cells) (pre := []) (ρ := [vb, some (.lst (acc.map eD)), x, some (.int (cells : Int)), some (.int most), v5, none, none, none, none]) rfl ⟨x, by simp⟩
  subst e2
  exact ⟨x', e1⟩
theorem edges_l3 {c : Cfg} {vb x v3 v4 b e l h : Option D} {acc : List Eg} (hf : ∀ f ∈ fs, okF cells f) (hl : fs.length ≤ 1000) (ha : acc.length ≤ 1000) :
    ∃ b' e' l' h', exe c f_p_8_l3 [vb, some (.lst (acc.map eD)), x, v3, v4, some (.tup (fs.map fD)), b, e, l, h] s = .nx [vb, some (.lst ((acc ++ fEd fs).map eD)), x, v3, v4, some (.tup (fs.map fD)), b', e', l', h'] s := by
  unfold f_p_8_l3
  rw [exe, show evr c (.of (.var 5)) [vb, some (.lst (acc.map eD)), x, v3, v4, some (.tup (fs.map fD)), b, e, l, h] s = .ok (fs.map fD) s from rfl]
  simp only [Rs.go_ok]
  obtain ⟨ρ', e1, b', e', l', h', e2⟩ := forL_pre (s := s) (l := fs) (g := fD) (P := fun pre ρ => ∃ b e l h, ρ = [vb, some (.lst ((acc ++ fEd pre).map eD)), x, v3, v4, some (.tup (fs.map fD)), b, e, l, h])
    (f := fun x ρ s => match bindT (.tp (.cons (.nm 6) (.cons (.nm 7) (.cons (.nm 8) (.cons (.nm 9) .nil))))) x ρ with
      | some ρ' => exs c f_p_8_b2 ρ' s
      | none => .st) (fun pre f post hl' ρ ⟨b, e, l, h, eq⟩ => by
      subst eq
      have hm : f ∈ fs := by rw [hl']; simp
      obtain ⟨h1, h2, h3, _⟩ := hf f hm
      refine ⟨_, ?_, some (.int f.1), some (.int f.2.1), some (.int f.2.2.1), some (.int f.2.2.2), rfl⟩
      have hpl : pre.length < fs.length := by rw [hl']; simp
      have hlen : (acc ++ fEd pre).length ≤ 10000 := by
        unfold fEd
        rw [List.length_append, flat2_len fun _ => rfl]
        omega
      generalize hA : (acc ++ fEd pre) = A at hlen
      have hle : (A.map eD).length + 2 ≤ lim := le_lim (by rw [List.length_map]; omega)
      have e3 : (acc ++ fEd (pre ++ [f])) = A ++ [(f.1.toNat, f.2.1.toNat, f.2.2.2), (f.2.1.toNat, f.1.toNat, -f.2.2.1)] := by
        rw [← hA]; simp [fEd]
      rw [e3]
      have n1 : ((f.1.toNat : Nat) : Int) = f.1 := by omega
      have n2 : ((f.2.1.toNat : Nat) : Int) = f.2.1 := by omega
      have ee : ev c (.lst (.cons (.tup (.cons (.var 6) (.cons (.var 7) (.cons (.var 9) .nil)))) (.cons (.tup (.cons (.var 7) (.cons (.var 6) (.cons (.neg (.var 8)) .nil)))) .nil))) [vb, some (.lst (A.map eD)), x, v3, v4, some (.tup (fs.map fD)), some (.int f.1), some (.int f.2.1), some (.int f.2.2.1), some (.int f.2.2.2)] s = .ok (.lst [eD (f.1.toNat, f.2.1.toNat, f.2.2.2), eD (f.2.1.toNat, f.1.toNat, -f.2.2.1)]) s := by
        unfold eD
        simp only [n1, n2]
        rfl
      rw [show bindT (.tp (.cons (.nm 6) (.cons (.nm 7) (.cons (.nm 8) (.cons (.nm 9) .nil))))) (fD f) [vb, some (.lst (A.map eD)), x, v3, v4, some (.tup (fs.map fD)), b, e, l, h] = some [vb, some (.lst (A.map eD)), x, v3, v4, some (.tup (fs.map fD)), some (.int f.1), some (.int f.2.1), some (.int f.2.2.1), some (.int f.2.2.2)] from rfl]
      simp only
      unfold f_p_8_b2
      rw [exs, exe]
      simp only [at', List.getElem?_cons_succ, List.getElem?_cons_zero]
      rw [ee]
      simp only [Rs.go_ok]
      rw [if_pos (by simpa using hle)]
      simp [exs]) (post := fs) (pre := []) (ρ := [vb, some (.lst (acc.map eD)), x, v3, v4, some (.tup (fs.map fD)), b, e, l, h]) rfl ⟨b, e, l, h, by simp [fEd]⟩
  subst e2
  exact ⟨b', e', l', h', e1⟩
theorem cEd_len : (cEd cells most).length = 2 * cells := by
  unfold cEd
  rw [flat2_len fun _ => rfl, List.length_range]
theorem fEd_len : (fEd fs).length = 2 * fs.length := flat2_len fun _ => rfl
theorem r_edges (h8 : T (.p 8) = some f_p_8) (hc : cells ≤ 500) (hl : fs.length ≤ 500) (hf : ∀ f ∈ fs, okF cells f) : callN T N (n + 1) (.p 8) [bookD (cells : Int) most fs] s = .ok (.lst ((bEd cells most fs).map eD)) s := by
  rw [callp h8]
  obtain ⟨x', e1⟩ := edges_l1 (s := s) (c := ⟨callN T N n, N⟩) (vb := some (bookD (cells : Int) most fs)) (v5 := some (.tup (fs.map fD))) (x := none) (acc := []) (cells := cells) (most := most) (by omega) (by simp)
  obtain ⟨b', e', l', h', e2⟩ := edges_l3 (s := s) (c := ⟨callN T N n, N⟩) (vb := some (bookD (cells : Int) most fs)) (x := x') (v3 := some (.int (cells : Int))) (v4 := some (.int most)) (b := none) (e := none) (l := none) (h := none) (acc := cEd cells most) (cells := cells) (fs := fs) hf (by omega) (by rw [cEd_len]; omega)
  refine runFn_rt rfl (exs_nx (s' := s) (ρ' := [some (bookD (cells : Int) most fs), none, none, some (.int (cells : Int)), some (.int most), some (.tup (fs.map fD)), none, none, none, none]) rfl (exs_nx (s' := s) (ρ' := [some (bookD (cells : Int) most fs), some (.lst (([] : List Eg).map eD)), none, some (.int (cells : Int)), some (.int most), some (.tup (fs.map fD)), none, none, none, none]) ?_ (exs_nx e1 (exs_nx e2 (exs_rt rfl)))))
  exact own_lst (i := 1) (ds := []) rfl (le_lim (by decide))
/-! ### heights -/
def hD (h : List Int) : D := .lst (h.map D.int)
theorem heights_max {c : Cfg} {v0 v1 : Option D} {E : List Eg} {g : Nat → Fd} {d : Nat → Nat → Int} {many v : Nat} {y : Option D} (hv : v + 1 < many) (hm : many ≤ 1000) (hg : ∀ a b, a < many → b < many → (g a).length = many ∧ gt (g a) b = some (d a b)) :
    ev c f_p_13_c1 [v0, v1, some (.lst ((List.range many).map fun a => fdD (g a))), some (hD (hts d v)), some (.int ((v + 1 : Nat) : Int)), y] s = .ok (.lst (((List.range (v + 1)).map fun o => (hts d v).getD o 0 - d (v + 1) o).map D.int)) s := by
  unfold f_p_13_c1
  rw [ev_lc (l := List.range (v + 1)) (g := fun i : Nat => D.int (i : Int)) (h := fun o => D.int ((hts d v).getD o 0 - d (v + 1) o)) (evr_rg1n rfl (by omega)) (le_lim (by rw [List.length_range]; omega))]
  · rw [List.map_map]; rfl
  · intro o ho
    have ho' := List.mem_range.mp ho
    refine ⟨_, rfl, ?_⟩
    obtain ⟨gl, gv⟩ := hg (v + 1) o (by omega) (by omega)
    have i1 : ixD (hD (hts d v)) (.int (o : Int)) = some (.int ((hts d v).getD o 0)) := by
      show L2.atI ((hts d v).map D.int) _ = _
      rw [at_nat (by rw [List.length_map, hts_len]; omega)]
      have : o < (hts d v).length := by rw [hts_len]; omega
      simp [List.getD_eq_getElem?_getD, this]
    have i2 : ixD (.lst ((List.range many).map fun a => fdD (g a))) (.int ((v + 1 : Nat) : Int)) = some (fdD (g (v + 1))) := by
      show L2.atI ((List.range many).map fun a => fdD (g a)) _ = _
      rw [at_nat (by rw [List.length_map, List.length_range]; omega)]
      simp
    have i3 : ixD (fdD (g (v + 1))) (.int (o : Int)) = some (.int (d (v + 1) o)) := by
      rw [ix_fd (by omega), gv]; rfl
    generalize hH : hD (hts d v) = H at i1
    generalize hTb : D.lst ((List.range many).map fun a => fdD (g a)) = Tb at i2
    generalize ((v + 1 : Nat) : Int) = V at i2
    simp [ev, slotsT, wipeE, i1, i2, i3, binD]
theorem r_heights (h : T (.p 13) = some f_p_13) (h9 : T (.p 9) = some f_p_9) {many : Nat} {E : List Eg} {g : Nat → Fd} {d : Nat → Nat → Int} (h1 : 1 ≤ many) (hm : many ≤ 1000) (hi : Inb many E) (hg : ∀ a, a < many → dists many E a = some (g a)) (hd : ∀ a b, a < many → b < many → (g a).length = many ∧ gt (g a) b = some (d a b)) :
    callN T N (n + 2) (.p 13) [.int (many : Int), .lst (E.map eD)] s = .ok (hD (hts d (many - 1))) s := by
  rw [callp h]
  have t1 : ev ⟨callN T N (n + 1), N⟩ f_p_13_c0 [some (.int (many : Int)), some (.lst (E.map eD)), none, none, none, none] s = .ok (.lst ((List.range many).map fun a => fdD (g a))) s := by
    unfold f_p_13_c0
    refine ev_lc (l := List.range many) (g := fun i : Nat => D.int (i : Int)) (evr_rg1n rfl (by omega)) (le_lim (by rw [List.length_range]; omega)) fun a ha => ?_
    have ha' := List.mem_range.mp ha
    refine ⟨_, rfl, ?_⟩
    have := r_dist (T := T) (N := N) (n := n) (s := s) h9 hi ha' hm
    rw [hg a ha'] at this
    rw [ev]
    exact this
  have u3 : ∃ x y, exe ⟨callN T N (n + 1), N⟩ f_p_13_l3 [some (.int (many : Int)), some (.lst (E.map eD)), some (.lst ((List.range many).map fun a => fdD (g a))), some (hD [0]), none, none] s = .nx [some (.int (many : Int)), some (.lst (E.map eD)), some (.lst ((List.range many).map fun a => fdD (g a))), some (hD (hts d (many - 1))), x, y] s := by
    unfold f_p_13_l3
    rw [exe, evr_rg2n (k := many) rfl rfl h1 (by omega)]
    simp only [Rs.go_ok]
    obtain ⟨ρ', e1, x', y', e2⟩ := forL_pre (s := s) (l := List.range (many - 1)) (g := fun i : Nat => D.int ((i + 1 : Nat) : Int)) (P := fun pre ρ => ∃ x y, ρ = [some (.int (many : Int)), some (.lst (E.map eD)), some (.lst ((List.range many).map fun a => fdD (g a))), some (hD (hts d pre.length)), x, y])
      (f := fun x ρ s => match bindT (.nm 4) x ρ with
        | some ρ' => exs ⟨callN T N (n + 1), N⟩ f_p_13_b2 ρ' s
        | none => .st) (fun pre a post hl ρ ⟨x, y, e⟩ => by
        subst e
        obtain ⟨rfl, hlt⟩ := range_pre hl
        refine ⟨_, ?_, some (.int ((pre.length + 1 : Nat) : Int)), y, rfl⟩
        have em := heights_max (s := s) (c := ⟨callN T N (n + 1), N⟩) (v0 := some (.int (many : Int))) (v1 := some (.lst (E.map eD))) (E := E) (g := g) (d := d) (many := many) (v := pre.length) (y := y) (by omega) hm hd
        rw [List.length_append, List.length_singleton, hts_succ]
        simp only [bT_nm, List.set_cons_succ, List.set_cons_zero]
        unfold f_p_13_b2
        rw [exs, exe]
        simp only [at', List.getElem?_cons_succ, List.getElem?_cons_zero, hD]
        simp only [hD] at em
        rw [ev, em]
        simp only [Rs.bind_ok, b1D]
        rw [intsOf_map]
        simp only
        cases hmx : maxI ((List.range (pre.length + 1)).map fun o => (hts d pre.length).getD o 0 - d (pre.length + 1) o) with
        | none =>
          exfalso
          rw [List.range_succ_eq_map, List.map_cons] at hmx
          cases hmx
        | some k =>
          simp only [Option.map_some, Rs.opt_some, Rs.go_ok]
          have hll : ((hts d pre.length).map D.int).length < lim := Nat.lt_of_lt_of_le (Nat.lt_succ_self _) (le_lim (by rw [List.length_map, hts_len]; omega))
          rw [if_pos hll, show hstep d (hts d pre.length) (pre.length + 1) = hts d pre.length ++ [k] from by unfold hstep; rw [hmx]; rfl]
          simp [exs]) (post := List.range (many - 1)) (pre := []) (ρ := [some (.int (many : Int)), some (.lst (E.map eD)), some (.lst ((List.range many).map fun a => fdD (g a))), some (hD [0]), none, none]) rfl ⟨none, none, rfl⟩
    subst e2
    rw [List.length_range] at e1
    exact ⟨x', y', e1⟩
  obtain ⟨x, y, u3⟩ := u3
  exact runFn_rt rfl (exs_nx (exe_asg t1) (exs_nx (own_lst (i := 3) (ds := [.int 0]) rfl (le_lim (by decide))) (exs_nx u3 (exs_nx rfl (exs_rt rfl)))))
end
end MP

end
section
set_option Elab.async false
set_option linter.all false
set_option maxRecDepth 100000
set_option maxHeartbeats 1000000
/-! Runs of bounding.py: what is told of a book. -/
namespace MP
open PySem
/-- all least weights at once -/
structure Gs (n : Nat) (E : List Eg) (g : Nat → Fd) (d : Nat → Nat → Int) : Prop where
  hg : ∀ a, a < n → dists n E a = some (g a)
  hd : ∀ a b, a < n → b < n → (g a).length = n ∧ gt (g a) b = some (d a b)
  ds : ∀ a b, a < n → b < n → Dist E a b (d a b)
theorem exists_gs {n : Nat} {E : List Eg} {p : Nat → Int} (hp : Feas p E) (hi : Inb n E) (hr : ∀ a b, a < n → b < n → ∃ w, Wk E a b w) : ∃ g d, Gs n E g d := by
  have h1 : ∀ a, a < n → ∃ g, dists n E a = some g := fun a ha => dists_ends hp hi ha fun v hv => hr a v ha hv
  let g : Nat → Fd := fun a => (dists n E a).getD []
  have hg : ∀ a, a < n → dists n E a = some (g a) := fun a ha => by
    obtain ⟨x, hx⟩ := h1 a ha
    show dists n E a = some ((dists n E a).getD [])
    rw [hx]; rfl
  refine ⟨g, fun a b => (gt (g a) b).getD 0, hg, fun a b ha hb => ?_, fun a b ha hb => ?_⟩
  · obtain ⟨l, _, h3⟩ := dists_some hi ha (hg a ha)
    obtain ⟨w, hw⟩ := hr a b ha hb
    obtain ⟨x, x1, _⟩ := h3 b w hw
    exact ⟨l, by rw [x1]; rfl⟩
  · obtain ⟨l, _, h3⟩ := dists_some hi ha (hg a ha)
    obtain ⟨w, hw⟩ := hr a b ha hb
    obtain ⟨x, x1, x2⟩ := h3 b w hw
    simp only [x1, Option.getD_some]
    exact x2
theorem reach_b {cells : Nat} {most : Int} {E : List Eg} (h : ∀ e, e ∈ cEd cells most → e ∈ E) : ∀ a b, a < cells + 1 → b < cells + 1 → ∃ w, Wk E a b w := fun a b ha hb => reach h (by omega) (by omega)
structure Be (T : F → Option Fn) : Prop where
  b : Bd T
  p14 : T (.p 14) = some f_p_14
  p15 : T (.p 15) = some f_p_15
  p16 : T (.p 16) = some f_p_16
  p17 : T (.p 17) = some f_p_17
  p18 : T (.p 18) = some f_p_18
section
variable {T : F → Option Fn} {N n : Nat} {s : Sto} {cells : Nat} {most : Int} {fs : List F4}
def canB (cells : Nat) (most : Int) (fs : List F4) : Bool := (dists (cells + 1) (bEd cells most fs) 0).isSome
theorem canB_iff (hb : Bo cells most fs) : canB cells most fs = true ↔ ∃ p, Feas p (bEd cells most fs) := by
  rw [← dists_iff (n := cells + 1) (s := 0) (inb_b hb.f) (by omega) fun v hv => reach_b cEd_in 0 v (by omega) hv]
  unfold canB
  exact Option.isSome_iff_exists
theorem isNon_ds {o : Option Fd} : isNon (dsD o) = !o.isSome := by cases o <;> rfl
theorem r_can (h : Bd T) (hb : Bo cells most fs) : callN T N (n + 2) (.p 10) [bookD (cells : Int) most fs] s = .ok (.bl (canB cells most fs)) s := by
  rw [callp h.p10]
  have e8 := r_edges (T := T) (N := N) (n := n) (s := s) (cells := cells) (most := most) (fs := fs) h.p8 (by have := hb.c2; omega) (by have := hb.l; omega) hb.f
  have e9 : callN T N (n + 1) (.p 9) [.int ((cells : Int) + 1), .lst ((bEd cells most fs).map eD), .int 0] s = .ok (dsD (dists (cells + 1) (bEd cells most fs) 0)) s := r_dist (many := cells + 1) (first := 0) h.p9 (inb_b hb.f) (by omega) (by have := hb.c2; omega)
  simp only [bookD] at e8
  simp [f_p_10, runFn, start, exs, exe, ev, evs, bookD, ixD, L2.atI, L2.ixN, binD, e8, e9, cmpD, isNon_ds, canB]
theorem r_possible (h : Bd T) (hb : Bo cells most fs) : callN T N (n + 3) (.p 11) [bookD (cells : Int) most fs] s = .ok (.bl (canB cells most fs)) s := by
  rw [callp h.p11]
  have e3 : callN T N (n + 2) (.p 3) [bookD (cells : Int) most fs] s = .ok .non s := r_check_book (n := n + 1) h.w
  have e10 := r_can (T := T) (N := N) (n := n) (s := s) h hb
  simp only [bookD] at e3 e10
  simp [f_p_11, runFn, start, exs, exe, ev, evs, bookD, e3, e10]
theorem r_check_possible (h : Bd T) (hb : Bo cells most fs) : callN T N (n + 3) (.p 12) [bookD (cells : Int) most fs] s = if canB cells most fs then .ok .non s else .ex (.err 6) [] s := by
  rw [callp h.p12]
  have e10 := r_can (T := T) (N := N) (n := n) (s := s) h hb
  simp only [bookD] at e10
  cases hc : canB cells most fs with
  | true =>
    rw [hc] at e10
    simp [f_p_12, runFn, start, exs, exe, ev, evs, bookD, e10, truD]
  | false =>
    rw [hc] at e10
    simp [f_p_12, runFn, start, exs, exe, ev, evs, bookD, e10, truD, xn]
theorem r_check_stretch (h : Bd T) {b e : Int} (h1 : 0 ≤ b) (h2 : b < e) (h3 : e ≤ cells) : callN T N (n + 3) (.p 7) [bookD (cells : Int) most fs, .int b, .int e] s = .ok .non s := by
  rw [callp h.p7]
  have a1 := r_from (T := T) (N := N) (n := n) (s := s) h.k (v := b) (lo := 0) (hi := (cells : Int) - 1)
  have a2 := r_from (T := T) (N := N) (n := n) (s := s) h.k (v := e) (lo := b + 1) (hi := (cells : Int))
  rw [show (decide ((0 : Int) ≤ b) && decide (b ≤ (cells : Int) - 1)) = true by simp; omega] at a1
  rw [show (decide (b + 1 ≤ e) && decide (e ≤ (cells : Int))) = true by simp; omega] at a2
  simp [f_p_7, runFn, start, exs, exe, ev, evs, bookD, ixD, L2.atI, L2.ixN, binD, a1, a2, truD]
theorem r_bounds_by (h : Be T) (hb : Bo cells most fs) {g : Nat → Fd} {d : Nat → Nat → Int} (G : Gs (cells + 1) (bEd cells most fs) g d) {b e : Nat} (h1 : b < cells + 1) (h2 : e < cells + 1) :
    callN T N (n + 2) (.p 16) [bookD (cells : Int) most fs, .int (b : Int), .int (e : Int)] s = .ok (.tup [.int (-d e b), .int (d b e)]) s := by
  rw [callp h.p16]
  have e8 := r_edges (T := T) (N := N) (n := n) (s := s) (cells := cells) (most := most) (fs := fs) h.b.p8 (by have := hb.c2; omega) (by have := hb.l; omega) hb.f
  have e9 : ∀ v : Nat, v < cells + 1 → callN T N (n + 1) (.p 9) [.int ((cells : Int) + 1), .lst ((bEd cells most fs).map eD), .int (v : Int)] s = .ok (fdD (g v)) s := fun v hv => by
    have := r_dist (T := T) (N := N) (n := n) (s := s) (many := cells + 1) (first := v) h.b.p9 (inb_b (most := most) hb.f) hv (by have := hb.c2; omega)
    rw [G.hg v hv] at this
    exact this
  have i1 : ixD (fdD (g e)) (.int (b : Int)) = some (.int (d e b)) := by
    obtain ⟨l, q⟩ := G.hd e b h2 h1
    rw [ix_fd (by omega), q]; rfl
  have i2 : ixD (fdD (g b)) (.int (e : Int)) = some (.int (d b e)) := by
    obtain ⟨l, q⟩ := G.hd b e h1 h2
    rw [ix_fd (by omega), q]; rfl
  have i0 : ixD (.tup [.int (cells : Int), .int most, .tup (fs.map fD)]) (.int 0) = some (.int (cells : Int)) := rfl
  simp only [bookD] at e8
  simp [f_p_16, runFn, start, exs, exe, ev, evs, bookD, i0, binD, e8, e9 e h2, e9 b h1, i1, i2, negD, bT_nm, lim]
theorem r_bounds (h : Be T) (hb : Bo cells most fs) {g : Nat → Fd} {d : Nat → Nat → Int} (G : Gs (cells + 1) (bEd cells most fs) g d) {b e : Nat} (h1 : b < e) (h2 : e < cells + 1) (hc : canB cells most fs = true) :
    callN T N (n + 4) (.p 17) [bookD (cells : Int) most fs, .int (b : Int), .int (e : Int)] s = .ok (.tup [.int (-d e b), .int (d b e)]) s := by
  rw [callp h.p17]
  have e3 : callN T N (n + 3) (.p 3) [bookD (cells : Int) most fs] s = .ok .non s := r_check_book (n := n + 2) h.b.w
  have e7 := r_check_stretch (T := T) (N := N) (n := n) (s := s) (cells := cells) (most := most) (fs := fs) h.b (b := (b : Int)) (e := (e : Int)) (by omega) (by omega) (by omega)
  have e12 := r_check_possible (T := T) (N := N) (n := n) (s := s) h.b hb
  have e16 := r_bounds_by (T := T) (N := N) (n := n + 1) (s := s) h hb G (b := b) (e := e) (by omega) h2
  rw [hc, if_pos rfl] at e12
  simp only [bookD] at e3 e7 e12 e16
  simp [f_p_17, runFn, start, exs, exe, ev, evs, bookD, e3, e7, e12, e16]
/-! ### rows -/
theorem row_comp {c : Cfg} {ρ : Env} {i j : Nat} {e0 : E} {p : Nat → Int} {hs : List Int} (hij : i ≠ j) (hj : j < ρ.length) (hlen : cells + 1 ≤ hs.length) (hget : ∀ v, v < cells + 1 → hs.getD v 0 = p v) (hi : ρ[i]? = some (some (hD hs))) (he : ev c e0 ρ s = .ok (.int (cells : Int)) s) (hc : cells ≤ 1000) :
    ev c (.lc (.bin .sub (.ix (.var i) (.bin .add (.var j) (.int 1))) (.ix (.var i) (.var j))) (.nm j) (.rg1 e0)) ρ s = .ok (.lst ((rowOf p cells).map D.int)) s := by
  rw [ev_lc (l := List.range cells) (g := fun k : Nat => D.int (k : Int)) (h := fun k => D.int (p (k + 1) - p k)) (evr_rg1n he (by omega)) (le_lim (by rw [List.length_range]; omega))]
  · unfold rowOf
    rw [List.map_map]; rfl
  · intro k hk
    have hk' := List.mem_range.mp hk
    refine ⟨_, rfl, ?_⟩
    have ix : ∀ v : Nat, v < cells + 1 → ixD (hD hs) (.int (v : Int)) = some (.int (p v)) := fun v hv => by
      show L2.atI (hs.map D.int) _ = _
      have hv' : v < hs.length := by omega
      rw [at_nat (by rw [List.length_map]; omega), ← hget v hv]
      simp [List.getD_eq_getElem?_getD, hv']
    have i1 := ix (k + 1) (by omega)
    have i2 := ix k (by omega)
    have g1 : ((wipeE ρ (slotsT (.nm j))).set j (some (.int (k : Int))))[i]? = some (some (hD hs)) := by
      simp only [slotsT, wipeE]
      rw [List.getElem?_set_ne (Ne.symm hij), List.getElem?_set_ne (Ne.symm hij), hi]
    have g2 : ((wipeE ρ (slotsT (.nm j))).set j (some (.int (k : Int))))[j]? = some (some (.int (k : Int))) := by
      simp only [slotsT, wipeE]
      rw [List.getElem?_set_self (by rw [List.length_set]; exact hj)]
    generalize hH : hD hs = H at i1 i2 g1
    have i1' : ixD H (.int ((k : Int) + 1)) = some (.int (p (k + 1))) := i1
    simp [ev, g1, g2, binD, i1', i2]
theorem r_row_of (h : Be T) (hb : Bo cells most fs) {g : Nat → Fd} {d : Nat → Nat → Int} (G : Gs (cells + 1) (bEd cells most fs) g d) : callN T N (n + 3) (.p 14) [bookD (cells : Int) most fs] s = .ok (rowD (rowOf (ht d) cells)) s := by
  rw [callp h.p14]
  have e8 := r_edges (T := T) (N := N) (n := n + 1) (s := s) (cells := cells) (most := most) (fs := fs) h.b.p8 (by have := hb.c2; omega) (by have := hb.l; omega) hb.f
  have e13 : callN T N (n + 2) (.p 13) [.int ((cells : Int) + 1), .lst ((bEd cells most fs).map eD)] s = .ok (hD (hts d cells)) s := r_heights (many := cells + 1) h.b.p13 h.b.p9 (by omega) (by have := hb.c2; omega) (inb_b hb.f) G.hg G.hd
  have ec : ev ⟨callN T N (n + 2), N⟩ f_p_14_c0 [some (bookD (cells : Int) most fs), some (hD (hts d cells)), none] s = .ok (.lst ((rowOf (ht d) cells).map D.int)) s :=
    row_comp (by decide) (by simp) (by rw [hts_len]; omega) (fun v hv => hts_get (by omega)) rfl rfl (by have := hb.c2; omega)
  have u1 : ev ⟨callN T N (n + 2), N⟩ (.call (.p 13) (.cons (.bin .add (.ix (.fld (.var 0) .book 0) (.int 0)) (.int 1)) (.cons (.call (.p 8) (.cons (.var 0) .nil)) .nil))) [some (bookD (cells : Int) most fs), none, none] s = .ok (hD (hts d cells)) s := by
    have i0 : ixD (.tup [.int (cells : Int), .int most, .tup (fs.map fD)]) (.int 0) = some (.int (cells : Int)) := rfl
    simp only [bookD] at e8 ⊢
    simp [ev, evs, i0, binD, e8, e13]
  refine runFn_rt rfl (exs_nx (exe_asg u1) (exs_rt (exe_ret ?_)))
  rw [ev]
  rw [show ([some (bookD (cells : Int) most fs), none, none] : Env).set 1 (some (hD (hts d cells))) = [some (bookD (cells : Int) most fs), some (hD (hts d cells)), none] from rfl, ec]
  rfl
theorem r_least_row (h : Be T) (hb : Bo cells most fs) {g : Nat → Fd} {d : Nat → Nat → Int} (G : Gs (cells + 1) (bEd cells most fs) g d) (hc : canB cells most fs = true) : callN T N (n + 4) (.p 15) [bookD (cells : Int) most fs] s = .ok (rowD (rowOf (ht d) cells)) s := by
  rw [callp h.p15]
  have e3 : callN T N (n + 3) (.p 3) [bookD (cells : Int) most fs] s = .ok .non s := r_check_book (n := n + 2) h.b.w
  have e12 := r_check_possible (T := T) (N := N) (n := n) (s := s) h.b hb
  have e14 := r_row_of (T := T) (N := N) (n := n) (s := s) h hb G
  rw [hc, if_pos rfl] at e12
  simp only [bookD] at e3 e12 e14
  simp [f_p_15, runFn, start, exs, exe, ev, evs, bookD, e3, e12, e14]
/-! ### a number in a stretch -/
def wEd (cells : Nat) (most : Int) (fs : List F4) (b e : Nat) (x : Int) : List Eg := bEd cells most fs ++ [(b, e, x), (e, b, -x)]
theorem inb_w (hb : Bo cells most fs) {b e : Nat} {x : Int} (h1 : b < cells + 1) (h2 : e < cells + 1) : Inb (cells + 1) (wEd cells most fs b e x) := (inb_b hb.f).append fun z hz => by
  simp only [List.mem_cons, List.not_mem_nil, or_false] at hz
  rcases hz with rfl | rfl
  · exact ⟨h1, h2⟩
  · exact ⟨h2, h1⟩
theorem reach_w {b e : Nat} {x : Int} : ∀ u v, u < cells + 1 → v < cells + 1 → ∃ w, Wk (wEd cells most fs b e x) u v w := reach_b fun z hz => List.mem_append_left _ (cEd_in z hz)
theorem bEd_len : (bEd cells most fs).length = 2 * cells + 2 * fs.length := by
  unfold bEd
  rw [List.length_append, cEd_len, fEd_len]
theorem row_with_pre (h : Be T) (hb : Bo cells most fs) {b e : Nat} {x : Int} (h1 : b < e) (h2 : e < cells + 1) (hc : canB cells most fs = true) {r : R}
    (k : exs ⟨callN T N (n + 3), N⟩ (.cons (.ite (.cmp .isn (.call (.p 9) (.cons (.var 5) (.cons (.var 4) (.cons (.int 0) .nil)))) .non) (.cons (.ret .non) .nil) .nil) (.cons (.asg (.nm 6) (.call (.p 13) (.cons (.var 5) (.cons (.var 4) .nil)))) (.cons (.ret (.b1 .tuple f_p_18_c0)) .nil))) [some (bookD (cells : Int) most fs), some (.int (b : Int)), some (.int (e : Int)), some (.int x), some (.lst ((wEd cells most fs b e x).map eD)), some (.int ((cells + 1 : Nat) : Int)), none, none] s = r) :
    exs ⟨callN T N (n + 3), N⟩ f_p_18.body [some (bookD (cells : Int) most fs), some (.int (b : Int)), some (.int (e : Int)), some (.int x), none, none, none, none] s = r := by
  have e3 : callN T N (n + 3) (.p 3) [bookD (cells : Int) most fs] s = .ok .non s := r_check_book (n := n + 2) h.b.w
  have e7 := r_check_stretch (T := T) (N := N) (n := n) (s := s) (cells := cells) (most := most) (fs := fs) h.b (b := (b : Int)) (e := (e : Int)) (by omega) (by omega) (by omega)
  have e0 : callN T N (n + 3) (.p 0) [.int x] s = .ok (.bl true) s := r_integer (n := n + 2) h.b.k
  have e12 := r_check_possible (T := T) (N := N) (n := n) (s := s) h.b hb
  have e8 := r_edges (T := T) (N := N) (n := n + 2) (s := s) (cells := cells) (most := most) (fs := fs) h.b.p8 (by have := hb.c2; omega) (by have := hb.l; omega) hb.f
  rw [hc, if_pos rfl] at e12
  obtain ⟨B, hB⟩ : ∃ B, B = bookD (cells : Int) most fs := ⟨_, rfl⟩
  have i0 : ∀ ρ : Env, ρ[0]? = some (some (bookD (cells : Int) most fs)) → ev ⟨callN T N (n + 3), N⟩ (.bin .add (.ix (.fld (.var 0) .book 0) (.int 0)) (.int 1)) ρ s = .ok (.int ((cells + 1 : Nat) : Int)) s := fun ρ hr => by
    have : ev ⟨callN T N (n + 3), N⟩ (.var 0) ρ s = .ok (bookD (cells : Int) most fs) s := ev_var hr
    simp [ev, hr, bookD, ixD, L2.atI, L2.ixN, binD]
  have hcat : ev ⟨callN T N (n + 3), N⟩ (.bin .add (.call (.p 8) (.cons (.var 0) .nil)) (.lst (.cons (.tup (.cons (.var 1) (.cons (.var 2) (.cons (.var 3) .nil)))) (.cons (.tup (.cons (.var 2) (.cons (.var 1) (.cons (.neg (.var 3)) .nil)))) .nil)))) [some (bookD (cells : Int) most fs), some (.int (b : Int)), some (.int (e : Int)), some (.int x), none, none, none, none] s = .ok (.lst ((wEd cells most fs b e x).map eD)) s := by
    have c1 : ev ⟨callN T N (n + 3), N⟩ (.call (.p 8) (.cons (.var 0) .nil)) [some (bookD (cells : Int) most fs), some (.int (b : Int)), some (.int (e : Int)), some (.int x), none, none, none, none] s = .ok (.lst ((bEd cells most fs).map eD)) s := by
      rw [ev]
      exact e8
    have c2 : ev ⟨callN T N (n + 3), N⟩ (.lst (.cons (.tup (.cons (.var 1) (.cons (.var 2) (.cons (.var 3) .nil)))) (.cons (.tup (.cons (.var 2) (.cons (.var 1) (.cons (.neg (.var 3)) .nil)))) .nil))) [some (bookD (cells : Int) most fs), some (.int (b : Int)), some (.int (e : Int)), some (.int x), none, none, none, none] s = .ok (.lst ([(b, e, x), (e, b, -x)].map eD)) s := rfl
    rw [ev, c1]
    simp only [Rs.bind_ok]
    rw [c2]
    simp only [Rs.bind_ok, binD]
    rw [if_pos (le_lim (by
      rw [List.length_map, List.length_map, bEd_len]
      have := hb.c2
      have := hb.l
      simp only [List.length_cons, List.length_nil]
      omega)), ← List.map_append]
    rfl
  refine exs_nx (exe_expr (d := .non) (s' := s) ?_) (exs_nx (exe_expr (d := .non) (s' := s) ?_) (exs_nx (ite_nx (s' := s) ?_) (exs_nx (exe_expr (d := .non) (s' := s) ?_) (exs_nx (exe_asg hcat) (exs_nx (exe_asg (i0 _ rfl)) k)))))
  · rw [ev]; exact e3
  · rw [ev]; exact e7
  · rw [ev, ev, show evs ⟨callN T N (n + 3), N⟩ (.cons (.var 3) .nil) [some (bookD (cells : Int) most fs), some (.int (b : Int)), some (.int (e : Int)), some (.int x), none, none, none, none] s = .ok [.int x] s from rfl]
    simp only [Rs.bind_ok]
    rw [e0]
    rfl
  · rw [ev]; exact e12
theorem r_row_with_none (h : Be T) (hb : Bo cells most fs) {b e : Nat} {x : Int} (h1 : b < e) (h2 : e < cells + 1) (hc : canB cells most fs = true) (hn : ∀ p, ¬ Feas p (wEd cells most fs b e x)) :
    callN T N (n + 4) (.p 18) [bookD (cells : Int) most fs, .int (b : Int), .int (e : Int), .int x] s = .ok .non s := by
  rw [callp h.p18]
  have e9 := r_dist (T := T) (N := N) (n := n + 2) (s := s) (many := cells + 1) (first := 0) h.b.p9 (inb_w (x := x) hb (show b < cells + 1 by omega) h2) (by omega) (by have := hb.c2; omega)
  have hd : dists (cells + 1) (wEd cells most fs b e x) 0 = none := by
    cases q : dists (cells + 1) (wEd cells most fs b e x) 0 with
    | none => rfl
    | some g => exact absurd (dists_feas (inb_w hb (by omega) h2) (by omega) (fun v hv => reach_w 0 v (by omega) hv) q) (hn _)
  rw [hd] at e9
  refine runFn_rt rfl (row_with_pre h hb h1 h2 hc (exs_rt ?_))
  rw [ite_t (s' := s)]
  · rfl
  · rw [ev, ev]
    rw [show evs ⟨callN T N (n + 3), N⟩ (.cons (.var 5) (.cons (.var 4) (.cons (.int 0) .nil))) [some (bookD (cells : Int) most fs), some (.int (b : Int)), some (.int (e : Int)), some (.int x), some (.lst ((wEd cells most fs b e x).map eD)), some (.int ((cells + 1 : Nat) : Int)), none, none] s = .ok [.int ((cells + 1 : Nat) : Int), .lst ((wEd cells most fs b e x).map eD), .int 0] s from rfl]
    simp only [Rs.bind_ok]
    rw [show (.int 0 : D) = .int ((0 : Nat) : Int) from rfl, e9]
    rfl
theorem r_row_with (h : Be T) (hb : Bo cells most fs) {b e : Nat} {x : Int} (h1 : b < e) (h2 : e < cells + 1) (hc : canB cells most fs = true) {g : Nat → Fd} {d : Nat → Nat → Int} (G : Gs (cells + 1) (wEd cells most fs b e x) g d) :
    callN T N (n + 4) (.p 18) [bookD (cells : Int) most fs, .int (b : Int), .int (e : Int), .int x] s = .ok (rowD (rowOf (ht d) cells)) s := by
  rw [callp h.p18]
  have e9 := r_dist (T := T) (N := N) (n := n + 2) (s := s) (many := cells + 1) (first := 0) h.b.p9 (inb_w (x := x) hb (show b < cells + 1 by omega) h2) (by omega) (by have := hb.c2; omega)
  rw [G.hg 0 (by omega)] at e9
  have e13 := r_heights (T := T) (N := N) (n := n + 1) (s := s) (many := cells + 1) h.b.p13 h.b.p9 (by omega) (by have := hb.c2; omega) (inb_w hb (show b < cells + 1 by omega) h2) G.hg G.hd
  have ec : ev ⟨callN T N (n + 3), N⟩ f_p_18_c0 [some (bookD (cells : Int) most fs), some (.int (b : Int)), some (.int (e : Int)), some (.int x), some (.lst ((wEd cells most fs b e x).map eD)), some (.int ((cells + 1 : Nat) : Int)), some (hD (hts d cells)), none] s = .ok (.lst ((rowOf (ht d) cells).map D.int)) s :=
    row_comp (by decide) (by simp) (by rw [hts_len]; omega) (fun v hv => hts_get (by omega)) rfl rfl (by have := hb.c2; omega)
  refine runFn_rt rfl (row_with_pre h hb h1 h2 hc (exs_nx (ite_nx (s' := s) ?_) (exs_nx (exe_asg (d := hD (hts d cells)) (s' := s) ?_) (exs_rt (exe_ret ?_)))))
  · rw [ev, ev]
    rw [show evs ⟨callN T N (n + 3), N⟩ (.cons (.var 5) (.cons (.var 4) (.cons (.int 0) .nil))) [some (bookD (cells : Int) most fs), some (.int (b : Int)), some (.int (e : Int)), some (.int x), some (.lst ((wEd cells most fs b e x).map eD)), some (.int ((cells + 1 : Nat) : Int)), none, none] s = .ok [.int ((cells + 1 : Nat) : Int), .lst ((wEd cells most fs b e x).map eD), .int 0] s from rfl]
    simp only [Rs.bind_ok]
    rw [show (.int 0 : D) = .int ((0 : Nat) : Int) from rfl, e9]
    rfl
  · rw [ev]
    exact e13
  · rw [ev]
    rw [show ([some (bookD (cells : Int) most fs), some (.int (b : Int)), some (.int (e : Int)), some (.int x), some (.lst ((wEd cells most fs b e x).map eD)), some (.int ((cells + 1 : Nat) : Int)), none, none] : Env).set 6 (some (hD (hts d cells))) = [some (bookD (cells : Int) most fs), some (.int (b : Int)), some (.int (e : Int)), some (.int x), some (.lst ((wEd cells most fs b e x).map eD)), some (.int ((cells + 1 : Nat) : Int)), some (hD (hts d cells)), none] from rfl, ec]
    rfl
end
end MP

end
section
set_option Elab.async false
set_option linter.all false
set_option maxRecDepth 100000
set_option maxHeartbeats 1000000
/-! The laws' own table. -/
namespace MP
open PySem
section
variable {κ α : Type} [DecidableEq κ]
theorem lk_cons {kv : κ × α} {r : List (κ × α)} {k : κ} : lk (kv :: r) k = if kv.1 = k then some kv.2 else lk r k := by
  unfold lk
  rw [List.find?_cons]
  by_cases h : kv.1 = k
  · simp [h]
  · simp [h]
theorem lk_none {kvs : List (κ × α)} {k : κ} (h : (kvs.any fun kv => decide (kv.1 = k)) = false) : lk kvs k = none := by
  induction kvs with
  | nil => rfl
  | cons kv r ih =>
    rw [List.any_cons, Bool.or_eq_false_iff] at h
    rw [lk_cons, if_neg (of_decide_eq_false h.1), ih h.2]
theorem lk_repl {k k' : κ} {v : α} : ∀ {kvs : List (κ × α)}, lk (kvs.map fun kv => if kv.1 = k then (kv.1, v) else kv) k' = if k' = k then (if (kvs.any fun kv => decide (kv.1 = k)) = true then some v else none) else lk kvs k'
  | [] => by
    simp [lk]
  | kv :: r => by
    rw [List.map_cons, lk_cons, lk_repl (kvs := r), lk_cons, List.any_cons]
    by_cases h1 : kv.1 = k
    · rw [if_pos h1]
      by_cases h2 : k' = k
      · subst h2
        simp [h1]
      · have : ¬ k = k' := fun e => h2 e.symm
        simp [h1, h2, this]
    · rw [if_neg h1]
      by_cases h2 : k' = k
      · subst h2
        rw [if_neg h1, if_pos rfl, if_pos rfl, decide_eq_false h1, Bool.false_or]
      · simp [h2]
theorem lk_app {k k' : κ} {v : α} : ∀ {kvs : List (κ × α)}, (kvs.any fun kv => decide (kv.1 = k)) = false → lk (kvs ++ [(k, v)]) k' = if k' = k then some v else lk kvs k'
  | [], _ => by
    rw [List.nil_append, lk_cons]
    by_cases h : k' = k
    · subst h; simp
    · rw [if_neg h, if_neg (fun e => h e.symm)]
  | kv :: r, h => by
    rw [List.any_cons, Bool.or_eq_false_iff] at h
    rw [List.cons_append, lk_cons, lk_app h.2, lk_cons]
    have h1 := of_decide_eq_false h.1
    by_cases h2 : kv.1 = k'
    · rw [if_pos h2, if_pos h2, if_neg (fun e => h1 (h2.trans e))]
    · rw [if_neg h2, if_neg h2]
theorem lk_upk {kvs : List (κ × α)} {k k' : κ} {v : α} : lk (upk k v kvs) k' = if k' = k then some v else lk kvs k' := by
  unfold upk
  split
  · rename_i h
    rw [lk_repl, if_pos h]
  · rename_i h
    exact lk_app (Bool.eq_false_iff.mpr h)
theorem upk_len {kvs : List (κ × α)} {k : κ} {v : α} : (upk k v kvs).length ≤ kvs.length + 1 := by
  unfold upk
  split <;> simp
end
abbrev Tk := List (List L2.Key × D)
def key2 (a b : Nat) : List L2.Key := [.inl (a : Int), .inl (b : Int)]
def kD (a b : Nat) : D := .tup [.int (a : Int), .int (b : Int)]
def TabR (kvs : Tk) (T : Tb) : Prop := ∀ a b, lk kvs (key2 a b) = (T a b).map D.int
theorem key2_inj {a b c d : Nat} : key2 a b = key2 c d ↔ a = c ∧ b = d := by
  unfold key2
  constructor
  · intro h
    simp only [List.cons.injEq, Sum.inl.injEq, and_true] at h
    omega
  · rintro ⟨rfl, rfl⟩
    rfl
theorem dget_tab {kvs : Tk} {T : Tb} (h : TabR kvs T) (a b : Nat) : dget (.dT kvs) (kD a b) = some ((T a b).map D.int) := by
  show (match keysD [.int (a : Int), .int (b : Int)] with
    | some k => some (lk kvs k)
    | none => none) = _
  rw [show keysD [.int (a : Int), .int (b : Int)] = some (key2 a b) from rfl]
  simp only
  rw [h]
def upT (T : Tb) (a b : Nat) (v : Int) : Tb := fun x y => if x = a ∧ y = b then some v else T x y
theorem put_tab {kvs : Tk} {T : Tb} (h : TabR kvs T) (hl : kvs.length ≤ 99999) (a b : Nat) (v : Int) : ∃ kvs', setD (.dT kvs) (kD a b) (.int v) = some (.dT kvs') ∧ TabR kvs' (upT T a b v) ∧ kvs'.length ≤ kvs.length + 1 := by
  refine ⟨upk (key2 a b) (.int v) kvs, ?_, fun x y => ?_, upk_len⟩
  · show (match keysD [.int (a : Int), .int (b : Int)] with
      | some k => if kvs.length < lim then some (D.dT (upk k (.int v) kvs)) else none
      | none => none) = _
    rw [show keysD [.int (a : Int), .int (b : Int)] = some (key2 a b) from rfl]
    simp only
    rw [if_pos (show kvs.length < lim from le_lim (n := kvs.length + 1) (by omega))]
  · rw [lk_upk]
    unfold upT
    by_cases e : x = a ∧ y = b
    · rw [if_pos (key2_inj.mpr e), if_pos e]; rfl
    · rw [if_neg (fun q => e (key2_inj.mp q)), if_neg e, h]
theorem ev_kD {c : Cfg} {ρ : Env} {s : Sto} {i j a b : Nat} (hi : ρ[i]? = some (some (.int (a : Int)))) (hj : ρ[j]? = some (some (.int (b : Int)))) : ev c (.tup (.cons (.var i) (.cons (.var j) .nil))) ρ s = .ok (kD a b) s := by
  have e : evs c (.cons (.var i) (.cons (.var j) .nil)) ρ s = .ok [.int (a : Int), .int (b : Int)] s := by
    rw [evs, ev_var hi]
    simp only [Rs.bind_ok]
    rw [evs, ev_var hj]
    rfl
  rw [ev, e]
  simp only [Rs.bind_ok]
  rw [if_pos (le_lim (by simp))]
  rfl
section
variable {T : F → Option Fn} {N n : Nat} {s : Sto} {cells : Nat} {most : Int} {fs : List F4}
theorem omin_min {o : Option Int} {w : Int} : ∃ z, b2D .min (.int w) ((o.map D.int).getD (.int w)) = some (.int z) ∧ omin o (some w) = some z := by
  cases o with
  | none => exact ⟨w, by simp [b2D], rfl⟩
  | some x =>
    refine ⟨if w < x then w else x, ?_, rfl⟩
    simp only [b2D, Option.map_some, Option.getD_some, Option.some.injEq, D.int.injEq]
    split <;> split <;> omega
/-- far[(a, b)] = min(w, far.get((a, b), w)) -/
theorem put_min {c : Cfg} {ρ : Env} {i j k a b : Nat} {w : Int} {kvs : Tk} {Tt : Tb} (h : TabR kvs Tt) (hl : kvs.length ≤ 99999) (h1 : ρ[1]? = some (some (.dT kvs))) (hi : ρ[i]? = some (some (.int (a : Int)))) (hj : ρ[j]? = some (some (.int (b : Int)))) (hk : ρ[k]? = some (some (.int w))) :
    ∃ kvs', exe c (.put 1 (.tup (.cons (.var i) (.cons (.var j) .nil))) (.b2 .min (.var k) (.get (.var 1) (.tup (.cons (.var i) (.cons (.var j) .nil))) (.var k)))) ρ s = .nx (ρ.set 1 (some (.dT kvs'))) s ∧ TabR kvs' (fun x y => if x = a ∧ y = b then omin (Tt a b) (some w) else Tt x y) ∧ kvs'.length ≤ kvs.length + 1 := by
  obtain ⟨z, z1, z2⟩ := omin_min (o := Tt a b) (w := w)
  obtain ⟨kvs', e1, e2, e3⟩ := put_tab h hl a b z
  refine ⟨kvs', ?_, ?_, e3⟩
  · have eg : ev c (.get (.var 1) (.tup (.cons (.var i) (.cons (.var j) .nil))) (.var k)) ρ s = .ok (((Tt a b).map D.int).getD (.int w)) s := by
      rw [ev, ev_var h1]
      simp only [Rs.bind_ok, isDct, if_true]
      rw [ev_kD hi hj]
      simp only [Rs.bind_ok]
      rw [ev_var hk]
      simp only [Rs.bind_ok]
      rw [dget_tab h]
      rfl
    have em : ev c (.b2 .min (.var k) (.get (.var 1) (.tup (.cons (.var i) (.cons (.var j) .nil))) (.var k))) ρ s = .ok (.int z) s := by
      rw [ev, ev_var hk]
      simp only [Rs.bind_ok]
      rw [eg]
      simp only [Rs.bind_ok]
      rw [z1]
      rfl
    rw [exe]
    simp only [at', h1]
    rw [em]
    simp only [Rs.go_ok]
    rw [ev_kD hi hj]
    simp only [Rs.go_ok]
    rw [e1]
    rfl
  · have : (fun x y => if x = a ∧ y = b then omin (Tt a b) (some w) else Tt x y) = upT Tt a b z := by
      funext x y
      unfold upT
      rw [z2]
    rw [this]
    exact e2
/-! ### its loops -/
def tDg (T : Tb) (ks : List Nat) : Tb := ks.foldl (fun T k => upT T k k 0) T
theorem tab_l1 {c : Cfg} {vb v3 v6 v7 vk : Option D} {Tt : Tb} {kvs : Tk} (h : TabR kvs Tt) (hl : kvs.length ≤ 1000) (hc : cells ≤ 100) :
    ∃ kvs' x, exe c f_law_7_l1 [vb, some (.dT kvs), vk, v3, none, some (.int (cells : Int)), v6, v7, none, none, none, none, none, none, none, none] s = .nx [vb, some (.dT kvs'), x, v3, none, some (.int (cells : Int)), v6, v7, none, none, none, none, none, none, none, none] s ∧ TabR kvs' (tDg Tt (List.range (cells + 1))) ∧ kvs'.length ≤ kvs.length + (cells + 1) := by
  unfold f_law_7_l1
  rw [exe, evr_rg1n (k := cells + 1) rfl (by omega)]
  simp only [Rs.go_ok]
  obtain ⟨ρ', e1, kvs', x', e2, h1, h2⟩ := forL_pre (s := s) (l := List.range (cells + 1)) (g := fun i : Nat => D.int (i : Int)) (P := fun pre ρ => ∃ kvs' x, ρ = [vb, some (.dT kvs'), x, v3, none, some (.int (cells : Int)), v6, v7, none, none, none, none, none, none, none, none] ∧ TabR kvs' (tDg Tt pre) ∧ kvs'.length ≤ kvs.length + pre.length)
    (f := fun x ρ s => match bindT (.nm 2) x ρ with
      | some ρ' => exs c f_law_7_b0 ρ' s
      | none => .st) (fun pre a post hl' ρ ⟨kvs1, x, e, t1, l1⟩ => by
      subst e
      obtain ⟨rfl, hlt⟩ := range_pre hl'
      obtain ⟨kvs2, p1, p2, p3⟩ := put_tab t1 (by omega) pre.length pre.length 0
      refine ⟨_, ?_, kvs2, some (.int (pre.length : Int)), rfl, ?_, by rw [List.length_append, List.length_singleton]; omega⟩
      · simp only [bT_nm, List.set_cons_succ, List.set_cons_zero]
        unfold f_law_7_b0
        rw [exs, exe]
        simp only [at', List.getElem?_cons_succ, List.getElem?_cons_zero]
        rw [ev]
        simp only [Rs.go_ok]
        rw [ev_kD (a := pre.length) (b := pre.length) rfl rfl]
        simp only [Rs.go_ok]
        rw [p1]
        rfl
      · unfold tDg
        rw [List.foldl_append]
        exact p2) (post := List.range (cells + 1)) (pre := []) (ρ := [vb, some (.dT kvs), vk, v3, none, some (.int (cells : Int)), v6, v7, none, none, none, none, none, none, none, none]) rfl ⟨kvs, vk, rfl, h, by simp⟩
  subst e2
  rw [List.length_range] at h2
  exact ⟨kvs', x', e1, h1, h2⟩
def upM (T : Tb) (e : Eg) : Tb := fun x y => if x = e.1 ∧ y = e.2.1 then omin (T e.1 e.2.1) (some e.2.2) else T x y
theorem tab_l7 {c : Cfg} {vb v2 v5 v6 v7 v8 v9 v10 v11 o1 o2 o3 : Option D} {Tt : Tb} {kvs : Tk} {ways : List Eg} (h : TabR kvs Tt) (hl : kvs.length ≤ 1000) (hw : ways.length ≤ 1000) :
    ∃ kvs' o1' o2' o3', exe c f_law_7_l7 [vb, some (.dT kvs), v2, some (.lst (ways.map eD)), none, v5, v6, v7, v8, v9, v10, v11, o1, o2, o3, none] s = .nx [vb, some (.dT kvs'), v2, some (.lst (ways.map eD)), none, v5, v6, v7, v8, v9, v10, v11, o1', o2', o3', none] s ∧ TabR kvs' (ways.foldl upM Tt) ∧ kvs'.length ≤ kvs.length + ways.length := by
  unfold f_law_7_l7
  rw [exe, show evr c (.of (.var 3)) [vb, some (.dT kvs), v2, some (.lst (ways.map eD)), none, v5, v6, v7, v8, v9, v10, v11, o1, o2, o3, none] s = .ok (ways.map eD) s from rfl]
  simp only [Rs.go_ok]
  obtain ⟨ρ', e1, kvs', o1', o2', o3', e2, h1, h2⟩ := forL_pre (s := s) (l := ways) (g := eD) (P := fun pre ρ => ∃ kvs' o1 o2 o3, ρ = [vb, some (.dT kvs'), v2, some (.lst (ways.map eD)), none, v5, v6, v7, v8, v9, v10, v11, o1, o2, o3, none] ∧ TabR kvs' (pre.foldl upM Tt) ∧ kvs'.length ≤ kvs.length + pre.length)
    (f := fun x ρ s => match bindT (.tp (.cons (.nm 12) (.cons (.nm 13) (.cons (.nm 14) .nil)))) x ρ with
      | some ρ' => exs c f_law_7_b6 ρ' s
      | none => .st) (fun pre a post hl' ρ ⟨kvs1, o1, o2, o3, e, t1, l1⟩ => by
      subst e
      have hpl : pre.length < ways.length := by rw [hl']; simp
      obtain ⟨kvs2, p1, p2, p3⟩ := put_min (s := s) (c := c) (ρ := [vb, some (.dT kvs1), v2, some (.lst (ways.map eD)), none, v5, v6, v7, v8, v9, v10, v11, some (.int (a.1 : Int)), some (.int (a.2.1 : Int)), some (.int a.2.2), none]) (i := 12) (j := 13) (k := 14) (a := a.1) (b := a.2.1) (w := a.2.2) t1 (by omega) rfl rfl rfl rfl
      refine ⟨_, ?_, kvs2, some (.int (a.1 : Int)), some (.int (a.2.1 : Int)), some (.int a.2.2), rfl, ?_, by rw [List.length_append, List.length_singleton]; omega⟩
      · rw [show bindT (.tp (.cons (.nm 12) (.cons (.nm 13) (.cons (.nm 14) .nil)))) (eD a) [vb, some (.dT kvs1), v2, some (.lst (ways.map eD)), none, v5, v6, v7, v8, v9, v10, v11, o1, o2, o3, none] = some [vb, some (.dT kvs1), v2, some (.lst (ways.map eD)), none, v5, v6, v7, v8, v9, v10, v11, some (.int (a.1 : Int)), some (.int (a.2.1 : Int)), some (.int a.2.2), none] from rfl]
        simp only
        unfold f_law_7_b6
        exact exs_nx p1 rfl
      · rw [List.foldl_append]
        exact p2) (post := ways) (pre := []) (ρ := [vb, some (.dT kvs), v2, some (.lst (ways.map eD)), none, v5, v6, v7, v8, v9, v10, v11, o1, o2, o3, none]) rfl ⟨kvs, o1, o2, o3, rfl, h, by simp⟩
  subst e2
  exact ⟨kvs', o1', o2', o3', e1, h1, h2⟩
theorem in_tab {c : Cfg} {ρ : Env} {i j a b : Nat} {kvs : Tk} {Tt : Tb} (h : TabR kvs Tt) (h1 : ρ[1]? = some (some (.dT kvs))) (hi : ρ[i]? = some (some (.int (a : Int)))) (hj : ρ[j]? = some (some (.int (b : Int)))) : ev c (.cmp .isin (.tup (.cons (.var i) (.cons (.var j) .nil))) (.var 1)) ρ s = .ok (.bl (Tt a b).isSome) s := by
  rw [ev, ev_kD hi hj]
  simp only [Rs.bind_ok]
  rw [ev_var h1]
  simp only [Rs.bind_ok, cmpD]
  rw [show inD (kD a b) (.dT kvs) = (dget (.dT kvs) (kD a b)).map (·.isSome) from rfl, dget_tab h]
  cases Tt a b <;> rfl
theorem at_tab {c : Cfg} {ρ : Env} {i j a b : Nat} {kvs : Tk} {Tt : Tb} {x : Int} (h : TabR kvs Tt) (h1 : ρ[1]? = some (some (.dT kvs))) (hi : ρ[i]? = some (some (.int (a : Int)))) (hj : ρ[j]? = some (some (.int (b : Int)))) (hx : Tt a b = some x) : ev c (.ix (.var 1) (.tup (.cons (.var i) (.cons (.var j) .nil)))) ρ s = .ok (.int x) s := by
  rw [ev, ev_var h1]
  simp only [Rs.bind_ok]
  rw [ev_kD hi hj]
  simp only [Rs.bind_ok]
  rw [show ixD (.dT kvs) (kD a b) = (dget (.dT kvs) (kD a b)).join from rfl, dget_tab h, hx]
  rfl
theorem st2_none {k a b : Nat} {Tt : Tb} (h : oadd (Tt a k) (Tt k b) = none) : st2 k Tt a b = Tt := by
  funext x y
  unfold st2
  rw [h]
  split
  · rename_i e
    rw [e.1, e.2]
    cases Tt a b <;> rfl
  · rfl
theorem tab_b8 {c : Cfg} {vb v2 v3 v5 v6 v7 v8 v9 v10 v11 v14 nw : Option D} {Tt : Tb} {kvs : Tk} {m a b : Nat} (h : TabR kvs Tt) (hl : kvs.length ≤ 99999) :
    ∃ kvs' nw', exs c f_law_7_b8 [vb, some (.dT kvs), v2, v3, some (.int (m : Int)), v5, v6, v7, v8, v9, v10, v11, some (.int (a : Int)), some (.int (b : Int)), v14, nw] s = .nx [vb, some (.dT kvs'), v2, v3, some (.int (m : Int)), v5, v6, v7, v8, v9, v10, v11, some (.int (a : Int)), some (.int (b : Int)), v14, nw'] s ∧ TabR kvs' (st2 m Tt a b) ∧ kvs'.length ≤ kvs.length + 1 := by
  have c1 := in_tab (s := s) (c := c) (ρ := [vb, some (.dT kvs), v2, v3, some (.int (m : Int)), v5, v6, v7, v8, v9, v10, v11, some (.int (a : Int)), some (.int (b : Int)), v14, nw]) (i := 12) (j := 4) (a := a) (b := m) h rfl rfl rfl
  have c2 := in_tab (s := s) (c := c) (ρ := [vb, some (.dT kvs), v2, v3, some (.int (m : Int)), v5, v6, v7, v8, v9, v10, v11, some (.int (a : Int)), some (.int (b : Int)), v14, nw]) (i := 4) (j := 13) (a := m) (b := b) h rfl rfl rfl
  unfold f_law_7_b8
  cases g1 : Tt a m with
  | none =>
    rw [g1] at c1
    refine ⟨kvs, nw, exs_nx (ite_nx ?_) rfl, ?_, by omega⟩
    · rw [ev, c1]; rfl
    · rw [st2_none (by rw [g1]; rfl)]; exact h
  | some x =>
    rw [g1] at c1
    cases g2 : Tt m b with
    | none =>
      rw [g2] at c2
      refine ⟨kvs, nw, exs_nx (ite_nx (s' := s) ?_) rfl, ?_, by omega⟩
      · rw [ev, c1]
        simp only [Rs.bind_ok]
        rw [show (Option.isSome (some x)) = true from rfl]
        simp only
        rw [c2]; rfl
      · rw [st2_none (by rw [g1, g2]; rfl)]; exact h
    | some y =>
      rw [g2] at c2
      have x1 := at_tab (s := s) (c := c) (ρ := [vb, some (.dT kvs), v2, v3, some (.int (m : Int)), v5, v6, v7, v8, v9, v10, v11, some (.int (a : Int)), some (.int (b : Int)), v14, nw]) (i := 12) (j := 4) (a := a) (b := m) h rfl rfl rfl g1
      have x2 := at_tab (s := s) (c := c) (ρ := [vb, some (.dT kvs), v2, v3, some (.int (m : Int)), v5, v6, v7, v8, v9, v10, v11, some (.int (a : Int)), some (.int (b : Int)), v14, nw]) (i := 4) (j := 13) (a := m) (b := b) h rfl rfl rfl g2
      obtain ⟨kvs2, p1, p2, p3⟩ := put_min (s := s) (c := c) (ρ := [vb, some (.dT kvs), v2, v3, some (.int (m : Int)), v5, v6, v7, v8, v9, v10, v11, some (.int (a : Int)), some (.int (b : Int)), v14, some (.int (x + y))]) (i := 12) (j := 13) (k := 15) (a := a) (b := b) (w := x + y) h hl rfl rfl rfl rfl
      refine ⟨kvs2, some (.int (x + y)), exs_nx (s' := s) (ρ' := [vb, some (.dT kvs2), v2, v3, some (.int (m : Int)), v5, v6, v7, v8, v9, v10, v11, some (.int (a : Int)), some (.int (b : Int)), v14, some (.int (x + y))]) ?_ rfl, ?_, p3⟩
      · rw [ite_t (s' := s)]
        · refine exs_nx (s' := s) (ρ' := [vb, some (.dT kvs), v2, v3, some (.int (m : Int)), v5, v6, v7, v8, v9, v10, v11, some (.int (a : Int)), some (.int (b : Int)), v14, some (.int (x + y))]) ?_ (exs_nx p1 rfl)
          refine exe_asg (d := .int (x + y)) ?_
          rw [ev, x1]
          simp only [Rs.bind_ok]
          rw [x2]
          rfl
        · rw [ev, c1]
          simp only [Rs.bind_ok]
          rw [show (Option.isSome (some x)) = true from rfl]
          simp only
          rw [c2]; rfl
      · have : st2 m Tt a b = fun x' y' => if x' = a ∧ y' = b then omin (Tt a b) (some (x + y)) else Tt x' y' := by
          unfold st2
          rw [g1, g2]
          rfl
        rw [this]
        exact p2
end
end MP

end
section
set_option Elab.async false
set_option linter.all false
set_option maxRecDepth 100000
set_option maxHeartbeats 1000000
/-! Stepping through a body: what holds of its end. -/
namespace MP
open PySem
structure W (r : R) (Q : R → Prop) : Prop where
  q : Q r
/-- a body that goes on keeps P, one that ends keeps Q -/
def Nx (P : Env → Sto → Prop) (Q : R → Prop) : R → Prop
  | .nx ρ s => P ρ s
  | r => Q r
section
variable {c : Cfg} {ρ ρ' : Env} {s s' : Sto} {r : Ss} {Q : R → Prop} {e t : E} {d : D} {i : Nat} {a b : Ss}
theorem W_run {fn : Fn} {ds : List D} (hl : ds.length = fn.pars) (h : W (exs c fn.body (start fn ds) s) (fun r => r = .rt d s')) : runFn c fn ds s = .ok d s' := runFn_rt hl h.q
theorem W_runQ {fn : Fn} {ds : List D} {P : Rs D → Prop} (hl : ds.length = fn.pars) (h : W (exs c fn.body (start fn ds) s) (fun r => ∃ d s', r = .rt d s' ∧ P (.ok d s'))) : P (runFn c fn ds s) := by
  obtain ⟨d, s', h1, h2⟩ := h.q
  rw [runFn_rt hl h1]
  exact h2
theorem W_non {fn : Fn} {ds : List D} (hl : ds.length = fn.pars) (hf : fn.fresh = false) (h : W (exs c fn.body (start fn ds) s) (fun r => ∃ ρ, r = .nx ρ s')) : runFn c fn ds s = .ok .non s' := by
  obtain ⟨ρ, h⟩ := h.q
  exact runFn_nx hl hf h
theorem W_nil (h : Q (.nx ρ s)) : W (exs c .nil ρ s) Q := ⟨h⟩
theorem W_eq {x : R} {ss : Ss} (h : exs c ss ρ s = x) (k : Q x) : W (exs c ss ρ s) Q := by
  rw [h]
  exact ⟨k⟩
theorem W_nx {st : S} (h : exe c st ρ s = .nx ρ' s') (k : W (exs c r ρ' s') Q) : W (exs c (.cons st r) ρ s) Q := by
  rw [exs_nx h rfl]
  exact k
theorem W_asg (h : ev c e ρ s = .ok d s') (k : W (exs c r (ρ.set i (some d)) s') Q) : W (exs c (.cons (.asg (.nm i) e) r) ρ s) Q := W_nx (exe_asg h) k
theorem W_asgT {t : Tg} (h : ev c e ρ s = .ok d s') (hb : bindT t d ρ = some ρ') (k : W (exs c r ρ' s') Q) : W (exs c (.cons (.asg t e) r) ρ s) Q := W_nx (by rw [exe, h]; simp only [Rs.go_ok]; rw [hb]; rfl) k
theorem W_par {ts : List Nat} {es : Es} {ds : List D} (h : evs c es ρ s = .ok ds s') (hb : parE ts ds ρ = some ρ') (k : W (exs c r ρ' s') Q) : W (exs c (.cons (.par ts es) r) ρ s) Q := W_nx (by rw [exe, h]; simp only [Rs.go_ok]; rw [hb]; rfl) k
theorem W_own (h : ev c e ρ s = .ok d s') (hf : isFresh d = true) (k : W (exs c r (ρ.set i (some d)) s') Q) : W (exs c (.cons (.own i e) r) ρ s) Q := W_nx (by rw [exe, h]; simp only [Rs.go_ok]; rw [if_pos hf]) k
theorem W_frz (k : W (exs c r ρ s) Q) : W (exs c (.cons (.frz i) r) ρ s) Q := W_nx rfl k
theorem W_expr (h : ev c e ρ s = .ok d s') (k : W (exs c r ρ s') Q) : W (exs c (.cons (.expr e) r) ρ s) Q := W_nx (exe_expr h) k
theorem W_app {ds : List D} (hi : ρ[i]? = some (some (.lst ds))) (h : ev c e ρ s = .ok d s') (hl : ds.length < lim) (k : W (exs c r (ρ.set i (some (.lst (ds ++ [d])))) s') Q) : W (exs c (.cons (.app i e) r) ρ s) Q := W_nx (by
  rw [exe]
  simp only [at', hi]
  rw [h]
  simp only [Rs.go_ok]
  rw [if_pos hl]) k
theorem W_ext {ds es : List D} (hi : ρ[i]? = some (some (.lst ds))) (h : ev c e ρ s = .ok (.lst es) s') (hl : ds.length + es.length ≤ lim) (k : W (exs c r (ρ.set i (some (.lst (ds ++ es)))) s') Q) : W (exs c (.cons (.ext i e) r) ρ s) Q := W_nx (by
  rw [exe]
  simp only [at', hi]
  rw [h]
  simp only [Rs.go_ok]
  rw [if_pos hl]) k
theorem W_put {x z y v : D} {k : E} {s1 : Sto} (hi : ρ[i]? = some (some x)) (h : ev c e ρ s = .ok v s1) (hk : ev c k ρ s1 = .ok y s') (hz : setD x y v = some z) (kk : W (exs c r (ρ.set i (some z)) s') Q) : W (exs c (.cons (.put i k e) r) ρ s) Q := W_nx (by
  rw [exe]
  simp only [at', hi]
  rw [h]
  simp only [Rs.go_ok]
  rw [hk]
  simp only [Rs.go_ok]
  rw [hz]
  rfl) kk
theorem W_aug {x y : Int} (hi : ρ[i]? = some (some (.int x))) (h : ev c e ρ s = .ok (.int y) s') (k : W (exs c r (ρ.set i (some (.int (x + y)))) s') Q) : W (exs c (.cons (.aug i .add e) r) ρ s) Q := W_nx (by
  rw [exe]
  simp only [at', hi]
  rw [h]
  rfl) k
theorem W_ret (h : ev c e ρ s = .ok d s') (k : Q (.rt d s')) : W (exs c (.cons (.ret e) r) ρ s) Q := by
  rw [exs_rt (exe_ret h)]
  exact ⟨k⟩
/-- a test that fails, nothing else -/
theorem W_no (h : ev c t ρ s = .ok d s') (hd : truD d = some false) (k : W (exs c r ρ s') Q) : W (exs c (.cons (.ite t a .nil) r) ρ s) Q := W_nx (by
  rw [exe, h]
  simp only [Rs.go_ok]
  rw [hd]
  rfl) k
theorem bind_nil {x : R} : (x.bind fun ρ s => exs c .nil ρ s) = x := by cases x <;> rfl
theorem W_ite {k : Bool} (h : ev c t ρ s = .ok d s') (hd : truD d = some k) (ht : k = true → W (exs c a ρ s') (Nx (fun ρ s => W (exs c r ρ s) Q) Q)) (hf : k = false → W (exs c b ρ s') (Nx (fun ρ s => W (exs c r ρ s) Q) Q)) : W (exs c (.cons (.ite t a b) r) ρ s) Q := by
  have key : ∀ {x : R}, Nx (fun ρ s => W (exs c r ρ s) Q) Q x → Q (x.bind fun ρ s => exs c r ρ s) := fun {x} hx => by
    cases x <;> first | exact hx | exact hx.q
  refine ⟨?_⟩
  rw [exs, exe, h]
  simp only [Rs.go_ok]
  rw [hd]
  simp only [Rs.opt_some, Rs.go_ok]
  cases k with
  | true => exact key (ht rfl).q
  | false => exact key (hf rfl).q
/-- an end of a body within a greater one -/
theorem Nx_rt {P : Env → Sto → Prop} (h : Q (.rt d s)) : Nx P Q (.rt d s) := h
theorem Nx_nx {P : Env → Sto → Prop} (h : P ρ s) : Nx P Q (.nx ρ s) := h
theorem for_key {α : Type} {f : D → Env → Sto → R} {P : List α → Env → Sto → Prop} {l : List α} {g : α → D} (hs : ∀ pre a post, l = pre ++ a :: post → ∀ ρ s, P pre ρ s → W (f (g a) ρ s) (Nx (P (pre ++ [a])) Q)) : ∀ {post pre : List α} {ρ : Env} {s : Sto}, l = pre ++ post → P pre ρ s → Nx (P l) Q (forL f (post.map g) ρ s)
  | [], pre, ρ, s, e, hp => by
    rw [List.append_nil] at e
    rw [e]
    exact hp
  | x :: post, pre, ρ, s, e, hp => by
    have h1 := (hs pre x post e ρ s hp).q
    rw [List.map_cons]
    unfold forL
    cases hx : f (g x) ρ s with
    | nx ρ1 s1 =>
      rw [hx] at h1
      exact for_key hs (post := post) (pre := pre ++ [x]) (by rw [e]; simp) h1
    | rt d s1 => rw [hx] at h1; exact h1
    | ex k ds ρ1 s1 => rw [hx] at h1; exact h1
    | st => rw [hx] at h1; exact h1
theorem W_for {α : Type} {t : Tg} {sr : Sr} (l : List α) (g : α → D) (P : List α → Env → Sto → Prop) (hr : evr c sr ρ s = .ok (l.map g) s') (h0 : P [] ρ s') (hs : ∀ pre a post, l = pre ++ a :: post → ∀ ρ s, P pre ρ s → ∃ ρ1, bindT t (g a) ρ = some ρ1 ∧ W (exs c b ρ1 s) (Nx (P (pre ++ [a])) Q)) (k : ∀ ρ s, P l ρ s → W (exs c r ρ s) Q) : W (exs c (.cons (.for t sr b) r) ρ s) Q := by
  have := for_key (Q := Q) (l := l) (g := g) (P := P) (f := fun x ρ s => match bindT t x ρ with
    | some ρ' => exs c b ρ' s
    | none => .st) (fun pre a post e ρ s hp => by
      obtain ⟨ρ1, h1, h2⟩ := hs pre a post e ρ s hp
      simp only [h1]
      exact h2) (post := l) (pre := []) rfl h0
  refine ⟨?_⟩
  rw [exs, exe, hr]
  simp only [Rs.go_ok]
  revert this
  generalize forL _ _ _ _ = x
  intro this
  cases x with
  | nx ρ1 s1 => exact (k _ _ this).q
  | rt d s1 => exact this
  | ex k ds ρ1 s1 => exact this
  | st => exact this
theorem whl_key {tt : Env → Sto → Rs Bool} {f : Env → Sto → R} {P : Nat → Env → Sto → Prop} {K : R → Prop} (hs : ∀ k ρ s, P k ρ s → ∃ b s', tt ρ s = .ok b s' ∧ (b = true → W (f ρ s') (Nx (fun ρ s => ∃ k', k' < k ∧ P k' ρ s) K)) ∧ (b = false → K (.nx ρ s'))) : ∀ {n k : Nat} {ρ : Env} {s : Sto}, P k ρ s → k < n → K (whlL tt f n ρ s)
  | 0, k, ρ, s, _, h => absurd h (Nat.not_lt_zero _)
  | n + 1, k, ρ, s, hp, hk => by
    obtain ⟨b, s', h1, h2, h3⟩ := hs k ρ s hp
    unfold whlL
    rw [h1]
    simp only [Rs.go_ok]
    cases b with
    | false => exact h3 rfl
    | true =>
      have h4 := (h2 rfl).q
      simp only [if_true]
      cases hx : f ρ s' with
      | nx ρ1 s1 =>
        rw [hx] at h4
        obtain ⟨k', h5, h6⟩ := h4
        exact whl_key hs (n := n) h6 (by omega)
      | rt d s1 => rw [hx] at h4; exact h4
      | ex k ds ρ1 s1 => rw [hx] at h4; exact h4
      | st => rw [hx] at h4; exact h4
theorem W_whl (P : Nat → Env → Sto → Prop) {k : Nat} (h0 : P k ρ s) (hk : k < c.fuel) (hs : ∀ k ρ s, P k ρ s → ∃ d b' s', ev c t ρ s = .ok d s' ∧ truD d = some b' ∧ (b' = true → W (exs c b ρ s') (Nx (fun ρ s => ∃ k', k' < k ∧ P k' ρ s) Q)) ∧ (b' = false → W (exs c r ρ s') Q)) : W (exs c (.cons (.whl t b) r) ρ s) Q := by
  have := whl_key (K := fun x => Q (x.bind fun ρ s => exs c r ρ s)) (P := P) (tt := fun ρ s => (ev c t ρ s).bind fun x s => Rs.opt (truD x) s) (f := fun ρ s => exs c b ρ s) (fun k ρ s hp => by
    obtain ⟨d, b', s', h1, h2, h3, h4⟩ := hs k ρ s hp
    refine ⟨b', s', by rw [h1]; simp only [Rs.bind_ok]; rw [h2]; rfl, fun e => ⟨?_⟩, fun e => (h4 e).q⟩
    have := (h3 e).q
    cases hx : exs c b ρ s' with
    | nx ρ1 s1 => rw [hx] at this; exact this
    | rt d s1 => rw [hx] at this; exact this
    | ex k ds ρ1 s1 => rw [hx] at this; exact this
    | st => rw [hx] at this; exact this) (n := c.fuel) h0 hk
  refine ⟨?_⟩
  rw [exs, exe]
  exact this
/-! comprehensions -/
theorem ev_lci {α : Type} {t : Tg} {sr : Sr} {i : E} {g h : α → D} {p : α → Bool} {l : List α} (hr : evr c sr ρ s = .ok (l.map g) s') (hl : l.length ≤ lim) (hh : ∀ a ∈ l, ∃ ρ', bindT t (g a) (wipeE ρ (slotsT t)) = some ρ' ∧ (∃ d, ev c i ρ' s' = .ok d s' ∧ truD d = some (p a)) ∧ (p a = true → ev c e ρ' s' = .ok (h a) s')) : ev c (.lci e t sr i) ρ s = .ok (.lst ((l.filter p).map h)) s' := by
  rw [ev, hr]
  simp only [Rs.bind_ok]
  have key : ∀ (l : List α) (acc : List D), (∀ a ∈ l, ∃ ρ', bindT t (g a) (wipeE ρ (slotsT t)) = some ρ' ∧ (∃ d, ev c i ρ' s' = .ok d s' ∧ truD d = some (p a)) ∧ (p a = true → ev c e ρ' s' = .ok (h a) s')) → acc.length + l.length ≤ lim → lciL (fun x s => match bindT t x (wipeE ρ (slotsT t)) with
    | some ρ' => (ev c i ρ' s).bind fun k s => (Rs.opt (truD k) s).bind fun k s => if k then (ev c e ρ' s).bind fun d s => .ok (some d) s else .ok none s
    | none => .st) acc (l.map g) s' = .ok (.lst (acc ++ (l.filter p).map h)) s' := by
    intro l
    induction l with
    | nil => intro acc _ _; simp [lciL]
    | cons a l ih =>
      intro acc hh hl
      obtain ⟨ρ', h1, ⟨d, h2, h3⟩, h4⟩ := hh a (List.mem_cons_self ..)
      rw [List.length_cons] at hl
      rw [List.map_cons]
      unfold lciL
      simp only [h1]
      rw [h2]
      simp only [Rs.bind_ok]
      rw [h3]
      simp only [Rs.opt_some, Rs.bind_ok]
      cases hp : p a with
      | false =>
        simp only [Bool.false_eq_true, if_false, Rs.nox_ok, Rs.bind_ok]
        rw [ih acc (fun b hb => hh b (List.mem_cons_of_mem _ hb)) (by omega), List.filter_cons_of_neg (by rw [hp]; decide)]
      | true =>
        simp only [if_true]
        rw [h4 hp]
        simp only [Rs.bind_ok, Rs.nox_ok]
        rw [if_pos (by omega), ih (acc ++ [h a]) (fun b hb => hh b (List.mem_cons_of_mem _ hb)) (by simp; omega), List.filter_cons_of_pos hp]
        simp
  exact (key l [] hh (by simpa using hl)).trans (by simp)
theorem ev_lc2 {α β : Type} {i j : Nat} {sr sr2 : Sr} {g : α → D} {g2 : β → D} {l : List α} {l2 : α → List β} {h : α → β → D} (hr : evr c sr ρ s = .ok (l.map g) s') (hl : (l.flatMap fun a => (l2 a).map (h a)).length ≤ lim) (h2 : ∀ a ∈ l, evr c sr2 ((wipeE ρ [i, j]).set i (some (g a))) s' = .ok ((l2 a).map g2) s') (hh : ∀ a ∈ l, ∀ b ∈ l2 a, ev c e ((wipeE ((wipeE ρ [i, j]).set i (some (g a))) [j]).set j (some (g2 b))) s' = .ok (h a b) s') : ev c (.lc2 e i sr j sr2) ρ s = .ok (.lst (l.flatMap fun a => (l2 a).map (h a))) s' := by
  rw [ev, hr]
  simp only [Rs.bind_ok]
  have inner : ∀ (a : α) (m : List β) (acc : List D), (∀ b ∈ m, ev c e ((wipeE ((wipeE ρ [i, j]).set i (some (g a))) [j]).set j (some (g2 b))) s' = .ok (h a b) s') → acc.length + m.length ≤ lim → lc2In (fun y s => (ev c e ((wipeE ((wipeE ρ [i, j]).set i (some (g a))) [j]).set j (some y)) s).bind fun d s => .ok (some d) s) acc (m.map g2) s' = .ok (acc ++ m.map (h a)) s' := by
    intro a m
    induction m with
    | nil => intro acc _ _; simp [lc2In]
    | cons b m ih =>
      intro acc hh hl
      rw [List.length_cons] at hl
      rw [List.map_cons]
      unfold lc2In
      rw [hh b (List.mem_cons_self ..)]
      simp only [Rs.bind_ok, Rs.nox_ok]
      rw [if_pos (by omega), ih (acc ++ [h a b]) (fun b hb => hh b (List.mem_cons_of_mem _ hb)) (by simp; omega)]
      simp
  have outer : ∀ (l : List α) (acc : List D), (∀ a ∈ l, evr c sr2 ((wipeE ρ [i, j]).set i (some (g a))) s' = .ok ((l2 a).map g2) s') → (∀ a ∈ l, ∀ b ∈ l2 a, ev c e ((wipeE ((wipeE ρ [i, j]).set i (some (g a))) [j]).set j (some (g2 b))) s' = .ok (h a b) s') → acc.length + (l.flatMap fun a => (l2 a).map (h a)).length ≤ lim → lc2L (fun acc x s =>
      (evr c sr2 ((wipeE ρ [i, j]).set i (some x)) s).bind fun ys s => lc2In (fun y s => (ev c e ((wipeE ((wipeE ρ [i, j]).set i (some x)) [j]).set j (some y)) s).bind fun d s => .ok (some d) s) acc ys s) acc (l.map g) s' = .ok (.lst (acc ++ l.flatMap fun a => (l2 a).map (h a))) s' := by
    intro l
    induction l with
    | nil => intro acc _ _ _; simp [lc2L]
    | cons a l ih =>
      intro acc h2 hh hl
      rw [List.flatMap_cons, List.length_append, List.length_map] at hl
      rw [List.map_cons]
      unfold lc2L
      rw [h2 a (List.mem_cons_self ..)]
      simp only [Rs.bind_ok]
      rw [inner a (l2 a) acc (hh a (List.mem_cons_self ..)) (by omega)]
      simp only [Rs.nox_ok, Rs.bind_ok]
      rw [ih (acc ++ (l2 a).map (h a)) (fun b hb => h2 b (List.mem_cons_of_mem _ hb)) (fun b hb => hh b (List.mem_cons_of_mem _ hb)) (by rw [List.length_append, List.length_map]; omega)]
      simp
  rw [outer l [] h2 hh (by simpa using hl)]
  simp
end
end MP

end
section
set_option Elab.async false
set_option linter.all false
set_option maxRecDepth 100000
set_option maxHeartbeats 1000000
/-! The laws' own table, to its end. -/
namespace MP
open PySem
def wys (cells : Nat) (most : Int) : List Eg := ((List.range cells).map fun k => (k, k + 1, most)) ++ ((List.range cells).map fun k => (k + 1, k, (0 : Int)))
def tb0 (cells : Nat) (most : Int) (fs : List F4) : Tb := (wys cells most ++ fEd fs).foldl upM (tDg (fun _ _ => none) (List.range (cells + 1)))
def tb1 (cells : Nat) (most : Int) (fs : List F4) : Tb := fw (cells + 1) (List.range (cells + 1)) (tb0 cells most fs)
theorem mem_wys {cells : Nat} {most : Int} {e : Eg} : e ∈ wys cells most ↔ e ∈ cEd cells most := by
  rw [mem_cEd]
  unfold wys
  rw [List.mem_append, List.mem_map, List.mem_map]
  constructor
  · rintro (⟨k, hk, rfl⟩ | ⟨k, hk, rfl⟩)
    · exact ⟨k, List.mem_range.mp hk, .inl rfl⟩
    · exact ⟨k, List.mem_range.mp hk, .inr rfl⟩
  · rintro ⟨k, hk, rfl | rfl⟩
    · exact .inl ⟨k, List.mem_range.mpr hk, rfl⟩
    · exact .inr ⟨k, List.mem_range.mpr hk, rfl⟩
theorem wys_len {cells : Nat} {most : Int} : (wys cells most).length = 2 * cells := by
  unfold wys
  rw [List.length_append, List.length_map, List.length_map, List.length_range]
  omega
section
variable {E : List Eg} {n : Nat}
theorem tDg_val : ∀ {ks : List Nat} {T : Tb} {a b : Nat}, tDg T ks a b = if a = b ∧ a ∈ ks then some 0 else T a b
  | [], T, a, b => by simp [tDg]
  | k :: ks, T, a, b => by
    unfold tDg
    rw [List.foldl_cons]
    have := tDg_val (ks := ks) (T := upT T k k 0) (a := a) (b := b)
    unfold tDg at this
    rw [this]
    unfold upT
    by_cases h1 : a = b ∧ a ∈ ks
    · rw [if_pos h1, if_pos ⟨h1.1, List.mem_cons_of_mem _ h1.2⟩]
    · rw [if_neg h1]
      by_cases h2 : a = k ∧ b = k
      · rw [if_pos h2, if_pos ⟨by omega, by rw [h2.1]; exact List.mem_cons_self ..⟩]
      · rw [if_neg h2, if_neg]
        rintro ⟨h3, h4⟩
        rcases List.mem_cons.mp h4 with h4 | h4
        · exact h2 ⟨h4, by omega⟩
        · exact h1 ⟨h3, h4⟩
theorem upM_le {T : Tb} {e : Eg} {a b : Nat} : OLe (upM T e a b) (T a b) := by
  unfold upM
  split
  · rename_i h; rw [h.1, h.2]; exact omin_le1
  · exact .refl
theorem upMs_le : ∀ {es : List Eg} {T : Tb} {a b : Nat}, OLe (es.foldl upM T a b) (T a b)
  | [], T, a, b => .refl
  | e :: es, T, a, b => by
    rw [List.foldl_cons]
    exact OLe.trans upMs_le upM_le
theorem upM_ws {T : Tb} {e : Eg} (he : e ∈ E) (h : WS E T) : WS E (upM T e) := fun x y w hw => by
  unfold upM at hw
  split at hw
  · rename_i e'
    obtain ⟨rfl, rfl⟩ := e'
    rcases omin_cases (T e.1 e.2.1) (some e.2.2) with q | q
    · rw [q] at hw; exact h _ _ _ hw
    · rw [q] at hw; cases hw; exact .one he
  · exact h _ _ _ hw
theorem upMs_ws : ∀ {es : List Eg} {T : Tb}, (∀ e ∈ es, e ∈ E) → WS E T → WS E (es.foldl upM T)
  | [], T, _, h => h
  | e :: es, T, he, h => by
    rw [List.foldl_cons]
    exact upMs_ws (fun e' h' => he e' (List.mem_cons_of_mem _ h')) (upM_ws (he e (List.mem_cons_self ..)) h)
theorem upMs_eg : ∀ {es : List Eg} {T : Tb} {a b : Nat} {w : Int}, (a, b, w) ∈ es → OLe (es.foldl upM T a b) (some w)
  | [], T, a, b, w, h => by cases h
  | e :: es, T, a, b, w, h => by
    rw [List.foldl_cons]
    rcases List.mem_cons.mp h with rfl | h
    · refine OLe.trans upMs_le ?_
      unfold upM
      simp only [and_self, if_true]
      exact omin_le2
    · exact upMs_eg h
end
section
variable {cells : Nat} {most : Int} {fs : List F4}
theorem tb0_T0 : T0 (cells + 1) (bEd cells most fs) (tb0 cells most fs) where
  ws := upMs_ws (fun e he => by
    rcases List.mem_append.mp he with he | he
    · exact cEd_in _ (mem_wys.mp he)
    · exact List.mem_append_right _ he) fun x y w hw => by
      rw [tDg_val] at hw
      split at hw
      · rename_i h; rw [← h.1]; cases hw; exact .nil
      · cases hw
  eg := fun a b w he => by
    refine upMs_eg ?_
    rcases List.mem_append.mp he with he | he
    · exact List.mem_append_left _ (mem_wys.mpr he)
    · exact List.mem_append_right _ he
  dg := fun v hv => by
    refine OLe.trans upMs_le ?_
    rw [tDg_val, if_pos ⟨rfl, List.mem_range.mpr hv⟩]
    exact .refl
theorem tb1_dg {v : Nat} (hv : v < cells + 1) : ∃ z, tb1 cells most fs v v = some z := by
  obtain ⟨z, h, _⟩ := OLe.trans (fw_le (n := cells + 1) (ks := List.range (cells + 1)) v v) (tb0_T0.dg v hv) 0 rfl
  exact ⟨z, h⟩
def negs (cells : Nat) (most : Int) (fs : List F4) : List Nat := (List.range (cells + 1)).filter fun v => decide ((tb1 cells most fs v v).getD 0 < 0)
theorem negs_nil_iff (hb : Bo cells most fs) : negs cells most fs = [] ↔ canB cells most fs = true := by
  rw [canB_iff hb]
  constructor
  · intro h
    refine fw_feas (inb_b hb.f) tb0_T0 (by omega) (fun v hv => reach_b cEd_in 0 v (by omega) hv) fun v hv z hz => ?_
    have := List.filter_eq_nil_iff.mp h v (List.mem_range.mpr hv)
    unfold tb1 at this
    rw [hz] at this
    simpa using this
  · rintro ⟨p, hp⟩
    refine List.filter_eq_nil_iff.mpr fun v hv hlt => ?_
    obtain ⟨z, hz⟩ := tb1_dg (most := most) (fs := fs) (List.mem_range.mp hv)
    rw [hz] at hlt
    exact fw_none tb0_T0 hz (by simpa using hlt) p hp
theorem tb1_dist (hb : Bo cells most fs) (h : canB cells most fs = true) {a b : Nat} (ha : a < cells + 1) (hbb : b < cells + 1) : ∃ d, tb1 cells most fs a b = some d ∧ Dist (bEd cells most fs) a b d := by
  have hn := (negs_nil_iff hb).mpr h
  obtain ⟨w, hw⟩ := reach_b (E := bEd cells most fs) cEd_in a b ha hbb
  refine fw_dist (inb_b hb.f) tb0_T0 (fun v hv z hz => ?_) ha hw
  have := List.filter_eq_nil_iff.mp hn v (List.mem_range.mpr hv)
  unfold tb1 at this
  rw [hz] at this
  simpa using this
end
section
variable {T : F → Option Fn} {N n : Nat} {s : Sto} {cells : Nat} {most : Int} {fs : List F4}
theorem ph_nil {n k : Nat} {T : Tb} : ph n [] k T = T := rfl
theorem row2_nil {k a : Nat} {T : Tb} : row2 k [] T a = T := rfl
def bd (a b c : Nat) : Nat := 441 * a + 21 * b + c + 1000
theorem bd_def {a b c : Nat} : bd a b c = 441 * a + 21 * b + c + 1000 := rfl
theorem tab_l13 {c : Cfg} {vb v2 v3 v6 v7 v8 v9 v10 v11 v14 x y z w : Option D} {Tt : Tb} {kvs : Tk} {Q : R → Prop} {r : Ss} (h : TabR kvs Tt) (hl : kvs.length ≤ 1000) (hc : cells ≤ 20)
    (k : ∀ kvs' x y z w, TabR kvs' (fw (cells + 1) (List.range (cells + 1)) Tt) → W (exs c r [vb, some (.dT kvs'), v2, v3, x, some (.int (cells : Int)), v6, v7, v8, v9, v10, v11, y, z, v14, w] s) Q) :
    W (exs c (.cons f_law_7_l13 r) [vb, some (.dT kvs), v2, v3, x, some (.int (cells : Int)), v6, v7, v8, v9, v10, v11, y, z, v14, w] s) Q := by
  refine W_for (List.range (cells + 1)) (fun i : Nat => D.int (i : Int)) (fun pre ρ s' => s' = s ∧ ∃ kvs' x y z w, ρ = [vb, some (.dT kvs'), v2, v3, x, some (.int (cells : Int)), v6, v7, v8, v9, v10, v11, y, z, v14, w] ∧ TabR kvs' (fw (cells + 1) pre Tt) ∧ kvs'.length ≤ bd pre.length 0 0) (evr_rg1n (k := cells + 1) rfl (by omega)) ⟨rfl, kvs, x, y, z, w, rfl, h, by rw [bd_def]; omega⟩ ?_ ?_
  · rintro pre a post hl' ρ s' ⟨rfl, kvs', x, y, z, w, rfl, t1, l1⟩
    obtain ⟨rfl, hlt⟩ := range_pre hl'
    refine ⟨_, rfl, ?_⟩
    simp only [List.set_cons_succ, List.set_cons_zero]
    unfold f_law_7_b12 f_law_7_l11
    refine W_for (s' := s') (List.range (cells + 1)) (fun i : Nat => D.int (i : Int)) (fun pre2 ρ s2 => s2 = s' ∧ ∃ kvs2 y z w, ρ = [vb, some (.dT kvs2), v2, v3, some (.int (pre.length : Int)), some (.int (cells : Int)), v6, v7, v8, v9, v10, v11, y, z, v14, w] ∧ TabR kvs2 (ph (cells + 1) pre2 pre.length (fw (cells + 1) pre Tt)) ∧ kvs2.length ≤ bd pre.length pre2.length 0) ?_ ?_ ?_ ?_
    · exact evr_rg1n (k := cells + 1) rfl (by omega)
    · refine ⟨rfl, kvs', y, z, w, rfl, ?_, ?_⟩
      · rw [ph_nil]; exact t1
      · simp only [List.length_nil, bd_def] at *; omega
    · rintro pre2 a2 post2 hl2 ρ s2 ⟨rfl, kvs2, y, z, w, rfl, t2, l2⟩
      obtain ⟨rfl, hlt2⟩ := range_pre hl2
      refine ⟨_, rfl, ?_⟩
      simp only [List.set_cons_succ, List.set_cons_zero]
      unfold f_law_7_b10 f_law_7_l9
      refine W_for (s' := s2) (List.range (cells + 1)) (fun i : Nat => D.int (i : Int)) (fun pre3 ρ s3 => s3 = s2 ∧ ∃ kvs3 z w, ρ = [vb, some (.dT kvs3), v2, v3, some (.int (pre.length : Int)), some (.int (cells : Int)), v6, v7, v8, v9, v10, v11, some (.int (pre2.length : Int)), z, v14, w] ∧ TabR kvs3 (row2 pre.length pre3 (ph (cells + 1) pre2 pre.length (fw (cells + 1) pre Tt)) pre2.length) ∧ kvs3.length ≤ bd pre.length pre2.length pre3.length) (evr_rg1n (k := cells + 1) rfl (by omega)) ⟨rfl, kvs2, z, w, rfl, by rw [row2_nil]; exact t2, by simp only [List.length_nil, bd_def] at *; omega⟩ ?_ ?_
      · rintro pre3 a3 post3 hl3 ρ s3 ⟨rfl, kvs3, z, w, rfl, t3, l3⟩
        obtain ⟨rfl, hlt3⟩ := range_pre hl3
        refine ⟨_, rfl, ?_⟩
        simp only [List.set_cons_succ, List.set_cons_zero]
        obtain ⟨kvs4, w4, p1, p2, p3⟩ := tab_b8 (s := s3) (c := c) (vb := vb) (v2 := v2) (v3 := v3) (v5 := some (.int (cells : Int))) (v6 := v6) (v7 := v7) (v8 := v8) (v9 := v9) (v10 := v10) (v11 := v11) (v14 := v14) (nw := w) (m := pre.length) (a := pre2.length) (b := pre3.length) t3 (by rw [bd_def] at l3; omega)
        refine W_eq p1 ⟨rfl, kvs4, _, w4, rfl, ?_, by rw [List.length_append, List.length_singleton]; simp only [bd_def] at *; omega⟩
        unfold row2
        rw [List.foldl_append]
        exact p2
      · rintro ρ s3 ⟨rfl, kvs3, z, w, rfl, t3, l3⟩
        rw [List.length_range] at l3
        refine W_nil ⟨rfl, kvs3, _, z, w, rfl, ?_, by rw [List.length_append, List.length_singleton]; simp only [bd_def] at *; omega⟩
        unfold ph
        rw [List.foldl_append]
        exact t3
    · rintro ρ s2 ⟨rfl, kvs2, y, z, w, rfl, t2, l2⟩
      rw [List.length_range] at l2
      refine W_nil ⟨rfl, kvs2, _, y, z, w, rfl, ?_, by rw [List.length_append, List.length_singleton]; simp only [bd_def] at *; omega⟩
      unfold fw
      rw [List.foldl_append]
      exact t2
  · rintro ρ s' ⟨rfl, kvs', x, y, z, w, rfl, t1, l1⟩
    exact k kvs' x y z w t1
theorem tab_ways {c : Cfg} {ρ : Env} (h5 : ρ[5]? = some (some (.int (cells : Int)))) (h6 : ρ[6]? = some (some (.int most))) (hl : ρ.length = 16) (hc : cells ≤ 20) : ev c (.bin .add f_law_7_c2 f_law_7_c3) ρ s = .ok (.lst ((wys cells most).map eD)) s := by
  have e5 : ev c (.var 5) ρ s = .ok (.int (cells : Int)) s := ev_var h5
  have g : ∀ k : Nat, ((wipeE ρ (slotsT (.nm 2))).set 2 (some (.int (k : Int))))[2]? = some (some (.int (k : Int))) := fun k => by
    simp only [slotsT, wipeE]
    rw [List.getElem?_set_self (by rw [List.length_set]; omega)]
  have g6 : ∀ k : Nat, ((wipeE ρ (slotsT (.nm 2))).set 2 (some (.int (k : Int))))[6]? = some (some (.int most)) := fun k => by
    simp only [slotsT, wipeE]
    rw [List.getElem?_set_ne (by decide), List.getElem?_set_ne (by decide), h6]
  have h2 : ev c f_law_7_c2 ρ s = .ok (.lst ((List.range cells).map fun k => eD (k, k + 1, most))) s := by
    refine ev_lc (l := List.range cells) (g := fun k : Nat => D.int (k : Int)) (evr_rg1n e5 (by omega)) (le_lim (by rw [List.length_range]; omega)) fun k hk => ⟨_, rfl, ?_⟩
    simp [ev, evs, g, g6, binD, eD, lim]
  have h3 : ev c f_law_7_c3 ρ s = .ok (.lst ((List.range cells).map fun k => eD (k + 1, k, 0))) s := by
    refine ev_lc (l := List.range cells) (g := fun k : Nat => D.int (k : Int)) (evr_rg1n e5 (by omega)) (le_lim (by rw [List.length_range]; omega)) fun k hk => ⟨_, rfl, ?_⟩
    simp [ev, evs, g, binD, eD, lim]
  rw [ev, h2]
  simp only [Rs.bind_ok]
  rw [h3]
  simp only [Rs.bind_ok, binD]
  rw [if_pos (le_lim (by rw [List.length_map, List.length_map, List.length_range]; omega))]
  unfold wys
  rw [List.map_append, List.map_map, List.map_map]
  rfl
theorem r_table {fn : Fn} (h7 : T (.law 7) = some fn) (hk : Like fn f_law_7) (hc : cells ≤ 20) (hl : fs.length ≤ 20) (hf : ∀ f ∈ fs, okF cells f) : ∃ kvs, TabR kvs (tb1 cells most fs) ∧ callN T N (n + 1) (.law 7) [.lst [.int (cells : Int), .int most, .tup (fs.map fD)]] s = .ok (if negs cells most fs = [] then .dT kvs else .non) s := by
  rw [callk h7 hk]
  suffices hw : W (exs ⟨callN T N n, N⟩ f_law_7.body [some (.lst [.int (cells : Int), .int most, .tup (fs.map fD)]), none, none, none, none, none, none, none, none, none, none, none, none, none, none, none] s) (fun r => ∃ kvs, TabR kvs (tb1 cells most fs) ∧ r = .rt (if negs cells most fs = [] then .dT kvs else .non) s) by
    obtain ⟨kvs, h1, h2⟩ := hw.q
    exact ⟨kvs, h1, runFn_rt rfl h2⟩
  refine W_asgT (d := .lst [.int (cells : Int), .int most, .tup (fs.map fD)]) (s' := s) rfl rfl ?_
  refine W_own (d := .dT []) (s' := s) rfl rfl ?_
  simp only [List.set_cons_succ, List.set_cons_zero]
  obtain ⟨kvs, x, e1, t1, l1⟩ := tab_l1 (s := s) (c := ⟨callN T N n, N⟩) (vb := some (.lst [.int (cells : Int), .int most, .tup (fs.map fD)])) (v3 := none) (v6 := some (.int most)) (v7 := some (.tup (fs.map fD))) (vk := none) (Tt := fun _ _ => none) (kvs := []) (cells := cells) (fun a b => rfl) (by simp) (by omega)
  refine W_nx e1 ?_
  refine W_asg (tab_ways (cells := cells) (most := most) rfl rfl rfl hc) ?_
  simp only [List.set_cons_succ, List.set_cons_zero]
  refine W_for fs fD (fun pre ρ s' => s' = s ∧ ∃ b e l h, ρ = [some (.lst [.int (cells : Int), .int most, .tup (fs.map fD)]), some (.dT kvs), x, some (.lst ((wys cells most ++ fEd pre).map eD)), none, some (.int (cells : Int)), some (.int most), some (.tup (fs.map fD)), b, e, l, h, none, none, none, none]) rfl ⟨rfl, none, none, none, none, by simp [fEd]⟩ ?_ ?_
  · rintro pre f post hl' ρ s' ⟨rfl, b, e, l, h, rfl⟩
    refine ⟨_, rfl, ?_⟩
    have hm : f ∈ fs := by rw [hl']; simp
    obtain ⟨h1, h2, h3, _⟩ := hf f hm
    have hpl : pre.length < fs.length := by rw [hl']; simp
    have n1 : ((f.1.toNat : Nat) : Int) = f.1 := by omega
    have n2 : ((f.2.1.toNat : Nat) : Int) = f.2.1 := by omega
    have e3 : (wys cells most ++ fEd (pre ++ [f])) = (wys cells most ++ fEd pre) ++ [(f.1.toNat, f.2.1.toNat, f.2.2.2), (f.2.1.toNat, f.1.toNat, -f.2.2.1)] := by
      simp [fEd]
    have hlen : (wys cells most ++ fEd pre).length ≤ 10000 := by
      rw [List.length_append, wys_len, fEd_len]
      omega
    generalize hA : wys cells most ++ fEd pre = A at hlen e3
    refine W_asg (d := .lst ((A ++ [(f.1.toNat, f.2.1.toNat, f.2.2.2), (f.2.1.toNat, f.1.toNat, -f.2.2.1)]).map eD)) (s' := s') ?_ (W_nil ⟨rfl, some (.int f.1), some (.int f.2.1), some (.int f.2.2.1), some (.int f.2.2.2), ?_⟩)
    · have c2 : ev ⟨callN T N n, N⟩ (.lst (.cons (.tup (.cons (.var 8) (.cons (.var 9) (.cons (.var 11) .nil)))) (.cons (.tup (.cons (.var 9) (.cons (.var 8) (.cons (.neg (.var 10)) .nil)))) .nil))) [some (.lst [.int (cells : Int), .int most, .tup (fs.map fD)]), some (.dT kvs), x, some (.lst (A.map eD)), none, some (.int (cells : Int)), some (.int most), some (.tup (fs.map fD)), some (.int f.1), some (.int f.2.1), some (.int f.2.2.1), some (.int f.2.2.2), none, none, none, none] s' = .ok (.lst ([(f.1.toNat, f.2.1.toNat, f.2.2.2), (f.2.1.toNat, f.1.toNat, -f.2.2.1)].map eD)) s' := by
        simp only [List.map_cons, List.map_nil, eD, n1, n2]
        rfl
      show ev ⟨callN T N n, N⟩ (.bin .add (.var 3) (.lst (.cons (.tup (.cons (.var 8) (.cons (.var 9) (.cons (.var 11) .nil)))) (.cons (.tup (.cons (.var 9) (.cons (.var 8) (.cons (.neg (.var 10)) .nil)))) .nil)))) [some (.lst [.int (cells : Int), .int most, .tup (fs.map fD)]), some (.dT kvs), x, some (.lst (A.map eD)), none, some (.int (cells : Int)), some (.int most), some (.tup (fs.map fD)), some (.int f.1), some (.int f.2.1), some (.int f.2.2.1), some (.int f.2.2.2), none, none, none, none] s' = _
      rw [ev, ev_var (d := .lst (A.map eD)) rfl]
      simp only [Rs.bind_ok]
      rw [c2]
      simp only [Rs.bind_ok, binD]
      rw [if_pos (le_lim (by simp; omega)), ← List.map_append]
      rfl
    · rw [e3]
      rfl
  · rintro ρ s' ⟨rfl, b, e, l, h, rfl⟩
    obtain ⟨kvs2, o1, o2, o3, e2, t2, l2⟩ := tab_l7 (s := s') (c := ⟨callN T N n, N⟩) (vb := some (.lst [.int (cells : Int), .int most, .tup (fs.map fD)])) (v2 := x) (v5 := some (.int (cells : Int))) (v6 := some (.int most)) (v7 := some (.tup (fs.map fD))) (v8 := b) (v9 := e) (v10 := l) (v11 := h) (o1 := none) (o2 := none) (o3 := none) (ways := wys cells most ++ fEd fs) t1 (by simp at l1; omega) (by rw [List.length_append, wys_len, fEd_len]; omega)
    refine W_nx e2 ?_
    refine tab_l13 t2 (by rw [List.length_append, wys_len, fEd_len] at l2; simp at l1; omega) hc fun kvs3 x y z w t3 => ?_
    refine W_frz (W_ret ?_ ⟨kvs3, t3, rfl⟩)
    have ec : ∀ ρ : MP.Env, ρ.length = 16 → ρ[1]? = some (some (.dT kvs3)) → ρ[5]? = some (some (.int (cells : Int))) → ev ⟨callN T N n, N⟩ f_law_7_c14 ρ s' = .ok (.lst ((negs cells most fs).map fun v : Nat => D.int (v : Int))) s' := fun ρ hl16 h1 h5 => by
      refine ev_lci (l := List.range (cells + 1)) (g := fun k : Nat => D.int (k : Int)) (evr_rg1n (k := cells + 1) ?_ (by omega)) (le_lim (by rw [List.length_range]; omega)) fun v hv => ⟨_, rfl, ?_, fun _ => ?_⟩
      · rw [ev, ev_var h5]; rfl
      · obtain ⟨zz, hz⟩ := tb1_dg (most := most) (fs := fs) (List.mem_range.mp hv)
        have hz' : fw (cells + 1) (List.range (cells + 1)) ((wys cells most ++ fEd fs).foldl upM (tDg (fun _ _ => none) (List.range (cells + 1)))) v v = some zz := hz
        have g2 : ((wipeE ρ (slotsT (.nm 2))).set 2 (some (.int (v : Int))))[2]? = some (some (.int (v : Int))) := by
          simp only [slotsT, wipeE]
          rw [List.getElem?_set_self (by rw [List.length_set]; omega)]
        have g1 : ((wipeE ρ (slotsT (.nm 2))).set 2 (some (.int (v : Int))))[1]? = some (some (.dT kvs3)) := by
          simp only [slotsT, wipeE]
          rw [List.getElem?_set_ne (by decide), List.getElem?_set_ne (by decide), h1]
        refine ⟨.bl (decide (zz < 0)), ?_, ?_⟩
        · rw [ev, at_tab t3 g1 g2 g2 hz']
          rfl
        · rw [hz]; rfl
      · rw [ev_var]
        simp only [slotsT, wipeE]
        rw [List.getElem?_set_self (by rw [List.length_set]; omega)]
    rw [ev, ev, ec _ rfl rfl rfl]
    cases hn : negs cells most fs with
    | nil => rfl
    | cons v vs =>
      have : eqD (.lst ((v :: vs).map fun v : Nat => D.int (v : Int))) (.lst []) = some false := by
        unfold eqD
        have : isP 8 (.lst ((v :: vs).map fun v : Nat => D.int (v : Int))) = true := by
          unfold isP
          rw [List.all_eq_true]
          intro x hx
          obtain ⟨k, _, rfl⟩ := List.mem_map.mp hx
          rfl
        rw [this]
        rfl
      simp only [List.map_cons] at this
      simp only [Rs.bind_ok, ev, evs, List.length_nil]
      simp [cmpD, this, truD, lim]
end
end MP

end
section
set_option Elab.async false
set_option linter.all false
set_option maxRecDepth 100000
set_option maxHeartbeats 1000000
/-! Rows that are told: they fit. -/
namespace MP
open PySem
section
variable {cells : Nat} {most : Int} {fs : List F4} {r : List Int}
theorem brk_nil : ∀ {fs : List F4} {k : Nat}, (∀ f ∈ fs, fits r f = true) → brk r k fs = []
  | [], _, _ => rfl
  | f :: fs, k, h => by
    unfold brk
    rw [h f (List.mem_cons_self ..), brk_nil fun g hg => h g (List.mem_cons_of_mem _ hg)]
    rfl
theorem Feas.sub {p : Nat → Int} {E E' : List Eg} (h : Feas p E') (hs : ∀ e, e ∈ E → e ∈ E') : Feas p E := fun a b w he => h a b w (hs _ he)
theorem wEd_sub {b e : Nat} {x : Int} : ∀ z, z ∈ bEd cells most fs → z ∈ wEd cells most fs b e x := fun z hz => List.mem_append_left _ hz
theorem with_row (hb : Bo cells most fs) {b e : Nat} {x : Int} (h1 : b < e) (h2 : e < cells + 1) {p : Nat → Int} (hp : Feas p (wEd cells most fs b e x)) : Fit cells most fs (rowOf p cells) ∧ seg (rowOf p cells) ((b : Int), (e : Int), 0, 0) = x := by
  refine ⟨feas_fit hb.f (hp.sub wEd_sub), ?_⟩
  rw [seg_pot (by simp) (by simp; omega) (by rw [rowOf_len]; simp; omega)]
  simp only [Int.toNat_natCast]
  rw [pot_rowOf (by omega), pot_rowOf (by omega)]
  have h3 := hp b e x (List.mem_append_right _ (by simp))
  have h4 := hp e b (-x) (List.mem_append_right _ (by simp))
  omega
theorem eqD_ii {i j : Int} : eqD (.int i) (.int j) = some (decide (i = j)) := by
  unfold eqD
  simp [isP, eqF]
  by_cases h : i = j <;> simp [h]
theorem cmp_eq_ii {i j : Int} : cmpD .eq (.int i) (.int j) = some (decide (i = j)) := eqD_ii
theorem cmp_ne_ii {i j : Int} : cmpD .ne (.int i) (.int j) = some (!decide (i = j)) := by
  show (eqD (.int i) (.int j)).map (!·) = _
  rw [eqD_ii]; rfl
theorem eqD_nil_self : eqD (.lst []) (.lst []) = some true := rfl
end
section
variable {T : F → Option Fn} {N n : Nat} {s : Sto} {cells : Nat} {most : Int} {fs : List F4}
theorem r_brokenF (h : Be T) (hb : Bo cells most fs) {r : List Int} (hr : Fit cells most fs r) : callN T N (n + 4) (.p 6) [bookD (cells : Int) most fs, rowD r] s = .ok (.lst []) s := by
  have := r_broken (T := T) (N := N) (n := n) (s := s) (cells := (cells : Int)) (most := most) (fs := fs) h.b.w h.b.k (r := r) (by rw [hr.1.len]) hr.1.rng (by have := hb.l; omega)
  rw [brk_nil hr.2] at this
  exact this
theorem sum_cut {r : List Int} {b e : Int} : b1D .sum (.tup (cutL (r.map D.int) (some b) (some e))) = some (.int (seg r (b, e, 0, 0))) := by
  show (intsOf (cutL (r.map D.int) (some b) (some e))).map _ = _
  rw [cutL_map, intsOf_map]
  rfl
theorem r_reaches (h : Be T) (h16 : T (.law 16) = some f_law_16) (hb : Bo cells most fs) {b e : Nat} {x : Int} (h1 : b < e) (h2 : e < cells + 1) (hc : canB cells most fs = true) {d : Nat → Nat → Int} (hd : ∀ a b, a < cells + 1 → b < cells + 1 → Dist (bEd cells most fs) a b (d a b)) (x1 : -d e b ≤ x) (x2 : x ≤ d b e) :
    callN T N (n + 5) (.law 16) [bookD (cells : Int) most fs, .lst [.int (cells : Int), .int most, .tup (fs.map fD)], .int (b : Int), .int (e : Int), .int x] s = .ok (.bl true) s := by
  obtain ⟨p, hp⟩ := with_feas (inb_b hb.f) hd (show b < cells + 1 by omega) h2 x1 x2
  obtain ⟨g', d', G⟩ := exists_gs (n := cells + 1) hp (inb_w hb (by omega) h2) reach_w
  have hh := ht_feas (inb_w hb (by omega) h2) G.ds
  obtain ⟨f1, f2⟩ := with_row hb h1 h2 hh
  have e18 := r_row_with (T := T) (N := N) (n := n) (s := s) h hb h1 h2 hc G
  have e6 := r_brokenF (T := T) (N := N) (n := n) (s := s) h hb f1
  generalize hr : rowOf (ht d') cells = r at *
  rw [calll h16]
  have ec : ev ⟨callN T N (n + 4), N⟩ f_law_16_c0 [some (bookD (cells : Int) most fs), some (.lst [.int (cells : Int), .int most, .tup (fs.map fD)]), some (.int (b : Int)), some (.int (e : Int)), some (.int x), some (rowD r), none] s = .ok (.lst []) s := by
    have := ev_lci (s := s) (s' := s) (c := ⟨callN T N (n + 4), N⟩) (ρ := [some (bookD (cells : Int) most fs), some (.lst [.int (cells : Int), .int most, .tup (fs.map fD)]), some (.int (b : Int)), some (.int (e : Int)), some (.int x), some (rowD r), none]) (e := .var 6) (i := .nott (.chain .le .le (.int 0) (.var 6) (.ix (.var 1) (.int 1)))) (t := .nm 6) (sr := .of (.var 5)) (l := r) (g := D.int) (h := D.int) (p := fun _ => false) rfl (le_lim (by rw [f1.1.len]; have := hb.c2; omega)) (fun z hz => ⟨_, rfl, ⟨.bl false, by
      obtain ⟨z1, z2⟩ := f1.1.rng z hz
      simp [ev, slotsT, wipeE, cmpD, z1, z2, ixD, L2.atI, L2.ixN, truD], rfl⟩, fun h => by cases h⟩)
    rw [List.filter_eq_nil_iff.mpr (fun _ _ h => by cases h)] at this
    exact this
  refine W_run rfl ?_
  refine W_asg (d := rowD r) (s' := s) (by rw [ev]; exact e18) ?_
  show W (exs _ _ [some (bookD (cells : Int) most fs), some (.lst [.int (cells : Int), .int most, .tup (fs.map fD)]), some (.int (b : Int)), some (.int (e : Int)), some (.int x), some (rowD r), none] s) _
  refine W_no (d := .bl false) (s' := s) ?_ rfl ?_
  · have hl : ((r.map D.int).length : Int) = (cells : Int) := by rw [List.length_map, f1.1.len]
    have el : eqD (.int ((r.map D.int).length : Int)) (.int (cells : Int)) = some true := by rw [eqD_ii, hl]; simp
    rw [ev, ev, ev, ev_var (d := rowD r) rfl]
    simp only [Rs.bind_ok, rowD, isaD, Option.map_some, Rs.opt_some, truD, Bool.not_true]
    rw [ev, ev, ev, ev_var (d := rowD r) rfl]
    simp only [Rs.bind_ok, rowD, b1_len, lenD, Option.map_some, Rs.opt_some]
    rw [show ev ⟨callN T N (n + 4), N⟩ (.ix (.var 1) (.int 0)) [some (bookD (cells : Int) most fs), some (.lst [.int (cells : Int), .int most, .tup (fs.map fD)]), some (.int (b : Int)), some (.int (e : Int)), some (.int x), some (.tup (r.map D.int)), none] s = .ok (.int (cells : Int)) s from rfl]
    simp only [Rs.bind_ok, cmpD, el, Option.map_some, Rs.opt_some, Bool.not_true]
    rw [ev]
    unfold rowD at ec
    rw [ec]
    rfl
  · refine W_ret (d := .bl true) (s' := s) ?_ rfl
    have es : ev ⟨callN T N (n + 4), N⟩ (.b1 .sum (.sl (.var 5) (.so (.var 2)) (.so (.var 3)))) [some (bookD (cells : Int) most fs), some (.lst [.int (cells : Int), .int most, .tup (fs.map fD)]), some (.int (b : Int)), some (.int (e : Int)), some (.int x), some (rowD r), none] s = .ok (.int x) s := by
      rw [ev, show ev ⟨callN T N (n + 4), N⟩ (.sl (.var 5) (.so (.var 2)) (.so (.var 3))) [some (bookD (cells : Int) most fs), some (.lst [.int (cells : Int), .int most, .tup (fs.map fD)]), some (.int (b : Int)), some (.int (e : Int)), some (.int x), some (rowD r), none] s = .ok (.tup (cutL (r.map D.int) (some (b : Int)) (some (e : Int)))) s from rfl]
      simp only [Rs.bind_ok]
      rw [sum_cut, f2]
      rfl
    have e6' : ev ⟨callN T N (n + 4), N⟩ (.call (.p 6) (.cons (.var 0) (.cons (.var 5) .nil))) [some (bookD (cells : Int) most fs), some (.lst [.int (cells : Int), .int most, .tup (fs.map fD)]), some (.int (b : Int)), some (.int (e : Int)), some (.int x), some (rowD r), none] s = .ok (.lst []) s := by
      rw [ev]; exact e6
    rw [ev, ev, e6']
    simp only [Rs.bind_ok]
    rw [show ev ⟨callN T N (n + 4), N⟩ (.lst .nil) [some (bookD (cells : Int) most fs), some (.lst [.int (cells : Int), .int most, .tup (fs.map fD)]), some (.int (b : Int)), some (.int (e : Int)), some (.int x), some (rowD r), none] s = .ok (.lst []) s from rfl]
    simp only [Rs.bind_ok, cmpD, eqD_nil_self, Option.map_some, Rs.opt_some]
    rw [ev, es]
    simp only [Rs.bind_ok]
    rw [ev_var (d := .int x) rfl]
    simp [cmpD, eqD_ii]
end
end MP

end
section
set_option Elab.async false
set_option linter.all false
set_option maxRecDepth 100000
set_option maxHeartbeats 1000000
/-! Two books: runs of two.py, and what they say. -/
namespace MP
open PySem
theorem rgD_nat2 {a b : Nat} (hb : b < 1000000) (ha : a < 1000000) : rgD (a : Int) (b : Int) = some ((List.range (b - a)).map fun i => D.int ((a + i : Nat) : Int)) := by
  unfold rgD
  rw [if_pos (by simp; omega)]
  have e : ((b : Int) - (a : Int)).toNat = b - a := by omega
  rw [e]
  refine congrArg some (List.map_congr_left fun i _ => ?_)
  rw [Int.natCast_add]
theorem evr_rg2g {c : Cfg} {ea eb : E} {ρ : Env} {s s' s2 : Sto} {k l : Int} {ds : List D} (ha : ev c ea ρ s = .ok (.int k) s') (h : ev c eb ρ s' = .ok (.int l) s2) (hr : rgD k l = some ds) : evr c (.rg2 ea eb) ρ s = .ok ds s2 := by
  rw [evr, ha]
  simp only [Rs.bind_ok]
  rw [h]
  simp only [Rs.bind_ok]
  rw [hr]
  simp only [Rs.opt_some]
theorem evr_rg2N {c : Cfg} {ea eb : E} {ρ : Env} {s s' s2 : Sto} {a b : Nat} (ha : ev c ea ρ s = .ok (.int (a : Int)) s') (h : ev c eb ρ s' = .ok (.int (b : Int)) s2) (a1 : a < 1000000) (b1 : b < 1000000) : evr c (.rg2 ea eb) ρ s = .ok ((List.range (b - a)).map fun i => .int ((a + i : Nat) : Int)) s2 := evr_rg2g ha h (rgD_nat2 b1 a1)
/-! ### all stretches with their bounds -/
def clT (d : Nat → Nat → Int) (b i : Nat) : D := .tup [.int (b : Int), .int ((b + 1 + i : Nat) : Int), .int (-d (b + 1 + i) b), .int (d b (b + 1 + i))]
def clR (d : Nat → Nat → Int) (cells b : Nat) : List D := (List.range (cells + 1 - (b + 1))).map (clT d b)
def clL (d : Nat → Nat → Int) (cells : Nat) : List D := (List.range cells).flatMap (clR d cells)
theorem flat_le {α β : Type} {g : α → List β} {k : Nat} (hg : ∀ a, (g a).length ≤ k) : ∀ (l : List α), (l.flatMap g).length ≤ k * l.length
  | [] => by simp
  | a :: l => by
    have h1 := hg a
    have h2 := flat_le hg l
    rw [List.flatMap_cons, List.length_append, List.length_cons, Nat.mul_add]
    omega
theorem clR_len {d : Nat → Nat → Int} {cells b : Nat} : (clR d cells b).length ≤ cells := by
  unfold clR
  rw [List.length_map, List.length_range]
  omega
structure Tw (T : F → Option Fn) : Prop where
  e : Be T
  p67 : T (.p 67) = some f_p_67
  p68 : T (.p 68) = some f_p_68
  p69 : T (.p 69) = some f_p_69
  p70 : T (.p 70) = some f_p_70
  p71 : T (.p 71) = some f_p_71
section
variable {T : F → Option Fn} {N n : Nat} {s : Sto} {cells : Nat} {most : Int} {fs : List F4}
theorem r_closed (h : Be T) (h75 : T (.p 75) = some f_p_75) (hb : Bo cells most fs) {g : Nat → Fd} {d : Nat → Nat → Int} (G : Gs (cells + 1) (bEd cells most fs) g d) (hc : canB cells most fs = true) : callN T N (n + 4) (.p 75) [bookD (cells : Int) most fs] s = .ok (.lst (clL d cells)) s := by
  rw [callp h75]
  have c20 := hb.c2
  have e3 : callN T N (n + 3) (.p 3) [bookD (cells : Int) most fs] s = .ok .non s := r_check_book (n := n + 2) h.b.w
  have e12 := r_check_possible (T := T) (N := N) (n := n) (s := s) h.b hb
  rw [hc, if_pos rfl] at e12
  have e16 : ∀ b e : Nat, b < cells + 1 → e < cells + 1 → callN T N (n + 3) (.p 16) [bookD (cells : Int) most fs, .int (b : Int), .int (e : Int)] s = .ok (.tup [.int (-d e b), .int (d b e)]) s := fun b e h1 h2 => r_bounds_by (n := n + 1) h hb G h1 h2
  refine W_run rfl ?_
  refine W_expr (d := .non) (s' := s) (by rw [ev]; exact e3) ?_
  refine W_expr (d := .non) (s' := s) (by rw [ev]; exact e12) ?_
  refine W_own (d := .lst []) (s' := s) rfl rfl ?_
  show W (exs _ _ [some (bookD (cells : Int) most fs), some (.lst []), none, none] s) _
  refine W_for (s' := s) (List.range cells) (fun i : Nat => D.int (i : Int)) (fun pre ρ s' => s' = s ∧ ∃ x y, ρ = [some (bookD (cells : Int) most fs), some (.lst (pre.flatMap (clR d cells))), x, y]) (evr_rg1n rfl (by omega)) ⟨rfl, none, none, rfl⟩ ?_ ?_
  · rintro pre a post hl ρ s' ⟨rfl, x, y, rfl⟩
    obtain ⟨rfl, hlt⟩ := range_pre hl
    refine ⟨_, rfl, ?_⟩
    simp only [List.set_cons_succ, List.set_cons_zero]
    generalize hA : pre.flatMap (clR d cells) = A
    have hAl : A.length ≤ cells * pre.length := by rw [← hA]; exact flat_le (fun b => clR_len) pre
    have hAl2 : cells * pre.length ≤ 20 * 20 := Nat.mul_le_mul (by omega) (by omega)
    refine W_for (s' := s') (List.range (cells + 1 - (pre.length + 1))) (fun i : Nat => D.int ((pre.length + 1 + i : Nat) : Int)) (fun pre2 ρ s2 => s2 = s' ∧ ∃ y, ρ = [some (bookD (cells : Int) most fs), some (.lst (A ++ pre2.map (clT d pre.length))), some (.int (pre.length : Int)), y]) (evr_rg2N (a := pre.length + 1) (b := cells + 1) rfl rfl (by omega) (by omega)) ⟨rfl, y, by simp⟩ ?_ ?_
    · rintro pre2 a2 post2 hl2 ρ s2 ⟨rfl, y, rfl⟩
      obtain ⟨rfl, hlt2⟩ := range_pre hl2
      refine ⟨_, rfl, ?_⟩
      simp only [List.set_cons_succ, List.set_cons_zero]
      have e := e16 pre.length (pre.length + 1 + pre2.length) (by omega) (by omega)
      refine W_app (ds := A ++ pre2.map (clT d pre.length)) (d := clT d pre.length pre2.length) (s' := s2) rfl ?_ (Nat.lt_of_lt_of_le (Nat.lt_succ_self _) (le_lim (by rw [List.length_append, List.length_map]; omega))) (W_nil ⟨rfl, some (.int ((pre.length + 1 + pre2.length : Nat) : Int)), ?_⟩)
      · rw [ev, ev_kD (i := 2) (j := 3) (a := pre.length) (b := pre.length + 1 + pre2.length) rfl rfl]
        simp only [Rs.bind_ok]
        rw [show ev ⟨callN T N (n + 3), N⟩ (.call (.p 16) (.cons (.var 0) (.cons (.var 2) (.cons (.var 3) .nil)))) [some (bookD (cells : Int) most fs), some (.lst (A ++ pre2.map (clT d pre.length))), some (.int (pre.length : Int)), some (.int ((pre.length + 1 + pre2.length : Nat) : Int))] s2 = .ok (.tup [.int (-d (pre.length + 1 + pre2.length) pre.length), .int (d pre.length (pre.length + 1 + pre2.length))]) s2 from by rw [ev]; exact e]
        rfl
      · simp
    · rintro ρ s2 ⟨rfl, y, rfl⟩
      refine W_nil ⟨rfl, some (.int (pre.length : Int)), y, ?_⟩
      rw [List.flatMap_append, hA]
      simp [clR]
  · rintro ρ s' ⟨rfl, x, y, rfl⟩
    exact W_frz (W_ret rfl rfl)
/-! ### what a book tells -/
def askL (cells : Nat) (most : Int) (fs : List F4) : List F4 := ((List.range cells).map fun k : Nat => ((k : Int), (k : Int) + 1, 0, most)) ++ fs
theorem r_asked (h68 : T (.p 68) = some f_p_68) (hb : Bo cells most fs) : callN T N (n + 1) (.p 68) [bookD (cells : Int) most fs] s = .ok (.lst ((askL cells most fs).map fD)) s := by
  rw [callp h68]
  have c20 := hb.c2
  have l12 := hb.l
  refine W_run rfl ?_
  refine W_asgT (d := heldD (cells : Int) most fs) (s' := s) rfl rfl ?_
  have h0 : ev ⟨callN T N n, N⟩ f_p_68_c0 [some (bookD (cells : Int) most fs), none, some (.int (cells : Int)), some (.int most), some (.tup (fs.map fD)), none, none] s = .ok (.lst ((List.range cells).map fun k : Nat => fD ((k : Int), (k : Int) + 1, 0, most))) s := by
    refine ev_lc (l := List.range cells) (g := fun k : Nat => D.int (k : Int)) (evr_rg1n rfl (by omega)) (le_lim (by rw [List.length_range]; omega)) fun k hk => ⟨_, rfl, ?_⟩
    rfl
  have h1 : ev ⟨callN T N n, N⟩ f_p_68_c1 [some (bookD (cells : Int) most fs), some (.lst ((List.range cells).map fun k : Nat => fD ((k : Int), (k : Int) + 1, 0, most))), some (.int (cells : Int)), some (.int most), some (.tup (fs.map fD)), none, none] s = .ok (.lst (fs.map fD)) s := by
    refine ev_lc (l := fs) (g := fD) rfl (le_lim (by omega)) fun k hk => ⟨_, rfl, ?_⟩
    rfl
  refine W_asg h0 ?_
  refine W_ret (d := .lst ((askL cells most fs).map fD)) (s' := s) ?_ rfl
  show ev ⟨callN T N n, N⟩ (.bin .add (.var 1) f_p_68_c1) [some (bookD (cells : Int) most fs), some (.lst ((List.range cells).map fun k : Nat => fD ((k : Int), (k : Int) + 1, 0, most))), some (.int (cells : Int)), some (.int most), some (.tup (fs.map fD)), none, none] s = _
  rw [ev, ev_var (d := .lst ((List.range cells).map fun k : Nat => fD ((k : Int), (k : Int) + 1, 0, most))) rfl]
  simp only [Rs.bind_ok]
  rw [h1]
  simp only [Rs.bind_ok, binD]
  rw [if_pos (le_lim (by rw [List.length_map, List.length_map, List.length_range]; omega))]
  unfold askL
  rw [List.map_append, List.map_map]
  rfl
/-! ### within -/
def okA (d : Nat → Nat → Int) (f : F4) : Bool := decide (f.2.2.1 ≤ -d f.2.1.toNat f.1.toNat) && decide (d f.1.toNat f.2.1.toNat ≤ f.2.2.2)
theorem ask_mem (hf : ∀ f ∈ fs, okF cells f) {f : F4} (h : f ∈ askL cells most fs) : 0 ≤ f.1 ∧ f.1 < f.2.1 ∧ f.2.1 ≤ cells := by
  rcases List.mem_append.mp h with h | h
  · obtain ⟨k, hk, rfl⟩ := List.mem_map.mp h
    have := List.mem_range.mp hk
    simp only
    omega
  · obtain ⟨h1, h2, h3, _⟩ := hf f h
    exact ⟨h1, h2, h3⟩
theorem r_is_within (h : Tw T) (hb : Bo cells most fs) {most2 : Int} {fs2 : List F4} (hb2 : Bo cells most2 fs2) {g : Nat → Fd} {d : Nat → Nat → Int} (G : Gs (cells + 1) (bEd cells most fs) g d) (hc : canB cells most fs = true) :
    callN T N (n + 3) (.p 69) [bookD (cells : Int) most fs, bookD (cells : Int) most2 fs2] s = .ok (.bl ((askL cells most2 fs2).all (okA d))) s := by
  rw [callp h.p69]
  have e10 := r_can (T := T) (N := N) (n := n) (s := s) h.e.b hb
  rw [hc] at e10
  have e68 := r_asked (T := T) (N := N) (n := n + 1) (s := s) h.p68 hb2
  refine W_run rfl ?_
  refine W_no (d := .bl false) (s' := s) ?_ rfl ?_
  · rw [ev, show ev ⟨callN T N (n + 2), N⟩ (.call (.p 10) (.cons (.var 0) .nil)) (start f_p_69 [bookD (cells : Int) most fs, bookD (cells : Int) most2 fs2]) s = .ok (.bl true) s from by rw [ev]; exact e10]
    rfl
  show W (exs _ _ [some (bookD (cells : Int) most fs), some (bookD (cells : Int) most2 fs2), none, none, none, none, none, none] s) _
  refine W_for (s' := s) (askL cells most2 fs2) fD (fun pre ρ s' => s' = s ∧ pre.all (okA d) = true ∧ ∃ a b x y z w, ρ = [some (bookD (cells : Int) most fs), some (bookD (cells : Int) most2 fs2), a, b, x, y, z, w]) ?_ ⟨rfl, rfl, none, none, none, none, none, none, rfl⟩ ?_ ?_
  · rw [evr, show ev ⟨callN T N (n + 2), N⟩ (.call (.p 68) (.cons (.var 1) .nil)) [some (bookD (cells : Int) most fs), some (bookD (cells : Int) most2 fs2), none, none, none, none, none, none] s = .ok (.lst ((askL cells most2 fs2).map fD)) s from by rw [ev]; exact e68]
    rfl
  · rintro pre f post hl ρ s' ⟨rfl, hp, a, b, x, y, z, w, rfl⟩
    have hm : f ∈ askL cells most2 fs2 := by rw [hl]; simp
    obtain ⟨f1, f2, f3⟩ := ask_mem hb2.f hm
    have n1 : ((f.1.toNat : Nat) : Int) = f.1 := by omega
    have n2 : ((f.2.1.toNat : Nat) : Int) = f.2.1 := by omega
    have e16 := r_bounds_by (T := T) (N := N) (n := n) (s := s') h.e hb G (b := f.1.toNat) (e := f.2.1.toNat) (by omega) (by omega)
    rw [n1, n2] at e16
    refine ⟨_, rfl, ?_⟩
    refine W_asgT (d := .tup [.int (-d f.2.1.toNat f.1.toNat), .int (d f.1.toNat f.2.1.toNat)]) (s' := s') (by rw [ev]; exact e16) rfl ?_
    show W (exs _ _ [some (bookD (cells : Int) most fs), some (bookD (cells : Int) most2 fs2), some (.int f.1), some (.int f.2.1), some (.int f.2.2.1), some (.int f.2.2.2), some (.int (-d f.2.1.toNat f.1.toNat)), some (.int (d f.1.toNat f.2.1.toNat))] s') _
    refine W_ite (k := !okA d f) (d := .bl (!okA d f)) (s' := s') ?_ rfl (fun hk => ?_) (fun hk => ?_)
    · unfold okA
      by_cases q1 : -d f.2.1.toNat f.1.toNat < f.2.2.1
      · have : ¬ f.2.2.1 ≤ -d f.2.1.toNat f.1.toNat := by omega
        simp [ev, cmpD, q1, this]
      · have : f.2.2.1 ≤ -d f.2.1.toNat f.1.toNat := by omega
        by_cases q2 : f.2.2.2 < d f.1.toNat f.2.1.toNat
        · have t2 : ¬ d f.1.toNat f.2.1.toNat ≤ f.2.2.2 := by omega
          simp [ev, cmpD, q1, q2, this, t2]
        · have t2 : d f.1.toNat f.2.1.toNat ≤ f.2.2.2 := by omega
          simp [ev, cmpD, q1, q2, this, t2]
    · refine W_ret (d := .bl false) (s' := s') rfl ?_
      have : (askL cells most2 fs2).all (okA d) = false := by
        rw [hl, List.all_append, List.all_cons]
        have : okA d f = false := by simpa using hk
        rw [this]; simp
      show R.rt (.bl false) s' = _
      rw [this]
    · refine W_nil (W_nil ⟨rfl, ?_, _, _, _, _, _, _, rfl⟩)
      rw [List.all_append, hp]
      have : okA d f = true := by simpa using hk
      simp [this]
  · rintro ρ s' ⟨rfl, hp, a, b, x, y, z, w, rfl⟩
    exact W_ret rfl (by rw [hp])
theorem r_is_within0 (h : Tw T) (hb : Bo cells most fs) {B2 : D} (hc : canB cells most fs = false) : callN T N (n + 3) (.p 69) [bookD (cells : Int) most fs, B2] s = .ok (.bl true) s := by
  rw [callp h.p69]
  have e10 := r_can (T := T) (N := N) (n := n) (s := s) h.e.b hb
  rw [hc] at e10
  refine W_run rfl ?_
  refine W_ite (k := true) (d := .bl true) (s' := s) ?_ rfl (fun _ => W_ret rfl rfl) (fun q => by cases q)
  rw [ev, show ev ⟨callN T N (n + 2), N⟩ (.call (.p 10) (.cons (.var 0) .nil)) (start f_p_69 [bookD (cells : Int) most fs, B2]) s = .ok (.bl false) s from by rw [ev]; exact e10]
  rfl
/-- within, as it is told -/
def wiB (cells : Nat) (m1 : Int) (f1 : List F4) (m2 : Int) (f2 : List F4) : Prop := canB cells m1 f1 = true → ∀ p, Feas p (bEd cells m1 f1) → Feas p (bEd cells m2 f2)
theorem mem_ask {f : F4} : f ∈ askL cells most fs ↔ (∃ k : Nat, k < cells ∧ f = ((k : Int), (k : Int) + 1, 0, most)) ∨ f ∈ fs := by
  unfold askL
  rw [List.mem_append, List.mem_map]
  constructor
  · rintro (⟨k, hk, rfl⟩ | h)
    · exact .inl ⟨k, List.mem_range.mp hk, rfl⟩
    · exact .inr h
  · rintro (⟨k, hk, rfl⟩ | h)
    · exact .inl ⟨k, List.mem_range.mpr hk, rfl⟩
    · exact .inr h
/-- what is asked is so: each edge of the other is kept -/
theorem all_okA {d : Nat → Nat → Int} : (askL cells most fs).all (okA d) = true ↔ ∀ a b w, (a, b, w) ∈ bEd cells most fs → d a b ≤ w := by
  rw [List.all_eq_true]
  constructor
  · intro h a b w he
    rcases List.mem_append.mp he with he | he
    · obtain ⟨k, hk, e⟩ := mem_cEd.mp he
      have := h _ (mem_ask.mpr (.inl ⟨k, hk, rfl⟩))
      unfold okA at this
      simp only [Bool.and_eq_true, decide_eq_true_eq, Int.toNat_natCast] at this
      have e1 : ((k : Int) + 1).toNat = k + 1 := by omega
      rw [e1] at this
      rcases e with e | e <;> cases e <;> omega
    · obtain ⟨f, hm, e⟩ := mem_fEd.mp he
      have := h _ (mem_ask.mpr (.inr hm))
      unfold okA at this
      simp only [Bool.and_eq_true, decide_eq_true_eq] at this
      rcases e with e | e <;> cases e <;> omega
  · intro h f hf
    unfold okA
    rw [Bool.and_eq_true, decide_eq_true_eq, decide_eq_true_eq]
    rcases mem_ask.mp hf with ⟨k, hk, rfl⟩ | hm
    · have h1 := h k (k + 1) most (cEd_in _ (mem_cEd.mpr ⟨k, hk, .inl rfl⟩))
      have h2 := h (k + 1) k 0 (cEd_in _ (mem_cEd.mpr ⟨k, hk, .inr rfl⟩))
      have e1 : ((k : Int) + 1).toNat = k + 1 := by omega
      simp only [Int.toNat_natCast, e1]
      omega
    · have h1 := h _ _ _ (List.mem_append_right _ (mem_fEd.mpr ⟨f, hm, .inl rfl⟩))
      have h2 := h _ _ _ (List.mem_append_right _ (mem_fEd.mpr ⟨f, hm, .inr rfl⟩))
      omega
end
section
variable {n : Nat} {E1 E2 : List Eg} {d1 d2 : Nat → Nat → Int}
/-- least weights against edges: by ways -/
theorem le_walk (hd : ∀ a b, a < n → b < n → Dist E1 a b (d1 a b)) (hi : Inb n E2) (h : ∀ a b w, (a, b, w) ∈ E2 → d1 a b ≤ w) {a b : Nat} {w : Int} (ha : a < n) (hw : Wk E2 a b w) : b < n ∧ d1 a b ≤ w := by
  induction hw with
  | nil =>
    refine ⟨ha, ?_⟩
    have := (hd a a ha ha).2 _ .nil
    exact this
  | @snoc b c w x hw he ih =>
    obtain ⟨hb, hl⟩ := ih
    obtain ⟨_, hc⟩ := hi _ he
    refine ⟨hc, ?_⟩
    have t := (hd a b ha hb).tri (hd b c hb hc) (hd a c ha hc)
    have := h _ _ _ he
    omega
theorem within_dist (hd1 : ∀ a b, a < n → b < n → Dist E1 a b (d1 a b)) (hd2 : ∀ a b, a < n → b < n → Dist E2 a b (d2 a b)) (hi : Inb n E2) : (∀ a b w, (a, b, w) ∈ E2 → d1 a b ≤ w) ↔ ∀ a b, a < n → b < n → d1 a b ≤ d2 a b := by
  constructor
  · intro h a b ha hb
    exact (le_walk hd1 hi h ha (hd2 a b ha hb).1).2
  · intro h a b w he
    obtain ⟨ha, hb⟩ := hi _ he
    exact Int.le_trans (h a b ha hb) ((hd2 a b ha hb).2 _ (.one he))
/-- the weights from a place let themselves be kept -/
theorem within_feas (hd1 : ∀ a b, a < n → b < n → Dist E1 a b (d1 a b)) (hi : Inb n E2) (h0 : 0 < n) (h : ∀ a b w, (a, b, w) ∈ E2 → d1 a b ≤ w) : Feas (fun v => d1 0 v) E2 := fun a b w he => by
  obtain ⟨ha, hb⟩ := hi _ he
  have t := (hd1 0 a h0 ha).tri (hd1 a b ha hb) (hd1 0 b h0 hb)
  have := h _ _ _ he
  simp only
  omega
end
end MP

end
section
set_option Elab.async false
set_option linter.all false
set_option maxRecDepth 100000
set_option maxHeartbeats 1000000
/-! Values of expressions, step by step. -/
namespace MP
open PySem
section
variable {c : Cfg} {ρ : Env} {s s1 s2 s3 : Sto} {a b e i : E} {x y z d : D} {es : Es} {ds : List D} {f : F} {op : Cm} {k p q : Bool}
theorem evs_nil : evs c .nil ρ s = .ok [] s := rfl
theorem evs_cons (h : ev c e ρ s = .ok d s1) (h2 : evs c es ρ s1 = .ok ds s2) : evs c (.cons e es) ρ s = .ok (d :: ds) s2 := by
  rw [evs, h]
  simp only [Rs.bind_ok]
  rw [h2]
  rfl
theorem ev_and (ha : ev c a ρ s = .ok (.bl p) s1) (hb : p = true → ev c b ρ s1 = .ok (.bl q) s1) : ev c (.and a b) ρ s = .ok (.bl (p && q)) s1 := by
  rw [ev, ha]
  cases p with
  | true => exact hb rfl
  | false => rfl
theorem ev_or (ha : ev c a ρ s = .ok (.bl p) s1) (hb : p = false → ev c b ρ s1 = .ok (.bl q) s1) : ev c (.or a b) ρ s = .ok (.bl (p || q)) s1 := by
  rw [ev, ha]
  cases p with
  | true => rfl
  | false => exact hb rfl
theorem ev_cmp (ha : ev c a ρ s = .ok x s1) (hb : ev c b ρ s1 = .ok y s2) (h : cmpD op x y = some k) : ev c (.cmp op a b) ρ s = .ok (.bl k) s2 := by
  rw [ev, ha]
  simp only [Rs.bind_ok]
  rw [hb]
  simp only [Rs.bind_ok]
  rw [h]
  rfl
theorem ev_call (h : evs c es ρ s = .ok ds s1) : ev c (.call f es) ρ s = c.call f ds s1 := by
  rw [ev, h]
  rfl
theorem ev_make {k : Cl} (h : evs c es ρ s = .ok ds s1) : ev c (.make k es) ρ s = c.call (.ini k) ds s1 := by
  rw [ev, h]
  rfl
theorem ev_lst (h : evs c es ρ s = .ok ds s1) (hl : ds.length ≤ 100000) : ev c (.lst es) ρ s = .ok (.lst ds) s1 := by
  rw [ev, h]
  simp only [Rs.bind_ok]
  rw [if_pos (le_lim hl)]
theorem ev_tup (h : evs c es ρ s = .ok ds s1) (hl : ds.length ≤ 100000) : ev c (.tup es) ρ s = .ok (.tup ds) s1 := by
  rw [ev, h]
  simp only [Rs.bind_ok]
  rw [if_pos (le_lim hl)]
theorem ev_ix (ha : ev c a ρ s = .ok x s1) (hb : ev c b ρ s1 = .ok y s2) (h : ixD x y = some z) : ev c (.ix a b) ρ s = .ok z s2 := by
  rw [ev, ha]
  simp only [Rs.bind_ok]
  rw [hb]
  simp only [Rs.bind_ok]
  rw [h]
  rfl
theorem ev_bin {o : Op} (ha : ev c a ρ s = .ok x s1) (hb : ev c b ρ s1 = .ok y s2) (h : binD o x y = some z) : ev c (.bin o a b) ρ s = .ok z s2 := by
  rw [ev, ha]
  simp only [Rs.bind_ok]
  rw [hb]
  simp only [Rs.bind_ok]
  rw [h]
  rfl
theorem ev_b1 {o : B1} (ha : ev c a ρ s = .ok x s1) (h : b1D o x = some z) : ev c (.b1 o a) ρ s = .ok z s1 := by
  rw [ev, ha]
  simp only [Rs.bind_ok]
  rw [h]
  rfl
theorem ev_b2 {o : B2} (ha : ev c a ρ s = .ok x s1) (hb : ev c b ρ s1 = .ok y s2) (h : b2D o x y = some z) : ev c (.b2 o a b) ρ s = .ok z s2 := by
  rw [ev, ha]
  simp only [Rs.bind_ok]
  rw [hb]
  simp only [Rs.bind_ok]
  rw [h]
  rfl
theorem ev_nott (ha : ev c a ρ s = .ok x s1) (h : truD x = some k) : ev c (.nott a) ρ s = .ok (.bl (!k)) s1 := by
  rw [ev, ha]
  simp only [Rs.bind_ok]
  rw [h]
  rfl
theorem ev_neg {n : Int} (ha : ev c a ρ s = .ok (.int n) s1) : ev c (.neg a) ρ s = .ok (.int (-n)) s1 := by
  rw [ev, ha]
  rfl
theorem ev_ifx {t : E} (ht : ev c t ρ s = .ok x s1) (hk : truD x = some k) (h1 : k = true → ev c a ρ s1 = .ok z s2) (h2 : k = false → ev c b ρ s1 = .ok z s2) : ev c (.ifx t a b) ρ s = .ok z s2 := by
  rw [ev, ht]
  simp only [Rs.bind_ok]
  rw [hk]
  simp only [Rs.opt_some, Rs.bind_ok]
  cases k with
  | true => exact h1 rfl
  | false => exact h2 rfl
theorem ev_sl {lo hi : Oe} {l h : Option Int} (ha : ev c a ρ s = .ok x s1) (h1 : evo c lo ρ s1 = .ok l s2) (h2 : evo c hi ρ s2 = .ok h s3) (hz : slD x l h = some z) : ev c (.sl a lo hi) ρ s = .ok z s3 := by
  rw [ev, ha]
  simp only [Rs.bind_ok]
  rw [h1]
  simp only [Rs.bind_ok]
  rw [h2]
  simp only [Rs.bind_ok]
  rw [hz]
  rfl
theorem add_int {m n : Int} : binD .add (.int m) (.int n) = some (.int (m + n)) := rfl
theorem sub_int {m n : Int} : binD .sub (.int m) (.int n) = some (.int (m - n)) := rfl
theorem add_tup {l r : List D} (h : l.length + r.length ≤ 100000) : binD .add (.tup l) (.tup r) = some (.tup (l ++ r)) := by
  simp only [binD]
  rw [if_pos (le_lim h)]
theorem add_lst {l r : List D} (h : l.length + r.length ≤ 100000) : binD .add (.lst l) (.lst r) = some (.lst (l ++ r)) := by
  simp only [binD]
  rw [if_pos (le_lim h)]
theorem W_eqn {Q : R → Prop} {ss : Ss} {x : R} (h : exs c ss ρ s = x) (k : Q x) : W (exs c ss ρ s) Q := W_eq h k
end
end MP

end
section
set_option Elab.async false
set_option linter.all false
set_option maxRecDepth 100000
set_option maxHeartbeats 1000000
/-! A book near to another one. -/
namespace MP
open PySem
theorem cut_one {α : Type} (l : List α) : cutL l (some 1) none = l.drop 1 := by
  unfold cutL
  rw [show HT.sIx l.length 0 (some 1) = min 1 l.length from HT.sIx_nat l.length 0 1, HT.sIx_none]
  cases l with
  | nil => rfl
  | cons x r =>
    rw [show min 1 (x :: r).length = 1 by rw [List.length_cons]; omega]
    show List.take ((x :: r).length - 1) r = r
    rw [List.length_cons, Nat.add_sub_cancel]
    exact List.take_length
theorem ne_nil {fs : List F4} : cmpD .ne (.tup (fs.map fD)) (.tup []) = some (!fs.isEmpty) := by
  show (eqD (.tup (fs.map fD)) (.tup [])).map (!·) = _
  unfold eqD
  rw [isP_fs]
  cases fs <;> rfl
section
variable {T : F → Option Fn} {N n : Nat} {s : Sto}
theorem r_like (h57 : T (.law 57) = some f_law_57) (ld : Ld T) (hd : Dr s) {cells : Nat} {most : Int} {fs : List F4} (c1 : 1 ≤ cells) (c2 : cells ≤ 20) (m1 : 0 ≤ most) (m2 : most < 1000000000000000000000000000000) (l : fs.length ≤ 11) (hf : ∀ f ∈ fs, okF cells f ∧ f.2.2.2 ≤ 99999999999999999999999999999999) :
    ∃ most' fs' s', callN T N (n + 4) (.law 57) [.hnd 0, .lst [.int (cells : Int), .int most, .tup (fs.map fD)]] s = .ok (.lst [.int (cells : Int), .int most', .tup (fs'.map fD)]) s' ∧ Dr s' ∧ Bo cells most' fs' := by
  obtain ⟨k, s1, e1, d1, k0, k6⟩ := r_next (T := T) (N := N) (n + 3) hd (b := 6) (by omega) (by omega)
  obtain ⟨rows, s2, e2, d2, l2, p2⟩ := rows_of (c := ⟨callN T N (n + 3), N⟩) (e := .call .next (.cons (.var 0) (.cons (.bin .add (.var 5) (.int 1)) .nil))) (ρ := [some (.hnd 0), some (.lst [.int (cells : Int), .int most, .tup (fs.map fD)]), some (.int k), none, some (.int (cells : Int)), some (.int most), some (.tup (fs.map fD)), none, none, none, none, none]) (i := 8) (k := (cells : Int)) (P := fun d => ∃ a, d = D.int a ∧ 0 ≤ a ∧ a ≤ most) d1 (by omega) (by omega)
    (fun x s hs => by
      obtain ⟨a, s', e, d', a1, a2⟩ := r_next (T := T) (N := N) (n + 3) hs (b := most + 1) (by omega) (by omega)
      refine ⟨.int a, s', ?_, d', a, rfl, a1, by omega⟩
      simp [runFn, runIni, MP.start, exs, exe, ev, evs, evo, evr, cmpD, binD, ixD, slD, b1D, b2D, isaD, truD, lenD, itD, bT_nm, bT_tup, bT_lst, bTs_nil, bTs_cons, parE, at', isFresh, negD, isNon, L2.atI, L2.ixN, slotsT, slotsTs, wipeE, Rs.nox, lim, e]) (r := .rg1 (.var 4)) (evr_rg1 rfl (by omega) (by omega))
  obtain ⟨r, rfl, hr⟩ := ex_map (g := D.int) p2
  rw [List.length_map] at l2
  have hb0 : Bo cells most fs := ⟨c1, c2, m1, by omega, by omega, fun f h => (hf f h).1⟩
  suffices hw : W (exs ⟨callN T N (n + 3), N⟩ f_law_57.body [some (.hnd 0), some (.lst [.int (cells : Int), .int most, .tup (fs.map fD)]), none, none, none, none, none, none, none, none, none, none] s) (fun x => ∃ most' fs' s', x = .rt (.lst [.int (cells : Int), .int most', .tup (fs'.map fD)]) s' ∧ Dr s' ∧ Bo cells most' fs') by
    obtain ⟨most', fs', s', h1, h2, h3⟩ := hw.q
    exact ⟨most', fs', s', by rw [calll h57]; exact runFn_rt rfl h1, h2, h3⟩
  have ix0 : ∀ {c : Cfg} {ρ : Env} {s : Sto} {i : Nat} {z : Int}, ρ[i]? = some (some (.int z)) → ∀ w : Int, ev c (.cmp .eq (.var i) (.int w)) ρ s = .ok (.bl (decide (z = w))) s := fun hi w => ev_cmp (ev_var hi) rfl cmp_eq_ii
  refine W_asgT (d := .lst [.int (cells : Int), .int most, .tup (fs.map fD)]) (s' := s) rfl rfl ?_
  refine W_asg (d := .int k) (s' := s1) (by rw [ev]; exact e1) ?_
  refine W_asg (d := .lst (r.map D.int)) (s' := s2) e2 ?_
  show W (exs _ _ [some (.hnd 0), some (.lst [.int (cells : Int), .int most, .tup (fs.map fD)]), some (.int k), some (.lst (r.map D.int)), some (.int (cells : Int)), some (.int most), some (.tup (fs.map fD)), none, none, none, none, none] s2) _
  have drw : ∀ {s : Sto}, Dr s → ∃ f s', callN T N (n + 3) (.law 2) [.hnd 0, .lst (r.map D.int), .int 3] s = .ok (fD f) s' ∧ Dr s' ∧ okF cells f ∧ f.2.2.2 ≤ 99999999999999999999999999999999 := fun hs => by
    obtain ⟨f, s', h1, h2, h3, h4⟩ := r_drawfact2 (T := T) (N := N) (n := n) ld.l1 ld.l2 hs (r := r) (M := most) (loose := 3) m1 (by omega) hr (by omega) (by omega) (by omega) (by omega)
    exact ⟨f, s', h1, h2, by rw [← l2]; exact h3, h4⟩
  refine W_ite (k := decide (k = 0) && !fs.isEmpty) (d := .bl (decide (k = 0) && !fs.isEmpty)) (s' := s2) (ev_and (ix0 rfl 0) fun _ => ev_cmp rfl rfl ne_nil) rfl (fun hk => ?_) (fun hk => W_nil ?_)
  · refine W_ret (d := .lst [.int (cells : Int), .int most, .tup ((fs.drop 1).map fD)]) (s' := s2) (ev_lst (evs_cons rfl (evs_cons rfl (evs_cons (ev_sl (z := .tup ((fs.drop 1).map fD)) rfl rfl rfl ?_) evs_nil))) (by simp)) ⟨_, _, _, rfl, d2, ?_⟩
    · show some (D.tup (cutL (fs.map fD) (some 1) none)) = _
      rw [cut_one, List.map_drop]
    · exact ⟨c1, c2, m1, by omega, by rw [List.length_drop]; omega, fun f h => (hf f (List.mem_of_mem_drop h)).1⟩
  refine W_ite (k := decide (k = 1)) (d := .bl (decide (k = 1))) (s' := s2) (ix0 rfl 1) rfl (fun hk => ?_) (fun hk => W_nil ?_)
  · obtain ⟨f, s3, f1, f2, f3, f4⟩ := drw d2
    refine W_ret (d := .lst [.int (cells : Int), .int most, .tup ((fs ++ [f]).map fD)]) (s' := s3) (ev_lst (evs_cons rfl (evs_cons rfl (evs_cons (ev_bin (x := .tup (fs.map fD)) (y := .tup [fD f]) (z := .tup ((fs ++ [f]).map fD)) rfl (ev_tup (evs_cons ((ev_call rfl).trans f1) evs_nil) (by simp)) ?_) evs_nil))) (by simp)) ⟨_, _, _, rfl, f2, ?_⟩
    · rw [add_tup (by rw [List.length_map]; simp; omega), List.map_append]
      rfl
    · refine ⟨c1, c2, m1, by omega, by simp; omega, fun g h => ?_⟩
      rcases List.mem_append.mp h with h | h
      · exact (hf g h).1
      · rw [List.mem_singleton.mp h]; exact f3
  refine W_ite (k := decide (k = 2) && !fs.isEmpty) (d := .bl (decide (k = 2) && !fs.isEmpty)) (s' := s2) (ev_and (ix0 rfl 2) fun _ => ev_cmp rfl rfl ne_nil) rfl (fun hk => ?_) (fun hk => W_nil ?_)
  · cases fs with
    | nil => simp at hk
    | cons f fr =>
      obtain ⟨⟨g1, g2, g3, g4, g5, g6⟩, g7⟩ := hf f (List.mem_cons_self ..)
      obtain ⟨x, s3, x1, x2, x3, x4⟩ := r_next (T := T) (N := N) (n + 3) d2 (b := 2) (by omega) (by omega)
      obtain ⟨y, s4, y1, y2, y3, y4⟩ := r_next (T := T) (N := N) (n + 3) x2 (b := 3) (by omega) (by omega)
      refine W_asgT (d := fD f) (s' := s2) (ev_ix rfl rfl (show L2.atI ((f :: fr).map fD) ((0 : Nat) : Int) = _ from by rw [at_nat (by simp)]; rfl)) rfl ?_
      obtain ⟨lo, hlo, lo1, lo2⟩ : ∃ lo, b2D .max (.int 0) (.int (f.2.2.1 - x)) = some (.int lo) ∧ 0 ≤ lo ∧ lo ≤ f.2.2.1 := ⟨_, rfl, by split <;> omega, by split <;> omega⟩
      obtain ⟨hi, hhi, hi1, hi2⟩ : ∃ hi, b2D .max (.int lo) (.int (f.2.2.2 + y - 1)) = some (.int hi) ∧ lo ≤ hi ∧ hi ≤ 100000000000000000000000000000000 := ⟨_, rfl, by split <;> omega, by split <;> omega⟩
      refine W_asg (d := .int lo) (s' := s3) (ev_b2 rfl (ev_bin rfl ((ev_call rfl).trans x1) sub_int) hlo) ?_
      refine W_ret (d := .lst [.int (cells : Int), .int most, .tup (((f.1, f.2.1, lo, hi) :: fr).map fD)]) (s' := s4) (ev_lst (evs_cons rfl (evs_cons rfl (evs_cons (ev_bin (x := .tup [fD (f.1, f.2.1, lo, hi)]) (y := .tup (fr.map fD)) (ev_tup (evs_cons (ev_tup (evs_cons rfl (evs_cons rfl (evs_cons rfl (evs_cons (ev_b2 rfl (ev_bin (ev_bin rfl ((ev_call rfl).trans y1) add_int) rfl sub_int) hhi) evs_nil)))) (by simp)) evs_nil) (by simp)) (ev_sl (z := .tup (fr.map fD)) rfl rfl rfl ?_) ?_) evs_nil))) (by simp)) ⟨_, _, _, rfl, y2, ?_⟩
      · show some (D.tup (cutL ((f :: fr).map fD) (some 1) none)) = _
        rw [cut_one]
        rfl
      · rw [add_tup (by simp at l ⊢; omega)]
        rfl
      · refine ⟨c1, c2, m1, by omega, by simp at l ⊢; omega, fun g h => ?_⟩
        rcases List.mem_cons.mp h with rfl | h
        · exact ⟨g1, g2, g3, lo1, hi1, hi2⟩
        · exact (hf g (List.mem_cons_of_mem _ h)).1
  refine W_ite (k := decide (k = 3)) (d := .bl (decide (k = 3))) (s' := s2) (ix0 rfl 3) rfl (fun hk => ?_) (fun hk => W_nil ?_)
  · obtain ⟨x, s3, x1, x2, x3, x4⟩ := r_next (T := T) (N := N) (n + 3) d2 (b := 3) (by omega) (by omega)
    obtain ⟨mo, hmo, mo1, mo2⟩ : ∃ mo, b2D .max (.int 0) (.int (most + x - 1)) = some (.int mo) ∧ 0 ≤ mo ∧ mo ≤ 1000000000000000000000000000000 := ⟨_, rfl, by split <;> omega, by split <;> omega⟩
    refine W_ret (d := .lst [.int (cells : Int), .int mo, .tup (fs.map fD)]) (s' := s3) (ev_lst (evs_cons rfl (evs_cons (ev_b2 rfl (ev_bin (ev_bin rfl ((ev_call rfl).trans x1) add_int) rfl sub_int) hmo) (evs_cons rfl evs_nil))) (by simp)) ⟨_, _, _, rfl, x2, ?_⟩
    exact ⟨c1, c2, mo1, mo2, by omega, fun f h => (hf f h).1⟩
  refine W_ite (k := decide (k = 4)) (d := .bl (decide (k = 4))) (s' := s2) (ix0 rfl 4) rfl (fun hk => ?_) (fun hk => W_nil ?_)
  · refine W_ret (d := .lst [.int (cells : Int), .int most, .tup (fs.reverse.map fD)]) (s' := s2) (ev_lst (evs_cons rfl (evs_cons rfl (evs_cons (d := .tup (fs.reverse.map fD)) ?_ evs_nil))) (by simp)) ⟨_, _, _, rfl, d2, ?_⟩
    · rw [List.map_reverse]
      rfl
    · exact ⟨c1, c2, m1, by omega, by rw [List.length_reverse]; omega, fun f h => (hf f (List.mem_reverse.mp h)).1⟩
  obtain ⟨x, s3, x1, x2, x3, x4⟩ := r_next (T := T) (N := N) (n + 3) d2 (b := 4) (by omega) (by omega)
  obtain ⟨fds, s4, e4, d4, l4, p4⟩ := rows_of (s := s3) (c := ⟨callN T N (n + 3), N⟩) (e := .call (.law 2) (.cons (.var 0) (.cons (.var 3) (.cons (.int 3) .nil)))) (ρ := [some (.hnd 0), some (.lst [.int (cells : Int), .int most, .tup (fs.map fD)]), some (.int k), some (.lst (r.map D.int)), some (.int (cells : Int)), some (.int most), some (.tup (fs.map fD)), none, none, none, none, none]) (i := 8) (k := x) (P := fun d => ∃ f, d = fD f ∧ okF cells f) x2 (by omega) (by omega)
    (fun x s hs => by
      obtain ⟨f, s', h1, h2, h3, h4⟩ := drw hs
      exact ⟨fD f, s', (ev_call rfl).trans h1, h2, f, rfl, h3⟩) (r := .rg1 (.int x)) (evr_rg1 rfl (by omega) (by omega))
  obtain ⟨fs2, rfl, hf2⟩ := ex_map (g := fD) p4
  rw [List.length_map] at l4
  have e4' : ev ⟨callN T N (n + 3), N⟩ f_law_57_c1 [some (.hnd 0), some (.lst [.int (cells : Int), .int most, .tup (fs.map fD)]), some (.int k), some (.lst (r.map D.int)), some (.int (cells : Int)), some (.int most), some (.tup (fs.map fD)), none, none, none, none, none] s2 = .ok (.lst (fs2.map fD)) s4 := by
    have : evr ⟨callN T N (n + 3), N⟩ (.rg1 (.call .next (.cons (.var 0) (.cons (.int 4) .nil)))) [some (.hnd 0), some (.lst [.int (cells : Int), .int most, .tup (fs.map fD)]), some (.int k), some (.lst (r.map D.int)), some (.int (cells : Int)), some (.int most), some (.tup (fs.map fD)), none, none, none, none, none] s2 = evr ⟨callN T N (n + 3), N⟩ (.rg1 (.int x)) [some (.hnd 0), some (.lst [.int (cells : Int), .int most, .tup (fs.map fD)]), some (.int k), some (.lst (r.map D.int)), some (.int (cells : Int)), some (.int most), some (.tup (fs.map fD)), none, none, none, none, none] s3 := by
      rw [evr, evr, (ev_call rfl).trans x1]
      rfl
    unfold f_law_57_c1
    rw [ev] at e4 ⊢
    rw [this]
    exact e4
  refine W_ret (d := .lst [.int (cells : Int), .int most, .tup (fs2.map fD)]) (s' := s4) (ev_lst (evs_cons rfl (evs_cons rfl (evs_cons (ev_b1 e4' rfl) evs_nil))) (by simp)) ⟨_, _, _, rfl, d4, ?_⟩
  exact ⟨c1, c2, m1, by omega, by omega, hf2⟩
end
end MP

end
section
set_option Elab.async false
set_option linter.all false
set_option maxRecDepth 100000
set_option maxHeartbeats 1000000
/-! Closed books: lists of all stretches; try; equality of data. -/
namespace MP
open PySem
/-! ### data without truth values: == is = -/
def isQ : Nat → D → Bool
  | _, .non => true
  | _, .int _ => true
  | _, .str x => x.cps.all (· < 0x110000)
  | n + 1, .tup ds => ds.all (isQ n)
  | n + 1, .lst ds => ds.all (isQ n)
  | _, _ => false
theorem isQ_P : ∀ (n : Nat) (d : D), isQ n d = true → isP n d = true
  | 0, d, h => by cases d <;> simp_all [isQ, isP]
  | n + 1, d, h => by
    cases d <;> first | (simp [isQ] at h; done) | (simp_all [isQ, isP]; done) | skip
    all_goals
      unfold isQ at h
      unfold isP
      rw [List.all_eq_true] at h ⊢
      exact fun x hx => isQ_P n x (h x hx)
theorem eqL_iff {n : Nat} (ih : ∀ a b, isQ n a = true → isQ n b = true → (eqF n a b = true ↔ a = b)) : ∀ (as bs : List D), as.all (isQ n) = true → bs.all (isQ n) = true → (eqL (eqF n) as bs = true ↔ as = bs)
  | [], [], _, _ => by simp [eqL]
  | [], _ :: _, _, _ => by simp [eqL]
  | _ :: _, [], _, _ => by simp [eqL]
  | a :: as, b :: bs, h1, h2 => by
    rw [List.all_cons, Bool.and_eq_true] at h1 h2
    unfold eqL
    rw [Bool.and_eq_true, ih a b h1.1 h2.1, eqL_iff ih as bs h1.2 h2.2, List.cons.injEq]
theorem str_beq {x y : Str} : (x == y) = true ↔ x = y := ⟨fun h => eq_of_beq h, fun h => by rw [h]; simp⟩
theorem eqF_iff : ∀ (n : Nat) (a b : D), isQ n a = true → isQ n b = true → (eqF n a b = true ↔ a = b)
  | 0, a, b, h1, h2 => by
    cases a <;> cases b <;> first | (simp [isQ] at h1; done) | (simp [isQ] at h2; done) | (simp [eqF]; done)
  | n + 1, a, b, h1, h2 => by
    cases a <;> cases b <;> first | (simp [isQ] at h1; done) | (simp [isQ] at h2; done) | (simp [eqF]; done) | skip
    · unfold isQ at h1 h2
      unfold eqF
      rw [eqL_iff (eqF_iff n) _ _ h1 h2, D.tup.injEq]
    · unfold isQ at h1 h2
      unfold eqF
      rw [eqL_iff (eqF_iff n) _ _ h1 h2, D.lst.injEq]
theorem eqD_iff {a b : D} (h1 : isQ 8 a = true) (h2 : isQ 8 b = true) : ∃ k, eqD a b = some k ∧ (k = true ↔ a = b) := by
  refine ⟨eqF 8 a b, ?_, eqF_iff 8 a b h1 h2⟩
  unfold eqD
  rw [isQ_P 8 a h1, isQ_P 8 b h2]
  rfl
/-! ### try -/
section
variable {c : Cfg} {ρ : Env} {s s' : Sto} {e : E} {d : D} {hs : Hs} {ks : List Nat} {r b : Ss} {k k' : Cl} {ds : List D} {o : Option Nat}
theorem tri_ok (h : ev c e ρ s = .ok d s') : exs c (.cons (.tri (.cons (.ret e) .nil) hs ks) r) ρ s = .rt d s' := by
  rw [exs, exe, exs, exe, h]
  rfl
theorem tri_ex (h : ev c e ρ s = .ex k ds s') (hk : knw ks k = true) (hm : exM k k' = true) : exs c (.cons (.tri (.cons (.ret e) .nil) (.cons k' o b hs) ks) r) ρ s = (exs c b ρ s').bind fun ρ s => exs c r ρ s := by
  rw [exs, exe, exs, exe, h]
  simp only [Rs.go_ex, R.bind_ex, R.catch_ex]
  rw [exh, if_pos hk, if_pos hm]
theorem exe_expr_ex (h : ev c e ρ s = .ex k ds s') : exe c (.expr e) ρ s = .ex k ds ρ s' := by
  rw [exe, h]
  rfl
end
/-! ### all stretches -/
def stL (cells : Nat) : List (Nat × Nat) := (List.range cells).flatMap fun b => (List.range (cells + 1 - (b + 1))).map fun i => (b, b + 1 + i)
def clE (d : Nat → Nat → Int) (p : Nat × Nat) : D := .tup [.int (p.1 : Int), .int (p.2 : Int), .int (-d p.2 p.1), .int (d p.1 p.2)]
theorem mem_stL {cells : Nat} {p : Nat × Nat} : p ∈ stL cells ↔ p.1 < p.2 ∧ p.2 ≤ cells := by
  unfold stL
  rw [List.mem_flatMap]
  constructor
  · rintro ⟨b, hb, h⟩
    obtain ⟨i, hi, rfl⟩ := List.mem_map.mp h
    have := List.mem_range.mp hb
    have := List.mem_range.mp hi
    simp only
    omega
  · rintro ⟨h1, h2⟩
    refine ⟨p.1, List.mem_range.mpr (by omega), List.mem_map.mpr ⟨p.2 - (p.1 + 1), List.mem_range.mpr (by omega), ?_⟩⟩
    apply Prod.ext
    · rfl
    · simp only
      omega
theorem clL_eq {d : Nat → Nat → Int} {cells : Nat} : clL d cells = (stL cells).map (clE d) := by
  unfold clL stL
  rw [List.map_flatMap]
  refine congrArg (fun g => (List.range cells).flatMap g) (funext fun b => ?_)
  unfold clR
  rw [List.map_map]
  rfl
theorem clL_isQ {d : Nat → Nat → Int} {cells : Nat} : isQ 8 (.lst (clL d cells)) = true := by
  rw [clL_eq]
  unfold isQ
  rw [List.all_eq_true]
  intro x hx
  obtain ⟨p, _, rfl⟩ := List.mem_map.mp hx
  rfl
theorem clL_inj {d1 d2 : Nat → Nat → Int} {cells : Nat} : clL d1 cells = clL d2 cells ↔ ∀ p ∈ stL cells, d1 p.2 p.1 = d2 p.2 p.1 ∧ d1 p.1 p.2 = d2 p.1 p.2 := by
  rw [clL_eq, clL_eq, List.map_inj_left]
  constructor
  · intro h p hp
    have := h p hp
    simp only [clE, D.tup.injEq, List.cons.injEq, D.int.injEq, true_and, and_true] at this
    omega
  · intro h p hp
    obtain ⟨h1, h2⟩ := h p hp
    unfold clE
    rw [h1, h2]
section
variable {T : F → Option Fn} {N n : Nat} {s : Sto} {cells : Nat} {most : Int} {fs : List F4}
/-- least weights, where there are any -/
theorem bk_info (hb : Bo cells most fs) : ∃ g d, canB cells most fs = true → Gs (cells + 1) (bEd cells most fs) g d := by
  by_cases hc : canB cells most fs = true
  · obtain ⟨p, hp⟩ := (canB_iff hb).mp hc
    obtain ⟨g, d, G⟩ := exists_gs (n := cells + 1) hp (inb_b hb.f) (reach_b cEd_in)
    exact ⟨g, d, fun _ => G⟩
  · exact ⟨fun _ => [], fun _ _ => 0, fun h => absurd h hc⟩
theorem tb1_eq (hb : Bo cells most fs) (hc : canB cells most fs = true) {g : Nat → Fd} {d : Nat → Nat → Int} (G : Gs (cells + 1) (bEd cells most fs) g d) {a b : Nat} (ha : a < cells + 1) (hb' : b < cells + 1) : tb1 cells most fs a b = some (d a b) := by
  obtain ⟨z, z1, z2⟩ := tb1_dist hb hc ha hb'
  rw [z1, z2.unique (G.ds a b ha hb')]
theorem tab_ix {kvs : Tk} (t1 : TabR kvs (tb1 cells most fs)) (hb : Bo cells most fs) (hc : canB cells most fs = true) {g : Nat → Fd} {d : Nat → Nat → Int} (G : Gs (cells + 1) (bEd cells most fs) g d) {a b : Nat} (ha : a < cells + 1) (hb' : b < cells + 1) : ixD (.dT kvs) (kD a b) = some (.int (d a b)) := by
  show (dget (.dT kvs) (kD a b)).join = _
  rw [dget_tab t1, tb1_eq hb hc G ha hb']
  rfl
def cloD (cells : Nat) (most : Int) (fs : List F4) (d : Nat → Nat → Int) : D := if canB cells most fs then .lst (clL d cells) else .non
theorem r_lawclosed {fn : Fn} (h59 : T (.law 59) = some f_law_59) (h7 : T (.law 7) = some fn) (hk : Like fn f_law_7) (hb : Bo cells most fs) {g : Nat → Fd} {d : Nat → Nat → Int} (G : canB cells most fs = true → Gs (cells + 1) (bEd cells most fs) g d) : callN T N (n + 2) (.law 59) [.lst [.int (cells : Int), .int most, .tup (fs.map fD)]] s = .ok (cloD cells most fs d) s := by
  obtain ⟨kvs, t1, e6⟩ := r_table (T := T) (N := N) (n := n) (s := s) (cells := cells) (most := most) (fs := fs) h7 hk hb.c2 (by have := hb.l; omega) hb.f
  have c20 := hb.c2
  rw [calll h59]
  unfold cloD
  by_cases hc : canB cells most fs = true
  · rw [if_pos ((negs_nil_iff hb).mpr hc)] at e6
    rw [if_pos hc]
    have G := G hc
    refine W_run rfl ?_
    refine W_nx (ρ' := [some (.lst [.int (cells : Int), .int most, .tup (fs.map fD)]), none, some (.dT kvs), some (.lst []), none]) (s' := s) ?_ ?_
    · rw [exe, (ev_call rfl).trans e6]
      rfl
    refine W_no (d := .bl false) (s' := s) rfl rfl ?_
    refine W_for (s' := s) (List.range cells) (fun i : Nat => D.int (i : Int)) (fun pre ρ s' => s' = s ∧ ∃ x y, ρ = [some (.lst [.int (cells : Int), .int most, .tup (fs.map fD)]), x, some (.dT kvs), some (.lst (pre.flatMap (clR d cells))), y]) (evr_rg1n rfl (by omega)) ⟨rfl, none, none, rfl⟩ ?_ ?_
    · rintro pre a post hl ρ s' ⟨rfl, x, y, rfl⟩
      obtain ⟨rfl, hlt⟩ := range_pre hl
      refine ⟨_, rfl, ?_⟩
      simp only [List.set_cons_succ, List.set_cons_zero]
      generalize hA : pre.flatMap (clR d cells) = A
      have hAl : A.length ≤ cells * pre.length := by rw [← hA]; exact flat_le (fun b => clR_len) pre
      have hAl2 : cells * pre.length ≤ 20 * 20 := Nat.mul_le_mul (by omega) (by omega)
      refine W_for (s' := s') (List.range (cells + 1 - (pre.length + 1))) (fun i : Nat => D.int ((pre.length + 1 + i : Nat) : Int)) (fun pre2 ρ s2 => s2 = s' ∧ ∃ y, ρ = [some (.lst [.int (cells : Int), .int most, .tup (fs.map fD)]), some (.int (pre.length : Int)), some (.dT kvs), some (.lst (A ++ pre2.map (clT d pre.length))), y]) (evr_rg2N (a := pre.length + 1) (b := cells + 1) rfl rfl (by omega) (by omega)) ⟨rfl, y, by simp⟩ ?_ ?_
      · rintro pre2 a2 post2 hl2 ρ s2 ⟨rfl, y, rfl⟩
        obtain ⟨rfl, hlt2⟩ := range_pre hl2
        refine ⟨_, rfl, ?_⟩
        simp only [List.set_cons_succ, List.set_cons_zero]
        refine W_app (ds := A ++ pre2.map (clT d pre.length)) (d := clT d pre.length pre2.length) (s' := s2) rfl ?_ (Nat.lt_of_lt_of_le (Nat.lt_succ_self _) (le_lim (by rw [List.length_append, List.length_map]; omega))) (W_nil ⟨rfl, some (.int ((pre.length + 1 + pre2.length : Nat) : Int)), ?_⟩)
        · exact ev_tup (evs_cons rfl (evs_cons rfl (evs_cons (ev_neg (ev_ix rfl (ev_kD (a := pre.length + 1 + pre2.length) (b := pre.length) rfl rfl) (tab_ix t1 hb hc G (by omega) (by omega)))) (evs_cons (ev_ix rfl (ev_kD (a := pre.length) (b := pre.length + 1 + pre2.length) rfl rfl) (tab_ix t1 hb hc G (by omega) (by omega))) evs_nil)))) (by simp)
        · simp
      · rintro ρ s2 ⟨rfl, y, rfl⟩
        refine W_nil ⟨rfl, some (.int (pre.length : Int)), y, ?_⟩
        rw [List.flatMap_append, hA]
        simp [clR]
    · rintro ρ s' ⟨rfl, x, y, rfl⟩
      exact W_frz (W_ret rfl rfl)
  · rw [if_neg (fun q => hc ((negs_nil_iff hb).mp q))] at e6
    rw [if_neg hc]
    refine W_run rfl ?_
    refine W_nx (ρ' := [some (.lst [.int (cells : Int), .int most, .tup (fs.map fD)]), none, some .non, some (.lst []), none]) (s' := s) ?_ ?_
    · rw [exe, (ev_call rfl).trans e6]
      rfl
    exact W_ite (k := true) (d := .bl true) (s' := s) rfl rfl (fun _ => W_ret rfl rfl) (fun q => by cases q)
theorem r_closed_no (h : Be T) (h75 : T (.p 75) = some f_p_75) (hb : Bo cells most fs) (hc : canB cells most fs = false) : callN T N (n + 4) (.p 75) [bookD (cells : Int) most fs] s = .ex (.err 6) [] s := by
  rw [callp h75]
  have e3 : callN T N (n + 3) (.p 3) [bookD (cells : Int) most fs] s = .ok .non s := r_check_book (n := n + 2) h.b.w
  have e12 := r_check_possible (T := T) (N := N) (n := n) (s := s) h.b hb
  rw [hc] at e12
  exact runFn_ex rfl (exs_nx (exe_expr ((ev_call rfl).trans e3)) (exs_ex (exe_expr_ex ((ev_call rfl).trans e12))))
theorem r_toldclosed (h : Be T) (h75 : T (.p 75) = some f_p_75) (h28 : T (.law 28) = some f_law_28_k18) (hb : Bo cells most fs) {g : Nat → Fd} {d : Nat → Nat → Int} (G : canB cells most fs = true → Gs (cells + 1) (bEd cells most fs) g d) : callN T N (n + 5) (.law 28) [bookD (cells : Int) most fs] s = .ok (cloD cells most fs d) s := by
  rw [calll h28]
  unfold cloD
  by_cases hc : canB cells most fs = true
  · rw [if_pos hc]
    exact runFn_rt rfl (tri_ok ((ev_call rfl).trans (r_closed h h75 hb (G hc) hc)))
  · rw [if_neg hc]
    have := r_closed_no (T := T) (N := N) (n := n) (s := s) h h75 hb (by simpa using hc)
    exact runFn_rt rfl ((tri_ex ((ev_call rfl).trans this) rfl rfl).trans rfl)
/-! ### within, alike -/
def wiT (cells : Nat) (m1 : Int) (f1 : List F4) (d1 : Nat → Nat → Int) (m2 : Int) (f2 : List F4) : Bool := !canB cells m1 f1 || (askL cells m2 f2).all (okA d1)
theorem r_isw (h : Tw T) (hb : Bo cells most fs) {most2 : Int} {fs2 : List F4} (hb2 : Bo cells most2 fs2) {g : Nat → Fd} {d : Nat → Nat → Int} (G : canB cells most fs = true → Gs (cells + 1) (bEd cells most fs) g d) :
    callN T N (n + 3) (.p 69) [bookD (cells : Int) most fs, bookD (cells : Int) most2 fs2] s = .ok (.bl (wiT cells most fs d most2 fs2)) s := by
  unfold wiT
  by_cases hc : canB cells most fs = true
  · rw [hc]
    exact r_is_within h hb hb2 (G hc) hc
  · have hc' : canB cells most fs = false := by simpa using hc
    rw [hc']
    exact r_is_within0 h hb hc'
theorem r_check_two (h : Tw T) {most2 : Int} {fs2 : List F4} : callN T N (n + 2) (.p 67) [bookD (cells : Int) most fs, bookD (cells : Int) most2 fs2] s = .ok .non s := by
  rw [callp h.p67]
  have e3 : ∀ {m : Int} {f : List F4}, callN T N (n + 1) (.p 3) [bookD (cells : Int) m f] s = .ok .non s := r_check_book (n := n) h.e.b.w
  refine W_non rfl rfl ?_
  refine W_expr ((ev_call rfl).trans e3) (W_expr ((ev_call rfl).trans e3) (W_no (d := .bl false) (s' := s) (ev_cmp (x := .int (cells : Int)) (y := .int (cells : Int)) rfl rfl ?_) rfl (W_nil ⟨_, rfl⟩)))
  rw [cmp_ne_ii]
  simp
theorem r_within (h : Tw T) (hb : Bo cells most fs) {most2 : Int} {fs2 : List F4} (hb2 : Bo cells most2 fs2) {g : Nat → Fd} {d : Nat → Nat → Int} (G : canB cells most fs = true → Gs (cells + 1) (bEd cells most fs) g d) :
    callN T N (n + 4) (.p 70) [bookD (cells : Int) most fs, bookD (cells : Int) most2 fs2] s = .ok (.bl (wiT cells most fs d most2 fs2)) s := by
  rw [callp h.p70]
  exact W_run rfl (W_expr ((ev_call rfl).trans (r_check_two (n := n + 1) h)) (W_ret ((ev_call rfl).trans (r_isw h hb hb2 G)) rfl))
theorem r_alike (h : Tw T) (hb : Bo cells most fs) {most2 : Int} {fs2 : List F4} (hb2 : Bo cells most2 fs2) {g g2 : Nat → Fd} {d d2 : Nat → Nat → Int} (G : canB cells most fs = true → Gs (cells + 1) (bEd cells most fs) g d) (G2 : canB cells most2 fs2 = true → Gs (cells + 1) (bEd cells most2 fs2) g2 d2) :
    callN T N (n + 4) (.p 71) [bookD (cells : Int) most fs, bookD (cells : Int) most2 fs2] s = .ok (.bl (wiT cells most fs d most2 fs2 && wiT cells most2 fs2 d2 most fs)) s := by
  rw [callp h.p71]
  exact W_run rfl (W_expr ((ev_call rfl).trans (r_check_two (n := n + 1) h)) (W_ret (ev_and ((ev_call rfl).trans (r_isw h hb hb2 G)) fun _ => (ev_call rfl).trans (r_isw h hb2 hb G2)) rfl))
/-- what within says, of two books that some rows fit -/
theorem wiT_iff (hb2 : Bo cells most fs) {m1 : Int} {f1 : List F4} (hc1 : canB cells m1 f1 = true) {g1 g2 : Nat → Fd} {d1 d2 : Nat → Nat → Int} (G1 : Gs (cells + 1) (bEd cells m1 f1) g1 d1) (G2 : Gs (cells + 1) (bEd cells most fs) g2 d2) : wiT cells m1 f1 d1 most fs = true ↔ ∀ p ∈ stL cells, d1 p.2 p.1 ≤ d2 p.2 p.1 ∧ d1 p.1 p.2 ≤ d2 p.1 p.2 := by
  unfold wiT
  rw [hc1, Bool.not_true, Bool.false_or, all_okA, within_dist G1.ds G2.ds (inb_b hb2.f)]
  constructor
  · intro h p hp
    obtain ⟨h1, h2⟩ := mem_stL.mp hp
    exact ⟨h _ _ (by omega) (by omega), h _ _ (by omega) (by omega)⟩
  · intro h a b ha hb
    rcases Nat.lt_trichotomy a b with q | q | q
    · exact (h (a, b) (mem_stL.mpr ⟨q, by simp only; omega⟩)).2
    · subst q
      have h1 := (G1.ds a a ha ha).2 _ .nil
      have h2 := (G2.ds a a ha ha).2 _ ((G2.ds a a ha ha).1.append (G2.ds a a ha ha).1)
      omega
    · exact (h (b, a) (mem_stL.mpr ⟨q, by simp only; omega⟩)).1
/-- no row fits the other: not within -/
theorem wiT_no (hb2 : Bo cells most fs) {m1 : Int} {f1 : List F4} (hc1 : canB cells m1 f1 = true) (hc2 : canB cells most fs = false) {g1 : Nat → Fd} {d1 : Nat → Nat → Int} (G1 : Gs (cells + 1) (bEd cells m1 f1) g1 d1) : wiT cells m1 f1 d1 most fs = false := by
  refine Bool.eq_false_iff.mpr fun h => ?_
  unfold wiT at h
  rw [hc1, Bool.not_true, Bool.false_or, all_okA] at h
  have := (canB_iff hb2).mpr ⟨_, within_feas G1.ds (inb_b hb2.f) (by omega) h⟩
  rw [hc2] at this
  cases this
theorem wiT_non {m1 m2 : Int} {f1 f2 : List F4} {d1 : Nat → Nat → Int} (hc1 : canB cells m1 f1 = false) : wiT cells m1 f1 d1 m2 f2 = true := by
  unfold wiT
  rw [hc1]
  rfl
end
end MP

end
section
set_option Elab.async false
set_option linter.all false
set_option maxRecDepth 100000
set_option maxHeartbeats 1000000
/-! A text's own defs are enough: the reading is the same with more defs. -/
namespace MP
open PySem
mutual
def okC (R : F → Bool) : E → Bool
  | .tup es => okCs R es
  | .lst es => okCs R es
  | .bin _ a b => okC R a && okC R b
  | .neg a => okC R a
  | .nott a => okC R a
  | .and a b => okC R a && okC R b
  | .or a b => okC R a && okC R b
  | .cmp _ a b => okC R a && okC R b
  | .chain _ _ a b d => okC R a && okC R b && okC R d
  | .ifx t a b => okC R t && okC R a && okC R b
  | .ix a b => okC R a && okC R b
  | .sl a l h => okC R a && okCo R l && okCo R h
  | .rev a => okC R a
  | .mind a => okC R a
  | .lzip a b => okC R a && okC R b
  | .idx a b => okC R a && okC R b
  | .call f es => R f && okCs R es
  | .callv fs e => fs.all R && okC R e
  | .make k es => R (.ini k) && okCs R es
  | .fld a _ _ => okC R a
  | .prop a k i => R (.pr k i) && okC R a
  | .isa a _ => okC R a
  | .b1 _ a => okC R a
  | .lrg a => okC R a
  | .leno a k => R (.len k) && okC R a
  | .eqo k a b => R (.eq k) && okC R a && okC R b
  | .b2 _ a b => okC R a && okC R b
  | .max3 a b d => okC R a && okC R b && okC R d
  | .get a b d => okC R a && okC R b && okC R d
  | .dd1 a b => okC R a && okC R b
  | .rep es b => okCs R es && okC R b
  | .lc e _ r => okC R e && okCr R r
  | .lci e _ r i => okC R e && okCr R r && okC R i
  | .lc2 e _ r _ r2 => okC R e && okCr R r && okCr R r2
  | .lc2i e _ r _ r2 i => okC R e && okCr R r && okCr R r2 && okC R i
  | .dcm a b _ r => okC R a && okC R b && okCr R r
  | _ => true
def okCs (R : F → Bool) : Es → Bool
  | .nil => true
  | .cons e es => okC R e && okCs R es
def okCo (R : F → Bool) : Oe → Bool
  | .no => true
  | .so e => okC R e
def okCr (R : F → Bool) : Sr → Bool
  | .of e => okC R e
  | .rg1 e => okC R e
  | .rg2 a b => okC R a && okC R b
  | .en e => okC R e
  | .zp a b => okC R a && okC R b
end
mutual
def okCS (R : F → Bool) : S → Bool
  | .asg _ e => okC R e
  | .own _ e => okC R e
  | .par _ es => okCs R es
  | .paro _ _ e => okC R e
  | .paro3 _ _ _ e e2 => okC R e && okC R e2
  | .aug _ _ e => okC R e
  | .expr e => okC R e
  | .app _ e => okC R e
  | .ext _ e => okC R e
  | .put _ k e => okC R k && okC R e
  | .seta _ _ e => okC R e
  | .ret e => okC R e
  | .ite t a b => okC R t && okCSs R a && okCSs R b
  | .whl t b => okC R t && okCSs R b
  | .for _ r b => okCr R r && okCSs R b
  | .rais _ es => okCs R es
  | .tri b hs _ => okCSs R b && okCH R hs
  | _ => true
def okCSs (R : F → Bool) : Ss → Bool
  | .nil => true
  | .cons st r => okCS R st && okCSs R r
def okCH (R : F → Bool) : Hs → Bool
  | .nil => true
  | .cons _ _ b r => okCSs R b && okCH R r
end
section
variable {R : F → Bool} {c c' : Cfg}
structure Agr (R : F → Bool) (c c' : Cfg) : Prop where
  call : ∀ f, R f = true → c.call f = c'.call f
  fuel : c.fuel = c'.fuel
mutual
theorem evC (hc : Agr R c c') : ∀ e : E, okC R e = true → ev c e = ev c' e
  | .var i, _ => by funext ρ s; simp only [ev]
  | .int i, _ => by funext ρ s; simp only [ev]
  | .str i, _ => by funext ρ s; simp only [ev]
  | .bl i, _ => by funext ρ s; simp only [ev]
  | .non, _ => by funext ρ s; simp only [ev]
  | .fnv f, _ => by funext ρ s; simp only [ev]
  | .dnew t, _ => by funext ρ s; simp only [ev]
  | .tup es, h => by simp only [okC] at h; funext ρ s; simp only [ev, evsC hc es h]
  | .lst es, h => by simp only [okC] at h; funext ρ s; simp only [ev, evsC hc es h]
  | .bin op a b, h => by simp only [okC, Bool.and_eq_true] at h; funext ρ s; simp only [ev, evC hc a h.1, evC hc b h.2]
  | .neg a, h => by simp only [okC] at h; funext ρ s; simp only [ev, evC hc a h]
  | .nott a, h => by simp only [okC] at h; funext ρ s; simp only [ev, evC hc a h]
  | .and a b, h => by simp only [okC, Bool.and_eq_true] at h; funext ρ s; simp only [ev, evC hc a h.1, evC hc b h.2]
  | .or a b, h => by simp only [okC, Bool.and_eq_true] at h; funext ρ s; simp only [ev, evC hc a h.1, evC hc b h.2]
  | .cmp op a b, h => by simp only [okC, Bool.and_eq_true] at h; funext ρ s; simp only [ev, evC hc a h.1, evC hc b h.2]
  | .chain o p a b d, h => by simp only [okC, Bool.and_eq_true] at h; funext ρ s; simp only [ev, evC hc a h.1.1, evC hc b h.1.2, evC hc d h.2]
  | .ifx a b d, h => by simp only [okC, Bool.and_eq_true] at h; funext ρ s; simp only [ev, evC hc a h.1.1, evC hc b h.1.2, evC hc d h.2]
  | .ix a b, h => by simp only [okC, Bool.and_eq_true] at h; funext ρ s; simp only [ev, evC hc a h.1, evC hc b h.2]
  | .sl a l u, h => by simp only [okC, Bool.and_eq_true] at h; funext ρ s; simp only [ev, evC hc a h.1.1, evoC hc l h.1.2, evoC hc u h.2]
  | .rev a, h => by simp only [okC] at h; funext ρ s; simp only [ev, evC hc a h]
  | .mind a, h => by simp only [okC] at h; funext ρ s; simp only [ev, evC hc a h]
  | .lzip a b, h => by simp only [okC, Bool.and_eq_true] at h; funext ρ s; simp only [ev, evC hc a h.1, evC hc b h.2]
  | .idx a b, h => by simp only [okC, Bool.and_eq_true] at h; funext ρ s; simp only [ev, evC hc a h.1, evC hc b h.2]
  | .call f es, h => by simp only [okC, Bool.and_eq_true] at h; funext ρ s; simp only [ev, hc.call f h.1, evsC hc es h.2]
  | .callv fs e, h => by
    simp only [okC, Bool.and_eq_true] at h
    funext ρ s
    simp only [ev, evC hc e h.2]
    refine congrArg (fun g => (ev c' e ρ s).bind g) (funext fun d => funext fun s1 => ?_)
    cases d <;> try rfl
    rename_i f
    simp only
    by_cases hf : fs.contains f = true
    · rw [if_pos hf, if_pos hf, hc.call f (List.all_eq_true.mp h.1 f (by simpa using hf))]
    · rw [if_neg hf, if_neg hf]
  | .make k es, h => by simp only [okC, Bool.and_eq_true] at h; funext ρ s; simp only [ev, hc.call _ h.1, evsC hc es h.2]
  | .fld a k i, h => by simp only [okC] at h; funext ρ s; simp only [ev, evC hc a h]
  | .prop a k i, h => by simp only [okC, Bool.and_eq_true] at h; funext ρ s; simp only [ev, hc.call _ h.1, evC hc a h.2]
  | .isa a t, h => by simp only [okC] at h; funext ρ s; simp only [ev, evC hc a h]
  | .b1 b a, h => by simp only [okC] at h; funext ρ s; simp only [ev, evC hc a h]
  | .lrg a, h => by simp only [okC] at h; funext ρ s; simp only [ev, evC hc a h]
  | .leno a k, h => by simp only [okC, Bool.and_eq_true] at h; funext ρ s; simp only [ev, hc.call _ h.1, evC hc a h.2]
  | .eqo k a b, h => by simp only [okC, Bool.and_eq_true] at h; funext ρ s; simp only [ev, hc.call _ h.1.1, evC hc a h.1.2, evC hc b h.2]
  | .b2 op a b, h => by simp only [okC, Bool.and_eq_true] at h; funext ρ s; simp only [ev, evC hc a h.1, evC hc b h.2]
  | .max3 a b d, h => by simp only [okC, Bool.and_eq_true] at h; funext ρ s; simp only [ev, evC hc a h.1.1, evC hc b h.1.2, evC hc d h.2]
  | .get a b d, h => by simp only [okC, Bool.and_eq_true] at h; funext ρ s; simp only [ev, evC hc a h.1.1, evC hc b h.1.2, evC hc d h.2]
  | .dd1 a b, h => by simp only [okC, Bool.and_eq_true] at h; funext ρ s; simp only [ev, evC hc a h.1, evC hc b h.2]
  | .rep es b, h => by simp only [okC, Bool.and_eq_true] at h; funext ρ s; simp only [ev, evsC hc es h.1, evC hc b h.2]
  | .lc e t r, h => by simp only [okC, Bool.and_eq_true] at h; funext ρ s; simp only [ev, evC hc e h.1, evrC hc r h.2]
  | .lci e t r i, h => by simp only [okC, Bool.and_eq_true] at h; funext ρ s; simp only [ev, evC hc e h.1.1, evrC hc r h.1.2, evC hc i h.2]
  | .lc2 e i r j r2, h => by simp only [okC, Bool.and_eq_true] at h; funext ρ s; simp only [ev, evC hc e h.1.1, evrC hc r h.1.2, evrC hc r2 h.2]
  | .lc2i e i r j r2 t, h => by simp only [okC, Bool.and_eq_true] at h; funext ρ s; simp only [ev, evC hc e h.1.1.1, evrC hc r h.1.1.2, evrC hc r2 h.1.2, evC hc t h.2]
  | .dcm a b i r, h => by simp only [okC, Bool.and_eq_true] at h; funext ρ s; simp only [ev, evC hc a h.1.1, evC hc b h.1.2, evrC hc r h.2]
theorem evsC (hc : Agr R c c') : ∀ es : Es, okCs R es = true → evs c es = evs c' es
  | .nil, _ => by funext ρ s; simp only [evs]
  | .cons e es, h => by simp only [okCs, Bool.and_eq_true] at h; funext ρ s; simp only [evs, evC hc e h.1, evsC hc es h.2]
theorem evoC (hc : Agr R c c') : ∀ e : Oe, okCo R e = true → evo c e = evo c' e
  | .no, _ => by funext ρ s; simp only [evo]
  | .so e, h => by simp only [okCo] at h; funext ρ s; simp only [evo, evC hc e h]
theorem evrC (hc : Agr R c c') : ∀ r : Sr, okCr R r = true → evr c r = evr c' r
  | .of e, h => by simp only [okCr] at h; funext ρ s; simp only [evr, evC hc e h]
  | .rg1 e, h => by simp only [okCr] at h; funext ρ s; simp only [evr, evC hc e h]
  | .rg2 a b, h => by simp only [okCr, Bool.and_eq_true] at h; funext ρ s; simp only [evr, evC hc a h.1, evC hc b h.2]
  | .en e, h => by simp only [okCr] at h; funext ρ s; simp only [evr, evC hc e h]
  | .zp a b, h => by simp only [okCr, Bool.and_eq_true] at h; funext ρ s; simp only [evr, evC hc a h.1, evC hc b h.2]
end
mutual
theorem exeC (hc : Agr R c c') : ∀ st : S, okCS R st = true → exe c st = exe c' st
  | .asg t e, h => by simp only [okCS] at h; funext ρ s; simp only [exe, evC hc e h]
  | .own i e, h => by simp only [okCS] at h; funext ρ s; simp only [exe, evC hc e h]
  | .par ts es, h => by simp only [okCS] at h; funext ρ s; simp only [exe, evsC hc es h]
  | .paro i j e, h => by simp only [okCS] at h; funext ρ s; simp only [exe, evC hc e h]
  | .paro3 i j l e e2, h => by simp only [okCS, Bool.and_eq_true] at h; funext ρ s; simp only [exe, evC hc e h.1, evC hc e2 h.2]
  | .aug i op e, h => by simp only [okCS] at h; funext ρ s; simp only [exe, evC hc e h]
  | .expr e, h => by simp only [okCS] at h; funext ρ s; simp only [exe, evC hc e h]
  | .app i e, h => by simp only [okCS] at h; funext ρ s; simp only [exe, evC hc e h]
  | .ext i e, h => by simp only [okCS] at h; funext ρ s; simp only [exe, evC hc e h]
  | .put i k e, h => by simp only [okCS, Bool.and_eq_true] at h; funext ρ s; simp only [exe, evC hc k h.1, evC hc e h.2]
  | .seta i k e, h => by simp only [okCS] at h; funext ρ s; simp only [exe, evC hc e h]
  | .ret e, h => by simp only [okCS] at h; funext ρ s; simp only [exe, evC hc e h]
  | .retn, _ => by funext ρ s; simp only [exe]
  | .ite t a b, h => by simp only [okCS, Bool.and_eq_true] at h; funext ρ s; simp only [exe, evC hc t h.1.1, exsC hc a h.1.2, exsC hc b h.2]
  | .whl t b, h => by simp only [okCS, Bool.and_eq_true] at h; funext ρ s; simp only [exe, evC hc t h.1, exsC hc b h.2, hc.fuel]
  | .for t r b, h => by simp only [okCS, Bool.and_eq_true] at h; funext ρ s; simp only [exe, evrC hc r h.1, exsC hc b h.2]
  | .rais k es, h => by simp only [okCS] at h; funext ρ s; simp only [exe, evsC hc es h]
  | .tri b hs ks, h => by simp only [okCS, Bool.and_eq_true] at h; funext ρ s; simp only [exe, exsC hc b h.1, exhC hc hs h.2]
  | .frz i, _ => by funext ρ s; simp only [exe]
  | .pass, _ => by funext ρ s; simp only [exe]
theorem exsC (hc : Agr R c c') : ∀ ss : Ss, okCSs R ss = true → exs c ss = exs c' ss
  | .nil, _ => by funext ρ s; simp only [exs]
  | .cons st r, h => by simp only [okCSs, Bool.and_eq_true] at h; funext ρ s; simp only [exs, exeC hc st h.1, exsC hc r h.2]
theorem exhC (hc : Agr R c c') : ∀ hs : Hs, okCH R hs = true → exh c hs = exh c' hs
  | .nil, _ => by funext ks k ds ρ s; simp only [exh]
  | .cons k i b r, h => by simp only [okCH, Bool.and_eq_true] at h; funext ks k ds ρ s; simp only [exh, exsC hc b h.1, exhC hc r h.2]
end
/-- with more defs -/
theorem callC {T T' : F → Option Fn} {N : Nat} (hR : ∀ f, R f = true → T f = T' f ∧ ∀ fn, T f = some fn → okCSs R fn.body = true) : ∀ (n : Nat) (f : F), R f = true → callN T N n f = callN T' N n f
  | 0, f, _ => by funext ds s; rfl
  | n + 1, f, h => by
    have ih : Agr R ⟨callN T N n, N⟩ ⟨callN T' N n, N⟩ := ⟨fun g hg => callC hR n g hg, rfl⟩
    obtain ⟨h1, h2⟩ := hR f h
    have run : ∀ fn, T f = some fn → ∀ ds s, runFn ⟨callN T N n, N⟩ fn ds s = runFn ⟨callN T' N n, N⟩ fn ds s := fun fn hfn ds s => by
      unfold runFn
      rw [exsC ih fn.body (h2 fn hfn)]
    have runi : ∀ k fn, T f = some fn → ∀ ds s, runIni ⟨callN T N n, N⟩ k fn ds s = runIni ⟨callN T' N n, N⟩ k fn ds s := fun k fn hfn ds s => by
      unfold runIni
      rw [exsC ih fn.body (h2 fn hfn)]
    funext ds s
    cases f with
    | mix => rfl
    | next => rfl
    | ini k =>
      show (match T (.ini k) with | some fn => runIni ⟨callN T N n, N⟩ k fn ds s | none => .st) = (match T' (.ini k) with | some fn => runIni ⟨callN T' N n, N⟩ k fn ds s | none => .st)
      rw [← h1]
      cases e : T (.ini k) with
      | none => rfl
      | some fn => exact runi k fn e ds s
    | p i =>
      show (match T (.p i) with | some fn => runFn ⟨callN T N n, N⟩ fn ds s | none => .st) = (match T' (.p i) with | some fn => runFn ⟨callN T' N n, N⟩ fn ds s | none => .st)
      rw [← h1]
      cases e : T (.p i) with
      | none => rfl
      | some fn => exact run fn e ds s
    | law i =>
      show (match T (.law i) with | some fn => runFn ⟨callN T N n, N⟩ fn ds s | none => .st) = (match T' (.law i) with | some fn => runFn ⟨callN T' N n, N⟩ fn ds s | none => .st)
      rw [← h1]
      cases e : T (.law i) with
      | none => rfl
      | some fn => exact run fn e ds s
    | eq k =>
      show (match T (.eq k) with | some fn => runFn ⟨callN T N n, N⟩ fn ds s | none => .st) = (match T' (.eq k) with | some fn => runFn ⟨callN T' N n, N⟩ fn ds s | none => .st)
      rw [← h1]
      cases e : T (.eq k) with
      | none => rfl
      | some fn => exact run fn e ds s
    | len k =>
      show (match T (.len k) with | some fn => runFn ⟨callN T N n, N⟩ fn ds s | none => .st) = (match T' (.len k) with | some fn => runFn ⟨callN T' N n, N⟩ fn ds s | none => .st)
      rw [← h1]
      cases e : T (.len k) with
      | none => rfl
      | some fn => exact run fn e ds s
    | pr k i =>
      show (match T (.pr k i) with | some fn => runFn ⟨callN T N n, N⟩ fn ds s | none => .st) = (match T' (.pr k i) with | some fn => runFn ⟨callN T' N n, N⟩ fn ds s | none => .st)
      rw [← h1]
      cases e : T (.pr k i) with
      | none => rfl
      | some fn => exact run fn e ds s
    | me k i =>
      show (match T (.me k i) with | some fn => runFn ⟨callN T N n, N⟩ fn ds s | none => .st) = (match T' (.me k i) with | some fn => runFn ⟨callN T' N n, N⟩ fn ds s | none => .st)
      rw [← h1]
      cases e : T (.me k i) with
      | none => rfl
      | some fn => exact run fn e ds s
end
/-- all defs of the program -/
def extT (T : F → Option Fn) : F → Option Fn := fun f => match T f with
  | some fn => some fn
  | none => pT f
def Tx.cls_ok (t : Tx) : Bool := t.defs.all fun d => okCSs (fun f => (t.T f).isSome || decide (f = .mix) || decide (f = .next)) d.fn.body
theorem Tx.ext_call {t : Tx} (h : t.cls_ok = true) (N n : Nat) {f : F} (hf : (t.T f).isSome = true) (ds : List D) (s : Sto) : callN t.T N n f ds s = callN (extT t.T) N n f ds s := by
  refine congrFun (congrFun (callC (N := N) (R := fun f => (t.T f).isSome || decide (f = .mix) || decide (f = .next)) (T' := extT t.T) (fun g hg => ⟨?_, fun fn hfn => ?_⟩) n f (by rw [hf]; rfl)) ds) s
  · unfold extT
    cases e : t.T g with
    | some fn => rfl
    | none =>
      rw [e] at hg
      simp only [Option.isSome_none, Bool.false_or, Bool.or_eq_true, decide_eq_true_eq] at hg
      rcases hg with rfl | rfl <;> rfl
  · unfold Tx.T at hfn
    cases e : t.find g with
    | none => rw [e] at hfn; cases hfn
    | some d =>
      rw [e] at hfn
      cases hfn
      exact List.all_eq_true.mp h d (find_mem e).1
end MP

end
section
set_option Elab.async false
set_option linter.all false
set_option maxRecDepth 100000
set_option maxHeartbeats 2000000
namespace K18
open PySem PySem.Spec PyProof.Rows L2 MP
def topS (i : Nat) : Stmt := PySem.Challenge.pw_stretchtold_k18_whole_closed_books.main.body.getD i (.Pass ⟨0, 0, 0, 0⟩)
def inS (i j : Nat) : Stmt := match topS i with
  | .ClassDef (body := b) .. => b.getD j (.Pass ⟨0, 0, 0, 0⟩)
  | _ => .Pass ⟨0, 0, 0, 0⟩
/-- BadFacts.__init__ -/
def d_ini_err_3 : Dd := ⟨.ini (.err 3), "__init__", f_ini_err_3, ⟨("", none), "__init__", "BadFacts.__init__", defArgs (inS 4 0), defBody (inS 4 0), defScope (inS 4 0), [], []⟩⟩
/-- is_integer -/
def d_p_0 : Dd := ⟨.p 0, "is_integer", f_p_0, ⟨("", none), "is_integer", "is_integer", defArgs (topS 13), defBody (topS 13), defScope (topS 13), [], []⟩⟩
/-- is_from -/
def d_p_1 : Dd := ⟨.p 1, "is_from", f_p_1, ⟨("", none), "is_from", "is_from", defArgs (topS 14), defBody (topS 14), defScope (topS 14), [], []⟩⟩
/-- is_fact -/
def d_p_2 : Dd := ⟨.p 2, "is_fact", f_p_2, ⟨("", none), "is_fact", "is_fact", defArgs (topS 15), defBody (topS 15), defScope (topS 15), [], []⟩⟩
/-- Book.__init__ -/
def d_ini_book : Dd := ⟨.ini .book, "__init__", f_ini_book, ⟨("", none), "__init__", "Book.__init__", defArgs (inS 16 0), defBody (inS 16 0), defScope (inS 16 0), [], []⟩⟩
/-- Book.cells -/
def d_pr_book_0 : Dd := ⟨.pr .book 0, "cells", f_pr_book_0, ⟨("", none), "cells", "Book.cells", defArgs (inS 16 1), defBody (inS 16 1), defScope (inS 16 1), [], []⟩⟩
/-- Book.most -/
def d_pr_book_1 : Dd := ⟨.pr .book 1, "most", f_pr_book_1, ⟨("", none), "most", "Book.most", defArgs (inS 16 2), defBody (inS 16 2), defScope (inS 16 2), [], []⟩⟩
/-- Book.facts -/
def d_pr_book_2 : Dd := ⟨.pr .book 2, "facts", f_pr_book_2, ⟨("", none), "facts", "Book.facts", defArgs (inS 16 3), defBody (inS 16 3), defScope (inS 16 3), [], []⟩⟩
/-- Book.__len__ -/
def d_len_book : Dd := ⟨.len .book, "__len__", f_len_book, ⟨("", none), "__len__", "Book.__len__", defArgs (inS 16 4), defBody (inS 16 4), defScope (inS 16 4), [], []⟩⟩
/-- Book.__eq__ -/
def d_eq_book : Dd := ⟨.eq .book, "__eq__", f_eq_book, ⟨("", none), "__eq__", "Book.__eq__", defArgs (inS 16 5), defBody (inS 16 5), defScope (inS 16 5), [], []⟩⟩
/-- check_book -/
def d_p_3 : Dd := ⟨.p 3, "check_book", f_p_3, ⟨("", none), "check_book", "check_book", defArgs (topS 17), defBody (topS 17), defScope (topS 17), [], []⟩⟩
/-- edges_of -/
def d_p_8 : Dd := ⟨.p 8, "edges_of", f_p_8, ⟨("", none), "edges_of", "edges_of", defArgs (topS 19), defBody (topS 19), defScope (topS 19), [], []⟩⟩
/-- distances -/
def d_p_9 : Dd := ⟨.p 9, "distances", f_p_9, ⟨("", none), "distances", "distances", defArgs (topS 20), defBody (topS 20), defScope (topS 20), [], []⟩⟩
/-- can_be -/
def d_p_10 : Dd := ⟨.p 10, "can_be", f_p_10, ⟨("", none), "can_be", "can_be", defArgs (topS 21), defBody (topS 21), defScope (topS 21), [], []⟩⟩
/-- check_possible -/
def d_p_12 : Dd := ⟨.p 12, "check_possible", f_p_12, ⟨("", none), "check_possible", "check_possible", defArgs (topS 22), defBody (topS 22), defScope (topS 22), [], []⟩⟩
/-- bounds_by -/
def d_p_16 : Dd := ⟨.p 16, "bounds_by", f_p_16, ⟨("", none), "bounds_by", "bounds_by", defArgs (topS 23), defBody (topS 23), defScope (topS 23), [], []⟩⟩
/-- check_two -/
def d_p_67 : Dd := ⟨.p 67, "check_two", f_p_67, ⟨("", none), "check_two", "check_two", defArgs (topS 25), defBody (topS 25), defScope (topS 25), [], []⟩⟩
/-- asked_of -/
def d_p_68 : Dd := ⟨.p 68, "asked_of", f_p_68, ⟨("", none), "asked_of", "asked_of", defArgs (topS 26), defBody (topS 26), defScope (topS 26), [], []⟩⟩
/-- is_within -/
def d_p_69 : Dd := ⟨.p 69, "is_within", f_p_69, ⟨("", none), "is_within", "is_within", defArgs (topS 27), defBody (topS 27), defScope (topS 27), [], []⟩⟩
/-- within -/
def d_p_70 : Dd := ⟨.p 70, "within", f_p_70, ⟨("", none), "within", "within", defArgs (topS 28), defBody (topS 28), defScope (topS 28), [], []⟩⟩
/-- alike -/
def d_p_71 : Dd := ⟨.p 71, "alike", f_p_71, ⟨("", none), "alike", "alike", defArgs (topS 29), defBody (topS 29), defScope (topS 29), [], []⟩⟩
/-- closed -/
def d_p_75 : Dd := ⟨.p 75, "closed", f_p_75, ⟨("", none), "closed", "closed", defArgs (topS 30), defBody (topS 30), defScope (topS 30), [], []⟩⟩
/-- _law_mix -/
def d_mix : Dd := ⟨.mix, "_law_mix", f_mix, ⟨("", none), "_law_mix", "_law_mix", defArgs (topS 32), defBody (topS 32), defScope (topS 32), [], []⟩⟩
/-- _law_next -/
def d_next : Dd := ⟨.next, "_law_next", f_next, ⟨("", none), "_law_next", "_law_next", defArgs (topS 33), defBody (topS 33), defScope (topS 33), [], []⟩⟩
/-- _law_stretch -/
def d_law_1 : Dd := ⟨.law 1, "_law_stretch", f_law_1, ⟨("", none), "_law_stretch", "_law_stretch", defArgs (topS 34), defBody (topS 34), defScope (topS 34), [], []⟩⟩
/-- _law_fact -/
def d_law_2 : Dd := ⟨.law 2, "_law_fact", f_law_2, ⟨("", none), "_law_fact", "_law_fact", defArgs (topS 35), defBody (topS 35), defScope (topS 35), [], []⟩⟩
/-- _law_book -/
def d_law_3 : Dd := ⟨.law 3, "_law_book", f_law_3, ⟨("", none), "_law_book", "_law_book", defArgs (topS 36), defBody (topS 36), defScope (topS 36), [], []⟩⟩
/-- _law_holds -/
def d_law_4 : Dd := ⟨.law 4, "_law_holds", f_law_4, ⟨("", none), "_law_holds", "_law_holds", defArgs (topS 37), defBody (topS 37), defScope (topS 37), [], []⟩⟩
/-- _law_all -/
def d_law_5 : Dd := ⟨.law 5, "_law_all", f_law_5, ⟨("", none), "_law_all", "_law_all", defArgs (topS 38), defBody (topS 38), defScope (topS 38), [], []⟩⟩
/-- _law_fitting -/
def d_law_6 : Dd := ⟨.law 6, "_law_fitting", f_law_6, ⟨("", none), "_law_fitting", "_law_fitting", defArgs (topS 39), defBody (topS 39), defScope (topS 39), [], []⟩⟩
/-- _law_table -/
def d_law_7 : Dd := ⟨.law 7, "_law_table", f_law_7_k03, ⟨("", none), "_law_table", "_law_table", defArgs (topS 40), defBody (topS 40), defScope (topS 40), [], []⟩⟩
/-- _law_like -/
def d_law_57 : Dd := ⟨.law 57, "_law_like", f_law_57, ⟨("", none), "_law_like", "_law_like", defArgs (topS 41), defBody (topS 41), defScope (topS 41), [], []⟩⟩
/-- _law_closed -/
def d_law_59 : Dd := ⟨.law 59, "_law_closed", f_law_59, ⟨("", none), "_law_closed", "_law_closed", defArgs (topS 42), defBody (topS 42), defScope (topS 42), [], []⟩⟩
/-- _law_told -/
def d_law_28 : Dd := ⟨.law 28, "_law_told", f_law_28_k18, ⟨("", none), "_law_told", "_law_told", defArgs (topS 43), defBody (topS 43), defScope (topS 43), [], []⟩⟩
/-- law -/
def d_law_0 : Dd := ⟨.law 0, "law", f_law_0_k18, ⟨("", none), "law", "law", defArgs (topS 44), defBody (topS 44), defScope (topS 44), [], []⟩⟩
def tx : Tx := ⟨[.book], [d_ini_err_3, d_p_0, d_p_1, d_p_2, d_ini_book, d_pr_book_0, d_pr_book_1, d_pr_book_2, d_len_book, d_eq_book, d_p_3, d_p_8, d_p_9, d_p_10, d_p_12, d_p_16, d_p_67, d_p_68, d_p_69, d_p_70, d_p_71, d_p_75, d_mix, d_next, d_law_1, d_law_2, d_law_3, d_law_4, d_law_5, d_law_6, d_law_7, d_law_57, d_law_59, d_law_28, d_law_0], [("MOST_CELLS", .int 20), ("MOST_IN_CELL", .int 1000000000000000000000000000000), ("MOST_FACTS", .int 12), ("MOST_TOLD", .int 100000000000000000000000000000000)], [0, 1, 2, 3, 4, 6, 15]⟩
theorem ok_tx : tx.ok = true := by decide +kernel
def loose0 : List Str := ["CountError", "BadCells", "BadMost", "BadFacts", "BadBook", "NoRow", "NotAlike", "MOST_CELLS", "MOST_IN_CELL", "MOST_FACTS", "MOST_TOLD", "is_integer"]
def loose1 : List Str := ["is_from", "is_fact", "Book", "check_book", "edges_of", "distances", "can_be", "check_possible", "bounds_by", "check_two", "asked_of", "is_within"]
def loose2 : List Str := ["within", "alike", "closed", "_law_mix", "_law_next", "_law_stretch", "_law_fact", "_law_book", "_law_holds", "_law_all", "_law_fitting", "_law_table"]
def loose3 : List Str := ["_law_like", "_law_closed", "_law_told"]
def loose : List Str := loose0 ++ loose1 ++ loose2 ++ loose3
abbrev R : PySem.W.OpenRow := PySem.W.OpenLaw.row PySem.Challenge.rw_stretchtold_k18_whole_closed_books
abbrev hk : PySem.W.Hook := tx.hook 6
def ob (s : PySem.W.SharedT) : He.Al := tx.obsG 6 (HandSHeadRun.getT s)
theorem ob_eq (s : PySem.W.SharedT) : ob s = hk.obs s.abs := Tx.obsG_eq (HandSHeadRun.getT_eq s)
theorem run (w : World) : HandSHeadRun.RunEq R (PySem.W.view R.prog [44]) hk ob 6000 loose w := by
  intro os
  kernel_rfl
def mixP : List Pos := [⟨131, 4, 131, 14⟩, ⟨131, 17, 131, 26⟩, ⟨131, 4, 131, 26⟩, ⟨132, 8, 132, 17⟩, ⟨132, 21, 132, 32⟩, ⟨133, 8, 133, 18⟩, ⟨133, 21, 133, 24⟩, ⟨133, 25, 133, 35⟩, ⟨133, 38, 133, 43⟩, ⟨133, 25, 133, 43⟩, ⟨133, 46, 133, 49⟩, ⟨133, 50, 133, 59⟩, ⟨133, 46, 133, 60⟩, ⟨133, 63, 133, 73⟩, ⟨133, 46, 133, 73⟩, ⟨133, 25, 133, 73⟩, ⟨133, 76, 133, 77⟩, ⟨133, 25, 133, 77⟩, ⟨133, 21, 133, 78⟩, ⟨133, 81, 133, 91⟩, ⟨133, 21, 133, 91⟩, ⟨133, 8, 133, 91⟩, ⟨132, 4, 133, 91⟩, ⟨134, 12, 134, 22⟩, ⟨134, 24, 134, 28⟩, ⟨134, 29, 134, 40⟩, ⟨134, 24, 134, 41⟩, ⟨134, 43, 134, 44⟩, ⟨134, 11, 134, 45⟩, ⟨134, 4, 134, 45⟩]
theorem hmix : ∀ dm, tx.find .mix = some dm → ∃ p, dm.d.body = mixBody p ∧ dm.d.scope = mixScope ∧ dm.d.dfl = [] ∧ dm.d.kwd = [] ∧ dm.fn.names.take dm.fn.pars = (["_law_script", "_law_seed"] : List Str) := fun dm e => by
  cases e
  exact ⟨fun i => mixP.getD i ⟨0, 0, 0, 0⟩, rfl, rfl, rfl, rfl, rfl⟩
def nextP : List Pos := [⟨136, 4, 136, 13⟩, ⟨136, 17, 136, 23⟩, ⟨136, 24, 136, 25⟩, ⟨136, 17, 136, 26⟩, ⟨136, 30, 136, 31⟩, ⟨136, 29, 136, 32⟩, ⟨136, 17, 136, 32⟩, ⟨136, 34, 136, 37⟩, ⟨136, 38, 136, 44⟩, ⟨136, 45, 136, 46⟩, ⟨136, 38, 136, 47⟩, ⟨136, 34, 136, 48⟩, ⟨136, 51, 136, 54⟩, ⟨136, 55, 136, 56⟩, ⟨136, 58, 136, 61⟩, ⟨136, 62, 136, 68⟩, ⟨136, 69, 136, 70⟩, ⟨136, 62, 136, 71⟩, ⟨136, 58, 136, 72⟩, ⟨136, 51, 136, 73⟩, ⟨136, 34, 136, 73⟩, ⟨136, 16, 136, 74⟩, ⟨136, 4, 136, 74⟩, ⟨137, 7, 137, 16⟩, ⟨137, 20, 137, 22⟩, ⟨137, 26, 137, 28⟩, ⟨137, 20, 137, 28⟩, ⟨137, 7, 137, 28⟩, ⟨138, 8, 138, 18⟩, ⟨138, 21, 138, 27⟩, ⟨138, 28, 138, 29⟩, ⟨138, 21, 138, 30⟩, ⟨138, 8, 138, 30⟩, ⟨139, 8, 139, 18⟩, ⟨139, 19, 139, 22⟩, ⟨139, 23, 139, 29⟩, ⟨139, 30, 139, 31⟩, ⟨139, 23, 139, 32⟩, ⟨139, 19, 139, 33⟩, ⟨139, 36, 139, 39⟩, ⟨139, 40, 139, 50⟩, ⟨139, 36, 139, 51⟩, ⟨139, 19, 139, 51⟩, ⟨139, 8, 139, 52⟩, ⟨139, 55, 139, 64⟩, ⟨139, 68, 139, 78⟩, ⟨139, 55, 139, 78⟩, ⟨139, 8, 139, 78⟩, ⟨140, 15, 140, 18⟩, ⟨140, 19, 140, 28⟩, ⟨140, 15, 140, 29⟩, ⟨140, 32, 140, 42⟩, ⟨140, 15, 140, 42⟩, ⟨140, 8, 140, 42⟩, ⟨137, 4, 140, 42⟩, ⟨141, 4, 141, 10⟩, ⟨141, 11, 141, 12⟩, ⟨141, 4, 141, 13⟩, ⟨141, 16, 141, 19⟩, ⟨141, 20, 141, 26⟩, ⟨141, 27, 141, 28⟩, ⟨141, 20, 141, 29⟩, ⟨141, 32, 141, 37⟩, ⟨141, 20, 141, 37⟩, ⟨141, 40, 141, 49⟩, ⟨141, 52, 141, 57⟩, ⟨141, 40, 141, 57⟩, ⟨141, 20, 141, 57⟩, ⟨141, 60, 141, 62⟩, ⟨141, 20, 141, 62⟩, ⟨141, 16, 141, 63⟩, ⟨141, 66, 141, 76⟩, ⟨141, 16, 141, 76⟩, ⟨141, 4, 141, 76⟩, ⟨142, 4, 142, 10⟩, ⟨142, 11, 142, 12⟩, ⟨142, 4, 142, 13⟩, ⟨142, 16, 142, 22⟩, ⟨142, 23, 142, 24⟩, ⟨142, 16, 142, 25⟩, ⟨142, 28, 142, 29⟩, ⟨142, 16, 142, 29⟩, ⟨142, 4, 142, 29⟩, ⟨143, 11, 143, 14⟩, ⟨143, 15, 143, 21⟩, ⟨143, 22, 143, 23⟩, ⟨143, 15, 143, 24⟩, ⟨143, 28, 143, 29⟩, ⟨143, 15, 143, 29⟩, ⟨143, 11, 143, 30⟩, ⟨143, 33, 143, 43⟩, ⟨143, 11, 143, 43⟩, ⟨143, 4, 143, 43⟩]
theorem hnext : ∀ dm, tx.find .next = some dm → ∃ p, dm.d.body = nextBody p ∧ dm.d.scope = nextScope ∧ dm.d.dfl = [] ∧ dm.d.kwd = [] ∧ dm.fn.names.take dm.fn.pars = (["_law_h", "_law_bound"] : List Str) := fun dm e => by
  cases e
  exact ⟨fun i => nextP.getD i ⟨0, 0, 0, 0⟩, rfl, rfl, rfl, rfl, rfl⟩
end K18
open PySem PySem.W PySem.Calls PyProof.Rows
theorem K18.holds_of (hlaw : ∀ ns : List Int, ns.length ≤ 63 → ∃ N s', MP.callN K18.tx.T N (11 + 1) (.law 0) [.scr ns] [] = .ok (.bl true) s') : PySem.Challenge.rw_stretchtold_k18_whole_closed_books.Holds := by
  w_on; o_law
  refine HandSHeadRun.head_any (r := OpenLaw.row PySem.Challenge.rw_stretchtold_k18_whole_closed_books) (q := view (OpenLaw.row PySem.Challenge.rw_stretchtold_k18_whole_closed_books).prog [44]) (H := K18.hk) (ob := K18.ob) (M := 6000) (loose := K18.loose) (d := HandSHeadRun.topDef (OpenLaw.row PySem.Challenge.rw_stretchtold_k18_whole_closed_books).prog 44) (kwd := []) K18.ob_eq
    (by kernel_rfl) (fun s => by kernel_rfl) K18.run (by kernel_rfl) (by kernel_rfl) (by kernel_rfl) (by rfl) (by first | assumption | decide +kernel) (by decide +kernel) ⟨rfl, rfl, rfl, rfl, rfl, by decide +kernel⟩ ?hw ?hc
  case hw => w_witness2
  case hc =>
    exact MP.walk_mp (l := PySem.Challenge.rw_stretchtold_k18_whole_closed_books) (n := 11) (dl := K18.d_law_0) (x := "_law_script") rfl (by kernel_rfl) ⟨rfl, by decide, by decide⟩ (by kernel_rfl) K18.ok_tx K18.hmix K18.hnext rfl rfl rfl rfl hlaw
namespace K18
end K18

end
section
set_option Elab.async false
set_option linter.all false
set_option maxRecDepth 100000
set_option maxHeartbeats 1000000
/-! k18: closed books. -/
namespace MP
open PySem
theorem pow29 : binD .pow (.int 10) (.int 29) = some (.int 100000000000000000000000000000) := rfl
theorem cmp_ne_self {d : D} (h : isQ 8 d = true) : cmpD .ne d d = some false := by
  show (eqD d d).map (!·) = _
  rw [eqD_refl (isQ_P 8 d h)]
  rfl
theorem cmp_ne_bb {a b : Bool} : cmpD .ne (.bl a) (.bl b) = some (!(a == b)) := by
  show (eqD (.bl a) (.bl b)).map (!·) = _
  cases a <;> cases b <;> rfl
theorem cmp_eq_bb {a b : Bool} : cmpD .eq (.bl a) (.bl b) = some (a == b) := by
  show eqD (.bl a) (.bl b) = _
  cases a <;> cases b <;> rfl
theorem cloD_isQ {cells : Nat} {most : Int} {fs : List F4} {d : Nat → Nat → Int} : isQ 8 (cloD cells most fs d) = true := by
  unfold cloD
  split
  · exact clL_isQ
  · rfl
theorem eq_nil_ints {l : List Nat} : cmpD .eq (.lst (l.map fun v : Nat => D.int (v : Int))) (.lst []) = some l.isEmpty := by
  show eqD (.lst (l.map fun v : Nat => D.int (v : Int))) (.lst []) = _
  unfold eqD
  have : isP 8 (.lst (l.map fun v : Nat => D.int (v : Int))) = true := by
    unfold isP
    rw [List.all_eq_true]
    intro x hx
    obtain ⟨k, _, rfl⟩ := List.mem_map.mp hx
    rfl
  rw [this]
  cases l <;> rfl
end MP
namespace K18
open PySem MP
section
variable {T : F → Option Fn} {n N : Nat}
theorem law_T (h : Tw T) (h75 : T (.p 75) = some f_p_75) (ld : Ld T) {fn : Fn} (h7 : T (.law 7) = some fn) (hk : Like fn f_law_7) (h57 : T (.law 57) = some f_law_57) (h59 : T (.law 59) = some f_law_59) (h28 : T (.law 28) = some f_law_28_k18) (l0 : T (.law 0) = some f_law_0_k18) (ns : List Int) (hns : ns.length ≤ 63) : ∃ s', callN T N (n + 12) (.law 0) [.scr ns] [] = .ok (.bl true) s' := by
  obtain ⟨s1, e1, d1⟩ : ∃ s', callN T N (n + 11) .mix [.scr ns, .int 18] [] = .ok (.hnd 0) s' ∧ Dr s' := r_mix (n := n + 10) hns
  obtain ⟨y, s2, e2, d2, y0, y3⟩ := r_next (T := T) (N := N) (n + 11) d1 (b := 3) (by omega) (by omega)
  obtain ⟨m0, hm0, m1, m2⟩ : ∃ m0 : Int, ixD (.lst [.int 3, .int 40, .int 100000000000000000000000000000]) (.int y) = some (.int m0) ∧ 0 ≤ m0 ∧ m0 ≤ 100000000000000000000000000000 := by
    have : y = 0 ∨ y = 1 ∨ y = 2 := by omega
    rcases this with rfl | rfl | rfl
    · exact ⟨3, rfl, by omega, by omega⟩
    · exact ⟨40, rfl, by omega, by omega⟩
    · exact ⟨100000000000000000000000000000, rfl, by omega, by omega⟩
  obtain ⟨ci, most, fs, s3, e3, d3, c1, c2, k1, k2, l1, hf⟩ := r_drawbook2 (T := T) (N := N) (n := n + 7) ld d2 (c0 := 8) (m0 := m0) (w0 := 7) (by omega) (by omega) m1 (by omega) (by omega) (by omega)
  obtain ⟨cells, rfl⟩ : ∃ k : Nat, ci = k := ⟨ci.toNat, by omega⟩
  have hb : Bo cells most fs := ⟨by omega, by omega, k1, by omega, by omega, fun f h => (hf f h).1⟩
  obtain ⟨most2, fs2, s4, e4, d4, hb2⟩ := r_like (T := T) (N := N) (n := n + 7) h57 ld d3 (cells := cells) (most := most) (fs := fs) (by omega) (by omega) k1 (by omega) (by omega) hf
  have b1 : callN T N (n + 11) (.ini .book) [.int (cells : Int), .int most, .tup (fs.map fD)] s4 = .ok (bookD (cells : Int) most fs) s4 := r_book (n := n + 7) h.e.b.k (by omega) (by omega) k1 hb.m2 hb.l hb.f
  have b2 : callN T N (n + 11) (.ini .book) [.int (cells : Int), .int most2, .tup (fs2.map fD)] s4 = .ok (bookD (cells : Int) most2 fs2) s4 := r_book (n := n + 7) h.e.b.k (by omega) (by omega) hb2.m1 hb2.m2 hb2.l hb2.f
  obtain ⟨g, d, G⟩ := bk_info hb
  obtain ⟨g2, dd2, G2⟩ := bk_info hb2
  have q1 : callN T N (n + 11) (.law 59) [.lst [.int (cells : Int), .int most, .tup (fs.map fD)]] s4 = .ok (cloD cells most fs d) s4 := r_lawclosed (n := n + 9) h59 h7 hk hb G
  have q2 : callN T N (n + 11) (.law 59) [.lst [.int (cells : Int), .int most2, .tup (fs2.map fD)]] s4 = .ok (cloD cells most2 fs2 dd2) s4 := r_lawclosed (n := n + 9) h59 h7 hk hb2 G2
  have t1 : callN T N (n + 11) (.law 28) [bookD (cells : Int) most fs] s4 = .ok (cloD cells most fs d) s4 := r_toldclosed (n := n + 6) h.e h75 h28 hb G
  have t2 : callN T N (n + 11) (.law 28) [bookD (cells : Int) most2 fs2] s4 = .ok (cloD cells most2 fs2 dd2) s4 := r_toldclosed (n := n + 6) h.e h75 h28 hb2 G2
  have al : callN T N (n + 11) (.p 71) [bookD (cells : Int) most fs, bookD (cells : Int) most2 fs2] s4 = .ok (.bl (wiT cells most fs d most2 fs2 && wiT cells most2 fs2 dd2 most fs)) s4 := r_alike (n := n + 7) h hb hb2 G G2
  have wi : callN T N (n + 11) (.p 70) [bookD (cells : Int) most fs, bookD (cells : Int) most2 fs2] s4 = .ok (.bl (wiT cells most fs d most2 fs2)) s4 := r_within (n := n + 7) h hb hb2 G
  obtain ⟨ke, hke, ike⟩ := eqD_iff (a := cloD cells most fs d) (b := cloD cells most2 fs2 dd2) cloD_isQ cloD_isQ
  rw [calll l0]
  suffices hw : W (exs ⟨callN T N (n + 11), N⟩ f_law_0_k18.body [some (.scr ns), none, none, none, none, none, none, none, none, none] []) (fun r => ∃ s', r = .rt (.bl true) s') by
    obtain ⟨s', hw⟩ := hw.q
    exact ⟨s', runFn_rt rfl hw⟩
  refine W_asg (d := .hnd 0) (s' := s1) ((ev_call rfl).trans e1) ?_
  refine W_asg (d := .lst [.int (cells : Int), .int most, .tup (fs.map fD)]) (s' := s3) ((ev_call (evs_cons rfl (evs_cons rfl (evs_cons (ev_ix (ev_lst (evs_cons rfl (evs_cons rfl (evs_cons (ev_bin rfl rfl pow29) evs_nil))) (by simp)) ((ev_call rfl).trans e2) hm0) (evs_cons rfl evs_nil))))).trans e3) ?_
  refine W_asg (d := .lst [.int (cells : Int), .int most2, .tup (fs2.map fD)]) (s' := s4) ((ev_call rfl).trans e4) ?_
  refine W_par (ds := [bookD (cells : Int) most fs, bookD (cells : Int) most2 fs2]) (s' := s4) (evs_cons ((ev_make rfl).trans b1) (evs_cons ((ev_make rfl).trans b2) evs_nil)) rfl ?_
  refine W_asgT (d := .tup [cloD cells most fs d, cloD cells most2 fs2 dd2]) (s' := s4) (ev_tup (evs_cons ((ev_call rfl).trans q1) (evs_cons ((ev_call rfl).trans q2) evs_nil)) (by simp)) rfl ?_
  show W (exs _ _ [some (.scr ns), some (.hnd 0), some (.lst [.int (cells : Int), .int most, .tup (fs.map fD)]), some (.lst [.int (cells : Int), .int most2, .tup (fs2.map fD)]), none, some (bookD (cells : Int) most fs), some (bookD (cells : Int) most2 fs2), some (cloD cells most fs d), some (cloD cells most2 fs2 dd2), none] s4) _
  refine W_no (d := .bl (false || false)) (s' := s4) (ev_or (ev_cmp ((ev_call rfl).trans t1) rfl (cmp_ne_self cloD_isQ)) fun _ => ev_cmp ((ev_call rfl).trans t2) rfl (cmp_ne_self cloD_isQ)) rfl ?_
  have hal : (wiT cells most fs d most2 fs2 && wiT cells most2 fs2 dd2 most fs) = ke := by
    by_cases hc : canB cells most fs = true
    · by_cases hc2 : canB cells most2 fs2 = true
      · refine Bool.eq_iff_iff.mpr ?_
        rw [ike, Bool.and_eq_true, wiT_iff hb2 hc (G hc) (G2 hc2), wiT_iff hb hc2 (G2 hc2) (G hc)]
        unfold cloD
        rw [if_pos hc, if_pos hc2, D.lst.injEq, clL_inj]
        constructor
        · rintro ⟨x, y⟩ p hp
          obtain ⟨x1, x2⟩ := x p hp
          obtain ⟨y1, y2⟩ := y p hp
          omega
        · intro x
          exact ⟨fun p hp => by have := x p hp; omega, fun p hp => by have := x p hp; omega⟩
      · have hc2' : canB cells most2 fs2 = false := by simpa using hc2
        rw [wiT_no hb2 hc hc2' (G hc), Bool.false_and]
        refine (Bool.eq_false_iff.mpr fun z => ?_).symm
        have := ike.mp z
        unfold cloD at this
        rw [if_pos hc, if_neg hc2] at this
        cases this
    · have hc' : canB cells most fs = false := by simpa using hc
      rw [wiT_non hc', Bool.true_and]
      by_cases hc2 : canB cells most2 fs2 = true
      · rw [wiT_no hb hc2 hc' (G2 hc2)]
        refine (Bool.eq_false_iff.mpr fun z => ?_).symm
        have := ike.mp z
        unfold cloD at this
        rw [if_neg hc, if_pos hc2] at this
        cases this
      · have hc2' : canB cells most2 fs2 = false := by simpa using hc2
        rw [wiT_non hc2']
        refine (ike.mpr ?_).symm
        unfold cloD
        rw [if_neg hc, if_neg hc2]
  refine W_no (d := .bl false) (s' := s4) (ev_cmp ((ev_call rfl).trans al) (ev_cmp rfl rfl (show cmpD .eq (cloD cells most fs d) (cloD cells most2 fs2 dd2) = some ke from hke)) (by rw [hal, cmp_ne_bb]; simp)) rfl ?_
  have isn : ∀ {m : Int} {f : List F4} {d : Nat → Nat → Int}, cmpD .isn (cloD cells m f d) .non = some (!canB cells m f) := fun {m f d} => by
    unfold cloD
    split
    · rename_i q; rw [q]; rfl
    · rename_i q
      have : canB cells m f = false := by simpa using q
      rw [this]; rfl
  by_cases hc : canB cells most fs = true
  · by_cases hc2 : canB cells most2 fs2 = true
    · refine W_no (d := .bl (false || false)) (s' := s4) (ev_or (ev_cmp rfl rfl (by rw [isn, hc]; rfl)) fun _ => ev_cmp rfl rfl (by rw [isn, hc2]; rfl)) rfl ?_
      have f1 : cloD cells most fs d = .lst ((stL cells).map (clE d)) := by unfold cloD; rw [if_pos hc, clL_eq]
      have f2 : cloD cells most2 fs2 dd2 = .lst ((stL cells).map (clE dd2)) := by unfold cloD; rw [if_pos hc2, clL_eq]
      rw [f1, f2]
      have hlen : (stL cells).length ≤ 10000 := by
        have : ((stL cells).map (clE d)).length ≤ 10000 := by
          rw [← clL_eq]
          have := flat_le (g := clR d cells) (k := cells) (fun b => clR_len) (List.range cells)
          rw [List.length_range] at this
          have q : cells * cells ≤ 20 * 20 := Nat.mul_le_mul (by omega) (by omega)
          unfold clL
          omega
        rwa [List.length_map] at this
      have ixs : ∀ (dd : Nat → Nat → Int) (k : Nat) (hk : k < (stL cells).length), ixD (.lst ((stL cells).map (clE dd))) (.int (k : Int)) = some (clE dd (stL cells)[k]) := fun dd k hk => by
        show L2.atI ((stL cells).map (clE dd)) _ = _
        rw [at_nat (by rw [List.length_map]; exact hk)]
        simp
      obtain ⟨ev0, hev0⟩ : ∃ bad : Nat → Bool, ∀ k (hk : k < (stL cells).length), bad k = (decide (-d (stL cells)[k].2 (stL cells)[k].1 < -dd2 (stL cells)[k].2 (stL cells)[k].1) || decide (dd2 (stL cells)[k].1 (stL cells)[k].2 < d (stL cells)[k].1 (stL cells)[k].2)) := by
        refine ⟨fun k => if hk : k < (stL cells).length then (decide (-d (stL cells)[k].2 (stL cells)[k].1 < -dd2 (stL cells)[k].2 (stL cells)[k].1) || decide (dd2 (stL cells)[k].1 (stL cells)[k].2 < d (stL cells)[k].1 (stL cells)[k].2)) else false, fun k hk => by simp [hk]⟩
      have ec : ev ⟨callN T N (n + 11), N⟩ f_law_0_k18_c0 [some (.scr ns), some (.hnd 0), some (.lst [.int (cells : Int), .int most, .tup (fs.map fD)]), some (.lst [.int (cells : Int), .int most2, .tup (fs2.map fD)]), none, some (bookD (cells : Int) most fs), some (bookD (cells : Int) most2 fs2), some (.lst ((stL cells).map (clE d))), some (.lst ((stL cells).map (clE dd2))), none] s4 = .ok (.lst (((List.range (stL cells).length).filter ev0).map fun v : Nat => D.int (v : Int))) s4 := by
        refine ev_lci (l := List.range (stL cells).length) (g := fun k : Nat => D.int (k : Int)) (evr_rg1n (k := (stL cells).length) ?_ (by omega)) (le_lim (by rw [List.length_range]; omega)) fun k hk => ⟨_, rfl, ⟨.bl (ev0 k), ?_, rfl⟩, fun _ => rfl⟩
        · refine ev_b1 rfl ?_
          rw [b1_len]
          show some (D.int (((stL cells).map (clE d)).length : Int)) = _
          rw [List.length_map]
        · have hk' := List.mem_range.mp hk
          rw [hev0 k hk']
          exact ev_or (ev_cmp (ev_ix (ev_ix rfl rfl (ixs d k hk')) rfl rfl) (ev_ix (ev_ix rfl rfl (ixs dd2 k hk')) rfl rfl) rfl) fun _ => ev_cmp (ev_ix (ev_ix rfl rfl (ixs d k hk')) rfl rfl) (ev_ix (ev_ix rfl rfl (ixs dd2 k hk')) rfl rfl) rfl
      refine W_asg (d := .bl ((List.range (stL cells).length).filter ev0).isEmpty) (s' := s4) (ev_cmp ec rfl eq_nil_ints) ?_
      refine W_ret (d := .bl true) (s' := s4) (ev_cmp ((ev_call rfl).trans wi) rfl ?_) ⟨s4, rfl⟩
      rw [cmp_eq_bb]
      refine congrArg some (beq_iff_eq.mpr (Bool.eq_iff_iff.mpr ?_))
      rw [wiT_iff hb2 hc (G hc) (G2 hc2), List.isEmpty_iff, List.filter_eq_nil_iff]
      constructor
      · intro x k hk hbad
        have hk' := List.mem_range.mp hk
        rw [hev0 k hk'] at hbad
        obtain ⟨x1, x2⟩ := x _ (List.getElem_mem hk')
        simp only [Bool.or_eq_true, decide_eq_true_eq] at hbad
        omega
      · intro x p hp
        obtain ⟨k, hk, rfl⟩ := List.getElem_of_mem hp
        have := x k (List.mem_range.mpr hk)
        rw [hev0 k hk] at this
        simp only [Bool.or_eq_true, decide_eq_true_eq, not_or] at this
        omega
    · have hc2' : canB cells most2 fs2 = false := by simpa using hc2
      refine W_ite (k := true) (d := .bl (false || true)) (s' := s4) (ev_or (ev_cmp rfl rfl (by rw [isn, hc]; rfl)) fun _ => ev_cmp rfl rfl (by rw [isn, hc2']; rfl)) rfl (fun _ => ?_) (fun q => by cases q)
      refine W_ret (d := .bl true) (s' := s4) (ev_cmp ((ev_call rfl).trans wi) (ev_cmp rfl rfl isn) ?_) ⟨s4, rfl⟩
      rw [cmp_eq_bb, wiT_no hb2 hc hc2' (G hc), hc]
      rfl
  · have hc' : canB cells most fs = false := by simpa using hc
    refine W_ite (k := true) (d := .bl (true || false)) (s' := s4) (ev_or (q := false) (ev_cmp rfl rfl (by rw [isn, hc']; rfl)) fun q => by cases q) rfl (fun _ => ?_) (fun q => by cases q)
    refine W_ret (d := .bl true) (s' := s4) (ev_cmp ((ev_call rfl).trans wi) (ev_cmp rfl rfl isn) ?_) ⟨s4, rfl⟩
    rw [cmp_eq_bb, wiT_non hc', hc']
    rfl
end
theorem bk : Bk (extT tx.T) := ⟨rfl, rfl, rfl, rfl⟩
theorem bw : Bw (extT tx.T) := ⟨rfl, rfl, rfl, rfl⟩
theorem ld : Ld (extT tx.T) := ⟨rfl, rfl, rfl⟩
theorem be : Be (extT tx.T) := ⟨⟨bk, bw, rfl, rfl, rfl, rfl, rfl, rfl, rfl⟩, rfl, rfl, rfl, rfl, rfl⟩
theorem tw : Tw (extT tx.T) := ⟨be, rfl, rfl, rfl, rfl, rfl⟩
theorem cls : tx.cls_ok = true := by decide +kernel
theorem law (N : Nat) (ns : List Int) (h : ns.length ≤ 63) : ∃ s', callN tx.T N (11 + 1) (.law 0) [.scr ns] [] = .ok (.bl true) s' := by
  rw [Tx.ext_call cls N (11 + 1) rfl]
  exact law_T (n := 0) tw rfl ld rfl ⟨rfl, rfl, rfl, rfl⟩ rfl rfl rfl rfl ns h
end K18
theorem PySem.Challenge.cw_stretchtold_k18_whole_closed_books_holds : PySem.Challenge.rw_stretchtold_k18_whole_closed_books.Holds := by
  exact K18.holds_of fun ns h => ⟨0, K18.law 0 ns h⟩

end
