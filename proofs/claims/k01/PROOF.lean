import PyProof.Rows.All
import Wide.All
import OpenK.AllK
import Wide.FinOn
import HandS.ForMost
import HandS.Exc
import HandS.Flow
import HandS.TupAny
import HandS.TupMul
import HandS.IsInst
import HandS.Zip
import HandS.TupLen
import HandS.CallSlots
import HandS.WordsExc
import HandS.Conv
import HandS.More
import HandS.ExcOwn
import HandS.Property
import HandS.TryOnly
import HandS.Style
import KE.GoesMore
import HandS.Defaults
import HandS.HeadHook2
import HandS.Wide
import HandS.Ends
import HandS.HeadEnd
import HandS.Head2
import PySem.Challenge.RW_stretchtold_k01_whole_rows_judged
section
set_option Elab.async false
set_option linter.all false
/-! A small Python by values: data D, syntax E, Ss, and its reading by functions (ev, exs). -/
namespace MP
open PySem

/-- classes of the program -/
inductive Cl where
  | book | ring | round | desk | err (k : Nat)
  deriving DecidableEq, Repr

/-- defs: the draws' two, those of the program, of the law, of classes -/
inductive F where
  | mix | next
  | p (i : Nat) | law (i : Nat)
  | ini (c : Cl) | eq (c : Cl) | len (c : Cl) | pr (c : Cl) (i : Nat) | me (c : Cl) (i : Nat)
  deriving DecidableEq, Repr

abbrev Key := L2.Key

/-- data -/
inductive D where
  | non | bl (b : Bool) | int (i : Int) | str (x : Str)
  | tup (ds : List D) | lst (ds : List D)
  | dK (kvs : List (Key × D)) | dT (kvs : List (List Key × D))
  | ins (c : Cl) (ds : List D)
  | fn (f : F) | hnd (n : Nat) | scr (ns : List Int)

/-- what changes behind the data's back: sources of draws, desks -/
inductive So where
  | dr (st : Int) (cells : List Int) (ix : Int)
  | ob (c : Cl) (ds : List D)
abbrev Sto := List So
abbrev Env := List (Option D)

inductive Rs (α : Type) where
  | ok (a : α) (s : Sto)
  | ex (c : Cl) (ds : List D) (s : Sto)
  | st

namespace Rs
def bind {α β : Type} (r : Rs α) (f : α → Sto → Rs β) : Rs β :=
  match r with
  | .ok a s => f a s
  | .ex c ds s => .ex c ds s
  | .st => .st
/-- where no error may leave -/
def nox {α : Type} (r : Rs α) : Rs α :=
  match r with
  | .ok a s => .ok a s
  | _ => .st
@[simp] theorem nox_ok {α : Type} (a : α) (s : Sto) : (Rs.ok a s).nox = .ok a s := rfl
@[simp] theorem nox_st {α : Type} : (Rs.st : Rs α).nox = .st := rfl
def opt {α : Type} (o : Option α) (s : Sto) : Rs α :=
  match o with
  | some a => .ok a s
  | none => .st
@[simp] theorem bind_ok {α β : Type} (a : α) (s : Sto) (f : α → Sto → Rs β) : (Rs.ok a s).bind f = f a s := rfl
@[simp] theorem bind_ex {α β : Type} (c : Cl) (ds : List D) (s : Sto) (f : α → Sto → Rs β) : (Rs.ex c ds s : Rs α).bind f = .ex c ds s := rfl
@[simp] theorem bind_st {α β : Type} (f : α → Sto → Rs β) : (Rs.st : Rs α).bind f = .st := rfl
@[simp] theorem opt_some {α : Type} (a : α) (s : Sto) : Rs.opt (some a) s = .ok a s := rfl
@[simp] theorem opt_none {α : Type} (s : Sto) : Rs.opt (none : Option α) s = .st := rfl
end Rs

inductive Op where | add | sub | mul | fdiv | mod | pow
  deriving DecidableEq, Repr
inductive Cm where | eq | ne | lt | le | gt | ge | isin | notin | isn | notn
  deriving DecidableEq, Repr
inductive Ty where | int | bool | tuple | list | str | cls (c : Cl)
  deriving DecidableEq, Repr
inductive B1 where | len | sum | max | min | abs | int | str | list | tuple | dict | mind
  deriving DecidableEq, Repr
inductive B2 where | max | min | split | join
  deriving DecidableEq, Repr

/-! targets -/
mutual
inductive Tg where
  | nm (i : Nat) | tp (ts : Tgs)
inductive Tgs where
  | nil | cons (t : Tg) (ts : Tgs)
end

mutual
inductive E where
  | var (i : Nat)
  | int (i : Int) | str (x : Str) | bl (b : Bool) | non
  | tup (es : Es) | lst (es : Es)
  | bin (op : Op) (a b : E)
  | neg (a : E) | nott (a : E)
  | and (a b : E) | or (a b : E)
  | cmp (op : Cm) (a b : E)
  | chain (o p : Cm) (a b c : E)
  | ifx (c a b : E)
  | ix (a i : E)
  | sl (a : E) (lo hi : Oe)
  | call (f : F) (es : Es)
  | callv (fs : List F) (i : E) (es : Es)
  | make (c : Cl) (es : Es)
  | fld (a : E) (c : Cl) (i : Nat)
  | prop (a : E) (c : Cl) (i : Nat)
  | isa (a : E) (t : Ty)
  | b1 (b : B1) (a : E)
  | lrg (a : E)
  | leno (a : E) (k : Cl)
  | eqo (k : Cl) (a b : E)
  | b2 (b : B2) (a c : E)
  | max3 (a b c : E)
  | get (d k x : E)
  | dnew (t : Bool)
  | ddis (ks vs : Es)
  | lc (elt : E) (t : Tg) (s : Sr)
  | lci (elt : E) (t : Tg) (s : Sr) (c : E)
  | lc2 (elt : E) (i : Nat) (s : Sr) (j : Nat) (s2 : Sr)
  | lc2i (elt : E) (i : Nat) (s : Sr) (j : Nat) (s2 : Sr) (c : E)
  | dcm (k v : E) (i : Nat) (s : Sr)
inductive Es where
  | nil | cons (e : E) (es : Es)
inductive Oe where
  | no | so (e : E)
inductive Sr where
  | of (e : E) | rg1 (e : E) | rg2 (a b : E) | en (e : E) | zp (a b : E)
end

mutual
inductive S where
  | asg (t : Tg) (e : E)
  | own (i : Nat) (e : E)
  | par (ts : List Nat) (es : Es)
  | aug (i : Nat) (op : Op) (e : E)
  | expr (e : E)
  | app (i : Nat) (e : E)
  | ext (i : Nat) (e : E)
  | put (i : Nat) (k e : E)
  | seta (i : Nat) (cl : Cl) (e : E)
  | ret (e : E) | retn
  | ite (c : E) (a b : Ss)
  | whl (c : E) (b : Ss)
  | for (t : Tg) (s : Sr) (b : Ss)
  | rais (c : Cl) (es : Es)
  | tri (b : Ss) (hs : Hs)
  | frz (i : Nat)
  | pass
inductive Ss where
  | nil | cons (st : S) (r : Ss)
inductive Hs where
  | nil | cons (c : Cl) (i : Option Nat) (b : Ss) (r : Hs)
end

/-! ### operations on data -/
def lim : Nat := 16777216
/-- data without dicts and objects, of bounded depth -/
def isP : Nat → D → Bool
  | _, .non => true
  | _, .bl _ => true
  | _, .int _ => true
  | _, .str x => x.cps.all (· < 0x110000)
  | n + 1, .tup ds => ds.all (isP n)
  | n + 1, .lst ds => ds.all (isP n)
  | _, _ => false
def b2i (b : Bool) : Int := if b then 1 else 0
def eqL (f : D → D → Bool) : List D → List D → Bool
  | [], [] => true
  | x :: xs, y :: ys => f x y && eqL f xs ys
  | _, _ => false
/-- == of such data -/
def eqF : Nat → D → D → Bool
  | _, .non, .non => true
  | _, .bl a, .bl b => a == b
  | _, .bl a, .int j => b2i a == j
  | _, .int i, .bl b => i == b2i b
  | _, .int i, .int j => i == j
  | _, .str x, .str y => x == y
  | n + 1, .tup a, .tup b => eqL (eqF n) a b
  | n + 1, .lst a, .lst b => eqL (eqF n) a b
  | _, _, _ => false
def eqD (a b : D) : Option Bool := if isP 8 a && isP 8 b then some (eqF 8 a b) else none
/-- < of data: ints, tuples of such (place by place) -/
def ltL (lt eq : D → D → Bool) : List D → List D → Bool
  | [], [] => false
  | [], _ :: _ => true
  | _ :: _, [] => false
  | x :: xs, y :: ys => if eq x y then ltL lt eq xs ys else lt x y
def ltF : Nat → D → D → Bool
  | _, .int i, .int j => decide (i < j)
  | n + 1, .tup a, .tup b => ltL (ltF n) (eqF n) a b
  | _, _, _ => false

def keyD : D → Option Key
  | .int i => some (.inl i)
  | .str x => some (.inr x)
  | _ => none
def keysD : List D → Option (List Key)
  | [] => some []
  | d :: ds => match keyD d, keysD ds with
    | some k, some ks => some (k :: ks)
    | _, _ => none
section
variable {κ α : Type} [DecidableEq κ]
def lk (kvs : List (κ × α)) (k : κ) : Option α := (kvs.find? fun kv => decide (kv.1 = k)).map (·.2)
def upk (k : κ) (v : α) (kvs : List (κ × α)) : List (κ × α) :=
  if kvs.any fun kv => decide (kv.1 = k) then kvs.map fun kv => if kv.1 = k then (kv.1, v) else kv else kvs ++ [(k, v)]
end
/-- d[k], k in d: none where it isn't told -/
def dget : D → D → Option (Option D)
  | .dK kvs, k => match keyD k with
    | some k => some (lk kvs k)
    | none => none
  | .dT kvs, .tup ks => match keysD ks with
    | some k => some (lk kvs k)
    | none => none
  | _, _ => none
def dput : D → D → D → Option D
  | .dK kvs, k, v => match keyD k with
    | some k => if kvs.length < lim then some (.dK (upk k v kvs)) else none
    | none => none
  | .dT kvs, .tup ks, v => match keysD ks with
    | some k => if kvs.length < lim then some (.dT (upk k v kvs)) else none
    | none => none
  | _, _, _ => none
def ixD : D → D → Option D
  | .lst ds, .int i => L2.atI ds i
  | .tup ds, .int i => L2.atI ds i
  | .str z, .int i => if z.length ≤ lim then (L2.atI z.cps.toList i).map fun c => .str ⟨#[c]⟩ else none
  | d, k => (dget d k).join
def setD : D → D → D → Option D
  | .lst ds, .int i, v => (L2.ixN ds.length i).map fun j => .lst (ds.set j v)
  | d, k, v => dput d k v
def cutL {α : Type} (xs : List α) (lo hi : Option Int) : List α := (xs.drop (HT.sIx xs.length 0 lo)).take (HT.sIx xs.length xs.length hi - HT.sIx xs.length 0 lo)
def slD (x : D) (lo hi : Option Int) : Option D :=
  match x with
  | .lst ds => some (.lst (cutL ds lo hi))
  | .tup ds => some (.tup (cutL ds lo hi))
  | _ => none
def mulOk (i j : Int) : Bool := (decide (-18446744073709551616 < i) && decide (i < 18446744073709551616)) || (decide (-18446744073709551616 < j) && decide (j < 18446744073709551616))
def binD : Op → D → D → Option D
  | .add, .int i, .int j => some (.int (i + j))
  | .add, .lst a, .lst b => if a.length + b.length ≤ lim then some (.lst (a ++ b)) else none
  | .add, .tup a, .tup b => if a.length + b.length ≤ lim then some (.tup (a ++ b)) else none
  | .add, .str a, .str b => if a.length + b.length ≤ lim then some (.str (a ++ b)) else none
  | .sub, .int i, .int j => some (.int (i - j))
  | .mul, .int i, .int j => if mulOk i j then some (.int (i * j)) else none
  | .mul, .lst a, .int k => if decide (k < 16777216) && decide (0 ≤ k) && decide (a.length * k.toNat ≤ lim) then some (.lst (List.replicate k.toNat a).flatten) else none
  | .mul, .tup a, .int k => if decide (2 ≤ k) && decide (k ≤ 1000) && decide (a.length ≤ 1000) && !a.isEmpty then some (.tup (List.replicate k.toNat a).flatten) else none
  | .fdiv, .int i, .int j => if decide (0 < j) && decide (j < 1073741824) then some (.int (i / j)) else none
  | .mod, .int i, .int j => if decide (0 < j) then some (.int (i % j)) else none
  | .pow, .int i, .int j => if decide (0 ≤ j) && decide (j ≤ 1000) && decide (i.natAbs < 1000000) then some (.int (i ^ j.toNat)) else none
  | _, _, _ => none
def negD : D → Option D
  | .int i => some (.int (-i))
  | _ => none
def truD : D → Option Bool
  | .non => some false
  | .bl b => some b
  | .int i => some (i != 0)
  | .str x => if x.length ≤ lim then some (x.length != 0) else none
  | .tup ds => some (!ds.isEmpty)
  | .lst ds => some (!ds.isEmpty)
  | .dK kvs => some (!kvs.isEmpty)
  | _ => none
def isNon : D → Bool
  | .non => true
  | _ => false
def isFl : D → Bool
  | .non => true
  | .bl _ => true
  | .int _ => true
  | .str _ => true
  | _ => false
/-- in, not in: a dict's keys; a list or a tuple of flat things; one sign in a text -/
def inD (x : D) : D → Option Bool
  | .lst ds => if isFl x && ds.all isFl then some (ds.any fun y => eqF 0 y x) else none
  | .tup ds => if isFl x && ds.all isFl then some (ds.any fun y => eqF 0 y x) else none
  | .str z => match x with
    | .str y => match y.cps.toList with
      | [c] => some (decide (c ∈ z.cps.toList))
      | _ => none
    | _ => none
  | d => (dget d x).map (·.isSome)
/-- comparisons; == of a book is its own -/
def cmpD : Cm → D → D → Option Bool
  | .eq, a, b => eqD a b
  | .ne, a, b => (eqD a b).map (!·)
  | .lt, .int i, .int j => some (decide (i < j))
  | .le, .int i, .int j => some (decide (i ≤ j))
  | .gt, .int i, .int j => some (decide (j < i))
  | .ge, .int i, .int j => some (decide (j ≤ i))
  | .isin, a, b => inD a b
  | .notin, a, b => (inD a b).map (!·)
  | .isn, a, .non => some (isNon a)
  | .notn, a, .non => some (!isNon a)
  | _, _, _ => none
def isaD : D → Ty → Option Bool
  | .hnd _, _ => none
  | .scr _, _ => none
  | .fn _, _ => none
  | .int _, .int => some true
  | .bl _, .int => some true
  | .bl _, .bool => some true
  | .tup _, .tuple => some true
  | .lst _, .list => some true
  | .str _, .str => some true
  | .ins c _, .cls c' => some (decide (c = c'))
  | _, _ => some false
def lenD : D → Option Int
  | .lst ds => some ds.length
  | .tup ds => some ds.length
  | .str x => if x.length ≤ lim then some x.length else none
  | .dK kvs => some kvs.length
  | .dT kvs => some kvs.length
  | _ => none
def intsOf : List D → Option (List Int)
  | [] => some []
  | .int i :: ds => match intsOf ds with
    | some is => some (i :: is)
    | none => none
  | _ :: _ => none
def maxI : List Int → Option Int
  | [] => none
  | x :: xs => some (xs.foldl (fun m y => if m < y then y else m) x)
def minI : List Int → Option Int
  | [] => none
  | x :: xs => some (xs.foldl (fun m y => if y < m then y else m) x)
/-- the least of data by <, the first of equals -/
def minDs : List D → Option D
  | [] => none
  | x :: xs => some (xs.foldl (fun m y => if ltF 8 y m then y else m) x)
/-- tuples of one shape: ints, then tuples of ints -/
def okMin : List D → Bool := fun ds => ds.all fun d => match d with
  | .tup as => isP 8 (.tup as) && !as.isEmpty
  | _ => false
def b1D (b : B1) (x : D) : Option D :=
  match b, x with
  | .len, x => (lenD x).map D.int
  | .sum, .lst ds => (intsOf ds).map fun is => .int is.sum
  | .sum, .tup ds => (intsOf ds).map fun is => .int is.sum
  | .max, .lst ds => match intsOf ds with
    | some is => (maxI is).map D.int
    | none => none
  | .min, .lst ds => match intsOf ds with
    | some is => (minI is).map D.int
    | none => none
  | .abs, .int i => some (.int (if i < 0 then -i else i))
  | .int, .int i => some (.int i)
  | .str, .int i => if i.natAbs.log2 < 1920 then some (.str (Str.ofString (toString i))) else none
  | .list, .lst ds => some (.lst ds)
  | .list, .tup ds => some (.lst ds)
  | .list, .dK kvs => some (.lst (kvs.map fun p => match p.1 with
    | .inl i => .int i
    | .inr x => .str x))
  | .tuple, .lst ds => some (.tup ds)
  | .tuple, .tup ds => some (.tup ds)
  | .dict, .dK kvs => some (.dK kvs)
  | _, _ => none
def b2D (b : B2) (x y : D) : Option D :=
  match b, x, y with
  | .max, .int i, .int j => some (.int (if j > i then j else i))
  | .min, .int i, .int j => some (.int (if j < i then j else i))
  | _, _, _ => none
def rgD (a b : Int) : Option (List D) :=
  if decide (-(4611686018427387904 : Int) ≤ a) && decide (a < 4611686018427387904) && decide (-(4611686018427387904 : Int) ≤ b) && decide (b < 4611686018427387904)
  then some ((List.range (b - a).toNat).map fun i => .int (a + (i : Nat))) else none
def enL : Nat → List D → List D
  | _, [] => []
  | n, d :: ds => .tup [.int n, d] :: enL (n + 1) ds
def zpL : List D → List D → List D
  | a :: as, b :: bs => .tup [a, b] :: zpL as bs
  | _, _ => []
def itD : D → Option (List D)
  | .lst ds => some ds
  | .tup ds => some ds
  | _ => none

/-! ### targets -/
mutual
def bindT : Tg → D → Env → Option Env
  | .nm i, d, ρ => some (ρ.set i (some d))
  | .tp ts, .tup ds, ρ => bindTs ts ds ρ
  | .tp ts, .lst ds, ρ => bindTs ts ds ρ
  | _, _, _ => none
def bindTs : Tgs → List D → Env → Option Env
  | .nil, [], ρ => some ρ
  | .cons t ts, d :: ds, ρ => match bindT t d ρ with
    | some ρ' => bindTs ts ds ρ'
    | none => none
  | _, _, _ => none
end

mutual
def slotsT : Tg → List Nat
  | .nm i => [i]
  | .tp ts => slotsTs ts
def slotsTs : Tgs → List Nat
  | .nil => []
  | .cons t ts => slotsT t ++ slotsTs ts
end
/-- a comprehension's own names are empty at its start -/
def wipeE (ρ : Env) : List Nat → Env
  | [] => ρ
  | v :: vs => (wipeE ρ vs).set v none

/-- the reading's surroundings: what calls give, how long whiles may go -/
structure Cfg where
  call : F → List D → Sto → Rs D
  fuel : Nat

/-- what an own == may be asked of -/
def eqRt (k : Cl) : D → Bool
  | .tup _ => true
  | .ins k'' _ => decide (k'' = k)
  | _ => false
/-! ### loops of comprehensions -/
def lcL (f : D → Sto → Rs D) : List D → List D → Sto → Rs D
  | acc, [], s => .ok (.lst acc) s
  | acc, x :: xs, s => (f x s).nox.bind fun d s => if acc.length < lim then lcL f (acc ++ [d]) xs s else .st
def lciL (f : D → Sto → Rs (Option D)) : List D → List D → Sto → Rs D
  | acc, [], s => .ok (.lst acc) s
  | acc, x :: xs, s => (f x s).nox.bind fun o s => match o with
    | none => lciL f acc xs s
    | some d => if acc.length < lim then lciL f (acc ++ [d]) xs s else .st
def lc2L (f : List D → D → Sto → Rs (List D)) : List D → List D → Sto → Rs D
  | acc, [], s => .ok (.lst acc) s
  | acc, x :: xs, s => (f acc x s).nox.bind fun acc s => lc2L f acc xs s
def lc2In (f : D → Sto → Rs (Option D)) : List D → List D → Sto → Rs (List D)
  | acc, [], s => .ok acc s
  | acc, x :: xs, s => (f x s).nox.bind fun o s => match o with
    | none => lc2In f acc xs s
    | some d => if acc.length < lim then lc2In f (acc ++ [d]) xs s else .st
def dcL (f : D → Sto → Rs (D × D)) : D → List D → Sto → Rs D
  | acc, [], s => .ok acc s
  | acc, x :: xs, s => (f x s).nox.bind fun p s => match dput acc p.1 p.2 with
    | some acc => dcL f acc xs s
    | none => .st
def ddL : D → List D → List D → Option D
  | acc, [], [] => some acc
  | acc, k :: ks, v :: vs => match dput acc k v with
    | some acc => ddL acc ks vs
    | none => none
  | _, _, _ => none

mutual
def ev (c : Cfg) : E → Env → Sto → Rs D
  | .var i, ρ, s => match ρ[i]? with
    | some (some d) => .ok d s
    | _ => .st
  | .int i, _, s => .ok (.int i) s
  | .str x, _, s => .ok (.str x) s
  | .bl b, _, s => .ok (.bl b) s
  | .non, _, s => .ok .non s
  | .tup es, ρ, s => (evs c es ρ s).bind fun ds s => if ds.length ≤ lim then .ok (.tup ds) s else .st
  | .lst es, ρ, s => (evs c es ρ s).bind fun ds s => if ds.length ≤ lim then .ok (.lst ds) s else .st
  | .bin op a b, ρ, s => (ev c a ρ s).bind fun x s => (ev c b ρ s).bind fun y s => Rs.opt (binD op x y) s
  | .neg a, ρ, s => (ev c a ρ s).bind fun x s => Rs.opt (negD x) s
  | .nott a, ρ, s => (ev c a ρ s).bind fun x s => Rs.opt ((truD x).map fun b => .bl (!b)) s
  | .and a b, ρ, s => (ev c a ρ s).bind fun x s => match x with
    | .bl true => ev c b ρ s
    | .bl false => .ok (.bl false) s
    | _ => .st
  | .or a b, ρ, s => (ev c a ρ s).bind fun x s => match x with
    | .bl true => .ok (.bl true) s
    | .bl false => ev c b ρ s
    | _ => .st
  | .cmp op a b, ρ, s => (ev c a ρ s).bind fun x s => (ev c b ρ s).bind fun y s => Rs.opt ((cmpD op x y).map D.bl) s
  | .chain o p a b d, ρ, s => (ev c a ρ s).bind fun x s => (ev c b ρ s).bind fun y s => (Rs.opt (cmpD o x y) s).bind fun k s =>
    if k then (ev c d ρ s).bind fun z s => Rs.opt ((cmpD p y z).map D.bl) s else .ok (.bl false) s
  | .ifx t a b, ρ, s => (ev c t ρ s).bind fun x s => (Rs.opt (truD x) s).bind fun k s => if k then ev c a ρ s else ev c b ρ s
  | .ix a i, ρ, s => (ev c a ρ s).bind fun x s => (ev c i ρ s).bind fun y s => Rs.opt (ixD x y) s
  | .sl a lo hi, ρ, s => (ev c a ρ s).bind fun x s => (evo c lo ρ s).bind fun l s => (evo c hi ρ s).bind fun h s => Rs.opt (slD x l h) s
  | .call f es, ρ, s => (evs c es ρ s).bind fun ds s => c.call f ds s
  | .callv fs i es, ρ, s => (ev c i ρ s).bind fun k s => (Rs.opt (match k with
      | .int k => L2.atI fs k
      | _ => none) s).bind fun f s => (evs c es ρ s).bind fun ds s => c.call f ds s
  | .make k es, ρ, s => (evs c es ρ s).bind fun ds s => c.call (.ini k) ds s
  | .fld a k i, ρ, s => (ev c a ρ s).bind fun x s => match x with
    | .ins k' ds => if k' = k then Rs.opt ds[i]? s else .st
    | _ => .st
  | .prop a k i, ρ, s => (ev c a ρ s).bind fun x s => match x with
    | .ins k' ds => if k' = k then (c.call (.pr k i) [.ins k' ds] s).nox else .st
    | _ => .st
  | .isa a t, ρ, s => (ev c a ρ s).bind fun x s => Rs.opt ((isaD x t).map D.bl) s
  | .b1 b a, ρ, s => (ev c a ρ s).bind fun x s => Rs.opt (b1D b x) s
  | .leno a k, ρ, s => (ev c a ρ s).bind fun x s => match x with
    | .ins k' ds => if k' = k then match c.call (.len k) [.ins k ds] s with
        | .ok (.int i) s => if decide (0 ≤ i) && decide (i < 9223372036854775808) then .ok (.int i) s else .st
        | _ => .st
      else .st
    | _ => .st
  | .eqo k a b, ρ, s => (ev c a ρ s).bind fun x s => (ev c b ρ s).bind fun y s => match x with
    | .ins k' ds => if decide (k' = k) && eqRt k y then match c.call (.eq k) [.ins k ds, y] s with
        | .ok (.bl b) s => .ok (.bl b) s
        | _ => .st
      else .st
    | _ => .st
  | .lrg a, ρ, s => (ev c a ρ s).bind fun x s => match x with
    | .int n => if decide (0 ≤ n) && decide (n ≤ 16777216) then .ok (.lst ((List.range n.toNat).map fun i => .int ((0 : Int) + (i : Nat)))) s else .st
    | _ => .st
  | .b2 b a d, ρ, s => (ev c a ρ s).bind fun x s => (ev c d ρ s).bind fun y s => Rs.opt (b2D b x y) s
  | .max3 a b d, ρ, s => (ev c a ρ s).bind fun x s => (ev c b ρ s).bind fun y s => (ev c d ρ s).bind fun z s => match x, y, z with
    | .int i, .int j, .int k => Rs.opt ((maxI [i, j, k]).map D.int) s
    | _, _, _ => .st
  | .get d k x, ρ, s => (ev c d ρ s).bind fun d s => (ev c k ρ s).bind fun k s => (ev c x ρ s).bind fun x s => (Rs.opt (dget d k) s).bind fun o s => .ok (o.getD x) s
  | .dnew t, _, s => .ok (if t then .dT [] else .dK []) s
  | .ddis ks vs, ρ, s => (evs c ks ρ s).bind fun ks s => (evs c vs ρ s).bind fun vs s => if ks.length ≤ 15 then Rs.opt (ddL (.dK []) ks vs) s else .st
  | .lc e t r, ρ, s => (evr c r ρ s).bind fun xs s => lcL (fun x s => match bindT t x (wipeE ρ (slotsT t)) with
    | some ρ' => ev c e ρ' s
    | none => .st) [] xs s
  | .lci e t r i, ρ, s => (evr c r ρ s).bind fun xs s => lciL (fun x s => match bindT t x (wipeE ρ (slotsT t)) with
    | some ρ' => (ev c i ρ' s).bind fun k s => (Rs.opt (truD k) s).bind fun k s => if k then (ev c e ρ' s).bind fun d s => .ok (some d) s else .ok none s
    | none => .st) [] xs s
  | .lc2 e i r j r2, ρ, s => (evr c r ρ s).bind fun xs s => lc2L (fun acc x s =>
      (evr c r2 ((wipeE ρ [i, j]).set i (some x)) s).bind fun ys s => lc2In (fun y s => (ev c e ((wipeE ((wipeE ρ [i, j]).set i (some x)) [j]).set j (some y)) s).bind fun d s => .ok (some d) s) acc ys s) [] xs s
  | .lc2i e i r j r2 t, ρ, s => (evr c r ρ s).bind fun xs s => lc2L (fun acc x s =>
      (evr c r2 ((wipeE ρ [i, j]).set i (some x)) s).bind fun ys s => lc2In (fun y s => (ev c t ((wipeE ((wipeE ρ [i, j]).set i (some x)) [j]).set j (some y)) s).bind fun k s =>
        (Rs.opt (truD k) s).bind fun k s => if k then (ev c e ((wipeE ((wipeE ρ [i, j]).set i (some x)) [j]).set j (some y)) s).bind fun d s => .ok (some d) s else .ok none s) acc ys s) [] xs s
  | .dcm k v i r, ρ, s => (evr c r ρ s).bind fun xs s => dcL (fun x s => (ev c k ((wipeE ρ [i]).set i (some x)) s).bind fun a s => (ev c v ((wipeE ρ [i]).set i (some x)) s).bind fun b s => .ok (a, b) s) (.dK []) xs s
def evs (c : Cfg) : Es → Env → Sto → Rs (List D)
  | .nil, _, s => .ok [] s
  | .cons e es, ρ, s => (ev c e ρ s).bind fun d s => (evs c es ρ s).bind fun ds s => .ok (d :: ds) s
def evo (c : Cfg) : Oe → Env → Sto → Rs (Option Int)
  | .no, _, s => .ok none s
  | .so e, ρ, s => (ev c e ρ s).bind fun d s => match d with
    | .int i => .ok (some i) s
    | _ => .st
def evr (c : Cfg) : Sr → Env → Sto → Rs (List D)
  | .of e, ρ, s => (ev c e ρ s).bind fun d s => Rs.opt (itD d) s
  | .rg1 e, ρ, s => (ev c e ρ s).bind fun d s => match d with
    | .int i => Rs.opt (rgD 0 i) s
    | _ => .st
  | .rg2 a b, ρ, s => (ev c a ρ s).bind fun x s => (ev c b ρ s).bind fun y s => match x, y with
    | .int i, .int j => Rs.opt (rgD i j) s
    | _, _ => .st
  | .en e, ρ, s => (ev c e ρ s).bind fun d s => (Rs.opt (itD d) s).bind fun xs s => .ok (enL 0 xs) s
  | .zp a b, ρ, s => (ev c a ρ s).bind fun x s => (ev c b ρ s).bind fun y s => match x, y with
    | .lst as, .lst bs => .ok (zpL as bs) s
    | .tup as, .tup bs => .ok (zpL as bs) s
    | _, _ => .st
end

/-! ### statements -/
inductive R where
  | nx (ρ : Env) (s : Sto)
  | rt (d : D) (s : Sto)
  | ex (c : Cl) (ds : List D) (ρ : Env) (s : Sto)
  | st
def R.bind (r : R) (f : Env → Sto → R) : R :=
  match r with
  | .nx ρ s => f ρ s
  | .rt d s => .rt d s
  | .ex c ds ρ s => .ex c ds ρ s
  | .st => .st
@[simp] theorem R.bind_nx (ρ : Env) (s : Sto) (f : Env → Sto → R) : (R.nx ρ s).bind f = f ρ s := rfl
@[simp] theorem R.bind_rt (d : D) (s : Sto) (f : Env → Sto → R) : (R.rt d s).bind f = .rt d s := rfl
@[simp] theorem R.bind_st (f : Env → Sto → R) : R.st.bind f = .st := rfl
/-- from a value on -/
def Rs.go {α : Type} (r : Rs α) (ρ : Env) (f : α → Sto → R) : R :=
  match r with
  | .ok a s => f a s
  | .ex c ds s => .ex c ds ρ s
  | .st => .st
@[simp] theorem Rs.go_ok {α : Type} (a : α) (s : Sto) (ρ : Env) (f : α → Sto → R) : (Rs.ok a s).go ρ f = f a s := rfl
@[simp] theorem Rs.go_st {α : Type} (ρ : Env) (f : α → Sto → R) : (Rs.st : Rs α).go ρ f = .st := rfl
def R.opt (o : Option Env) (s : Sto) : R :=
  match o with
  | some ρ => .nx ρ s
  | none => .st
@[simp] theorem R.opt_some (ρ : Env) (s : Sto) : R.opt (some ρ) s = .nx ρ s := rfl
def forL (f : D → Env → Sto → R) : List D → Env → Sto → R
  | [], ρ, s => .nx ρ s
  | x :: xs, ρ, s => (f x ρ s).bind fun ρ s => forL f xs ρ s
def whlL (t : Env → Sto → Rs Bool) (f : Env → Sto → R) : Nat → Env → Sto → R
  | 0, _, _ => .st
  | n + 1, ρ, s => (t ρ s).go ρ fun k s => if k then (f ρ s).bind fun ρ s => whlL t f n ρ s else .nx ρ s
def parE : List Nat → List D → Env → Option Env
  | [], [], ρ => some ρ
  | i :: is, d :: ds, ρ => parE is ds (ρ.set i (some d))
  | _, _, _ => none
def at' (ρ : Env) (i : Nat) : Option D :=
  match ρ[i]? with
  | some (some d) => some d
  | _ => none
def isFresh : D → Bool
  | .lst _ => true
  | .dK _ => true
  | .dT _ => true
  | _ => false

mutual
def exe (c : Cfg) : S → Env → Sto → R
  | .asg t e, ρ, s => (ev c e ρ s).go ρ fun d s => R.opt (bindT t d ρ) s
  | .own i e, ρ, s => (ev c e ρ s).go ρ fun d s => if isFresh d then .nx (ρ.set i (some d)) s else .st
  | .par ts es, ρ, s => (evs c es ρ s).go ρ fun ds s => R.opt (parE ts ds ρ) s
  | .aug i op e, ρ, s => match at' ρ i with
    | some x => (ev c e ρ s).go ρ fun y s => match op, x, y with
      | .add, .int a, .int b => .nx (ρ.set i (some (.int (a + b)))) s
      | .mul, .int a, .int b => if mulOk a b then .nx (ρ.set i (some (.int (a * b)))) s else .st
      | _, _, _ => .st
    | none => .st
  | .expr e, ρ, s => (ev c e ρ s).go ρ fun _ s => .nx ρ s
  | .app i e, ρ, s => match at' ρ i with
    | some (.lst ds) => (ev c e ρ s).go ρ fun d s => if ds.length < lim then .nx (ρ.set i (some (.lst (ds ++ [d])))) s else .st
    | _ => .st
  | .ext i e, ρ, s => match at' ρ i with
    | some (.lst ds) => (ev c e ρ s).go ρ fun d s => match d with
      | .lst es => if ds.length + es.length ≤ lim then .nx (ρ.set i (some (.lst (ds ++ es)))) s else .st
      | _ => .st
    | _ => .st
  | .put i k e, ρ, s => match at' ρ i with
    | some x => (ev c e ρ s).go ρ fun v s => (ev c k ρ s).go ρ fun y s => R.opt ((setD x y v).map fun z => ρ.set i (some z)) s
    | none => .st
  | .seta i cl e, ρ, s => match at' ρ i with
    | some (.ins cl' []) => if cl' = cl then (ev c e ρ s).go ρ fun v s => .nx (ρ.set i (some (.ins cl [v]))) s else .st
    | _ => .st
  | .ret e, ρ, s => (ev c e ρ s).go ρ fun d s => .rt d s
  | .retn, _, s => .rt .non s
  | .ite t a b, ρ, s => (ev c t ρ s).go ρ fun x s => (Rs.opt (truD x) s).go ρ fun k s => if k then exs c a ρ s else exs c b ρ s
  | .whl t b, ρ, s => whlL (fun ρ s => (ev c t ρ s).bind fun x s => Rs.opt (truD x) s) (fun ρ s => exs c b ρ s) c.fuel ρ s
  | .for t r b, ρ, s => (evr c r ρ s).go ρ fun xs s => forL (fun x ρ s => match bindT t x ρ with
    | some ρ' => exs c b ρ' s
    | none => .st) xs ρ s
  | .rais _ _, _, _ => .st
  | .tri _ _, _, _ => .st
  | .frz _, ρ, s => .nx ρ s
  | .pass, ρ, s => .nx ρ s
def exs (c : Cfg) : Ss → Env → Sto → R
  | .nil, ρ, s => .nx ρ s
  | .cons st r, ρ, s => (exe c st ρ s).bind fun ρ s => exs c r ρ s
end

/-- a def: its names by slot (the parameters first), how many parameters, its body; whether what it gives is its caller's own -/
structure Fn where
  names : List Str
  pars : Nat
  body : Ss
  fresh : Bool := false
def start (fn : Fn) (ds : List D) : Env := ds.map some ++ List.replicate (fn.names.length - ds.length) none
def runFn (c : Cfg) (fn : Fn) (ds : List D) (s : Sto) : Rs D :=
  if ds.length = fn.pars then match exs c fn.body (start fn ds) s with
    | .nx _ s => if fn.fresh then .st else .ok .non s
    | .rt d s => .ok d s
    | .ex k es _ s => .ex k es s
    | .st => .st
  else .st
/-- an __init__: the new object is slot 0, it is what is given -/
def runIni (c : Cfg) (k : Cl) (fn : Fn) (ds : List D) (s : Sto) : Rs D :=
  if ds.length + 1 = fn.pars then match exs c fn.body (start fn (.ins k [] :: ds)) s with
    | .nx ρ s => Rs.opt (at' ρ 0) s
    | .rt _ _ => .st
    | .ex k es _ s => .ex k es s
    | .st => .st
  else .st

/-! ### the draws -/
def mixSt (st : Int) : List Int → Int
  | [] => st
  | c :: cs => mixSt ((st * 48271 + c % 2147483629 + 1) % 2147483647) cs
def primMix : List D → Sto → Rs D
  | [.scr ns, .int seed], s => .ok (.hnd s.length) (s ++ [.dr (mixSt seed ns) ns 0])
  | _, _ => .st
/-- one draw below b -/
def drawn (st : Int) (cells : List Int) (ix b : Int) : Int × So :=
  let k := ix % (if (cells.length : Int) > 1 then cells.length else 1)
  let c := (cells ++ [0]).getD k.toNat 0
  if 1000000000000000000 ≤ c then (c % b, .dr st (cells.set k.toNat (c / b)) ix)
  else
    let st' := (st * 48271 + c * 69621 + 11) % 2147483647
    ((st' / 7) % b, .dr st' cells (ix + 1))
def primNext : List D → Sto → Rs D
  | [.hnd n, .int b], s => match s[n]? with
    | some (.dr st cells ix) => if 0 < b ∧ b < 2 ^ 2000 ∧ 0 ≤ ix ∧ cells.length < 1000 then
        let r := drawn st cells ix b
        .ok (.int r.1) (s.set n r.2) else .st
    | _ => .st
  | _, _ => .st

def callN (T : F → Option Fn) (N : Nat) : Nat → F → List D → Sto → Rs D
  | 0, _, _, _ => .st
  | n + 1, f, ds, s => match f with
    | .mix => primMix ds s
    | .next => primNext ds s
    | .ini k => match T (.ini k) with
      | some fn => runIni ⟨callN T N n, N⟩ k fn ds s
      | none => .st
    | f => match T f with
      | some fn => runFn ⟨callN T N n, N⟩ fn ds s
      | none => .st
end MP

end
section
set_option Elab.async false
set_option linter.all false
set_option maxRecDepth 100000
/-! How data stand in the abstract heap; what a step leaves as it was. -/
namespace MP
open PySem L2

/-- where classes and defs stand -/
structure Lay where
  K : PySem.W.Frag
  cls : Cl → Addr
  fad : F → Addr
  has : Cl → Bool
def fields : Cl → List Str
  | .book => [⟨#[104, 101, 108, 100]⟩]
  | .ring => [⟨#[104, 101, 108, 100]⟩]
  | .round => [⟨#[104, 101, 108, 100]⟩]
  | .desk => [⟨#[112, 97, 115, 116]⟩]
  | .err _ => []

mutual
inductive Rep (L : Lay) (m : List (Addr × Addr)) (G : Hp) : V → D → Prop
  | non : Rep L m G .non .non
  | bl (b : Bool) : Rep L m G (.bl b) (.bl b)
  | int (i : Int) : Rep L m G (.int i) (.int i)
  | str (x : Str) : Rep L m G (.str x) (.str x)
  | obj {a : Addr} {o : HO} {d : D} : G a = some o → Cont L m G o d → Rep L m G (.ref a) d
  | fn (f : F) : Rep L m G (.ref (L.fad f)) (.fn f)
  | hnd {n : Nat} {a b : Addr} : m[n]? = some (a, b) → Rep L m G (.ref a) (.hnd n)
  | scr {a : Addr} {ns : List Int} : SqL L.K G a (ns.map V.int) → Rep L m G (.ref a) (.scr ns)
inductive Cont (L : Lay) (m : List (Addr × Addr)) (G : Hp) : HO → D → Prop
  | tup {vs : List V} {ds : List D} : Reps L m G vs ds → Cont L m G (.tup vs) (.tup ds)
  | lst {vs : List V} {ds : List D} : Reps L m G vs ds → Cont L m G (.lst vs) (.lst ds)
  | dK {kvs : List (Key × V)} {kds : List (Key × D)} : kvs.map (·.1) = kds.map (·.1) → Reps L m G (kvs.map (·.2)) (kds.map (·.2)) → Cont L m G (.dK kvs) (.dK kds)
  | dT {kvs : List (List Key × V)} {kds : List (List Key × D)} : kvs.map (·.1) = kds.map (·.1) → Reps L m G (kvs.map (·.2)) (kds.map (·.2)) → Cont L m G (.dT kvs) (.dT kds)
  | ins {c : Cl} {dx : Addr} {vs : List V} {ds : List D} : Reps L m G vs ds → ds.length ≤ (fields c).length → L.has c = true → Cont L m G (.ins (L.cls c) dx ((fields c).zip vs)) (.ins c ds)
inductive Reps (L : Lay) (m : List (Addr × Addr)) (G : Hp) : List V → List D → Prop
  | nil : Reps L m G [] []
  | cons {v : V} {vs : List V} {d : D} {ds : List D} : Rep L m G v d → Reps L m G vs ds → Reps L m G (v :: vs) (d :: ds)
end

section
variable {L : Lay} {m m' : List (Addr × Addr)} {G G' : Hp}
theorem Rd.mono (e : Same G G') {a : Addr} {u : HO} (h : Rd G a u) : Rd G' a u := by
  rcases h with h | ⟨o, h⟩
  · exact .inl (e _ _ h)
  · exact .inr ⟨o, e _ _ h⟩
theorem prefix_get {α : Type} {l l' : List α} (h : l <+: l') {n : Nat} {x : α} (e : l[n]? = some x) : l'[n]? = some x := by
  obtain ⟨r, rfl⟩ := h
  rw [List.getElem?_append_left]
  · exact e
  · exact (List.getElem?_eq_some_iff.mp e).1
mutual
theorem Rep.mono (hm : m <+: m') (e : Same G G') : ∀ {v : V} {d : D}, Rep L m G v d → Rep L m' G' v d
  | _, _, .non => .non
  | _, _, .bl b => .bl b
  | _, _, .int i => .int i
  | _, _, .str x => .str x
  | _, _, .obj h c => .obj (e _ _ h) (Cont.mono hm e c)
  | _, _, .fn f => .fn f
  | _, _, .hnd h => .hnd (prefix_get hm h)
  | _, _, .scr h => .scr (e.seq h)
theorem Cont.mono (hm : m <+: m') (e : Same G G') : ∀ {o : HO} {d : D}, Cont L m G o d → Cont L m' G' o d
  | _, _, .tup h => .tup (Reps.mono hm e h)
  | _, _, .lst h => .lst (Reps.mono hm e h)
  | _, _, .dK k h => .dK k (Reps.mono hm e h)
  | _, _, .dT k h => .dT k (Reps.mono hm e h)
  | _, _, .ins h l k => .ins (Reps.mono hm e h) l k
theorem Reps.mono (hm : m <+: m') (e : Same G G') : ∀ {vs : List V} {ds : List D}, Reps L m G vs ds → Reps L m' G' vs ds
  | _, _, .nil => .nil
  | _, _, .cons h t => .cons (Rep.mono hm e h) (Reps.mono hm e t)
end
theorem Reps.length : ∀ {vs : List V} {ds : List D}, Reps L m G vs ds → vs.length = ds.length
  | _, _, .nil => rfl
  | _, _, .cons _ t => by simp [Reps.length t]
theorem Reps.append : ∀ {vs ws : List V} {ds es : List D}, Reps L m G vs ds → Reps L m G ws es → Reps L m G (vs ++ ws) (ds ++ es)
  | _, _, _, _, .nil, h => h
  | _, _, _, _, .cons h t, h' => .cons h (Reps.append t h')
theorem Reps.one {v : V} {d : D} (h : Rep L m G v d) : Reps L m G [v] [d] := .cons h .nil
theorem Reps.get : ∀ {vs : List V} {ds : List D} {i : Nat} {d : D}, Reps L m G vs ds → ds[i]? = some d → ∃ v, vs[i]? = some v ∧ Rep L m G v d
  | _, _, _, _, .nil, e => by simp at e
  | _, _, 0, _, .cons h _, e => by simp at e; subst e; exact ⟨_, rfl, h⟩
  | _, _, i + 1, d, .cons _ t, e => by
    obtain ⟨v, h1, h2⟩ := Reps.get (i := i) (d := d) t (by simpa using e)
    exact ⟨v, by simpa using h1, h2⟩
theorem Reps.getV : ∀ {vs : List V} {ds : List D} {i : Nat} {v : V}, Reps L m G vs ds → vs[i]? = some v → ∃ d, ds[i]? = some d ∧ Rep L m G v d
  | _, _, _, _, .nil, e => by simp at e
  | _, _, 0, _, .cons h _, e => by simp at e; subst e; exact ⟨_, rfl, h⟩
  | _, _, i + 1, v, .cons _ t, e => by
    obtain ⟨d, h1, h2⟩ := Reps.getV (i := i) (v := v) t (by simpa using e)
    exact ⟨d, by simpa using h1, h2⟩
theorem Reps.drop : ∀ {vs : List V} {ds : List D} (n : Nat), Reps L m G vs ds → Reps L m G (vs.drop n) (ds.drop n)
  | _, _, 0, h => h
  | _, _, _ + 1, .nil => .nil
  | _, _, n + 1, .cons _ t => Reps.drop n t
theorem Reps.take : ∀ {vs : List V} {ds : List D} (n : Nat), Reps L m G vs ds → Reps L m G (vs.take n) (ds.take n)
  | _, _, 0, _ => .nil
  | _, _, _ + 1, .nil => .nil
  | _, _, n + 1, .cons h t => .cons h (Reps.take n t)
theorem Reps.set {v : V} {d : D} (h : Rep L m G v d) : ∀ {vs : List V} {ds : List D} (i : Nat), Reps L m G vs ds → Reps L m G (vs.set i v) (ds.set i d)
  | _, _, _, .nil => .nil
  | _, _, 0, .cons _ t => .cons h t
  | _, _, i + 1, .cons q t => .cons q (Reps.set h i t)
theorem Reps.rep {vs : List V} {ds : List D} (h : Reps L m G vs ds) : ∀ k : Nat, Reps L m G (List.replicate k vs).flatten (List.replicate k ds).flatten
  | 0 => .nil
  | k + 1 => by
    rw [List.replicate_succ, List.replicate_succ, List.flatten_cons, List.flatten_cons]
    exact h.append (Reps.rep h k)
theorem Reps.ints : ∀ {vs : List V} {ds : List D} {is : List Int}, Reps L m G vs ds → intsOf ds = some is → vs = is.map V.int
  | _, _, is, .nil, e => by
    have : is = [] := by simpa [intsOf] using e.symm
    subst this; rfl
  | _, _, is, .cons h t, e => by
    rename_i v vs d ds
    cases d with
    | int i =>
      unfold intsOf at e
      split at e
      · rename_i is' e'
        cases e
        cases h with
        | int _ => rw [List.map_cons, Reps.ints t e']
        | obj hg hc => cases hc
      · cases e
    | _ => simp [intsOf] at e
end

/-- the addresses of the sources of draws -/
def hs (m : List (Addr × Addr)) : List Addr := m.flatMap fun p => [p.1, p.2]
theorem mem_hs {m : List (Addr × Addr)} {n : Nat} {a b : Addr} (h : m[n]? = some (a, b)) : a ∈ hs m ∧ b ∈ hs m := by
  have := List.mem_of_getElem? h
  unfold hs
  exact ⟨List.mem_flatMap.mpr ⟨_, this, by simp⟩, List.mem_flatMap.mpr ⟨_, this, by simp⟩⟩
theorem hs_prefix {m m' : List (Addr × Addr)} (h : m <+: m') {a : Addr} (e : a ∈ hs m) : a ∈ hs m' := by
  obtain ⟨r, rfl⟩ := h
  unfold hs at e ⊢
  rw [List.flatMap_append]
  exact List.mem_append_left _ e

/-- the world: what is settled (G) stands, each source of draws stands and is in nothing that is settled -/
structure Wd (L : Lay) (s : Sto) (m : List (Addr × Addr)) (G H : Hp) : Prop where
  sub : Same G H
  len : m.length = s.length
  hnd : ∀ (n : Nat) (st : Int) (cells : List Int) (ix : Int) (a b : Addr), s[n]? = some (So.dr st cells ix) → m[n]? = some (a, b) → H a = some (.lst [.int st, .ref b, .int ix]) ∧ H b = some (.lst (cells.map V.int))
  off : ∀ a, a ∈ hs m → G a = none ∧ H a ≠ none
  dis : (hs m).Nodup

/-- from one state to a later one: what was settled stays so, what was nobody's (and no source's) stays as it was and is not settled -/
structure Stp (m : List (Addr × Addr)) (G H : Hp) (m' : List (Addr × Addr)) (G' H' : Hp) : Prop where
  pre : m <+: m'
  keep : Same G G'
  frame : ∀ a x, H a = some x → G a = none → a ∉ hs m → H' a = some x ∧ G' a = none
  fresh : ∀ a, a ∈ hs m' → a ∉ hs m → H a = none

theorem Stp.refl (m : List (Addr × Addr)) (G H : Hp) : Stp m G H m G H := ⟨List.prefix_refl _, Same.refl _, fun _ _ h g _ => ⟨h, g⟩, fun _ h h' => absurd h h'⟩
section
variable {L : Lay} {s s1 s2 : Sto} {m m1 m2 : List (Addr × Addr)} {G H G1 H1 G2 H2 : Hp}
theorem Stp.off (t : Stp m G H m1 G1 H1) {a : Addr} {x : HO} (h : H a = some x) (n : a ∉ hs m) : a ∉ hs m1 := fun q => by
  have := t.fresh a q n
  rw [h] at this; cases this
theorem Stp.trans (w1 : Wd L s1 m1 G1 H1) (w : Wd L s m G H) (t : Stp m G H m1 G1 H1) (u : Stp m1 G1 H1 m2 G2 H2) : Stp m G H m2 G2 H2 where
  pre := t.pre.trans u.pre
  keep := t.keep.trans u.keep
  frame := fun a x h g n => by
    obtain ⟨h1, g1⟩ := t.frame a x h g n
    exact u.frame a x h1 g1 (t.off h n)
  fresh := fun a h n => by
    by_cases q : a ∈ hs m1
    · exact t.fresh a q n
    · have z := u.fresh a h q
      cases e : H a with
      | none => rfl
      | some x =>
        cases eg : G a with
        | none => rw [(t.frame a x e eg n).1] at z; cases z
        | some y => rw [w1.sub _ _ (t.keep _ _ eg)] at z; cases z
/-- a new object, settled -/
theorem Stp.new (w : Wd L s m G H) {p : Addr} (n : H p = none) (o : HO) : Stp m G H m (upd G p o) (upd H p o) where
  pre := List.prefix_refl _
  keep := fun b x h => by
    have : b ≠ p := fun e => by rw [e, w.sub.free n] at h; cases h
    rw [upd_ne this]; exact h
  frame := fun a x h g _ => by
    have : a ≠ p := fun e => by rw [e, n] at h; cases h
    rw [upd_ne this, upd_ne this]; exact ⟨h, g⟩
  fresh := fun a h h' => absurd h h'
theorem Wd.new (w : Wd L s m G H) {p : Addr} (n : H p = none) (o : HO) : Wd L s m (upd G p o) (upd H p o) where
  sub := fun b x h => by
    by_cases e : b = p
    · subst e; rw [upd_same] at h ⊢; exact h
    · rw [upd_ne e] at h ⊢; exact w.sub _ _ h
  len := w.len
  hnd := fun k st cells ix a b h1 h2 => by
    obtain ⟨e1, e2⟩ := w.hnd k st cells ix a b h1 h2
    rw [upd_ne (ne_of_none e1 n), upd_ne (ne_of_none e2 n)]
    exact ⟨e1, e2⟩
  off := fun a h => by
    obtain ⟨e1, e2⟩ := w.off a h
    have : a ≠ p := fun e => by rw [e] at e2; exact e2 n
    rw [upd_ne this, upd_ne this]; exact ⟨e1, e2⟩
  dis := w.dis
/-- a new object, nobody's yet -/
theorem Stp.lay {p : Addr} (n : H p = none) (o : HO) : Stp m G H m G (upd H p o) where
  pre := List.prefix_refl _
  keep := Same.refl _
  frame := fun a x h g _ => by
    have : a ≠ p := fun e => by rw [e, n] at h; cases h
    rw [upd_ne this]; exact ⟨h, g⟩
  fresh := fun a h h' => absurd h h'
theorem Wd.lay (w : Wd L s m G H) {p : Addr} (n : H p = none) (o : HO) : Wd L s m G (upd H p o) where
  sub := fun b x h => by
    have : b ≠ p := fun e => by rw [e, w.sub.free n] at h; cases h
    rw [upd_ne this]; exact w.sub _ _ h
  len := w.len
  hnd := fun k st cells ix a b h1 h2 => by
    obtain ⟨e1, e2⟩ := w.hnd k st cells ix a b h1 h2
    rw [upd_ne (ne_of_none e1 n), upd_ne (ne_of_none e2 n)]
    exact ⟨e1, e2⟩
  off := fun a h => by
    obtain ⟨e1, e2⟩ := w.off a h
    have : a ≠ p := fun e => by rw [e] at e2; exact e2 n
    rw [upd_ne this]; exact ⟨e1, e2⟩
  dis := w.dis
/-- what is nobody's is changed -/
theorem Wd.put (w : Wd L s m G H) {p : Addr} (g : G p = none) (n : p ∉ hs m) (o : HO) : Wd L s m G (upd H p o) where
  sub := fun b x h => by
    have : b ≠ p := fun e => by rw [e, g] at h; cases h
    rw [upd_ne this]; exact w.sub _ _ h
  len := w.len
  hnd := fun k st cells ix a b h1 h2 => by
    obtain ⟨e1, e2⟩ := w.hnd k st cells ix a b h1 h2
    obtain ⟨q1, q2⟩ := mem_hs h2
    rw [upd_ne (show a ≠ p from fun e => n (e ▸ q1)), upd_ne (show b ≠ p from fun e => n (e ▸ q2))]
    exact ⟨e1, e2⟩
  off := fun a h => by
    obtain ⟨e1, e2⟩ := w.off a h
    rw [upd_ne (show a ≠ p from fun e => n (e ▸ h))]; exact ⟨e1, e2⟩
  dis := w.dis
/-- what is nobody's is settled -/
theorem Wd.settle (w : Wd L s m G H) {p : Addr} {o : HO} (h : H p = some o) (n : p ∉ hs m) : Wd L s m (upd G p o) H where
  sub := fun b x e => by
    by_cases q : b = p
    · subst q; rw [upd_same] at e; cases e; exact h
    · rw [upd_ne q] at e; exact w.sub _ _ e
  len := w.len
  hnd := w.hnd
  off := fun a e => by
    obtain ⟨e1, e2⟩ := w.off a e
    rw [upd_ne (show a ≠ p from fun q => n (q ▸ e))]; exact ⟨e1, e2⟩
  dis := w.dis
end

/-- a value that is looked at: settled, or the frame's own -/
inductive RB (L : Lay) (m : List (Addr × Addr)) (G H : Hp) (v : V) (d : D) : Prop
  | rep (h : Rep L m G v d)
  | own {a : Addr} {o : HO} (e : v = .ref a) (g : G a = none) (n : a ∉ hs m) (h : H a = some o) (c : Cont L m G o d)
section
variable {L : Lay} {s s1 s2 : Sto} {m m1 m2 : List (Addr × Addr)} {G H G1 H1 G2 H2 : Hp} {v : V} {d : D}
theorem RB.step (r : RB L m G H v d) (t : Stp m G H m1 G1 H1) : RB L m1 G1 H1 v d := by
  cases r with
  | rep h => exact .rep (h.mono t.pre t.keep)
  | own e g n h c =>
    obtain ⟨h1, g1⟩ := t.frame _ _ h g n
    exact .own e g1 (t.off h n) h1 (c.mono t.pre t.keep)
/-- what stands there -/
theorem RB.tup {ds : List D} (r : RB L m G H v (.tup ds)) (w : Wd L s m G H) : ∃ a vs, v = .ref a ∧ H a = some (.tup vs) ∧ Reps L m G vs ds := by
  cases r with
  | rep h =>
    cases h with
    | obj hg hc => cases hc with | tup hr => exact ⟨_, _, rfl, w.sub _ _ hg, hr⟩
  | own e g n h c => cases c with | tup hr => exact ⟨_, _, e, h, hr⟩
theorem RB.lst {ds : List D} (r : RB L m G H v (.lst ds)) (w : Wd L s m G H) : ∃ a vs, v = .ref a ∧ H a = some (.lst vs) ∧ Reps L m G vs ds := by
  cases r with
  | rep h =>
    cases h with
    | obj hg hc => cases hc with | lst hr => exact ⟨_, _, rfl, w.sub _ _ hg, hr⟩
  | own e g n h c => cases c with | lst hr => exact ⟨_, _, e, h, hr⟩
theorem RB.dK {kds : List (Key × D)} (r : RB L m G H v (.dK kds)) (w : Wd L s m G H) : ∃ a kvs, v = .ref a ∧ H a = some (.dK kvs) ∧ kvs.map (·.1) = kds.map (·.1) ∧ Reps L m G (kvs.map (·.2)) (kds.map (·.2)) := by
  cases r with
  | rep h =>
    cases h with
    | obj hg hc => cases hc with | dK hk hr => exact ⟨_, _, rfl, w.sub _ _ hg, hk, hr⟩
  | own e g n h c => cases c with | dK hk hr => exact ⟨_, _, e, h, hk, hr⟩
theorem RB.dT {kds : List (List Key × D)} (r : RB L m G H v (.dT kds)) (w : Wd L s m G H) : ∃ a kvs, v = .ref a ∧ H a = some (.dT kvs) ∧ kvs.map (·.1) = kds.map (·.1) ∧ Reps L m G (kvs.map (·.2)) (kds.map (·.2)) := by
  cases r with
  | rep h =>
    cases h with
    | obj hg hc => cases hc with | dT hk hr => exact ⟨_, _, rfl, w.sub _ _ hg, hk, hr⟩
  | own e g n h c => cases c with | dT hk hr => exact ⟨_, _, e, h, hk, hr⟩
theorem RB.ins {k : Cl} {ds : List D} (r : RB L m G H v (.ins k ds)) (w : Wd L s m G H) : ∃ a dx vs, v = .ref a ∧ H a = some (.ins (L.cls k) dx ((fields k).zip vs)) ∧ Reps L m G vs ds ∧ ds.length ≤ (fields k).length ∧ L.has k = true := by
  cases r with
  | rep h =>
    cases h with
    | obj hg hc => cases hc with | ins hr hl hk => exact ⟨_, _, _, rfl, w.sub _ _ hg, hr, hl, hk⟩
  | own e g n h c => cases c with | ins hr hl hk => exact ⟨_, _, _, e, h, hr, hl, hk⟩
theorem RB.int {i : Int} (r : RB L m G H v (.int i)) : v = .int i := by
  cases r with
  | rep h =>
    cases h with
    | int => rfl
    | obj hg hc => cases hc
  | own e g n h c => cases c
theorem RB.bl {i : Bool} (r : RB L m G H v (.bl i)) : v = .bl i := by
  cases r with
  | rep h =>
    cases h with
    | bl => rfl
    | obj hg hc => cases hc
  | own e g n h c => cases c
theorem RB.str {i : Str} (r : RB L m G H v (.str i)) : v = .str i := by
  cases r with
  | rep h =>
    cases h with
    | str => rfl
    | obj hg hc => cases hc
  | own e g n h c => cases c
theorem RB.non (r : RB L m G H v .non) : v = .non := by
  cases r with
  | rep h =>
    cases h with
    | non => rfl
    | obj hg hc => cases hc
  | own e g n h c => cases c
end

/-- the slots: W are those that own what they hold -/
structure Sl (L : Lay) (W : List Nat) (ρ : Env) (σ : L2.St) (m : List (Addr × Addr)) (G H : Hp) : Prop where
  len : ρ.length = σ.length
  sh : ∀ i d, ρ[i]? = some (some d) → i ∉ W → ∃ v, σ[i]? = some (some v) ∧ Rep L m G v d
  ow : ∀ i d, ρ[i]? = some (some d) → i ∈ W → ∃ a o, σ[i]? = some (some (.ref a)) ∧ G a = none ∧ a ∉ hs m ∧ H a = some o ∧ Cont L m G o d
  dj : ∀ i j a d e, i ∈ W → j ∈ W → ρ[i]? = some (some d) → ρ[j]? = some (some e) → σ[i]? = some (some (.ref a)) → σ[j]? = some (some (.ref a)) → i = j
section
variable {L : Lay} {W : List Nat} {ρ : Env} {σ : L2.St} {s s1 : Sto} {m m1 : List (Addr × Addr)} {G H G1 H1 : Hp}
theorem Sl.step (q : Sl L W ρ σ m G H) (t : Stp m G H m1 G1 H1) : Sl L W ρ σ m1 G1 H1 where
  len := q.len
  sh := fun i d e n => by
    obtain ⟨v, h1, h2⟩ := q.sh i d e n
    exact ⟨v, h1, h2.mono t.pre t.keep⟩
  ow := fun i d e n => by
    obtain ⟨a, o, h1, h2, h3, h4, h5⟩ := q.ow i d e n
    obtain ⟨x1, x2⟩ := t.frame a o h4 h2 h3
    exact ⟨a, o, h1, x2, t.off h4 h3, x1, h5.mono t.pre t.keep⟩
  dj := q.dj
theorem Sl.look (q : Sl L W ρ σ m G H) {i : Nat} {d : D} (e : ρ[i]? = some (some d)) : ∃ v, σ[i]? = some (some v) ∧ RB L m G H v d := by
  by_cases h : i ∈ W
  · obtain ⟨a, o, h1, h2, h3, h4, h5⟩ := q.ow i d e h
    exact ⟨_, h1, .own rfl h2 h3 h4 h5⟩
  · obtain ⟨v, h1, h2⟩ := q.sh i d e h
    exact ⟨v, h1, .rep h2⟩
theorem set_get {α : Type} {l : List (Option α)} {i j : Nat} {x : Option α} {d : α} (h : (l.set i x)[j]? = some (some d)) : (j = i ∧ x = some d ∧ i < l.length) ∨ (j ≠ i ∧ l[j]? = some (some d)) := by
  by_cases e : j = i
  · subst e
    by_cases q : j < l.length
    · rw [List.getElem?_set_self q] at h; exact .inl ⟨rfl, Option.some.inj h, q⟩
    · rw [List.getElem?_eq_none (by simpa using q)] at h; cases h
  · rw [List.getElem?_set_ne (Ne.symm e)] at h; exact .inr ⟨e, h⟩
/-- a settled value goes to a slot that owns nothing -/
theorem Sl.set (q : Sl L W ρ σ m G H) {i : Nat} {v : V} {d : D} (n : i ∉ W) (r : Rep L m G v d) : Sl L W (ρ.set i (some d)) (σ.set i (some v)) m G H where
  len := by simp [q.len]
  sh := fun j d' e hj => by
    rcases set_get e with ⟨rfl, h1, h2⟩ | ⟨h1, h2⟩
    · cases h1
      exact ⟨v, List.getElem?_set_self (by rw [← q.len]; exact h2), r⟩
    · obtain ⟨w, x1, x2⟩ := q.sh j d' h2 hj
      exact ⟨w, by rw [List.getElem?_set_ne (Ne.symm h1)]; exact x1, x2⟩
  ow := fun j d' e hj => by
    rcases set_get e with ⟨rfl, _⟩ | ⟨h1, h2⟩
    · exact absurd hj n
    · obtain ⟨a, o, x1, x2⟩ := q.ow j d' h2 hj
      exact ⟨a, o, by rw [List.getElem?_set_ne (Ne.symm h1)]; exact x1, x2⟩
  dj := fun j k a d1 d2 hj hk e1 e2 f1 f2 => by
    rcases set_get e1 with ⟨rfl, _⟩ | ⟨h1, h2⟩
    · exact absurd hj n
    rcases set_get e2 with ⟨rfl, _⟩ | ⟨h3, h4⟩
    · exact absurd hk n
    rw [List.getElem?_set_ne (Ne.symm h1)] at f1
    rw [List.getElem?_set_ne (Ne.symm h3)] at f2
    exact q.dj j k a d1 d2 hj hk h2 h4 f1 f2
/-- a slot is emptied -/
theorem Sl.wipe1 (q : Sl L W ρ σ m G H) (i : Nat) : Sl L W (ρ.set i none) (σ.set i none) m G H where
  len := by simp [q.len]
  sh := fun j d' e hj => by
    rcases set_get e with ⟨_, h, _⟩ | ⟨h1, h2⟩
    · cases h
    · obtain ⟨w, x1, x2⟩ := q.sh j d' h2 hj
      exact ⟨w, by rw [List.getElem?_set_ne (Ne.symm h1)]; exact x1, x2⟩
  ow := fun j d' e hj => by
    rcases set_get e with ⟨_, h, _⟩ | ⟨h1, h2⟩
    · cases h
    · obtain ⟨a, o, x1, x2⟩ := q.ow j d' h2 hj
      exact ⟨a, o, by rw [List.getElem?_set_ne (Ne.symm h1)]; exact x1, x2⟩
  dj := fun j k a d1 d2 hj hk e1 e2 f1 f2 => by
    rcases set_get e1 with ⟨_, h, _⟩ | ⟨h1, h2⟩
    · cases h
    rcases set_get e2 with ⟨_, h, _⟩ | ⟨h3, h4⟩
    · cases h
    rw [List.getElem?_set_ne (Ne.symm h1)] at f1
    rw [List.getElem?_set_ne (Ne.symm h3)] at f2
    exact q.dj j k a d1 d2 hj hk h2 h4 f1 f2
/-- a slot comes to own a new object -/
theorem Sl.own (q : Sl L W ρ σ m G H) {i : Nat} {a : Addr} {o : HO} {d : D} (g : G a = none) (n : a ∉ hs m) (h : H a = some o) (c : Cont L m G o d)
    (new : ∀ j d, j ∈ W → j ≠ i → ρ[j]? = some (some d) → σ[j]? ≠ some (some (.ref a))) : Sl L (i :: W) (ρ.set i (some d)) (σ.set i (some (.ref a))) m G H where
  len := by simp [q.len]
  sh := fun j d' e hj => by
    rcases set_get e with ⟨rfl, _⟩ | ⟨h1, h2⟩
    · exact absurd List.mem_cons_self hj
    · obtain ⟨w, x1, x2⟩ := q.sh j d' h2 fun z => hj (List.mem_cons_of_mem _ z)
      exact ⟨w, by rw [List.getElem?_set_ne (Ne.symm h1)]; exact x1, x2⟩
  ow := fun j d' e hj => by
    rcases set_get e with ⟨rfl, h1, h2⟩ | ⟨h1, h2⟩
    · cases h1
      exact ⟨a, o, List.getElem?_set_self (by rw [← q.len]; exact h2), g, n, h, c⟩
    · obtain ⟨b, o', x1, x2⟩ := q.ow j d' h2 ((List.mem_cons.mp hj).resolve_left h1)
      exact ⟨b, o', by rw [List.getElem?_set_ne (Ne.symm h1)]; exact x1, x2⟩
  dj := fun j k b d1 d2 hj hk e1 e2 f1 f2 => by
    rcases set_get e1 with ⟨rfl, _, l1⟩ | ⟨h1, h2⟩
    · rcases set_get e2 with ⟨rfl, _⟩ | ⟨h3, h4⟩
      · rfl
      · rw [List.getElem?_set_self (by rw [← q.len]; exact l1)] at f1
        rw [List.getElem?_set_ne (Ne.symm h3)] at f2
        cases f1
        exact absurd f2 (new k d2 ((List.mem_cons.mp hk).resolve_left h3) h3 h4)
    · rcases set_get e2 with ⟨rfl, _, l1⟩ | ⟨h3, h4⟩
      · rw [List.getElem?_set_self (by rw [← q.len]; exact l1)] at f2
        rw [List.getElem?_set_ne (Ne.symm h1)] at f1
        cases f2
        exact absurd f1 (new j d1 ((List.mem_cons.mp hj).resolve_left h1) h1 h2)
      · rw [List.getElem?_set_ne (Ne.symm h1)] at f1
        rw [List.getElem?_set_ne (Ne.symm h3)] at f2
        exact q.dj j k b d1 d2 ((List.mem_cons.mp hj).resolve_left h1) ((List.mem_cons.mp hk).resolve_left h3) h2 h4 f1 f2
theorem Sl.sub {W' : List Nat} (q : Sl L W ρ σ m G H) (h1 : ∀ i, i ∈ W' → i ∈ W) (h2 : ∀ i, i ∈ W → i ∈ W') : Sl L W' ρ σ m G H :=
  ⟨q.len, fun i d e n => q.sh i d e fun z => n (h2 i z), fun i d e n => q.ow i d e (h1 i n), fun i j a d e hi hj => q.dj i j a d e (h1 i hi) (h1 j hj)⟩
/-- the object of a slot is changed -/
theorem Sl.put (q : Sl L W ρ σ m G H) {i : Nat} {a : Addr} {o : HO} {d0 d : D} (hi : i ∈ W) (e0 : ρ[i]? = some (some d0)) (ha : σ[i]? = some (some (.ref a))) (c : Cont L m G o d) : Sl L W (ρ.set i (some d)) σ m G (upd H a o) where
  len := by simp [q.len]
  sh := fun j d' e hj => by
    rcases set_get e with ⟨rfl, _⟩ | ⟨h1, h2⟩
    · exact absurd hi hj
    · exact q.sh j d' h2 hj
  ow := fun j d' e hj => by
    obtain ⟨b, ob, y1, y2, y3, y4, y5⟩ := q.ow i d0 e0 hi
    rw [ha] at y1; cases y1
    rcases set_get e with ⟨rfl, h1, h2⟩ | ⟨h1, h2⟩
    · cases h1
      exact ⟨a, o, ha, y2, y3, upd_same, c⟩
    · obtain ⟨b', o', x1, x2, x3, x4, x5⟩ := q.ow j d' h2 hj
      have : b' ≠ a := fun z => h1 (q.dj j i a d' d0 hj hi h2 e0 (z ▸ x1) ha)
      exact ⟨b', o', x1, x2, x3, by rw [upd_ne this]; exact x4, x5⟩
  dj := fun j k b d1 d2 hj hk e1 e2 f1 f2 => by
    have g : ∀ {x : Nat} {dx : D}, (ρ.set i (some d))[x]? = some (some dx) → ∃ dy, ρ[x]? = some (some dy) := fun {x dx} e => by
      rcases set_get e with ⟨rfl, _⟩ | ⟨_, h2⟩
      · exact ⟨_, e0⟩
      · exact ⟨_, h2⟩
    obtain ⟨y1, z1⟩ := g e1
    obtain ⟨y2, z2⟩ := g e2
    exact q.dj j k b y1 y2 hj hk z1 z2 f1 f2
/-- a slot gives up its object: it is settled -/
theorem Sl.give (q : Sl L W ρ σ m G H) (w : Wd L s m G H) {i : Nat} (hi : i ∈ W) : ∃ G', Same G G' ∧ (∀ a x, H a = some x → G a = none → a ∉ hs m → (∀ d, ρ[i]? = some (some d) → σ[i]? ≠ some (some (.ref a))) → G' a = none) ∧ Wd L s m G' H ∧ Sl L (W.filter (· != i)) ρ σ m G' H := by
  have mem : ∀ j, j ∈ W.filter (· != i) ↔ j ∈ W ∧ j ≠ i := fun j => by simp
  cases e : ρ[i]? with
  | none =>
    refine ⟨G, Same.refl _, fun a x _ g _ _ => g, w, q.len, fun j d' ej hj => ?_, fun j d' ej hj => q.ow j d' ej ((mem j).mp hj).1, fun j k a d1 d2 hj hk => q.dj j k a d1 d2 ((mem j).mp hj).1 ((mem k).mp hk).1⟩
    have : j ≠ i := fun z => by subst z; rw [e] at ej; cases ej
    exact q.sh j d' ej fun z => hj ((mem j).mpr ⟨z, this⟩)
  | some od =>
    cases od with
    | none =>
      refine ⟨G, Same.refl _, fun a x _ g _ _ => g, w, q.len, fun j d' ej hj => ?_, fun j d' ej hj => q.ow j d' ej ((mem j).mp hj).1, fun j k a d1 d2 hj hk => q.dj j k a d1 d2 ((mem j).mp hj).1 ((mem k).mp hk).1⟩
      have : j ≠ i := fun z => by subst z; rw [e] at ej; cases ej
      exact q.sh j d' ej fun z => hj ((mem j).mpr ⟨z, this⟩)
    | some d =>
      obtain ⟨a, o, h1, h2, h3, h4, h5⟩ := q.ow i d e hi
      have sm : Same G (upd G a o) := fun b x z => by
        have : b ≠ a := fun q => by rw [q, h2] at z; cases z
        rw [upd_ne this]; exact z
      refine ⟨upd G a o, sm, fun b x hb g hn hd => ?_, w.settle h4 h3, q.len, fun j d' ej hj => ?_, fun j d' ej hj => ?_, fun j k a d1 d2 hj hk => q.dj j k a d1 d2 ((mem j).mp hj).1 ((mem k).mp hk).1⟩
      · have : b ≠ a := fun z => hd d rfl (z ▸ h1)
        rw [upd_ne this]; exact g
      · by_cases z : j = i
        · subst z
          rw [e] at ej; cases ej
          exact ⟨_, h1, .obj upd_same (h5.mono (List.prefix_refl _) sm)⟩
        · obtain ⟨v, x1, x2⟩ := q.sh j d' ej fun y => hj ((mem j).mpr ⟨y, z⟩)
          exact ⟨v, x1, x2.mono (List.prefix_refl _) sm⟩
      · obtain ⟨y1, y2⟩ := (mem j).mp hj
        obtain ⟨b, o', x1, x2, x3, x4, x5⟩ := q.ow j d' ej y1
        have : b ≠ a := fun z => y2 (q.dj j i a d' d y1 hi ej e (z ▸ x1) h1)
        exact ⟨b, o', x1, by rw [upd_ne this]; exact x2, x3, x4, x5.mono (List.prefix_refl _) sm⟩
end
end MP

end
section
set_option Elab.async false
set_option linter.all false
set_option maxRecDepth 100000
set_option maxHeartbeats 1000000
/-! Expressions: the reading by functions is kept by the layer's readings. -/
namespace MP
open PySem L2

theorem PE.imp {X : Cx} {e : Expr} {t t' : TE} (h : PE X e t) (f : ∀ σ H Q, t' σ H Q → t σ H Q) : PE X e t' := ⟨fun pins s σ H Q I q => h.run pins s σ H Q I (f σ H Q q)⟩
theorem PE.or {X : Cx} {e : Expr} {t t' : TE} (h : PE X e t) (h' : PE X e t') : PE X e (fun σ H Q => t σ H Q ∨ t' σ H Q) := ⟨fun pins s σ H Q I q => q.elim (h.run pins s σ H Q I) (h'.run pins s σ H Q I)⟩
theorem PT.imp {X : Cx} {e : Expr} {t t' : TT} (h : PT X e t) (f : ∀ σ H Q, t' σ H Q → t σ H Q) : PT X e t' := ⟨fun pins s σ H Q I q => h.run pins s σ H Q I (f σ H Q q)⟩
theorem PT.or {X : Cx} {e : Expr} {t t' : TT} (h : PT X e t) (h' : PT X e t') : PT X e (fun σ H Q => t σ H Q ∨ t' σ H Q) := ⟨fun pins s σ H Q I q => q.elim (h.run pins s σ H Q I) (h'.run pins s σ H Q I)⟩
theorem PW.imp {X : Cx} {e : Expr} {t t' : TT} (h : PW X e t) (f : ∀ σ H Q, t' σ H Q → t σ H Q) : PW X e t' := ⟨fun wh pins s σ H Q I q => h.run wh pins s σ H Q I (f σ H Q q)⟩
theorem PC.imp {X : Cx} {op : CmpOp} {a b : Expr} {t t' : TE} (h : PC X op a b t) (f : ∀ σ H Q, t' σ H Q → t σ H Q) : PC X op a b t' := ⟨fun pins s σ H Q I q => h.run pins s σ H Q I (f σ H Q q)⟩
theorem PC.or {X : Cx} {op : CmpOp} {a b : Expr} {t t' : TE} (h : PC X op a b t) (h' : PC X op a b t') : PC X op a b (fun σ H Q => t σ H Q ∨ t' σ H Q) := ⟨fun pins s σ H Q I q => q.elim (h.run pins s σ H Q I) (h'.run pins s σ H Q I)⟩
theorem PA.imp {X : Cx} {es : List Expr} {t t' : TA} (h : PA X es t) (f : ∀ σ H Q, t' σ H Q → t σ H Q) : PA X es t' := ⟨fun pos pins s σ H Q I q => h.run pos pins s σ H Q I (f σ H Q q)⟩
theorem PS.imp {X : Cx} {st : Stmt} {t t' : TS} (h : PS X st t) (f : ∀ D σ H, t' D σ H → t D σ H) : PS X st t' := ⟨fun pins s σ H D I q => h.run pins s σ H D I (f D σ H q)⟩
theorem PSs.imp {X : Cx} {st : List Stmt} {t t' : TS} (h : PSs X st t) (f : ∀ D σ H, t' D σ H → t D σ H) : PSs X st t' := ⟨fun pins s σ H D I q => h.run pins s σ H D I (f D σ H q)⟩
theorem PO.imp {X : Cx} {e : Option Expr} {t t' : TO} (h : PO X e t) (f : ∀ σ H Q, t' σ H Q → t σ H Q) : PO X e t' := ⟨fun pins s σ H Q I q => h.run pins s σ H Q I (f σ H Q q)⟩

/-! ### behind a step -/
/-- an error's fields by class -/
def xfields : Cl → List Str
  | .err 3 => [⟨#[105, 110, 100, 101, 120]⟩]
  | .err 12 => [⟨#[105, 110, 100, 101, 120]⟩]
  | .err 17 => [⟨#[108, 105, 110, 101]⟩, ⟨#[119, 111, 114, 100]⟩]
  | _ => []
def ExR (L : Lay) (m : List (Addr × Addr)) (G H : Hp) (k : Cl) (ds : List D) (dd : Option Addr) : Prop :=
  (ds = [] ∧ dd = none) ∨ ∃ d vs, dd = some d ∧ H d = some (.xd ((xfields k).zip vs)) ∧ Reps L m G vs ds ∧ ds.length = (xfields k).length ∧ ds ≠ []
def Aft {α : Type} (L : Lay) (Wx : WX) (σ : L2.St) (m : List (Addr × Addr)) (G H : Hp) (r : Rs α) (K : α → Sto → List (Addr × Addr) → Hp → Hp → Prop) : Prop :=
  match r with
  | .ok a s' => ∀ m' G' H', Stp m G H m' G' H' → Wd L s' m' G' H' → K a s' m' G' H'
  | .ex k ds s' => ∀ m' G' H' dd, Stp m G H m' G' H' → Wd L s' m' G' H' → ExR L m' G' H' k ds dd → Wx (.ref (L.cls k)) dd σ H'
  | .st => False
section
variable {α β : Type} {L : Lay} {Wx : WX} {σ : L2.St} {s s1 : Sto} {m m1 : List (Addr × Addr)} {G H G1 H1 : Hp} {r : Rs α} {K K' : α → Sto → List (Addr × Addr) → Hp → Hp → Prop} {J : β → Sto → List (Addr × Addr) → Hp → Hp → Prop}
theorem Aft.imp (A : Aft L Wx σ m G H r K) (h : ∀ a s' m' G' H', Stp m G H m' G' H' → Wd L s' m' G' H' → K a s' m' G' H' → K' a s' m' G' H') : Aft L Wx σ m G H r K' := by
  cases r with
  | ok a s' => exact fun m' G' H' t w => h a s' m' G' H' t w (A m' G' H' t w)
  | ex k ds s' => exact A
  | st => exact A
theorem Aft.step (w : Wd L s m G H) (w1 : Wd L s1 m1 G1 H1) (t : Stp m G H m1 G1 H1) (A : Aft L Wx σ m G H r K) : Aft L Wx σ m1 G1 H1 r K := by
  cases r with
  | ok a s' => exact fun m' G' H' u w' => A m' G' H' (Stp.trans w1 w t u) w'
  | ex k ds s' => exact fun m' G' H' dd u w' => A m' G' H' dd (Stp.trans w1 w t u) w'
  | st => exact A
theorem Aft.bind {f : α → Sto → Rs β} (w : Wd L s m G H) (A : Aft L Wx σ m G H (r.bind f) J) : Aft L Wx σ m G H r fun a s1 m1 G1 H1 => Aft L Wx σ m1 G1 H1 (f a s1) J := by
  cases r with
  | ok a s1 => exact fun m1 G1 H1 t w1 => Aft.step w w1 t A
  | ex k ds s' => exact A
  | st => exact A
theorem Aft.opt {o : Option α} (A : Aft L Wx σ m G H (Rs.opt o s) K) : ∃ d, o = some d ∧ ∀ m' G' H', Stp m G H m' G' H' → Wd L s m' G' H' → K d s m' G' H' := by
  cases o with
  | none => exact False.elim A
  | some d => exact ⟨d, rfl, A⟩
theorem Aft.ok {a : α} (A : Aft L Wx σ m G H (.ok a s) K) (w : Wd L s m G H) : K a s m G H := A m G H (Stp.refl _ _ _) w
end

section
variable (L : Lay) (c : Cfg) (Wx : WX) (W : List Nat)
/-- a settled value -/
def tE (e : E) : TE := fun σ H Q => ∃ ρ s m G, Wd L s m G H ∧ Sl L W ρ σ m G H ∧ Aft L Wx σ m G H (ev c e ρ s) fun d _ m' G' H' => ∀ v, Rep L m' G' v d → Q v H'
/-- a value to be looked at -/
def tB (e : E) : TE := fun σ H Q => ∃ ρ s m G, Wd L s m G H ∧ Sl L W ρ σ m G H ∧ Aft L Wx σ m G H (ev c e ρ s) fun d _ m' G' H' => ∀ v, RB L m' G' H' v d → Q v H'
/-- a new object, nobody's yet -/
def tO (e : E) : TE := fun σ H Q => ∃ ρ s m G, Wd L s m G H ∧ Sl L W ρ σ m G H ∧ Aft L Wx σ m G H (ev c e ρ s) fun d _ m' G' H' => ∀ a o, H a = none → G' a = none → a ∉ hs m' → H' a = some o → Cont L m' G' o d → Q (.ref a) H'
/-- its truth -/
def tT (e : E) : TT := fun σ H Q => ∃ ρ s m G, Wd L s m G H ∧ Sl L W ρ σ m G H ∧ Aft L Wx σ m G H ((ev c e ρ s).bind fun d s => Rs.opt (truD d) s) fun b _ m' G' H' => Q b H'
def tEs (es : Es) : TA := fun σ H Q => ∃ ρ s m G, Wd L s m G H ∧ Sl L W ρ σ m G H ∧ Aft L Wx σ m G H (evs c es ρ s) fun ds _ m' G' H' => ∀ vs, Reps L m' G' vs ds → Q vs H'
def tOe (e : Oe) : TO := fun σ H Q => ∃ ρ s m G, Wd L s m G H ∧ Sl L W ρ σ m G H ∧ Aft L Wx σ m G H (evo c e ρ s) fun o _ m' G' H' => Q o H'
end

section
variable {L : Lay} {c : Cfg} {Wx : WX} {W : List Nat} {X : Cx} {s : Sto} {m : List (Addr × Addr)} {G H : Hp} {d : D} {Q : VK}
theorem Stp.back {s1 : Sto} {m1 : List (Addr × Addr)} {G1 H1 : Hp} {p : Addr} (w1 : Wd L s1 m1 G1 H1) (t1 : Stp m G H m1 G1 H1) (np : H1 p = none) : H p = none := by
  cases e : H p with
  | none => rfl
  | some x =>
    cases eg : G p with
    | some y => rw [w1.sub _ _ (t1.keep _ _ eg)] at np; cases np
    | none =>
      by_cases z : p ∈ hs m
      · exact absurd np (w1.off p (hs_prefix t1.pre z)).2
      · rw [(t1.frame p x e eg z).1] at np; cases np
/-- a new settled value -/
theorem put_new {K : List (Addr × Addr) → Hp → Hp → Prop} {o : HO} {p : Addr} (w : Wd L s m G H) (n : H p = none) (c : Cont L m G o d)
    (q : ∀ m' G' H', Stp m G H m' G' H' → Wd L s m' G' H' → ∀ v, Rep L m' G' v d → Q v H') : Q (.ref p) (upd H p o) := by
  have t := Stp.new w n o
  exact q m (upd G p o) (upd H p o) t (w.new n o) (.ref p) (.obj upd_same (c.mono t.pre t.keep))
theorem PE.ofO {e : Expr} {e' : E} (h : PE X e (tO L c Wx W e')) : PE X e (tE L c Wx W e') := by
  refine PE.imp h fun σ H Q ⟨ρ, s, m, G, w, q, A⟩ => ⟨ρ, s, m, G, w, q, ?_⟩
  cases r : ev c e' ρ s with
  | st => rw [r] at A; exact A
  | ex k ds s' => rw [r] at A; exact A
  | ok d s' =>
    rw [r] at A
    intro m' G' H' t w' a o ha hg hn ho hc
    have t2 : Stp m G H m' (upd G' a o) H' := by
      refine ⟨t.pre, fun b x h => ?_, fun b x hb g n => ?_, t.fresh⟩
      · have : b ≠ a := fun e => by rw [e, w.sub.free ha] at h; cases h
        rw [upd_ne this]; exact t.keep _ _ h
      · have : b ≠ a := fun e => by rw [e, ha] at hb; cases hb
        rw [upd_ne this]; exact t.frame b x hb g n
    refine A m' (upd G' a o) H' t2 (w'.settle ho hn) (.ref a) (.obj upd_same (hc.mono (List.prefix_refl _) fun b x h => ?_))
    have : b ≠ a := fun e => by rw [e, hg] at h; cases h
    rw [upd_ne this]; exact h
theorem PE.look {e : Expr} {e' : E} (h : PE X e (tE L c Wx W e')) : PE X e (tB L c Wx W e') :=
  PE.imp h fun σ H Q ⟨ρ, s, m, G, w, q, A⟩ => ⟨ρ, s, m, G, w, q, A.imp fun d s' m' G' H' _ _ k v r => k v (.rep r)⟩
/-- one value on -/
theorem goB {e : E} {σ : L2.St} {ρ : Env} {R : V → Hp → Prop} {J : D → Sto → List (Addr × Addr) → Hp → Hp → Prop} (w : Wd L s m G H) (q : Sl L W ρ σ m G H) (A : Aft L Wx σ m G H (ev c e ρ s) J)
    (h : ∀ d s' m' G' H' v, Stp m G H m' G' H' → Wd L s' m' G' H' → Sl L W ρ σ m' G' H' → RB L m' G' H' v d → J d s' m' G' H' → R v H') : tB L c Wx W e σ H R :=
  ⟨ρ, s, m, G, w, q, A.imp fun d s' m' G' H' t w' j v r => h d s' m' G' H' v t w' (q.step t) r j⟩
theorem goE {e : E} {σ : L2.St} {ρ : Env} {R : V → Hp → Prop} {J : D → Sto → List (Addr × Addr) → Hp → Hp → Prop} (w : Wd L s m G H) (q : Sl L W ρ σ m G H) (A : Aft L Wx σ m G H (ev c e ρ s) J)
    (h : ∀ d s' m' G' H' v, Stp m G H m' G' H' → Wd L s' m' G' H' → Sl L W ρ σ m' G' H' → Rep L m' G' v d → J d s' m' G' H' → R v H') : tE L c Wx W e σ H R :=
  ⟨ρ, s, m, G, w, q, A.imp fun d s' m' G' H' t w' j v r => h d s' m' G' H' v t w' (q.step t) r j⟩
theorem goEs {es : Es} {σ : L2.St} {ρ : Env} {R : List V → Hp → Prop} {J : List D → Sto → List (Addr × Addr) → Hp → Hp → Prop} (w : Wd L s m G H) (q : Sl L W ρ σ m G H) (A : Aft L Wx σ m G H (evs c es ρ s) J)
    (h : ∀ d s' m' G' H' v, Stp m G H m' G' H' → Wd L s' m' G' H' → Sl L W ρ σ m' G' H' → Reps L m' G' v d → J d s' m' G' H' → R v H') : tEs L c Wx W es σ H R :=
  ⟨ρ, s, m, G, w, q, A.imp fun d s' m' G' H' t w' j v r => h d s' m' G' H' v t w' (q.step t) r j⟩
theorem goT {e : E} {σ : L2.St} {ρ : Env} {R : Bool → Hp → Prop} {J : Bool → Sto → List (Addr × Addr) → Hp → Hp → Prop} (w : Wd L s m G H) (q : Sl L W ρ σ m G H) (A : Aft L Wx σ m G H ((ev c e ρ s).bind fun d s => Rs.opt (truD d) s) J)
    (h : ∀ d s' m' G' H', Stp m G H m' G' H' → Wd L s' m' G' H' → Sl L W ρ σ m' G' H' → J d s' m' G' H' → R d H') : tT L c Wx W e σ H R :=
  ⟨ρ, s, m, G, w, q, A.imp fun d s' m' G' H' t w' j => h d s' m' G' H' t w' (q.step t) j⟩
end

theorem lim_eq : lim = sizeLine := by rw [sizeLine_eq]; rfl

/-! ### names and constants -/
section
variable {L : Lay} {c : Cfg} {Wx : WX} {W : List Nat} {X : Cx} {pos : Pos}
theorem s_varB {i : Nat} {x : Str} (hN : X.N[i]? = some x) (hv : Vis X.env.scope x) (hd : (x == ("__debug__" : Str)) = false) (hcd : (x == ("__classdict__" : Str)) = false) : PE X (.Name x pos) (tB L c Wx W (.var i)) := by
  refine PE.imp (pe_var hN hv hd hcd) fun σ H Q ⟨ρ, s, m, G, w, q, A⟩ => ?_
  unfold ev at A
  split at A
  · rename_i d e
    obtain ⟨v, h1, h2⟩ := q.look e
    exact ⟨v, h1, A.ok w v h2⟩
  · exact False.elim A
theorem s_var {i : Nat} {x : Str} (hW : i ∉ W) (hN : X.N[i]? = some x) (hv : Vis X.env.scope x) (hd : (x == ("__debug__" : Str)) = false) (hcd : (x == ("__classdict__" : Str)) = false) : PE X (.Name x pos) (tE L c Wx W (.var i)) := by
  refine PE.imp (pe_var hN hv hd hcd) fun σ H Q ⟨ρ, s, m, G, w, q, A⟩ => ?_
  unfold ev at A
  split at A
  · rename_i d e
    obtain ⟨v, h1, h2⟩ := q.sh i d e hW
    exact ⟨v, h1, A.ok w v h2⟩
  · exact False.elim A
theorem s_int {i : Int} {j : Nat} : PE X (.Constant (.int i) j pos) (tE L c Wx W (.int i)) := PE.imp pe_int fun σ H Q ⟨ρ, s, m, G, w, q, A⟩ => by unfold ev at A; exact A.ok w _ (.int i)
theorem s_str {i : Str} {j : Nat} : PE X (.Constant (.str i) j pos) (tE L c Wx W (.str i)) := PE.imp pe_str fun σ H Q ⟨ρ, s, m, G, w, q, A⟩ => by unfold ev at A; exact A.ok w _ (.str i)
theorem s_bl {i : Bool} {j : Nat} : PE X (.Constant (.bool i) j pos) (tE L c Wx W (.bl i)) := PE.imp pe_bl fun σ H Q ⟨ρ, s, m, G, w, q, A⟩ => by unfold ev at A; exact A.ok w _ (.bl i)
theorem s_non {j : Nat} : PE X (.Constant .none j pos) (tE L c Wx W .non) := PE.imp pe_non fun σ H Q ⟨ρ, s, m, G, w, q, A⟩ => by unfold ev at A; exact A.ok w _ (.non)
theorem s_gint {x : Str} {i : Int} {t : Tok} (hg : Gl X x) (hm : X.mg x = some (.int i t)) (hd : (x == ("__debug__" : Str)) = false) : PE X (.Name x pos) (tE L c Wx W (.int i)) :=
  PE.imp (pe_glob (v := .int i) hg hm ⟨t, rfl⟩ hd) fun σ H Q ⟨ρ, s, m, G, w, q, A⟩ => by unfold ev at A; exact A.ok w _ (.int i)
theorem s_gstr {x : Str} {i : Str} {t : Tok} (hg : Gl X x) (hm : X.mg x = some (.str i t)) (hd : (x == ("__debug__" : Str)) = false) : PE X (.Name x pos) (tE L c Wx W (.str i)) :=
  PE.imp (pe_glob (v := .str i) hg hm ⟨t, rfl⟩ hd) fun σ H Q ⟨ρ, s, m, G, w, q, A⟩ => by unfold ev at A; exact A.ok w _ (.str i)

/-! ### lists of expressions, displays -/
def noStar : Expr → Bool
  | .Starred .. => false
  | _ => true
theorem starEach_cons {e : Expr} {es : List Expr} {env : PySem.Env} (h : noStar e = true) : starEach (e :: es) env = (false, eval e env) :: starEach es env := by
  cases e <;> first | rfl | cases h
theorem s_nil : PA X [] (tEs L c Wx W .nil) := PA.imp pa_nil fun σ H Q ⟨ρ, s, m, G, w, q, A⟩ => by unfold evs at A; exact A.ok w _ (.nil)
theorem s_cons {e : Expr} {es : List Expr} {e' : E} {es' : Es} (h1 : PE X e (tE L c Wx W e')) (h2 : PA X es (tEs L c Wx W es')) (hs : noStar e = true) : PA X (e :: es) (tEs L c Wx W (.cons e' es')) := by
  refine PA.imp (pa_cons h1 h2 (starEach_cons hs)) fun σ H Q ⟨ρ, s, m, G, w, q, A⟩ => ?_
  unfold evs at A
  refine goE w q (Aft.bind w A) fun d s1 m1 G1 H1 v t1 w1 q1 r1 A1 => ?_
  refine goEs w1 q1 (Aft.bind w1 A1) fun ds s2 m2 G2 H2 vs t2 w2 q2 r2 A2 => ?_
  exact A2.ok w2 _ (.cons (r1.mono t2.pre t2.keep) r2)
theorem s_tup {es : List Expr} {k : Nat} {es' : Es} (h : PA X es (tEs L c Wx W es')) : PE X (.Tuple es k pos) (tE L c Wx W (.tup es')) := by
  refine PE.imp (pe_tup h) fun σ H Q ⟨ρ, s, m, G, w, q, A⟩ => ?_
  unfold ev at A
  refine goEs w q (Aft.bind w A) fun ds s1 m1 G1 H1 vs t1 w1 q1 r1 A1 => ?_
  split at A1
  · rename_i hl
    refine ⟨by rw [r1.length, ← lim_eq]; exact hl, fun p np => ?_⟩
    exact put_new (K := fun _ _ _ => True) w1 np (.tup r1) A1
  · exact False.elim A1
theorem s_lst {es : List Expr} {es' : Es} (h : PA X es (tEs L c Wx W es')) : PE X (.List es pos) (tO L c Wx W (.lst es')) := by
  refine PE.imp (pe_lst h) fun σ H Q ⟨ρ, s, m, G, w, q, A⟩ => ?_
  unfold ev at A
  refine goEs w q (Aft.bind w A) fun ds s1 m1 G1 H1 vs t1 w1 q1 r1 A1 => ?_
  split at A1
  · rename_i hl
    refine ⟨by rw [r1.length, ← lim_eq]; exact hl, fun p np => ?_⟩
    have hp : H p = none := Stp.back w1 t1 np
    exact A1 m1 G1 (upd H1 p (.lst vs)) (Stp.lay np _) (w1.lay np _) p (.lst vs) hp (w1.sub.free np) (fun z => (w1.off p z).2 np) upd_same (.lst r1)
  · exact False.elim A1
end
end MP

end
section
set_option Elab.async false
set_option linter.all false
set_option maxRecDepth 100000
set_option maxHeartbeats 1000000
/-! Operators, comparisons, tests, subscripts. -/
namespace MP
open PySem L2

theorem Rs.bind_assoc {α β γ : Type} (r : Rs α) (f : α → Sto → Rs β) (g : β → Sto → Rs γ) : (r.bind f).bind g = r.bind fun a s => (f a s).bind g := by cases r <;> rfl
theorem Reps.nil_of {L : Lay} {m : List (Addr × Addr)} {G : Hp} {ds : List D} (h : Reps L m G [] ds) : ds = [] := by cases h; rfl
/-! ### data as the library's data -/
def toP : Nat → D → PyData
  | _, .bl b => .bool b
  | _, .int i => .int i
  | _, .str x => .str x
  | n + 1, .tup ds => .tuple (ds.map (toP n))
  | n + 1, .lst ds => .list (ds.map (toP n))
  | _, _ => .none
section
variable {L : Lay} {s : Sto} {m : List (Addr × Addr)} {G H : Hp}
theorem dps_of {n : Nat} (ih : ∀ {v : V} {d : D}, isP n d = true → Rep L m G v d → Dp L.K H v (toP n d)) : ∀ {vs : List V} {ds : List D}, ds.all (isP n) = true → Reps L m G vs ds → DpAll L.K H vs (ds.map (toP n))
  | _, _, _, .nil => .nil
  | _, _, h, .cons r t => by
    rw [List.all_cons, Bool.and_eq_true] at h
    exact .cons (ih h.1 r) (dps_of ih h.2 t)
theorem dp_of (w : Wd L s m G H) : ∀ (n : Nat) {v : V} {d : D}, isP n d = true → Rep L m G v d → Dp L.K H v (toP n d)
  | 0, _, d, h, r => by
    cases r with
    | non => exact .non
    | bl b => exact .bl b
    | int i => exact .int i
    | str x => exact .str x
    | obj hg hc => cases hc <;> simp [isP] at h
    | fn f => simp [isP] at h
    | hnd e => simp [isP] at h
    | scr e => simp [isP] at h
  | n + 1, _, d, h, r => by
    cases r with
    | non => exact .non
    | bl b => exact .bl b
    | int i => exact .int i
    | str x => exact .str x
    | obj hg hc =>
      cases hc with
      | tup hr => exact .tup (.of (w.sub _ _ hg)) (dps_of (dp_of w n) (by simpa [isP] using h) hr)
      | lst hr => exact .lst (.of (w.sub _ _ hg)) (dps_of (dp_of w n) (by simpa [isP] using h) hr)
      | _ => simp [isP] at h
    | fn f => simp [isP] at h
    | hnd e => simp [isP] at h
    | scr e => simp [isP] at h
theorem dp_look (w : Wd L s m G H) {n : Nat} {v : V} {d : D} (h : isP (n + 1) d = true) (r : RB L m G H v d) : Dp L.K H v (toP (n + 1) d) := by
  cases r with
  | rep r => exact dp_of w _ h r
  | own e g nn ho hc =>
    subst e
    cases hc with
    | tup hr => exact .tup (.of ho) (dps_of (dp_of w n) (by simpa [isP] using h) hr)
    | lst hr => exact .lst (.of ho) (dps_of (dp_of w n) (by simpa [isP] using h) hr)
    | _ => simp [isP] at h
end
theorem canLayAll_of {n : Nat} (ih : ∀ d, isP n d = true → (toP n d).canLay0 = true ∧ (toP n d).depth ≤ n) : ∀ ds : List D, ds.all (isP n) = true → PyData.canLayAll0 (ds.map (toP n)) = true ∧ PyData.depthAll (ds.map (toP n)) ≤ n
  | [], _ => ⟨rfl, Nat.zero_le _⟩
  | d :: ds, h => by
    rw [List.all_cons, Bool.and_eq_true] at h
    obtain ⟨h1, h2⟩ := ih d h.1
    obtain ⟨h3, h4⟩ := canLayAll_of ih ds h.2
    rw [List.map_cons]
    unfold PyData.canLayAll0 PyData.depthAll
    exact ⟨by rw [h1, h3]; rfl, Nat.max_le.mpr ⟨h2, h4⟩⟩
theorem canLay_of : ∀ (n : Nat) (d : D), isP n d = true → (toP n d).canLay0 = true ∧ (toP n d).depth ≤ n
  | 0, d, h => by
    cases d <;> first
      | (simp [isP] at h; done)
      | (refine ⟨?_, by simp [toP, PyData.depth]⟩; simp [toP, PyData.canLay0]; done)
      | (refine ⟨?_, by simp [toP, PyData.depth]⟩; simpa [toP, PyData.canLay0, isP, PyData.strOk] using h)
  | n + 1, d, h => by
    cases d with
    | tup ds =>
      obtain ⟨h1, h2⟩ := canLayAll_of (canLay_of n) ds (by simpa [isP] using h)
      unfold toP PyData.canLay0 PyData.depth
      exact ⟨h1, Nat.succ_le_succ h2⟩
    | lst ds =>
      obtain ⟨h1, h2⟩ := canLayAll_of (canLay_of n) ds (by simpa [isP] using h)
      unfold toP PyData.canLay0 PyData.depth
      exact ⟨h1, Nat.succ_le_succ h2⟩
    | str x => exact ⟨by simpa [toP, PyData.canLay0, isP, PyData.strOk] using h, by simp [toP, PyData.depth]⟩
    | non => exact ⟨by simp [toP, PyData.canLay0], by simp [toP, PyData.depth]⟩
    | bl b => exact ⟨by simp [toP, PyData.canLay0], by simp [toP, PyData.depth]⟩
    | int i => exact ⟨by simp [toP, PyData.canLay0], by simp [toP, PyData.depth]⟩
    | _ => simp [isP] at h
theorem shaped_of {n : Nat} {d : D} (hn : n ≤ 64) (h : isP n d = true) : SeqAt.shaped (toP n d) = true := by
  obtain ⟨h1, h2⟩ := canLay_of n d h
  unfold SeqAt.shaped
  rw [h1, decide_eq_true (Nat.le_trans h2 hn)]; rfl
theorem eqvAll_of {n : Nat} (ih : ∀ a b, isP n a = true → isP n b = true → PyData.eqv (toP n a) (toP n b) = eqF n a b) : ∀ as bs : List D, as.all (isP n) = true → bs.all (isP n) = true → PyData.eqvAll (as.map (toP n)) (bs.map (toP n)) = eqL (eqF n) as bs
  | [], [], _, _ => rfl
  | [], _ :: _, _, _ => rfl
  | _ :: _, [], _, _ => rfl
  | a :: as, b :: bs, h1, h2 => by
    rw [List.all_cons, Bool.and_eq_true] at h1 h2
    rw [List.map_cons, List.map_cons]
    unfold PyData.eqvAll eqL
    rw [ih a b h1.1 h2.1, eqvAll_of ih as bs h1.2 h2.2]
theorem eqv_of : ∀ (n : Nat) (a b : D), isP n a = true → isP n b = true → PyData.eqv (toP n a) (toP n b) = eqF n a b
  | 0, a, b, ha, hb => by
    cases a <;> cases b <;> first
      | (simp [isP] at ha; done)
      | (simp [isP] at hb; done)
      | (simp [toP, PyData.eqv, eqF, b2i]; done)
  | n + 1, a, b, ha, hb => by
    cases a with
    | tup as =>
      cases b with
      | tup bs =>
        unfold toP PyData.eqv eqF
        exact eqvAll_of (eqv_of n) as bs (by simpa [isP] using ha) (by simpa [isP] using hb)
      | _ => first | (simp [isP] at hb; done) | (simp [toP, PyData.eqv, eqF]; done)
    | lst as =>
      cases b with
      | lst bs =>
        unfold toP PyData.eqv eqF
        exact eqvAll_of (eqv_of n) as bs (by simpa [isP] using ha) (by simpa [isP] using hb)
      | _ => first | (simp [isP] at hb; done) | (simp [toP, PyData.eqv, eqF]; done)
    | _ => first
      | (simp [isP] at ha; done)
      | (cases b <;> first | (simp [isP] at hb; done) | (simp [toP, PyData.eqv, eqF, b2i]; done))

/-! ### what is known where the reading stands -/
def bnames : List Str := ["isinstance", "int", "bool", "tuple", "list", "str", "len", "sum", "max", "min", "abs", "range", "enumerate", "zip", "dict", "sorted", "set"]
/-- a class of one's own: what isinstance asks -/
structure ClF (L : Lay) (k : Cl) : Prop where
  cl : Cls L.K (L.cls k)
  ha : PySem.W.findIn L.K (.ref (L.cls k)) "__class__" = some (some (.builtin "object.__class__"))
  hn : PySem.W.specialIn L.K (.builtin "object.__class__") "__get__" = some (some (.builtin "getset_descriptor.__get__"))
  htk : PySem.W.takesIn L.K (.builtin "object.__class__") = some true
  hm : PySem.W.mroIn L.K (L.cls k) (.type "object") = some true
  kT : ∀ T ∈ ["NoneType", "bool", "int", "str", "list", "tuple", "dict"], PySem.W.kitOne L.K (.type T) (.ref (L.cls k)) = some false
  kU : ∀ T ∈ ["bool", "int", "str", "list", "tuple"], PySem.W.kitOne L.K (.ref (L.cls k)) (.type T) = some false
structure Gd (L : Lay) (X : Cx) (Wx : WX) : Prop where
  cls : ∀ k, L.has k = true → ClF L k
  kk : ∀ k k', L.has k = true → L.has k' = true → PySem.W.kitOne L.K (.ref (L.cls k)) (.ref (L.cls k')) = some (decide (k = k'))
  blt : ∀ x ∈ bnames, X.mg x = none
  K : X.K = L.K
  nd : X.N.Nodup
  calm : X.calm = true
  units : X.A.units + 64 < cLine
  tk : Takes X Wx

section
variable {L : Lay} {c : Cfg} {Wx : WX} {W : List Nat} {X : Cx} {pos : Pos} {s : Sto} {m : List (Addr × Addr)} {G H : Hp}
/-! ### arithmetic -/
def opOf : Op → Operator
  | .add => .Add
  | .sub => .Sub
  | .mul => .Mult
  | .fdiv => .FloorDiv
  | .mod => .Mod
  | .pow => .Pow
theorem Rep.look {v : V} {d : D} (r : Rep L m G v d) : RB L m G H v d := .rep r
/-- the operator on settled values -/
def rBin (L : Lay) (op : Op) : R2 := fun x y H Q => ∃ s m G dx dy d, Wd L s m G H ∧ Rep L m G x dx ∧ Rep L m G y dy ∧ binD op dx dy = some d ∧ ∀ m' G' H', Stp m G H m' G' H' → Wd L s m' G' H' → ∀ v, Rep L m' G' v d → Q v H'
theorem op_bin (g : Gd L X Wx) (op : Op) : OpR X (binaryOp (opOf op)) (rBin L op) := by
  intro pins s σ H x y v u Q I rx ry h
  obtain ⟨st, m, G, dx, dy, d, w, r1, r2, e, q⟩ := h
  have now := q m G H (Stp.refl _ _ _) w
  have L1 : RB L m G H x dx := .rep r1
  have L2' : RB L m G H y dy := .rep r2
  cases op with
  | add =>
    unfold binD at e
    split at e
    · cases e
      have e1 := L1.int; have e2 := L2'.int; subst e1; subst e2
      exact op_add pins s σ H _ _ v u Q I rx ry ⟨_, _, rfl, rfl, now _ (.int _)⟩
    · split at e
      · rename_i hl
        cases e
        obtain ⟨a, vs, rfl, ha, ra⟩ := L1.lst w
        obtain ⟨b, ws, rfl, hb, rb⟩ := L2'.lst w
        refine op_cat pins s σ H _ _ v u Q I rx ry ⟨a, b, vs, ws, rfl, rfl, ha, hb, by rw [ra.length, rb.length, ← lim_eq]; exact hl, fun p np => ?_⟩
        exact put_new (K := fun _ _ _ => True) w np (.lst (ra.append rb)) q
      · cases e
    · split at e
      · rename_i hl
        cases e
        obtain ⟨a, vs, rfl, ha, ra⟩ := L1.tup w
        obtain ⟨b, ws, rfl, hb, rb⟩ := L2'.tup w
        have hra := ra.length; have hrb := rb.length
        refine op_catA pins s σ H _ _ v u Q I rx ry ⟨a, b, vs, ws, rfl, rfl, .of ha, .of hb, by rw [ra.length, rb.length, ← lim_eq]; exact hl, fun z => ?_, fun z z' => ?_, fun z z' p np => ?_⟩
        · subst z
          obtain rfl := ra.nil_of
          exact now _ r2
        · subst z'
          obtain rfl := rb.nil_of
          exact now _ (by rw [List.append_nil]; exact r1)
        · exact put_new (K := fun _ _ _ => True) w np (.tup (ra.append rb)) q
      · cases e
    · split at e
      · rename_i hl
        cases e
        have e1 := L1.str; have e2 := L2'.str; subst e1; subst e2
        exact op_add_str pins s σ H _ _ v u Q I rx ry ⟨_, _, rfl, rfl, by rw [← lim_eq]; exact hl, now _ (.str _)⟩
      · cases e
    all_goals first | contradiction | cases e
  | sub =>
    unfold binD at e
    split at e
    all_goals first | contradiction | skip
    · cases e
      have e1 := L1.int; have e2 := L2'.int; subst e1; subst e2
      exact op_sub pins s σ H _ _ v u Q I rx ry ⟨_, _, rfl, rfl, now _ (.int _)⟩
  | mul =>
    unfold binD at e
    split at e
    all_goals first | contradiction | skip
    · split at e
      · rename_i hl
        cases e
        have e1 := L1.int; have e2 := L2'.int; subst e1; subst e2
        refine op_mul pins s σ H _ _ v u Q I rx ry ⟨_, _, rfl, rfl, ?_, now _ (.int _)⟩
        unfold mulOk at hl
        unfold CMul
        simp only [Bool.or_eq_true, Bool.and_eq_true, decide_eq_true_eq] at hl
        exact hl
      · cases e
    · split at e
      · rename_i hl
        cases e
        simp only [Bool.and_eq_true, decide_eq_true_eq] at hl
        obtain ⟨a, vs, rfl, ha, ra⟩ := L1.lst w
        have e2 := L2'.int; subst e2
        refine op_rep pins s σ H _ _ v u Q I rx ry ⟨a, _, vs, rfl, rfl, ha, by omega, by omega, by rw [ra.length, ← lim_eq]; exact hl.2, fun p np => ?_⟩
        exact put_new (K := fun _ _ _ => True) w np (.lst (ra.rep _)) q
      · cases e
    · split at e
      · rename_i hl
        cases e
        simp only [Bool.and_eq_true, decide_eq_true_eq] at hl
        obtain ⟨a, vs, rfl, ha, ra⟩ := L1.tup w
        have e2 := L2'.int; subst e2
        have hra := ra.length
        refine op_repT pins s σ H _ _ v u Q I rx ry ⟨a, _, vs, rfl, rfl, .of ha, ?_, by omega, by omega, by omega, fun p np => ?_⟩
        · intro z
          subst z
          obtain rfl := ra.nil_of
          simp at hl
        · exact put_new (K := fun _ _ _ => True) w np (.tup (ra.rep _)) q
      · cases e
  | fdiv =>
    unfold binD at e
    split at e
    all_goals first | contradiction | skip
    · split at e
      · rename_i hl
        cases e
        simp only [Bool.and_eq_true, decide_eq_true_eq] at hl
        have e1 := L1.int; have e2 := L2'.int; subst e1; subst e2
        exact op_fdiv pins s σ H _ _ v u Q I rx ry ⟨_, _, rfl, rfl, hl, now _ (.int _)⟩
      · cases e
  | mod =>
    unfold binD at e
    split at e
    all_goals first | contradiction | skip
    · split at e
      · rename_i hl
        cases e
        simp only [decide_eq_true_eq] at hl
        have e1 := L1.int; have e2 := L2'.int; subst e1; subst e2
        exact op_mod pins s σ H _ _ v u Q I rx ry ⟨_, _, rfl, rfl, hl, now _ (.int _)⟩
      · cases e
  | pow =>
    unfold binD at e
    split at e
    all_goals first | contradiction | skip
    · split at e
      · rename_i hl
        cases e
        simp only [Bool.and_eq_true, decide_eq_true_eq] at hl
        have e1 := L1.int; have e2 := L2'.int; subst e1; subst e2
        exact op_pow pins s σ H _ _ v u Q I rx ry ⟨_, _, rfl, rfl, ⟨hl.1.1, by omega, by omega⟩, now _ (.int _)⟩
      · cases e
theorem s_bin (g : Gd L X Wx) {op : Op} {a b : Expr} {a' b' : E} (ha : PE X a (tE L c Wx W a')) (hb : PE X b (tE L c Wx W b')) : PE X (.BinOp a (opOf op) b pos) (tE L c Wx W (.bin op a' b')) := by
  refine PE.imp (pe_op (op_bin g op) ha hb) fun σ H Q ⟨ρ, s, m, G, w, q, A⟩ => ?_
  unfold ev at A
  refine goE w q (Aft.bind w A) fun d s1 m1 G1 H1 v t1 w1 q1 r1 A1 => ?_
  refine goE w1 q1 (Aft.bind w1 A1) fun d2 s2 m2 G2 H2 v2 t2 w2 q2 r2 A2 => ?_
  obtain ⟨z, ez, A3⟩ := A2.opt
  exact ⟨s2, m2, G2, d, d2, z, w2, r1.mono t2.pre t2.keep, r2, ez, A3⟩
theorem s_neg (g : Gd L X Wx) {a : Expr} {a' : E} (ha : PE X a (tB L c Wx W a')) : PE X (.UnaryOp .USub a pos) (tE L c Wx W (.neg a')) := by
  refine PE.imp (pe_un un_neg ha) fun σ H Q ⟨ρ, s, m, G, w, q, A⟩ => ?_
  unfold ev at A
  refine goB w q (Aft.bind w A) fun d s1 m1 G1 H1 v t1 w1 q1 r1 A1 => ?_
  obtain ⟨z, ez, A3⟩ := A1.opt
  unfold negD at ez
  split at ez
  · cases ez
    have e := r1.int; subst e
    exact ⟨_, rfl, A3 _ _ _ (Stp.refl _ _ _) w1 _ (.int _)⟩
  · cases ez

/-! ### truth -/
theorem tru_of {v : V} {d : D} {k : Bool} (w : Wd L s m G H) (r : RB L m G H v d) (e : truD d = some k) : TruV L.K v H k := by
  unfold truD at e
  split at e
  · cases e; have z := r.non; subst z; rfl
  · cases e; have z := r.bl; subst z; rfl
  · cases e; have z := r.int; subst z; rfl
  · split at e
    · rename_i hl
      cases e; have z := r.str; subst z
      refine ⟨by rw [← lim_eq]; exact hl, ?_⟩
      rename_i x
      cases x.length <;> rfl
    · cases e
  · cases e
    obtain ⟨a, vs, rfl, ha, ra⟩ := r.tup w
    refine .inr (.inl ⟨vs, .of ha, ?_⟩)
    have := ra.length
    rename_i ds
    cases ds <;> cases vs <;> simp_all
  · cases e
    obtain ⟨a, vs, rfl, ha, ra⟩ := r.lst w
    refine .inl ⟨vs, .of ha, ?_⟩
    have := ra.length
    rename_i ds
    cases ds <;> cases vs <;> simp_all
  · cases e
    obtain ⟨a, kvs, rfl, ha, hk, ra⟩ := r.dK w
    refine .inr (.inr ⟨kvs, ha, ?_⟩)
    have := congrArg List.length hk
    rename_i kds
    cases kds <;> cases kvs <;> simp_all
  · cases e
theorem s_nott (g : Gd L X Wx) {a : Expr} {a' : E} (ha : PE X a (tB L c Wx W a')) : PE X (.UnaryOp .Not a pos) (tE L c Wx W (.nott a')) := by
  refine PE.imp (pe_notT ha) fun σ H Q ⟨ρ, s, m, G, w, q, A⟩ => ?_
  unfold ev at A
  refine goB w q (Aft.bind w A) fun d s1 m1 G1 H1 v t1 w1 q1 r1 A1 => ?_
  obtain ⟨z, ez, A3⟩ := A1.opt
  cases e : truD d with
  | none => rw [e] at ez; cases ez
  | some k =>
    rw [e] at ez; cases ez
    exact ⟨k, by rw [g.K]; exact tru_of w1 r1 e, A3 _ _ _ (Stp.refl _ _ _) w1 _ (.bl _)⟩
/-- a test by the value's truth -/
def plainT : Expr → Bool
  | .UnaryOp .Not _ _ => false
  | .BoolOp .. => false
  | .IfExp .. => false
  | .Compare .. => false
  | _ => true
theorem plainT_is {e : Expr} {env : PySem.Env} (h : plainT e = true) (whole : Sem Value) : isTrue e env whole = (do let v ← whole; standAt e.pos; holding [v] (truthy v)) := by
  cases e <;> first | rfl | (cases h; done) | (rename_i op _ _; cases op <;> first | rfl | cases h)
theorem s_test (g : Gd L X Wx) {a : Expr} {a' : E} (ha : PE X a (tB L c Wx W a')) (hp : plainT a = true) : PT X a (tT L c Wx W a') := by
  refine PT.imp (pt_truth ha (plainT_is hp)) fun σ H Q ⟨ρ, s, m, G, w, q, A⟩ => ?_
  refine goB w q (Aft.bind w A) fun d s1 m1 G1 H1 v t1 w1 q1 r1 A1 => ?_
  obtain ⟨k, ek, A3⟩ := A1.opt
  exact ⟨k, by rw [g.K]; exact tru_of w1 r1 ek, A3 _ _ _ (Stp.refl _ _ _) w1⟩
theorem s_tnot {a : Expr} {a' : E} (ha : PT X a (tT L c Wx W a')) : PT X (.UnaryOp .Not a pos) (tT L c Wx W (.nott a')) := by
  refine PT.imp (pt_not ha) fun σ H Q ⟨ρ, s, m, G, w, q, A⟩ => ⟨ρ, s, m, G, w, q, ?_⟩
  unfold ev at A
  cases r : ev c a' ρ s with
  | st => rw [r] at A; exact A
  | ex k ds s' => rw [r] at A; exact A
  | ok d s' =>
    rw [r] at A
    simp only [Rs.bind_ok] at A ⊢
    cases e : truD d with
    | none => rw [e] at A; exact A
    | some k =>
      rw [e] at A
      exact A

/-! ### and, or -/
theorem s_one {op} {a : Expr} {t : TE} (h : PE X a t) : PE X (.BoolOp op [a] pos) t := pe_one h
theorem s_and {a b : Expr} {rest : List Expr} {a' b' : E} (ha : PE X a (tB L c Wx W a')) (hb : PE X (.BoolOp .And (b :: rest) pos) (tE L c Wx W b')) : PE X (.BoolOp .And (a :: b :: rest) pos) (tE L c Wx W (.and a' b')) := by
  refine PE.imp (pe_and ha hb) fun σ H Q ⟨ρ, s, m, G, w, q, A⟩ => ?_
  unfold ev at A
  refine goB w q (Aft.bind w A) fun d s1 m1 G1 H1 v t1 w1 q1 r1 A1 => ?_
  split at A1
  · have e := r1.bl; subst e
    exact ⟨true, rfl, ρ, s1, m1, G1, w1, q1, A1⟩
  · have e := r1.bl; subst e
    exact ⟨false, rfl, A1.ok w1 _ (.bl _)⟩
  · exact False.elim A1
theorem s_or {a b : Expr} {rest : List Expr} {a' b' : E} (ha : PE X a (tB L c Wx W a')) (hb : PE X (.BoolOp .Or (b :: rest) pos) (tE L c Wx W b')) : PE X (.BoolOp .Or (a :: b :: rest) pos) (tE L c Wx W (.or a' b')) := by
  refine PE.imp (pe_or ha hb) fun σ H Q ⟨ρ, s, m, G, w, q, A⟩ => ?_
  unfold ev at A
  refine goB w q (Aft.bind w A) fun d s1 m1 G1 H1 v t1 w1 q1 r1 A1 => ?_
  split at A1
  · have e := r1.bl; subst e
    exact ⟨true, rfl, A1.ok w1 _ (.bl _)⟩
  · have e := r1.bl; subst e
    exact ⟨false, rfl, ρ, s1, m1, G1, w1, q1, A1⟩
  · exact False.elim A1
theorem s_tand {a b : Expr} {rest : List Expr} {a' b' : E} (ha : PT X a (tT L c Wx W a')) (hb : PW X (.BoolOp .And (b :: rest) pos) (tT L c Wx W b')) : PW X (.BoolOp .And (a :: b :: rest) pos) (tT L c Wx W (.and a' b')) := by
  refine PW.imp (pw_and ha hb) fun σ H Q ⟨ρ, s, m, G, w, q, A⟩ => ⟨ρ, s, m, G, w, q, ?_⟩
  unfold ev at A
  cases r : ev c a' ρ s with
  | st => rw [r] at A; exact A
  | ex k ds s' => rw [r] at A; exact A
  | ok d s' =>
    rw [r] at A
    simp only [Rs.bind_ok] at A ⊢
    split at A
    · exact fun m1 G1 H1 t1 w1 => ⟨ρ, s', m1, G1, w1, q.step t1, Aft.step w w1 t1 A⟩
    · exact fun m1 G1 H1 t1 w1 => A m1 G1 H1 t1 w1
    · exact False.elim A
theorem s_tor {a b : Expr} {rest : List Expr} {a' b' : E} (ha : PT X a (tT L c Wx W a')) (hb : PW X (.BoolOp .Or (b :: rest) pos) (tT L c Wx W b')) : PW X (.BoolOp .Or (a :: b :: rest) pos) (tT L c Wx W (.or a' b')) := by
  refine PW.imp (pw_or ha hb) fun σ H Q ⟨ρ, s, m, G, w, q, A⟩ => ⟨ρ, s, m, G, w, q, ?_⟩
  unfold ev at A
  cases r : ev c a' ρ s with
  | st => rw [r] at A; exact A
  | ex k ds s' => rw [r] at A; exact A
  | ok d s' =>
    rw [r] at A
    simp only [Rs.bind_ok] at A ⊢
    split at A
    · exact fun m1 G1 H1 t1 w1 => A m1 G1 H1 t1 w1
    · exact fun m1 G1 H1 t1 w1 => ⟨ρ, s', m1, G1, w1, q.step t1, Aft.step w w1 t1 A⟩
    · exact False.elim A
theorem s_ifx {t a b : Expr} {t' a' b' : E} (ht : PT X t (tT L c Wx W t')) (ha : PE X a (tE L c Wx W a')) (hb : PE X b (tE L c Wx W b')) : PE X (.IfExp t a b pos) (tE L c Wx W (.ifx t' a' b')) := by
  refine PE.imp (pe_ifExp ht ha hb) fun σ H Q ⟨ρ, s, m, G, w, q, A⟩ => ?_
  unfold ev at A
  rw [← Rs.bind_assoc (ev c t' ρ s) (fun x s => Rs.opt (truD x) s)] at A
  refine goT w q (Aft.bind w A) fun k s1 m1 G1 H1 t1 w1 q1 A1 => ?_
  cases k with
  | true => exact ⟨ρ, s1, m1, G1, w1, q1, A1⟩
  | false => exact ⟨ρ, s1, m1, G1, w1, q1, A1⟩
end
end MP

end
section
set_option Elab.async false
set_option linter.all false
set_option maxRecDepth 100000
set_option maxHeartbeats 1000000
/-! Comparisons, subscripts, slices, isinstance, built-in calls. -/
namespace MP
open PySem L2

section
variable {L : Lay} {c : Cfg} {Wx : WX} {W : List Nat} {X : Cx} {pos : Pos} {s : Sto} {m : List (Addr × Addr)} {G H : Hp}

theorem sign_of {y : Str} {c : Nat} (h : y.cps.toList = [c]) : y = ⟨#[c]⟩ := by
  obtain ⟨cps⟩ := y
  have : cps = #[c] := by
    have := congrArg List.toArray h
    simpa using this
  rw [this]
/-! ### in -/
theorem flat_rep {v : V} {d : D} (h : isFl d = true) (r : Rep L m G v d) : flatV v = true := by
  cases r with
  | obj _ hc => cases hc <;> simp [isFl] at h
  | fn => simp [isFl] at h
  | hnd => simp [isFl] at h
  | scr => simp [isFl] at h
  | _ => rfl
theorem flat_reps : ∀ {vs : List V} {ds : List D}, ds.all isFl = true → Reps L m G vs ds → vs.all flatV = true
  | _, _, _, .nil => rfl
  | _, _, h, .cons r t => by
    rw [List.all_cons, Bool.and_eq_true] at h
    rw [List.all_cons, flat_rep h.1 r, flat_reps h.2 t]; rfl
theorem eqV_rep {v u : V} {d e : D} (hd : isFl d = true) (he : isFl e = true) (r : Rep L m G v d) (q : Rep L m G u e) : eqV v u = eqF 0 d e := by
  cases r with
  | obj _ hc => cases hc <;> simp [isFl] at hd
  | fn => simp [isFl] at hd
  | hnd => simp [isFl] at hd
  | scr => simp [isFl] at hd
  | _ =>
    cases q with
    | obj _ hc => cases hc <;> simp [isFl] at he
    | fn => simp [isFl] at he
    | hnd => simp [isFl] at he
    | scr => simp [isFl] at he
    | _ => simp [eqV, eqF, b2i]
theorem inV_reps {u : V} {e : D} (he : isFl e = true) (q : Rep L m G u e) : ∀ {vs : List V} {ds : List D}, ds.all isFl = true → Reps L m G vs ds → inV u vs = ds.any fun y => eqF 0 y e
  | _, _, _, .nil => rfl
  | _, _, h, .cons r t => by
    rw [List.all_cons, Bool.and_eq_true] at h
    have ih := inV_reps he q h.2 t
    unfold inV at ih ⊢
    rw [List.any_cons, List.any_cons, eqV_rep h.1 he r q, ih]
theorem RB.flat {v : V} {d : D} (r : RB L m G H v d) (h : isFl d = true) : Rep L m G v d := by
  cases r with
  | rep r => exact r
  | own e g n ho hc => cases hc <;> simp [isFl] at h

/-! ### dicts -/
theorem key_of' {v : V} {d : D} {k : Key} (e : keyD d = some k) (r : Rep L m G v d) : v = kV k := by
  cases r with
  | int i => simp [keyD] at e; subst e; rfl
  | str x => simp [keyD] at e; subst e; rfl
  | obj _ hc => cases hc <;> simp [keyD] at e
  | _ => simp [keyD] at e
theorem keys_of' : ∀ {vs : List V} {ds : List D} {ks : List Key}, keysD ds = some ks → Reps L m G vs ds → vs = ks.map kV
  | _, _, ks, e, .nil => by simp [keysD] at e; subst e; rfl
  | _, _, ks, e, .cons r t => by
    unfold keysD at e
    split at e
    · rename_i k ks' h1 h2
      cases e
      rw [List.map_cons, key_of' h1 r, keys_of' h2 t]
    · cases e
theorem isFl_key {d : D} {k : Key} (e : keyD d = some k) : isFl d = true := by
  cases d <;> simp [keyD] at e <;> rfl
section
variable {κ : Type} [DecidableEq κ]
theorem val_lk : ∀ {kvs : List (κ × V)} {kds : List (κ × D)} (k : κ), kvs.map (·.1) = kds.map (·.1) → Reps L m G (kvs.map (·.2)) (kds.map (·.2)) →
    (lk kds k = none ∧ valV kvs k = none) ∨ ∃ d v, lk kds k = some d ∧ valV kvs k = some v ∧ Rep L m G v d
  | [], [], k, _, _ => .inl ⟨rfl, rfl⟩
  | [], _ :: _, _, h, _ => by simp at h
  | _ :: _, [], _, h, _ => by simp at h
  | (a, v) :: kvs, (b, d) :: kds, k, h, r => by
    simp only [List.map_cons, List.cons.injEq] at h
    obtain ⟨h1, h2⟩ := h
    subst h1
    simp only [List.map_cons] at r
    cases r with
    | cons r t =>
      by_cases e : a = k
      · refine .inr ⟨d, v, ?_, ?_, r⟩
        · simp [lk, List.find?_cons, e]
        · simp [valV, List.find?_cons, e]
      · have ih := val_lk k h2 t
        have e1 : lk ((a, d) :: kds) k = lk kds k := by simp [lk, List.find?_cons, e]
        have e2 : valV ((a, v) :: kvs) k = valV kvs k := by simp [valV, List.find?_cons, e]
        rw [e1, e2]; exact ih
theorem any_keys {α β : Type} : ∀ {kvs : List (κ × α)} {kds : List (κ × β)} (k : κ), kvs.map (·.1) = kds.map (·.1) → (kvs.any fun kv => decide (kv.1 = k)) = kds.any fun kv => decide (kv.1 = k)
  | [], [], _, _ => rfl
  | [], _ :: _, _, h => by simp at h
  | _ :: _, [], _, h => by simp at h
  | (a, v) :: kvs, (b, d) :: kds, k, h => by
    simp only [List.map_cons, List.cons.injEq] at h
    rw [List.any_cons, List.any_cons, any_keys k h.2, h.1]
theorem repl_keys {k : κ} {y : V} {e : D} (re : Rep L m G y e) : ∀ {kvs : List (κ × V)} {kds : List (κ × D)}, kvs.map (·.1) = kds.map (·.1) → Reps L m G (kvs.map (·.2)) (kds.map (·.2)) →
    (kvs.map fun kv => if kv.1 = k then (kv.1, y) else kv).map (·.1) = (kds.map fun kv => if kv.1 = k then (kv.1, e) else kv).map (·.1) ∧
      Reps L m G ((kvs.map fun kv => if kv.1 = k then (kv.1, y) else kv).map (·.2)) ((kds.map fun kv => if kv.1 = k then (kv.1, e) else kv).map (·.2))
  | [], [], _, _ => ⟨rfl, .nil⟩
  | [], _ :: _, h, _ => by simp at h
  | _ :: _, [], h, _ => by simp at h
  | (a, v) :: kvs, (b, d) :: kds, h, r => by
    simp only [List.map_cons, List.cons.injEq] at h
    obtain ⟨h1, h2⟩ := h
    subst h1
    simp only [List.map_cons] at r
    cases r with
    | cons r t =>
      obtain ⟨i1, i2⟩ := repl_keys re h2 t
      by_cases q : a = k
      · simp only [List.map_cons, q, if_true]
        exact ⟨by rw [i1], .cons re i2⟩
      · simp only [List.map_cons, q, if_false]
        exact ⟨by rw [i1], .cons r i2⟩
theorem put_keys {kvs : List (κ × V)} {kds : List (κ × D)} {k : κ} {y : V} {e : D} (h : kvs.map (·.1) = kds.map (·.1)) (r : Reps L m G (kvs.map (·.2)) (kds.map (·.2))) (re : Rep L m G y e) :
    (putK kvs k y).map (·.1) = (upk k e kds).map (·.1) ∧ Reps L m G ((putK kvs k y).map (·.2)) ((upk k e kds).map (·.2)) := by
  unfold putK upk
  rw [any_keys k h]
  cases (kds.any fun kv => decide (kv.1 = k)) with
  | true => exact repl_keys re h r
  | false =>
    simp only [Bool.false_eq_true, if_false, List.map_append, List.map_cons, List.map_nil]
    exact ⟨by rw [h], r.append (.one re)⟩
end
/-- what a dict holds -/
theorem dget_of {v y : V} {d k : D} {o : Option D} (w : Wd L s m G H) (r : RB L m G H v d) (rk : RB L m G H y k) (e : dget d k = some o) :
    ∃ a, v = .ref a ∧ ((o = none ∧ DGet H a y none) ∨ ∃ x u, o = some x ∧ DGet H a y (some u) ∧ Rep L m G u x) := by
  unfold dget at e
  split at e
  · split at e
    · rename_i kvs key k' hk
      obtain ⟨a, kvs', rfl, ha, e1, r1⟩ := r.dK w
      cases e
      have hy := key_of' hk (rk.flat (isFl_key hk))
      subst hy
      refine ⟨a, rfl, ?_⟩
      rcases val_lk k' e1 r1 with ⟨h1, h2⟩ | ⟨x, u, h1, h2, h3⟩
      · exact .inl ⟨h1, by have := DGet.k (k := k') ha; rw [h2] at this; exact this⟩
      · exact .inr ⟨x, u, h1, by have := DGet.k (k := k') ha; rw [h2] at this; exact this, h3⟩
    · cases e
  · split at e
    · rename_i kvs ks k' hk
      obtain ⟨a, kvs', rfl, ha, e1, r1⟩ := r.dT w
      obtain ⟨b, vs, rfl, hb, r2⟩ := rk.tup w
      cases e
      have hy := keys_of' hk r2
      subst hy
      refine ⟨a, rfl, ?_⟩
      rcases val_lk k' e1 r1 with ⟨h1, h2⟩ | ⟨x, u, h1, h2, h3⟩
      · exact .inl ⟨h1, by have := DGet.t (k := k') ha hb; rw [h2] at this; exact this⟩
      · exact .inr ⟨x, u, h1, by have := DGet.t (k := k') ha hb; rw [h2] at this; exact this, h3⟩
    · cases e
  · cases e

/-! ### comparisons -/
def cmOf : Cm → CmpOp
  | .eq => .Eq
  | .ne => .NotEq
  | .lt => .Lt
  | .le => .LtE
  | .gt => .Gt
  | .ge => .GtE
  | .isin => .In
  | .notin => .NotIn
  | .isn => .Is
  | .notn => .IsNot
def rCm (L : Lay) (op : Cm) : R2 := fun x y H Q => ∃ s m G dx dy b, Wd L s m G H ∧ RB L m G H x dx ∧ RB L m G H y dy ∧ cmpD op dx dy = some b ∧ Q (.bl b) H
theorem isNon_iff {v : V} {d : D} (r : RB L m G H v d) : decide (v = .non) = isNon d := by
  cases r with
  | rep r =>
    cases r with
    | non => rfl
    | obj _ hc => cases hc <;> rfl
    | _ => rfl
  | own e g n ho hc => subst e; cases hc <;> rfl
theorem op_inD (g : Gd L X Wx) : OpR X (compareOp .In) (fun x y H Q => ∃ s m G dx dy b, Wd L s m G H ∧ RB L m G H x dx ∧ RB L m G H y dy ∧ inD dx dy = some b ∧ Q (.bl b) H) := by
  intro pins sh σ H x y v u Q I rx ry h
  obtain ⟨s, m, G, dx, dy, b, w, r1, r2, e, q⟩ := h
  unfold inD at e
  split at e
  · split at e
    · rename_i hf
      rw [Bool.and_eq_true] at hf
      cases e
      obtain ⟨a, vs, rfl, ha, ra⟩ := r2.lst w
      exact op_in_seq pins sh σ H _ _ v u Q I rx ry ⟨a, vs, rfl, .inl (.of ha), flat_rep hf.1 (r1.flat hf.1), flat_reps hf.2 ra, by rw [inV_reps hf.1 (r1.flat hf.1) hf.2 ra]; exact q⟩
    · cases e
  · split at e
    · rename_i hf
      rw [Bool.and_eq_true] at hf
      cases e
      obtain ⟨a, vs, rfl, ha, ra⟩ := r2.tup w
      exact op_in_seq pins sh σ H _ _ v u Q I rx ry ⟨a, vs, rfl, .inr (.of ha), flat_rep hf.1 (r1.flat hf.1), flat_reps hf.2 ra, by rw [inV_reps hf.1 (r1.flat hf.1) hf.2 ra]; exact q⟩
    · cases e
  · split at e
    · split at e
      · rename_i hc
        cases e
        have e1 := r1.str; have e2 := r2.str; subst e1; subst e2
        obtain rfl := sign_of hc
        exact op_in_sign pins sh σ H _ _ v u Q I rx ry ⟨_, _, rfl, rfl, q⟩
      · cases e
    · cases e
  · cases ed : dget dy dx with
    | none => rw [ed] at e; cases e
    | some o =>
      rw [ed] at e; cases e
      obtain ⟨a, rfl, hg⟩ := dget_of w r2 r1 ed
      cases ry
      have hu : X.A.units + 1 < cLine := by have := g.units; omega
      rcases hg with ⟨rfl, hg⟩ | ⟨x', u', rfl, hg, _⟩
      · exact d_in hu I hg rx fun s' I' => ⟨.bl false, H, I', rfl, q⟩
      · exact d_in hu I hg rx fun s' I' => ⟨.bl true, H, I', rfl, q⟩
theorem op_notinD (g : Gd L X Wx) : OpR X (compareOp .NotIn) (fun x y H Q => ∃ s m G dx dy b, Wd L s m G H ∧ RB L m G H x dx ∧ RB L m G H y dy ∧ inD dx dy = some b ∧ Q (.bl (!b)) H) := by
  intro pins sh σ H x y v u Q I rx ry h
  obtain ⟨s, m, G, dx, dy, b, w, r1, r2, e, q⟩ := h
  unfold inD at e
  split at e
  · split at e
    · rename_i hf
      rw [Bool.and_eq_true] at hf
      cases e
      obtain ⟨a, vs, rfl, ha, ra⟩ := r2.lst w
      exact op_notIn_seq pins sh σ H _ _ v u Q I rx ry ⟨a, vs, rfl, .inl (.of ha), flat_rep hf.1 (r1.flat hf.1), flat_reps hf.2 ra, by rw [inV_reps hf.1 (r1.flat hf.1) hf.2 ra]; exact q⟩
    · cases e
  · split at e
    · rename_i hf
      rw [Bool.and_eq_true] at hf
      cases e
      obtain ⟨a, vs, rfl, ha, ra⟩ := r2.tup w
      exact op_notIn_seq pins sh σ H _ _ v u Q I rx ry ⟨a, vs, rfl, .inr (.of ha), flat_rep hf.1 (r1.flat hf.1), flat_reps hf.2 ra, by rw [inV_reps hf.1 (r1.flat hf.1) hf.2 ra]; exact q⟩
    · cases e
  · split at e
    · split at e
      · rename_i hc
        cases e
        have e1 := r1.str; have e2 := r2.str; subst e1; subst e2
        obtain rfl := sign_of hc
        exact op_notIn_sign pins sh σ H _ _ v u Q I rx ry ⟨_, _, rfl, rfl, q⟩
      · cases e
    · cases e
  · cases ed : dget dy dx with
    | none => rw [ed] at e; cases e
    | some o =>
      rw [ed] at e; cases e
      obtain ⟨a, rfl, hg⟩ := dget_of w r2 r1 ed
      cases ry
      have hu : X.A.units + 1 < cLine := by have := g.units; omega
      rcases hg with ⟨rfl, hg⟩ | ⟨x', u', rfl, hg, _⟩
      · exact d_notIn hu I hg rx fun s' I' => ⟨.bl true, H, I', rfl, q⟩
      · exact d_notIn hu I hg rx fun s' I' => ⟨.bl false, H, I', rfl, q⟩
theorem op_cm (g : Gd L X Wx) (op : Cm) : OpR X (compareOp (cmOf op)) (rCm L op) := by
  intro pins sh σ H x y v u Q I rx ry h
  obtain ⟨s, m, G, dx, dy, b, w, r1, r2, e, q⟩ := h
  cases op with
  | eq =>
    simp only [cmpD, eqD] at e
    split at e
    · rename_i hp
      rw [Bool.and_eq_true] at hp
      cases e
      refine op_eqD g.units pins sh σ H _ _ v u Q I rx ry ⟨toP 8 dx, toP 8 dy, by rw [g.K]; exact dp_look w hp.1 r1, by rw [g.K]; exact dp_look w hp.2 r2, shaped_of (by decide) hp.1, shaped_of (by decide) hp.2, ?_⟩
      rw [eqv_of 8 dx dy hp.1 hp.2]; exact q
    · cases e
  | ne =>
    simp only [cmpD, eqD] at e
    split at e
    · rename_i hp
      rw [Bool.and_eq_true] at hp
      cases e
      refine op_neD g.units pins sh σ H _ _ v u Q I rx ry ⟨toP 8 dx, toP 8 dy, by rw [g.K]; exact dp_look w hp.1 r1, by rw [g.K]; exact dp_look w hp.2 r2, shaped_of (by decide) hp.1, shaped_of (by decide) hp.2, ?_⟩
      rw [eqv_of 8 dx dy hp.1 hp.2]; exact q
    · cases e
  | lt =>
    cases dx <;> cases dy <;> simp only [cmpD, reduceCtorEq, Option.some.injEq] at e
    subst e
    have e1 := r1.int; have e2 := r2.int; subst e1; subst e2
    exact op_lt pins sh σ H _ _ v u Q I rx ry ⟨_, _, rfl, rfl, q⟩
  | le =>
    cases dx <;> cases dy <;> simp only [cmpD, reduceCtorEq, Option.some.injEq] at e
    subst e
    have e1 := r1.int; have e2 := r2.int; subst e1; subst e2
    exact op_le pins sh σ H _ _ v u Q I rx ry ⟨_, _, rfl, rfl, q⟩
  | gt =>
    cases dx <;> cases dy <;> simp only [cmpD, reduceCtorEq, Option.some.injEq] at e
    subst e
    have e1 := r1.int; have e2 := r2.int; subst e1; subst e2
    exact op_gt pins sh σ H _ _ v u Q I rx ry ⟨_, _, rfl, rfl, q⟩
  | ge =>
    cases dx <;> cases dy <;> simp only [cmpD, reduceCtorEq, Option.some.injEq] at e
    subst e
    have e1 := r1.int; have e2 := r2.int; subst e1; subst e2
    exact op_ge pins sh σ H _ _ v u Q I rx ry ⟨_, _, rfl, rfl, q⟩
  | isin =>
    simp only [cmpD] at e
    exact op_inD g pins sh σ H _ _ v u Q I rx ry ⟨s, m, G, dx, dy, b, w, r1, r2, e, q⟩
  | notin =>
    simp only [cmpD] at e
    cases ei : inD dx dy with
    | none => rw [ei] at e; cases e
    | some k =>
      rw [ei] at e; cases e
      exact op_notinD g pins sh σ H _ _ v u Q I rx ry ⟨s, m, G, dx, dy, k, w, r1, r2, ei, q⟩
  | isn =>
    cases dy <;> simp only [cmpD, reduceCtorEq, Option.some.injEq] at e
    subst e
    exact op_isN pins sh σ H _ _ v u Q I rx ry ⟨r2.non, by rw [isNon_iff r1]; exact q⟩
  | notn =>
    cases dy <;> simp only [cmpD, reduceCtorEq, Option.some.injEq] at e
    subst e
    exact op_notN pins sh σ H _ _ v u Q I rx ry ⟨r2.non, by rw [isNon_iff r1]; exact q⟩
end
end MP

end
section
set_option Elab.async false
set_option linter.all false
set_option maxRecDepth 100000
set_option maxHeartbeats 1000000
/-! Comparisons as values and tests, subscripts, slices, isinstance, built-in calls. -/
namespace MP
open PySem PySem.Spec PyProof.Rows L2

section
variable {L : Lay} {c : Cfg} {Wx : WX} {W : List Nat} {X : Cx} {pos : Pos} {s : Sto} {m : List (Addr × Addr)} {G H : Hp}
/-- where the right side of in is no set display -/
def noSet : Expr → Bool
  | .Set .. => false
  | _ => true
theorem noSet_is {op : CmpOp} {b : Expr} (h : noSet b = true) : behindInMarks op b = false := by
  cases b <;> first | rfl | cases h
theorem s_cmp (g : Gd L X Wx) {op : Cm} {a b : Expr} {a' b' : E} (ha : PE X a (tB L c Wx W a')) (hb : PE X b (tB L c Wx W b')) (hs : noSet b = true) :
    PE X (.Compare a [cmOf op] [b] pos) (tE L c Wx W (.cmp op a' b')) := by
  refine PE.imp (pe_cmpR (op_cm g op) ha hb (noSet_is hs)) fun σ H Q ⟨ρ, s, m, G, w, q, A⟩ => ?_
  unfold ev at A
  refine goB w q (Aft.bind w A) fun d s1 m1 G1 H1 v t1 w1 q1 r1 A1 => ?_
  refine goB w1 q1 (Aft.bind w1 A1) fun d2 s2 m2 G2 H2 v2 t2 w2 q2 r2 A2 => ?_
  obtain ⟨z, e, A3⟩ := A2.opt
  cases ec : cmpD op d d2 with
  | none => rw [ec] at e; cases e
  | some b =>
    rw [ec] at e; cases e
    exact ⟨s2, m2, G2, d, d2, b, w2, r1.step t2, r2, ec, A3 m2 G2 H2 (Stp.refl _ _ _) w2 _ (.bl b)⟩
theorem s_tcmp (g : Gd L X Wx) {op : Cm} {a b : Expr} {a' b' : E} (ha : PE X a (tB L c Wx W a')) (hb : PE X b (tB L c Wx W b')) (hs : noSet b = true) :
    PT X (.Compare a [cmOf op] [b] pos) (tT L c Wx W (.cmp op a' b')) := by
  refine PT.imp (pt_cmpR (op_cm g op) ha hb (noSet_is hs)) fun σ H Q ⟨ρ, s, m, G, w, q, A⟩ => ?_
  unfold ev at A
  rw [Rs.bind_assoc] at A
  refine goB w q (Aft.bind w A) fun d s1 m1 G1 H1 v t1 w1 q1 r1 A1 => ?_
  rw [Rs.bind_assoc] at A1
  refine goB w1 q1 (Aft.bind w1 A1) fun d2 s2 m2 G2 H2 v2 t2 w2 q2 r2 A2 => ?_
  cases ec : cmpD op d d2 with
  | none => rw [ec] at A2; exact False.elim A2
  | some b =>
    rw [ec] at A2
    exact ⟨s2, m2, G2, d, d2, b, w2, r1.step t2, r2, ec, b, rfl, A2.ok w2⟩
theorem lastMarks_two {o p : CmpOp} {b d : Expr} (h : noSet d = true) : lastMarks [o, p] [b, d] = false := by
  show behindInMarks p d = false
  exact noSet_is h
theorem s_chain (g : Gd L X Wx) {o p : Cm} {a b d : Expr} {a' b' d' : E} (ha : PE X a (tB L c Wx W a')) (hb : PE X b (tB L c Wx W b')) (hd : PE X d (tB L c Wx W d')) (hs : noSet d = true) :
    PE X (.Compare a [cmOf o, cmOf p] [b, d] pos) (tE L c Wx W (.chain o p a' b' d')) := by
  refine PE.imp (pe_chain (op_cm g o) (op_cm g p) ha hb hd (lastMarks_two hs)) fun σ H Q ⟨ρ, s, m, G, w, q, A⟩ => ?_
  unfold ev at A
  refine goB w q (Aft.bind w A) fun x s1 m1 G1 H1 v t1 w1 q1 r1 A1 => ?_
  refine goB w1 q1 (Aft.bind w1 A1) fun y s2 m2 G2 H2 v2 t2 w2 q2 r2 A2 => ?_
  obtain ⟨k, e, A3⟩ := Aft.opt (Aft.bind w2 A2)
  refine ⟨s2, m2, G2, x, y, k, w2, r1.step t2, r2, e, k, rfl, ?_⟩
  have A4 := A3 m2 G2 H2 (Stp.refl _ _ _) w2
  cases k with
  | false => exact A4.ok w2 _ (.bl false)
  | true =>
    refine goB w2 q2 (Aft.bind w2 A4) fun z s3 m3 G3 H3 v3 t3 w3 q3 r3 A5 => ?_
    obtain ⟨u, eu, A6⟩ := A5.opt
    cases ec : cmpD p y z with
    | none => rw [ec] at eu; cases eu
    | some b =>
      rw [ec] at eu; cases eu
      exact ⟨s3, m3, G3, y, z, b, w3, r2.step t3, r3, ec, A6 m3 G3 H3 (Stp.refl _ _ _) w3 _ (.bl b)⟩
theorem s_tchain (g : Gd L X Wx) {o p : Cm} {a b d : Expr} {a' b' d' : E} (ha : PE X a (tB L c Wx W a')) (hb : PE X b (tB L c Wx W b')) (hd : PE X d (tB L c Wx W d')) (hs : noSet d = true) :
    PT X (.Compare a [cmOf o, cmOf p] [b, d] pos) (tT L c Wx W (.chain o p a' b' d')) := by
  refine PT.imp (pt_chain (op_cm g o) (op_cm g p) ha hb hd (lastMarks_two hs)) fun σ H Q ⟨ρ, s, m, G, w, q, A⟩ => ?_
  unfold ev at A
  rw [Rs.bind_assoc] at A
  refine goB w q (Aft.bind w A) fun x s1 m1 G1 H1 v t1 w1 q1 r1 A1 => ?_
  rw [Rs.bind_assoc] at A1
  refine goB w1 q1 (Aft.bind w1 A1) fun y s2 m2 G2 H2 v2 t2 w2 q2 r2 A2 => ?_
  rw [Rs.bind_assoc] at A2
  obtain ⟨k, e, A3⟩ := Aft.opt (Aft.bind w2 A2)
  refine ⟨s2, m2, G2, x, y, k, w2, r1.step t2, r2, e, k, rfl, ?_⟩
  have A4 := A3 m2 G2 H2 (Stp.refl _ _ _) w2
  cases k with
  | false => exact ⟨false, rfl, A4.ok w2⟩
  | true =>
    simp only [if_true] at A4
    rw [Rs.bind_assoc] at A4
    refine goB w2 q2 (Aft.bind w2 A4) fun z s3 m3 G3 H3 v3 t3 w3 q3 r3 A5 => ?_
    cases ec : cmpD p y z with
    | none => rw [ec] at A5; exact False.elim A5
    | some b =>
      rw [ec] at A5
      exact ⟨s3, m3, G3, y, z, b, w3, r2.step t3, r3, ec, b, rfl, A5.ok w3⟩

/-! ### subscripts -/
def noSlice : Expr → Bool
  | .Slice .. => false
  | _ => true
theorem noSlice_is {b : Expr} (h : noSlice b = true) : PlainIx b := fun o i => by
  cases b <;> first | rfl | cases h
def rIxD (L : Lay) : R2 := fun x y H Q => ∃ s m G dx dy d, Wd L s m G H ∧ RB L m G H x dx ∧ RB L m G H y dy ∧ ixD dx dy = some d ∧ ∀ v, Rep L m G v d → Q v H
theorem atI_rep {vs : List V} {ds : List D} {i : Int} {d : D} (r : Reps L m G vs ds) (h : atI ds i = some d) : ∃ v, atI vs i = some v ∧ Rep L m G v d := by
  unfold atI at h ⊢
  rw [r.length]
  cases e : ixN ds.length i with
  | none => rw [e] at h; cases h
  | some j =>
    rw [e] at h
    exact r.get h
theorem ix_dict (hu : X.A.units + 1 < cLine) : IxR X (fun x y H Q => ∃ a v, x = .ref a ∧ DGet H a y (some v) ∧ Q v H) := by
  intro value slice pins s σ H x y v u Q I rx ry q hs
  obtain ⟨a, z, rfl, hg, q⟩ := q
  obtain rfl : v = Value.ref a := rx
  have hT := dict_typeIs I hg
  have h2 : wpAny (model X.prog X.w) X.A (getItem (.ref a) u) (EP X pins σ Q) X.xe s := d_getItem hu I hg ry fun w' s3 I3 rw' => ⟨z, H, I3, rw', q⟩
  unfold subscriptTail
  refine wpAny_bind ?_
  rw [getitemInPython_of_ne hT.not_modules]
  refine wpAny_bind (wpAny_specialOf hT PySem.F.slot_dict_getitem.lookup ?_)
  have fin : wpAny (model X.prog X.w) X.A (subscripted slice false (.ref a) u) (fun r s₃ => wpAny (model X.prog X.w) X.A (letTemporaryGo value (.ref a) r >>= fun _ => pure r) (EP X pins σ Q) X.xe s₃) X.xe s := by
    rw [hs]
    exact wpAny_operating (wpAny_mono h2 (fun r s₃ h₃ => wpAny_bind (wpAny_letTemporaryGo (wpAny_pure h₃))) fun _ _ x => x)
  first
    | exact wpAny_pure (wpAny_bind fin)
    | exact wpAny_bind (wpAny_pure (wpAny_bind fin))
    | exact wpAny_bind fin
theorem ix_all (g : Gd L X Wx) : IxR X (rIxD L) := by
  have hu : X.A.units + 1 < cLine := by have := g.units; omega
  intro value slice pins sh σ H x y v u Q I rx ry h hs
  obtain ⟨s, m, G, dx, dy, d, w, r1, r2, ed, q⟩ := h
  have dict : ∀ o, dget dx dy = some o → o = some d → wpAny (model X.prog X.w) X.A (subscriptTail value slice v u) (EP X pins σ Q) X.xe sh := fun o eo e => by
    subst e
    obtain ⟨a, rfl, hg⟩ := dget_of w r1 r2 eo
    rcases hg with ⟨z, _⟩ | ⟨z, u', e1, h1, h2⟩
    · cases z
    · cases e1
      exact ix_dict hu value slice pins sh σ H _ y v u Q I rx ry ⟨a, u', rfl, h1, q u' h2⟩ hs
  have dj : ixD dx dy = (dget dx dy).join → wpAny (model X.prog X.w) X.A (subscriptTail value slice v u) (EP X pins σ Q) X.xe sh := fun e => by
    rw [ed] at e
    cases eo : dget dx dy with
    | none => rw [eo] at e; cases e
    | some o =>
      rw [eo] at e
      exact dict o eo (by simpa using e.symm)
  cases dx with
  | lst ds =>
    cases dy with
    | int i =>
      simp only [ixD] at ed
      obtain ⟨p, vs, rfl, hp, rp⟩ := r1.lst w
      have e2 := r2.int; subst e2
      obtain ⟨z, h1, h2⟩ := atI_rep rp ed
      exact ix_seq value slice pins sh σ H _ _ v u Q I rx ry (.inl ⟨p, vs, _, z, rfl, rfl, .of hp, h1, q z h2⟩) hs
    | _ => exact dj rfl
  | tup ds =>
    cases dy with
    | int i =>
      simp only [ixD] at ed
      obtain ⟨p, vs, rfl, hp, rp⟩ := r1.tup w
      have e2 := r2.int; subst e2
      obtain ⟨z, h1, h2⟩ := atI_rep rp ed
      exact ix_seq value slice pins sh σ H _ _ v u Q I rx ry (.inr (.inl ⟨p, vs, _, z, rfl, rfl, .of hp, h1, q z h2⟩)) hs
    | _ => exact dj rfl
  | str z =>
    cases dy with
    | int i =>
      simp only [ixD] at ed
      split at ed
      · rename_i hl
        have e1 := r1.str; subst e1
        have e2 := r2.int; subst e2
        cases ec : atI z.cps.toList i with
        | none => rw [ec] at ed; cases ed
        | some ch =>
          rw [ec] at ed; cases ed
          exact ix_seq value slice pins sh σ H _ _ v u Q I rx ry (.inr (.inr ⟨z, _, ch, rfl, rfl, by rw [← lim_eq]; exact hl, ec, q _ (.str _)⟩)) hs
      · cases ed
    | _ => exact dj rfl
  | _ => exact dj rfl
theorem s_ix (g : Gd L X Wx) {a b : Expr} {a' b' : E} (ha : PE X a (tB L c Wx W a')) (hb : PE X b (tB L c Wx W b')) (hs : noSlice b = true) : PE X (.Subscript a b pos) (tE L c Wx W (.ix a' b')) := by
  refine PE.imp (pe_ix (ix_all g) ha hb (noSlice_is hs)) fun σ H Q ⟨ρ, s, m, G, w, q, A⟩ => ?_
  unfold ev at A
  refine goB w q (Aft.bind w A) fun x s1 m1 G1 H1 v t1 w1 q1 r1 A1 => ?_
  refine goB w1 q1 (Aft.bind w1 A1) fun y s2 m2 G2 H2 v2 t2 w2 q2 r2 A2 => ?_
  obtain ⟨d, ed, A3⟩ := A2.opt
  exact ⟨s2, m2, G2, x, y, d, w2, r1.step t2, r2, ed, A3 m2 G2 H2 (Stp.refl _ _ _) w2⟩

/-! ### slices -/
theorem s_no : PO X none (tOe L c Wx W .no) := PO.imp po_none fun σ H Q ⟨ρ, s, m, G, w, q, A⟩ => by unfold evo at A; exact A.ok w
theorem s_so {e : Expr} {e' : E} (h : PE X e (tB L c Wx W e')) : PO X (some e) (tOe L c Wx W (.so e')) := by
  refine PO.imp (po_some h) fun σ H Q ⟨ρ, s, m, G, w, q, A⟩ => ?_
  unfold evo at A
  refine goB w q (Aft.bind w A) fun x s1 m1 G1 H1 v t1 w1 q1 r1 A1 => ?_
  split at A1
  · have e1 := r1.int; subst e1
    exact ⟨_, rfl, A1.ok w1⟩
  · exact False.elim A1
theorem goOe {e : Oe} {σ : L2.St} {ρ : Env} {R : Option Int → Hp → Prop} {J : Option Int → Sto → List (Addr × Addr) → Hp → Hp → Prop} (w : Wd L s m G H) (q : Sl L W ρ σ m G H) (A : Aft L Wx σ m G H (evo c e ρ s) J)
    (h : ∀ d s' m' G' H', Stp m G H m' G' H' → Wd L s' m' G' H' → Sl L W ρ σ m' G' H' → J d s' m' G' H' → R d H') : tOe L c Wx W e σ H R :=
  ⟨ρ, s, m, G, w, q, A.imp fun d s' m' G' H' t w' j => h d s' m' G' H' t w' (q.step t) j⟩
theorem cut_whole {vs : List V} {lo hi : Option Int} (h : HT.sIx vs.length 0 lo = 0 ∧ HT.sIx vs.length vs.length hi = vs.length) {ds : List D} (e : vs.length = ds.length) : cutL ds lo hi = ds := by
  unfold cutL
  rw [← e, h.1, h.2]
  simp [e]
theorem cut_reps {vs : List V} {ds : List D} {lo hi : Option Int} (r : Reps L m G vs ds) : Reps L m G (cutV vs lo hi) (cutL ds lo hi) := by
  unfold cutV cutL
  rw [r.length]
  exact (r.drop _).take _
theorem s_sl (g : Gd L X Wx) {a : Expr} {lo hi : Option Expr} {a' : E} {lo' hi' : Oe} {p2 : Pos} (ha : PE X a (tE L c Wx W a')) (hl : PO X lo (tOe L c Wx W lo')) (hh : PO X hi (tOe L c Wx W hi')) :
    PE X (.Subscript a (.Slice lo hi none p2) pos) (tE L c Wx W (.sl a' lo' hi')) := by
  refine PE.imp (pe_slice (SlR.or sl_list sl_tupA) ha hl hh) fun σ H Q ⟨ρ, s, m, G, w, q, A⟩ => ?_
  unfold ev at A
  refine goE w q (Aft.bind w A) fun x s1 m1 G1 H1 v t1 w1 q1 r1 A1 => ?_
  refine goOe w1 q1 (Aft.bind w1 A1) fun l s2 m2 G2 H2 t2 w2 q2 A2 => ?_
  refine goOe w2 q2 (Aft.bind w2 A2) fun h s3 m3 G3 H3 t3 w3 q3 A3 => ?_
  obtain ⟨d, ed, A4⟩ := A3.opt
  have r1' : Rep L m3 G3 v x := (r1.mono t2.pre t2.keep).mono t3.pre t3.keep
  have rb : RB L m3 G3 H3 v x := .rep r1'
  unfold slD at ed
  split at ed
  · cases ed
    obtain ⟨p, vs, rfl, hp, rp⟩ := rb.lst w3
    refine .inl ⟨p, vs, rfl, .of hp, fun p' np => ?_⟩
    exact put_new (K := fun _ _ _ => True) w3 np (.lst (cut_reps rp)) A4
  · cases ed
    obtain ⟨p, vs, rfl, hp, rp⟩ := rb.tup w3
    refine .inr ⟨p, vs, rfl, .of hp, fun hw => ?_, fun _ p' np => ?_⟩
    · rw [cut_whole hw rp.length] at A4
      exact A4 m3 G3 H3 (Stp.refl _ _ _) w3 _ r1'
    · exact put_new (K := fun _ _ _ => True) w3 np (.tup (cut_reps rp)) A4
  · cases ed
end
end MP

end
section
set_option Elab.async false
set_option linter.all false
set_option maxRecDepth 100000
set_option maxHeartbeats 1000000
/-! isinstance, built-in calls. -/
namespace MP
open PySem PySem.Spec PyProof.Rows L2

theorem starOne {e : Expr} {env : PySem.Env} (h : noStar e = true) : starEach [e] env = (false, eval e env) :: starEach [] env := starEach_cons h
theorem backNil {pos : Pos} {env : PySem.Env} : (backTo pos (starEach [] env)).any (·.1) = false := rfl
theorem backAny : ∀ {pos : Pos} {env : PySem.Env} {es : List Expr}, es.all noStar = true → (backTo pos (starEach es env)).any (·.1) = false
  | _, _, [], _ => rfl
  | pos, env, e :: es, h => by
    rw [List.all_cons, Bool.and_eq_true] at h
    rw [starEach_cons h.1]
    show (false || (backTo pos (starEach es env)).any (·.1)) = false
    rw [Bool.false_or]
    exact backAny h.2
section
variable {L : Lay} {c : Cfg} {Wx : WX} {W : List Nat} {X : Cx} {pos p : Pos} {s : Sto} {m : List (Addr × Addr)} {G H : Hp}
/-! ### isinstance -/
def tyN : D → String
  | .non => "NoneType"
  | .bl _ => "bool"
  | .int _ => "int"
  | .str _ => "str"
  | .lst _ => "list"
  | .tup _ => "tuple"
  | .dK _ => "dict"
  | .dT _ => "dict"
  | _ => "object"
theorem tyx_of {v : V} {d : D} (w : Wd L s m G H) (r : RB L m G H v d) (hn : tyN d ≠ "object") : TyX L.K H v (.type (tyN d)) := by
  cases d with
  | non => have e := r.non; subst e; exact .base .non
  | bl b => have e := r.bl; subst e; exact .base (.bl b)
  | int b => have e := r.int; subst e; exact .base (.int b)
  | str b => have e := r.str; subst e; exact .base (.str b)
  | lst ds => obtain ⟨a, vs, rfl, ha, _⟩ := r.lst w; exact .base (.lst ha)
  | tup ds => obtain ⟨a, vs, rfl, ha, _⟩ := r.tup w; exact .base (.tup ha)
  | dK ds => obtain ⟨a, vs, rfl, ha, _⟩ := r.dK w; exact .base (.dK ha)
  | dT ds => obtain ⟨a, vs, rfl, ha, _⟩ := r.dT w; exact .base (.dT ha)
  | _ => exact absurd rfl hn
def tyName : Ty → String
  | .int => "int"
  | .bool => "bool"
  | .tuple => "tuple"
  | .list => "list"
  | .str => "str"
  | .cls _ => "object"
/-- the class that is asked, as a value -/
def clsV (L : Lay) : Ty → V
  | .cls k => .ref (L.cls k)
  | t => .ty (tyName t)
theorem isi_of (g : Gd L X Wx) {v : V} {d : D} {t : Ty} {b : Bool} (w : Wd L s m G H) (r : RB L m G H v d) (hk : ∀ k, t = .cls k → L.has k = true) (e : isaD d t = some b) {Q : VK} (q : Q (.bl b) H) : rIsi X.K [v, clsV L t] H Q := by
  rw [g.K]
  cases t with
  | cls k =>
    have hk' := hk k rfl
    have F := g.cls k hk'
    cases d with
    | ins k' ds =>
      obtain ⟨a, dx, vs, rfl, ha, _, _, hh⟩ := r.ins w
      have F' := g.cls k' hh
      simp [isaD] at e
      refine ⟨_, _, .ref (L.cls k'), .ref (L.cls k), b, rfl, .own _, .base (.ins ha F'.cl F'.ha F'.hn F'.htk F'.hm), ?_, q⟩
      rw [g.kk k' k hh hk', ← e]
    | hnd _ => cases e
    | scr _ => cases e
    | fn _ => cases e
    | _ =>
      simp [isaD] at e
      subst e
      exact ⟨_, _, _, .ref (L.cls k), false, rfl, .own _, tyx_of w r (by simp [tyN]), F.kT _ (by simp [tyN]), q⟩
  | _ =>
    cases d with
    | ins k' ds =>
      obtain ⟨a, dx, vs, rfl, ha, _, _, hh⟩ := r.ins w
      have F' := g.cls k' hh
      simp [isaD] at e
      subst e
      exact ⟨_, _, .ref (L.cls k'), .type _, false, rfl, .ty _, .base (.ins ha F'.cl F'.ha F'.hn F'.htk F'.hm), F'.kU _ (by simp [tyName]), q⟩
    | hnd _ => cases e
    | scr _ => cases e
    | fn _ => cases e
    | _ =>
      simp [isaD] at e
      subst e
      exact ⟨_, _, _, .type _, _, rfl, .ty _, tyx_of w r (by simp [tyN]), kit_ty (by simp only [tyN, tyName]; decide +kernel), q⟩
theorem blt (g : Gd L X Wx) {x : Str} (h : x ∈ bnames) : X.mg x = none := g.blt x h
theorem s_isa (g : Gd L X Wx) {a tn : Expr} {a' : E} {t : Ty} (hg : Gl X "isinstance") (ha : PE X a (tB L c Wx W a')) (ht : PE X tn (tC (clsV L t))) (hk : ∀ k, t = .cls k → L.has k = true) (ns : noStar a = true) (nt : noStar tn = true) :
    PE X (.Call (.Name "isinstance" p) [a, tn] [] pos) (tE L c Wx W (.isa a' t)) := by
  refine PE.imp (pe_callB call_isi hg (blt g (by decide +kernel)) (by decide +kernel) (pa_cons ha (pa_cons ht pa_nil (starOne nt)) (starEach_cons ns)) (by decide +kernel) (by decide +kernel) (starEach_cons ns) (backAny (by simp [nt]))) fun σ H Q ⟨ρ, s, m, G, w, q, A⟩ => ?_
  unfold ev at A
  refine goB w q (Aft.bind w A) fun d s1 m1 G1 H1 v t1 w1 q1 r1 A1 => ?_
  obtain ⟨z, ez, A3⟩ := A1.opt
  cases e : isaD d t with
  | none => rw [e] at ez; cases ez
  | some b =>
    rw [e] at ez; cases ez
    exact isi_of g w1 r1 hk e (A3 m1 G1 H1 (Stp.refl _ _ _) w1 _ (.bl b))

/-! ### built-in functions of one argument -/
theorem sum_tup {prog : Program} {w : World} {A : Around} {E : Value → Shared → Prop} {s : Shared} {l : Addr} {its : List Value} {ns : List Int} {Q : Value → Shared → Prop} (hh : A.handled = none) (hl : IsTup s.heap l its.toArray) (hi : IntsAre its ns)
    (h : ∀ h' tk t', (∀ b o, s.heap.get? b = some o → h'.get? b = some o) → Q (.int ns.sum t') { s with heap := h', toks := tk }) : wpAny (model prog w) A (call (.builtin "sum") [.ref l]) Q E s := by
  obtain ⟨xs, e⟩ := hi.allInts.items
  have hn : numsOf (intItems xs).toList = ns := by rw [← e]; exact hi.numsOf
  rw [nums_intItems] at hn
  rw [e] at hl
  have hlt : l < s.heap.objs.size := hl.lt
  have ht : s.heap.IsTuple l (intItems xs) := hl
  refine call_sum_walkG (wpAny_pyIter_tuple ht ?_)
  refine ⟨_, [s.heap.objs.size, l], [s.heap.objs.size], _, _, _, numAt xs, rfl, Walks.tuple (A := A.in1) hh _ l (Nat.ne_of_lt hlt) (intItems xs), ⟨⟨_, Heap.get?_push_size _ rfl, rfl, rfl⟩, ht.push _⟩, fun b hb => ?_, (fun _ _ => intItems_at), fun h' tk t' hk => ?_⟩
  · rw [Heap.size_push]
    rcases List.mem_cons.mp hb with e1 | hb
    · rw [e1]; exact Nat.lt_succ_self _
    · rcases List.mem_cons.mp hb with e1 | hb
      · rw [e1]; exact Nat.lt_succ_of_lt hlt
      · cases hb
  · have q := h h' tk t' fun b o eb => hk b o (fun hm => by
      rcases List.mem_cons.mp hm with e1 | hm
      · exact absurd (e1 ▸ Heap.lt_size eb) (Nat.lt_irrefl _)
      · cases hm) (Heap.get?_push_of_some _ eb)
    have sz : (intItems xs).size = xs.size := by simp [intItems]
    rw [sz, preSum_eq, List.take_of_length_le (by simp), hn]; exact q
def rSumT (K : PySem.W.Frag) : List V → Hp → VK → Prop := fun vs H Q => ∃ (a : Addr) (ns : List Int), vs = [V.ref a] ∧ SqT K H a (ns.map V.int) ∧ Q (.int ns.sum) H
theorem cr_sumT (hc : X.calm = true) : CallR X (.builtin "sum") (rSumT X.K) := by
  intro pins s σ H xs us Q I r h
  obtain ⟨a, ns, rfl, hs, q⟩ := h
  obtain ⟨its, rv, hp, _⟩ := I.tuple hs
  obtain rfl := Vals.ref1 r
  exact sum_tup (I.ok.hd hc) hp rv.ints fun h' tk t' hk => ⟨.int _, H, I.kept (t' := tk) hk, ⟨_, rfl⟩, q⟩
def rB1 (L : Lay) (b : B1) : List V → Hp → VK → Prop := fun xs H Q => ∃ x s m G dx d, xs = [x] ∧ Wd L s m G H ∧ RB L m G H x dx ∧ b1D b dx = some d ∧ ∀ m' G' H', Stp m G H m' G' H' → Wd L s m' G' H' → ∀ v, Rep L m' G' v d → Q v H'
theorem foldMax : ∀ (xs : List Int) (x : Int), (xs.foldl (fun m y => if m < y then y else m) x ∈ x :: xs) ∧ ∀ y ∈ x :: xs, y ≤ xs.foldl (fun m y => if m < y then y else m) x
  | [], x => ⟨List.mem_singleton.mpr rfl, fun y h => by rw [List.mem_singleton.mp h]; exact Int.le_refl _⟩
  | z :: xs, x => by
    rw [List.foldl_cons]
    obtain ⟨h1, h2⟩ := foldMax xs (if x < z then z else x)
    refine ⟨?_, fun y hy => ?_⟩
    · rcases List.mem_cons.mp h1 with e | e
      · rw [e]; split <;> simp
      · exact List.mem_cons_of_mem _ (List.mem_cons_of_mem _ e)
    · have hx := h2 _ List.mem_cons_self
      rcases List.mem_cons.mp hy with rfl | hy
      · refine Int.le_trans ?_ hx; split <;> omega
      · rcases List.mem_cons.mp hy with rfl | hy
        · refine Int.le_trans ?_ hx; split <;> omega
        · exact h2 y (List.mem_cons_of_mem _ hy)
theorem foldMin : ∀ (xs : List Int) (x : Int), (xs.foldl (fun m y => if y < m then y else m) x ∈ x :: xs) ∧ ∀ y ∈ x :: xs, xs.foldl (fun m y => if y < m then y else m) x ≤ y
  | [], x => ⟨List.mem_singleton.mpr rfl, fun y h => by rw [List.mem_singleton.mp h]; exact Int.le_refl _⟩
  | z :: xs, x => by
    rw [List.foldl_cons]
    obtain ⟨h1, h2⟩ := foldMin xs (if z < x then z else x)
    refine ⟨?_, fun y hy => ?_⟩
    · rcases List.mem_cons.mp h1 with e | e
      · rw [e]; split <;> simp
      · exact List.mem_cons_of_mem _ (List.mem_cons_of_mem _ e)
    · have hx := h2 _ List.mem_cons_self
      rcases List.mem_cons.mp hy with rfl | hy
      · refine Int.le_trans hx ?_; split <;> omega
      · rcases List.mem_cons.mp hy with rfl | hy
        · refine Int.le_trans hx ?_; split <;> omega
        · exact h2 y (List.mem_cons_of_mem _ hy)
theorem maxI_spec {ns : List Int} {k : Int} (e : maxI ns = some k) : 0 < ns.length ∧ k ∈ ns ∧ ∀ y ∈ ns, y ≤ k := by
  cases ns with
  | nil => cases e
  | cons x xs =>
    have e' := Option.some.inj e
    subst e'
    exact ⟨by simp, foldMax xs x⟩
theorem minI_spec {ns : List Int} {k : Int} (e : minI ns = some k) : 0 < ns.length ∧ k ∈ ns ∧ ∀ y ∈ ns, k ≤ y := by
  cases ns with
  | nil => cases e
  | cons x xs =>
    have e' := Option.some.inj e
    subst e'
    exact ⟨by simp, foldMin xs x⟩
theorem cr_len (g : Gd L X Wx) : CallR X (.builtin "len") (rB1 L .len) := by
  intro pins sh σ H xs us Q I r h
  obtain ⟨x, s, m, G, dx, d, rfl, w, rx, e, q⟩ := h
  have now := q m G H (Stp.refl _ _ _) w
  simp only [b1D] at e
  cases el : lenD dx with
  | none => rw [el] at e; cases e
  | some n =>
    rw [el] at e; cases e
    have now' := now _ (.int n)
    unfold lenD at el
    split at el
    · cases el
      obtain ⟨a, vs, rfl, ha, ra⟩ := rx.lst w
      exact call_len_seq pins sh σ H _ us Q I r ⟨a, vs, rfl, .inl (.of ha), by rw [ra.length]; exact now'⟩
    · cases el
      obtain ⟨a, vs, rfl, ha, ra⟩ := rx.tup w
      exact call_len_seq pins sh σ H _ us Q I r ⟨a, vs, rfl, .inr (.of ha), by rw [ra.length]; exact now'⟩
    · split at el
      · rename_i hl
        cases el
        have e1 := rx.str; subst e1
        exact call_len_str pins sh σ H _ us Q I r ⟨_, rfl, by rw [← lim_eq]; exact hl, now'⟩
      · cases el
    · cases el
      obtain ⟨a, kvs, rfl, ha, hk, ra⟩ := rx.dK w
      have := congrArg List.length hk
      rw [List.length_map, List.length_map] at this
      exact call_lenD pins sh σ H _ us Q I r ⟨a, kvs, rfl, ha, by rw [this]; exact now'⟩
    · cases el
      obtain ⟨a, kvs, rfl, ha, hk, ra⟩ := rx.dT w
      have := congrArg List.length hk
      rw [List.length_map, List.length_map] at this
      exact call_len_dT pins sh σ H _ us Q I r ⟨a, kvs, rfl, ha, by rw [this]; exact now'⟩
    · cases el
theorem cr_sumD (g : Gd L X Wx) : CallR X (.builtin "sum") (rB1 L .sum) := by
  intro pins sh σ H xs us Q I r h
  obtain ⟨x, s, m, G, dx, d, rfl, w, rx, e, q⟩ := h
  have now := q m G H (Stp.refl _ _ _) w
  cases dx with
  | lst ds =>
    simp only [b1D] at e
    cases ei : intsOf ds with
    | none => rw [ei] at e; cases e
    | some is =>
      rw [ei] at e; cases e
      obtain ⟨a, vs, rfl, ha, ra⟩ := rx.lst w
      have ev := ra.ints ei; subst ev
      exact cr_sum g.calm pins sh σ H _ us Q I r ⟨a, is, rfl, .of ha, now _ (.int _)⟩
  | tup ds =>
    simp only [b1D] at e
    cases ei : intsOf ds with
    | none => rw [ei] at e; cases e
    | some is =>
      rw [ei] at e; cases e
      obtain ⟨a, vs, rfl, ha, ra⟩ := rx.tup w
      have ev := ra.ints ei; subst ev
      exact cr_sumT g.calm pins sh σ H _ us Q I r ⟨a, is, rfl, .of ha, now _ (.int _)⟩
  | _ => simp [b1D] at e
theorem cr_maxD (g : Gd L X Wx) : CallR X (.builtin "max") (rB1 L .max) := by
  intro pins sh σ H xs us Q I r h
  obtain ⟨x, s, m, G, dx, d, rfl, w, rx, e, q⟩ := h
  have now := q m G H (Stp.refl _ _ _) w
  cases dx with
  | lst ds =>
    simp only [b1D] at e
    cases ei : intsOf ds with
    | none => rw [ei] at e; cases e
    | some is =>
      rw [ei] at e
      cases em : maxI is with
      | none => simp [em] at e
      | some k =>
        simp [em] at e; subst e
        obtain ⟨a, vs, rfl, ha, ra⟩ := rx.lst w
        have ev := ra.ints ei; subst ev
        obtain ⟨h1, h2, h3⟩ := maxI_spec em
        refine cr_max g.calm pins sh σ H _ us Q I r ⟨a, is, rfl, .of ha, h1, fun k' hk hl => ?_⟩
        have : k' = k := Int.le_antisymm (h3 k' hk) (hl k h2)
        rw [this]; exact now _ (.int _)
  | _ => simp [b1D] at e
theorem cr_minD (g : Gd L X Wx) : CallR X (.builtin "min") (rB1 L .min) := by
  intro pins sh σ H xs us Q I r h
  obtain ⟨x, s, m, G, dx, d, rfl, w, rx, e, q⟩ := h
  have now := q m G H (Stp.refl _ _ _) w
  cases dx with
  | lst ds =>
    simp only [b1D] at e
    cases ei : intsOf ds with
    | none => rw [ei] at e; cases e
    | some is =>
      rw [ei] at e
      cases em : minI is with
      | none => simp [em] at e
      | some k =>
        simp [em] at e; subst e
        obtain ⟨a, vs, rfl, ha, ra⟩ := rx.lst w
        have ev := ra.ints ei; subst ev
        obtain ⟨h1, h2, h3⟩ := minI_spec em
        refine cr_min g.calm pins sh σ H _ us Q I r ⟨a, is, rfl, .of ha, h1, fun k' hk hl => ?_⟩
        have : k' = k := Int.le_antisymm (hl k h2) (h3 k' hk)
        rw [this]; exact now _ (.int _)
  | _ => simp [b1D] at e
theorem cr_absD (g : Gd L X Wx) : CallR X (.builtin "abs") (rB1 L .abs) := by
  intro pins sh σ H xs us Q I r h
  obtain ⟨x, s, m, G, dx, d, rfl, w, rx, e, q⟩ := h
  have now := q m G H (Stp.refl _ _ _) w
  cases dx with
  | int i =>
    simp [b1D] at e; subst e
    have e1 := rx.int; subst e1
    exact call_abs pins sh σ H _ us Q I r ⟨i, rfl, now _ (.int _)⟩
  | _ => simp [b1D] at e
theorem cr_intD (g : Gd L X Wx) : CallR X (.type "int") (rB1 L .int) := by
  intro pins sh σ H xs us Q I r h
  obtain ⟨x, s, m, G, dx, d, rfl, w, rx, e, q⟩ := h
  have now := q m G H (Stp.refl _ _ _) w
  cases dx with
  | int i =>
    simp [b1D] at e; subst e
    have e1 := rx.int; subst e1
    exact call_int1 pins sh σ H _ us Q I r (.inl ⟨i, rfl, now _ (.int _)⟩)
  | _ => simp [b1D] at e
theorem cr_strD (g : Gd L X Wx) : CallR X (.type "str") (rB1 L .str) := by
  intro pins sh σ H xs us Q I r h
  obtain ⟨x, s, m, G, dx, d, rfl, w, rx, e, q⟩ := h
  have now := q m G H (Stp.refl _ _ _) w
  cases dx with
  | int i =>
    simp only [b1D] at e
    split at e
    · rename_i hl
      cases e
      have e1 := rx.int; subst e1
      exact call_str_int pins sh σ H _ us Q I r ⟨i, rfl, hl, now _ (.str _)⟩
    · cases e
  | _ => simp [b1D] at e
theorem cr_tupleD (g : Gd L X Wx) : CallR X (.type "tuple") (fun xs H Q => ∃ x s m G dx d, xs = [x] ∧ Wd L s m G H ∧ Rep L m G x dx ∧ b1D .tuple dx = some d ∧ ∀ m' G' H', Stp m G H m' G' H' → Wd L s m' G' H' → ∀ v, Rep L m' G' v d → Q v H') := by
  intro pins sh σ H xs us Q I r h
  obtain ⟨x, s, m, G, dx, d, rfl, w, rx, e, q⟩ := h
  have rb : RB L m G H x dx := .rep rx
  cases dx with
  | lst ds =>
    simp [b1D] at e; subst e
    obtain ⟨a, vs, rfl, ha, ra⟩ := rb.lst w
    exact call_tuple_of pins sh σ H _ us Q I r ⟨a, vs, rfl, .inl ⟨.of ha, fun l nl => put_new (K := fun _ _ _ => True) w nl (.tup ra) q⟩⟩
  | tup ds =>
    simp [b1D] at e; subst e
    obtain ⟨a, vs, rfl, ha, ra⟩ := rb.tup w
    exact call_tuple_of pins sh σ H _ us Q I r ⟨a, vs, rfl, .inr ⟨.of ha, q m G H (Stp.refl _ _ _) w _ rx⟩⟩
  | _ => simp [b1D] at e
/-- list(x), dict(d): a new object -/
def rCopy (L : Lay) (b : B1) : List V → Hp → VK → Prop := fun xs H Q => ∃ x s m G dx d, xs = [x] ∧ Wd L s m G H ∧ RB L m G H x dx ∧ b1D b dx = some d ∧ ∀ p o, H p = none → Cont L m G o d → Q (.ref p) (upd H p o)
theorem kV_reps : ∀ {kvs : List (Key × V)} {kds : List (Key × D)}, kvs.map (·.1) = kds.map (·.1) → Reps L m G (kvs.map fun kv => kV kv.1) (kds.map fun p => match p.1 with
    | .inl i => D.int i
    | .inr x => D.str x)
  | [], [], _ => .nil
  | [], _ :: _, h => by simp at h
  | _ :: _, [], h => by simp at h
  | (a, v) :: kvs, (b, d) :: kds, h => by
    simp only [List.map_cons, List.cons.injEq] at h
    obtain ⟨h1, h2⟩ := h
    subst h1
    simp only [List.map_cons]
    refine .cons ?_ (kV_reps h2)
    cases a with
    | inl i => exact .int i
    | inr x => exact .str x
theorem cr_listD (g : Gd L X Wx) : CallR X (.type "list") (rCopy L .list) := by
  intro pins sh σ H xs us Q I r h
  obtain ⟨x, s, m, G, dx, d, rfl, w, rx, e, q⟩ := h
  cases dx with
  | lst ds =>
    simp [b1D] at e; subst e
    obtain ⟨a, vs, rfl, ha, ra⟩ := rx.lst w
    exact call_list_of pins sh σ H _ us Q I r ⟨a, vs, rfl, .inl (.of ha), fun l nl => q l _ nl (.lst ra)⟩
  | tup ds =>
    simp [b1D] at e; subst e
    obtain ⟨a, vs, rfl, ha, ra⟩ := rx.tup w
    exact call_list_of pins sh σ H _ us Q I r ⟨a, vs, rfl, .inr (.of ha), fun l nl => q l _ nl (.lst ra)⟩
  | dK kds =>
    simp [b1D] at e; subst e
    obtain ⟨a, kvs, rfl, ha, hk, ra⟩ := rx.dK w
    exact call_list_dK g.calm pins sh σ H _ us Q I r ⟨a, kvs, rfl, ha, fun l nl => q l _ nl (.lst (kV_reps hk))⟩
  | _ => simp [b1D] at e
theorem cr_dictD (g : Gd L X Wx) : CallR X (.type "dict") (rCopy L .dict) := by
  intro pins sh σ H xs us Q I r h
  obtain ⟨x, s, m, G, dx, d, rfl, w, rx, e, q⟩ := h
  cases dx with
  | dK kds =>
    simp [b1D] at e; subst e
    obtain ⟨a, kvs, rfl, ha, hk, ra⟩ := rx.dK w
    exact call_dictD pins sh σ H _ us Q I r ⟨a, kvs, rfl, .inl ha, fun l nl => q l _ nl (.dK hk ra)⟩
  | _ => simp [b1D] at e
/-- the reading of such a call -/
theorem b1_go {b : B1} {a' : E} {Q : VK} {σ : L2.St} {ρ : Env} (w : Wd L s m G H) (q : Sl L W ρ σ m G H) (A : Aft L Wx σ m G H (ev c (.b1 b a') ρ s) fun d _ m' G' H' => ∀ v, Rep L m' G' v d → Q v H') :
    tCons (tB L c Wx W a') tNil σ H fun vs H1 => rB1 L b vs H1 Q := by
  unfold ev at A
  refine goB w q (Aft.bind w A) fun d s1 m1 G1 H1 v t1 w1 q1 r1 A1 => ?_
  obtain ⟨z, ez, A3⟩ := A1.opt
  exact ⟨v, s1, m1, G1, d, z, rfl, w1, r1, ez, A3⟩
theorem s_len (g : Gd L X Wx) {a : Expr} {a' : E} (hg : Gl X "len") (ha : PE X a (tB L c Wx W a')) (ns : noStar a = true) : PE X (.Call (.Name "len" p) [a] [] pos) (tE L c Wx W (.b1 .len a')) :=
  PE.imp (pe_callB (cr_len g) hg (blt g (by decide +kernel)) (by decide +kernel) (pa_cons ha pa_nil (starOne ns)) (by decide +kernel) (by decide +kernel) (starOne ns) backNil) fun σ H Q ⟨ρ, s, m, G, w, q, A⟩ => b1_go w q A
theorem s_sum (g : Gd L X Wx) {a : Expr} {a' : E} (hg : Gl X "sum") (ha : PE X a (tB L c Wx W a')) (ns : noStar a = true) : PE X (.Call (.Name "sum" p) [a] [] pos) (tE L c Wx W (.b1 .sum a')) :=
  PE.imp (pe_callB (cr_sumD g) hg (blt g (by decide +kernel)) (by decide +kernel) (pa_cons ha pa_nil (starOne ns)) (by decide +kernel) (by decide +kernel) (starOne ns) backNil) fun σ H Q ⟨ρ, s, m, G, w, q, A⟩ => b1_go w q A
theorem s_max (g : Gd L X Wx) {a : Expr} {a' : E} (hg : Gl X "max") (ha : PE X a (tB L c Wx W a')) (ns : noStar a = true) : PE X (.Call (.Name "max" p) [a] [] pos) (tE L c Wx W (.b1 .max a')) :=
  PE.imp (pe_callB (cr_maxD g) hg (blt g (by decide +kernel)) (by decide +kernel) (pa_cons ha pa_nil (starOne ns)) (by decide +kernel) (by decide +kernel) (starOne ns) backNil) fun σ H Q ⟨ρ, s, m, G, w, q, A⟩ => b1_go w q A
theorem s_min (g : Gd L X Wx) {a : Expr} {a' : E} (hg : Gl X "min") (ha : PE X a (tB L c Wx W a')) (ns : noStar a = true) : PE X (.Call (.Name "min" p) [a] [] pos) (tE L c Wx W (.b1 .min a')) :=
  PE.imp (pe_callB (cr_minD g) hg (blt g (by decide +kernel)) (by decide +kernel) (pa_cons ha pa_nil (starOne ns)) (by decide +kernel) (by decide +kernel) (starOne ns) backNil) fun σ H Q ⟨ρ, s, m, G, w, q, A⟩ => b1_go w q A
theorem s_abs (g : Gd L X Wx) {a : Expr} {a' : E} (hg : Gl X "abs") (ha : PE X a (tB L c Wx W a')) (ns : noStar a = true) : PE X (.Call (.Name "abs" p) [a] [] pos) (tE L c Wx W (.b1 .abs a')) :=
  PE.imp (pe_callB (cr_absD g) hg (blt g (by decide +kernel)) (by decide +kernel) (pa_cons ha pa_nil (starOne ns)) (by decide +kernel) (by decide +kernel) (starOne ns) backNil) fun σ H Q ⟨ρ, s, m, G, w, q, A⟩ => b1_go w q A
theorem s_intc (g : Gd L X Wx) {a : Expr} {a' : E} (hg : Gl X "int") (ha : PE X a (tB L c Wx W a')) (ns : noStar a = true) : PE X (.Call (.Name "int" p) [a] [] pos) (tE L c Wx W (.b1 .int a')) :=
  PE.imp (pe_callTy (cr_intD g) hg (blt g (by decide +kernel)) (by decide +kernel) (pa_cons ha pa_nil (starOne ns)) (by decide +kernel) (by decide +kernel) (starOne ns) backNil) fun σ H Q ⟨ρ, s, m, G, w, q, A⟩ => b1_go w q A
theorem s_strc (g : Gd L X Wx) {a : Expr} {a' : E} (hg : Gl X "str") (ha : PE X a (tB L c Wx W a')) (ns : noStar a = true) : PE X (.Call (.Name "str" p) [a] [] pos) (tE L c Wx W (.b1 .str a')) :=
  PE.imp (pe_callTy (cr_strD g) hg (blt g (by decide +kernel)) (by decide +kernel) (pa_cons ha pa_nil (starOne ns)) (by decide +kernel) (by decide +kernel) (starOne ns) backNil) fun σ H Q ⟨ρ, s, m, G, w, q, A⟩ => b1_go w q A
theorem s_tuplec (g : Gd L X Wx) {a : Expr} {a' : E} (hg : Gl X "tuple") (ha : PE X a (tE L c Wx W a')) (ns : noStar a = true) : PE X (.Call (.Name "tuple" p) [a] [] pos) (tE L c Wx W (.b1 .tuple a')) := by
  refine PE.imp (pe_callTy (cr_tupleD g) hg (blt g (by decide +kernel)) (by decide +kernel) (pa_cons ha pa_nil (starOne ns)) (by decide +kernel) (by decide +kernel) (starOne ns) backNil) fun σ H Q ⟨ρ, s, m, G, w, q, A⟩ => ?_
  unfold ev at A
  refine goE w q (Aft.bind w A) fun d s1 m1 G1 H1 v t1 w1 q1 r1 A1 => ?_
  obtain ⟨z, ez, A3⟩ := A1.opt
  exact ⟨v, s1, m1, G1, d, z, rfl, w1, r1, ez, A3⟩
theorem copy_go {b : B1} {a' : E} {Q : VK} {σ : L2.St} {ρ : Env} (w : Wd L s m G H) (q : Sl L W ρ σ m G H) (A : Aft L Wx σ m G H (ev c (.b1 b a') ρ s) fun d _ m' G' H' => ∀ a o, H a = none → G' a = none → a ∉ hs m' → H' a = some o → Cont L m' G' o d → Q (.ref a) H') :
    tCons (tB L c Wx W a') tNil σ H fun vs H1 => rCopy L b vs H1 Q := by
  unfold ev at A
  refine goB w q (Aft.bind w A) fun d s1 m1 G1 H1 v t1 w1 q1 r1 A1 => ?_
  obtain ⟨z, ez, A3⟩ := A1.opt
  exact ⟨v, s1, m1, G1, d, z, rfl, w1, r1, ez, fun p o np hc => A3 m1 G1 (upd H1 p o) (Stp.lay np o) (w1.lay np o) p o (Stp.back w1 t1 np) (w1.sub.free np) (fun z => (w1.off p z).2 np) upd_same hc⟩
theorem s_listc (g : Gd L X Wx) {a : Expr} {a' : E} (hg : Gl X "list") (ha : PE X a (tB L c Wx W a')) (ns : noStar a = true) : PE X (.Call (.Name "list" p) [a] [] pos) (tO L c Wx W (.b1 .list a')) :=
  PE.imp (pe_callTy (cr_listD g) hg (blt g (by decide +kernel)) (by decide +kernel) (pa_cons ha pa_nil (starOne ns)) (by decide +kernel) (by decide +kernel) (starOne ns) backNil) fun σ H Q ⟨ρ, s, m, G, w, q, A⟩ => copy_go w q A
theorem s_dictc (g : Gd L X Wx) {a : Expr} {a' : E} (hg : Gl X "dict") (ha : PE X a (tB L c Wx W a')) (ns : noStar a = true) : PE X (.Call (.Name "dict" p) [a] [] pos) (tO L c Wx W (.b1 .dict a')) :=
  PE.imp (pe_callTy (cr_dictD g) hg (blt g (by decide +kernel)) (by decide +kernel) (pa_cons ha pa_nil (starOne ns)) (by decide +kernel) (by decide +kernel) (starOne ns) backNil) fun σ H Q ⟨ρ, s, m, G, w, q, A⟩ => copy_go w q A
/-- max, min of two -/
def rB2 (L : Lay) (b : B2) : List V → Hp → VK → Prop := fun xs H Q => ∃ x y s m G dx dy d, xs = [x, y] ∧ Wd L s m G H ∧ RB L m G H x dx ∧ RB L m G H y dy ∧ b2D b dx dy = some d ∧ ∀ v, Rep L m G v d → Q v H
theorem cr_max2 (g : Gd L X Wx) : CallR X (.builtin "max") (rB2 L .max) := by
  intro pins sh σ H xs us Q I r h
  obtain ⟨x, y, s, m, G, dx, dy, d, rfl, w, rx, ry, e, q⟩ := h
  cases dx <;> cases dy <;> simp [b2D] at e
  subst e
  have e1 := rx.int; subst e1
  have e2 := ry.int; subst e2
  exact call_max2 g.calm pins sh σ H _ us Q I r ⟨_, _, rfl, q _ (.int _)⟩
theorem cr_min2 (g : Gd L X Wx) : CallR X (.builtin "min") (rB2 L .min) := by
  intro pins sh σ H xs us Q I r h
  obtain ⟨x, y, s, m, G, dx, dy, d, rfl, w, rx, ry, e, q⟩ := h
  cases dx <;> cases dy <;> simp [b2D] at e
  subst e
  have e1 := rx.int; subst e1
  have e2 := ry.int; subst e2
  exact call_min2 g.calm pins sh σ H _ us Q I r ⟨_, _, rfl, q _ (.int _)⟩
theorem b2_go {b : B2} {a' b' : E} {Q : VK} {σ : L2.St} {ρ : Env} (w : Wd L s m G H) (q : Sl L W ρ σ m G H) (A : Aft L Wx σ m G H (ev c (.b2 b a' b') ρ s) fun d _ m' G' H' => ∀ v, Rep L m' G' v d → Q v H') :
    tCons (tB L c Wx W a') (tCons (tB L c Wx W b') tNil) σ H fun vs H1 => rB2 L b vs H1 Q := by
  unfold ev at A
  refine goB w q (Aft.bind w A) fun d s1 m1 G1 H1 v t1 w1 q1 r1 A1 => ?_
  refine goB w1 q1 (Aft.bind w1 A1) fun d2 s2 m2 G2 H2 v2 t2 w2 q2 r2 A2 => ?_
  obtain ⟨z, ez, A3⟩ := A2.opt
  exact ⟨v, v2, s2, m2, G2, d, d2, z, rfl, w2, r1.step t2, r2, ez, A3 m2 G2 H2 (Stp.refl _ _ _) w2⟩
theorem s_max2 (g : Gd L X Wx) {a b : Expr} {a' b' : E} (hg : Gl X "max") (ha : PE X a (tB L c Wx W a')) (hb : PE X b (tB L c Wx W b')) (ns : noStar a = true) (nt : noStar b = true) : PE X (.Call (.Name "max" p) [a, b] [] pos) (tE L c Wx W (.b2 .max a' b')) :=
  PE.imp (pe_callB (cr_max2 g) hg (blt g (by decide +kernel)) (by decide +kernel) (pa_cons ha (pa_cons hb pa_nil (starOne nt)) (starEach_cons ns)) (by decide +kernel) (by decide +kernel) (starEach_cons ns) (backAny (by simp [nt]))) fun σ H Q ⟨ρ, s, m, G, w, q, A⟩ => b2_go w q A
theorem s_min2 (g : Gd L X Wx) {a b : Expr} {a' b' : E} (hg : Gl X "min") (ha : PE X a (tB L c Wx W a')) (hb : PE X b (tB L c Wx W b')) (ns : noStar a = true) (nt : noStar b = true) : PE X (.Call (.Name "min" p) [a, b] [] pos) (tE L c Wx W (.b2 .min a' b')) :=
  PE.imp (pe_callB (cr_min2 g) hg (blt g (by decide +kernel)) (by decide +kernel) (pa_cons ha (pa_cons hb pa_nil (starOne nt)) (starEach_cons ns)) (by decide +kernel) (by decide +kernel) (starEach_cons ns) (backAny (by simp [nt]))) fun σ H Q ⟨ρ, s, m, G, w, q, A⟩ => b2_go w q A
end
end MP

end
section
set_option Elab.async false
set_option linter.all false
set_option maxRecDepth 100000
set_option maxHeartbeats 1000000
/-! Calls: what a def promises, f(..), C(..), e.f. -/
namespace MP
open PySem PySem.Spec PyProof.Rows L2

/-- a def's promise: what the reading by functions gives -/
def spF (L : Lay) (n : Nat) (fr : Bool) (φ : List D → Sto → Rs D) : Sp := fun vs H Q E => vs.length = n ∧ ∃ ds s m G, Wd L s m G H ∧ Reps L m G vs ds ∧
  Aft L (fun cl d _ H => E cl d H) [] m G H (φ ds s) fun d _ m' G' H' => if fr = true then ∀ a o, H a = none → G' a = none → a ∉ hs m' → H' a = some o → Cont L m' G' o d → Q (.ref a) H' else ∀ v, Rep L m' G' v d → Q v H'
/-- .. of an __init__: x is the new object -/
def wout (H : Hp) (x : Addr) : Hp := fun b => if b = x then none else H b
def spI (L : Lay) (n : Nat) (k : Cl) (φ : List D → Sto → Rs D) : Sp := fun vs H Q E => ∃ x dx us, vs = .ref x :: us ∧ us.length = n ∧ H x = some (.ins (L.cls k) dx []) ∧ H dx = some (.own x) ∧ dx ≠ x ∧
  ∃ ds s m G, Wd L s m G H ∧ G x = none ∧ x ∉ hs m ∧ Reps L m G us ds ∧
  Aft L (fun cl d _ H => E cl d H) [] m G (wout H x) (φ ds s) fun d _ m' G' H' => ∀ o, G' x = none → x ∉ hs m' → H' x = some o → Cont L m' G' o d → Q .non H'

/-- a def of the text where the reading stands -/
structure FnH (L : Lay) (X : Cx) (n : Nat) (f : F) (nm : Str) (np : Nat) (fr : Bool) (φ : List D → Sto → Rs D) : Prop where
  ok : ∃ fd ps, FnOk X.prog X.w X.K X.mg X.base (CX X.prog X.w) (2 * n) (L.fad f) fd ps (spF L np fr φ) ∧ Binds X.K fd ps []
  mg : X.mg nm = some (.ref (L.fad f))
  kp : PySem.W.keepIn X.K (.ref (L.fad f)) = true
section
variable {L : Lay} {c : Cfg} {Wx : WX} {W : List Nat} {X : Cx} {pos p : Pos} {s : Sto} {m : List (Addr × Addr)} {G H : Hp} {n : Nat}
theorem call_go {es' : Es} {f : F} {np : Nat} {Q : VK} {σ : L2.St} {ρ : Env} {fr : Bool} (hl : ∀ ds s, ds.length ≠ np → c.call f ds s = .st) (w : Wd L s m G H) (q : Sl L W ρ σ m G H)
    (A : Aft L Wx σ m G H (ev c (.call f es') ρ s) fun d _ m' G' H' => if fr = true then ∀ a o, H a = none → G' a = none → a ∉ hs m' → H' a = some o → Cont L m' G' o d → Q (.ref a) H' else ∀ v, Rep L m' G' v d → Q v H') :
    tEs L c Wx W es' σ H fun vs H1 => spF L np fr (c.call f) (vs ++ []) H1 Q (WE Wx σ) := by
  unfold ev at A
  refine goEs w q (Aft.bind w A) fun ds s1 m1 G1 H1 vs t1 w1 q1 r1 A1 => ?_
  have hlen : ds.length = np := by
    refine Decidable.byContradiction fun z => ?_
    rw [hl ds s1 z] at A1
    exact A1
  refine ⟨by rw [List.append_nil, r1.length]; exact hlen, ds, s1, m1, G1, w1, by rw [List.append_nil]; exact r1, ?_⟩
  cases e : c.call f ds s1 with
  | st => rw [e] at A1; exact A1
  | ex k es s2 => rw [e] at A1; exact A1
  | ok d s2 =>
    rw [e] at A1
    intro m' G' H' t w'
    have := A1 m' G' H' t w'
    cases fr with
    | false => exact this
    | true => exact fun a o h1 h2 h3 h4 h5 => this a o (Stp.back w1 t1 h1) h2 h3 h4 h5
theorem s_call {e : Expr} {es : List Expr} {es' : Es} {f : F} {x : Str} {np : Nat} (F : FnH L X n f x np false (c.call f)) (tk : Takes X Wx) (hr : Room (2 * n) X.A) (hl : ∀ ds s, ds.length ≠ np → c.call f ds s = .st) (hg : Gl X x) (hdb : (x == ("__debug__" : Str)) = false)
    (ha : PA X (e :: es) (tEs L c Wx W es')) (ns : (e :: es).all noStar = true) : PE X (.Call (.Name x p) (e :: es) [] pos) (tE L c Wx W (.call f es')) := by
  obtain ⟨fd, ps, ok, hb⟩ := F.ok
  rw [List.all_cons, Bool.and_eq_true] at ns
  refine PE.imp (pe_callSD (E := WE Wx) ok hr hg F.mg F.kp hb .nil (fun σ => passAt tk σ) ha hdb (starEach_cons ns.1) (backAny ns.2)) fun σ H Q ⟨ρ, s, m, G, w, q, A⟩ => ?_
  exact call_go (fr := false) hl w q A
theorem s_callO {e : Expr} {es : List Expr} {es' : Es} {f : F} {x : Str} {np : Nat} (F : FnH L X n f x np true (c.call f)) (tk : Takes X Wx) (hr : Room (2 * n) X.A) (hl : ∀ ds s, ds.length ≠ np → c.call f ds s = .st) (hg : Gl X x) (hdb : (x == ("__debug__" : Str)) = false)
    (ha : PA X (e :: es) (tEs L c Wx W es')) (ns : (e :: es).all noStar = true) : PE X (.Call (.Name x p) (e :: es) [] pos) (tO L c Wx W (.call f es')) := by
  obtain ⟨fd, ps, ok, hb⟩ := F.ok
  rw [List.all_cons, Bool.and_eq_true] at ns
  refine PE.imp (pe_callSD (E := WE Wx) ok hr hg F.mg F.kp hb .nil (fun σ => passAt tk σ) ha hdb (starEach_cons ns.1) (backAny ns.2)) fun σ H Q ⟨ρ, s, m, G, w, q, A⟩ => ?_
  exact call_go (fr := true) hl w q A

/-! ### C(..) -/
theorem run_makeS {CX : CXT} {k : Nat} {f C : Addr} {fd : FuncData} {ps : List Str} {sp : Sp} {dvs : List V} {ds : List Value} {E : L2.St → XK} {pins : List (Addr × Obj)} {σ : L2.St} {H : Hp} {s : Shared} {Q : VK} {us : List Value} {vs : List V} (M : Mk X.K C f) (F : FnOk X.prog X.w X.K X.mg X.base CX k f fd ps sp) (hr : Room (k + 1) X.A) (hb : Binds X.K fd ps ds) (hd : Vals dvs ds)
    (hx : PassesAt CX X σ (E σ)) (I : L2.Inv X pins σ H s) (r : Vals vs us)
    (h : ∀ x dx, H x = none → H dx = none → dx ≠ x → sp (.ref x :: (vs ++ dvs)) (upd (upd H dx (.own x)) x (.ins C dx [])) (fun v H2 => v = .non ∧ Q (.ref x) H2) (E σ)) :
    wpAny (model X.prog X.w) X.A (call (.ref C) us) (EP X pins σ Q) X.xe s := by
  have hq := h (s.heap.objs.size + 1) s.heap.objs.size (I.hok.fresh (Nat.le_succ _)) (I.hok.fresh (Nat.le_refl _)) (Nat.ne_of_lt (Nat.lt_succ_self _))
  have I2 := Inv.made (C := C) I
  have r2 : Vals (V.ref (s.heap.objs.size + 1) :: (vs ++ dvs)) (Value.ref (s.heap.objs.size + 1) :: (us ++ ds)) := .cons rfl (r.append hd)
  have hl : (Value.ref (s.heap.objs.size + 1) :: us ++ ds).length = ps.length := by
    have e := r2.length
    rw [F.len _ _ _ _ hq] at e
    exact e.symm
  refine wpAny_call (make_map (f := f) I.kIn M.makes M.init (beq_iff_eq.mp M.fn) (codeAny_mono (F.run _ X.stack _ _ ⟨Value.ref (s.heap.objs.size + 1) :: us, []⟩ (Value.ref (s.heap.objs.size + 1) :: (us ++ ds)) _ _ (E σ) (hr.make C us [])
    (I2.env0.make C us []) (hb _ (Value.ref (s.heap.objs.size + 1) :: us) I2.kIn hl) r2 hq) fun r s' hq' => ?_))
  cases r with
  | error e => exact hx pins _ _ e s' I2 hq'
  | ok fl =>
    cases fl with
    | ret u =>
      obtain ⟨v, H', I3, rv, ev, q3⟩ := I2.after hq'
      subst ev
      exact ⟨rv, ⟨V.ref (s.heap.objs.size + 1), H', I3, rfl, q3⟩⟩
    | next => exact False.elim hq'
    | brk => exact False.elim hq'
    | cont => exact False.elim hq'
def tMakeS (C : Addr) (sp : Sp) (E : L2.St → XK) (t : TA) : TE := fun σ H Q => t σ H fun vs H1 => ∀ x dx, H1 x = none → H1 dx = none → dx ≠ x →
  sp (.ref x :: (vs ++ [])) (upd (upd H1 dx (.own x)) x (.ins C dx [])) (fun v H2 => v = .non ∧ Q (.ref x) H2) (E σ)
theorem pe_makeS {CX : CXT} {k : Nat} {f C : Addr} {fd : FuncData} {ps : List Str} {sp : Sp} {E : L2.St → XK} {x : Str} {e : Expr} {es : List Expr} {t : TA} (M : Mk X.K C f) (F : FnOk X.prog X.w X.K X.mg X.base CX k f fd ps sp) (hr : Room (k + 1) X.A) (hg : Gl X x) (hm : X.mg x = some (.ref C)) (hb : Binds X.K fd ps []) (hx : ∀ σ, PassesAt CX X σ (E σ))
    (ha : PA X (e :: es) t) (hdb : (x == ("__debug__" : Str)) = false) (he : starEach (e :: es) X.env = (false, eval e X.env) :: starEach es X.env) (hpl : (backTo pos (starEach es X.env)).any (·.1) = false) :
    PE X (.Call (.Name x p) (e :: es) [] pos) (tMakeS C sp E t) := by
  refine ⟨fun pins s σ H Q I h => ?_⟩
  refine wpAny_Call_Name_kw (ld_glob I hg hm ?_ hdb)
  refine PySem.W.callWith_K (h₀ := X.base) I.ok.mod.kin M.kp (thn (ha.run pos pins s σ H _ I h) fun us s1 ⟨vs, H1, I1, r, q⟩ => ⟨I1.kIn, ?_⟩) he hpl
  exact run_makeS M F hr hb .nil (hx σ) I1 r q
/-- a class of the text where the reading stands -/
structure ClH (L : Lay) (X : Cx) (n : Nat) (k : Cl) (nm : Str) (np : Nat) (φ : List D → Sto → Rs D) : Prop where
  ok : ∃ fd ps, FnOk X.prog X.w X.K X.mg X.base (CX X.prog X.w) (2 * n) (L.fad (.ini k)) fd ps (spI L np k φ) ∧ Binds X.K fd ps []
  mkk : Mk X.K (L.cls k) (L.fad (.ini k))
  mg : X.mg nm = some (.ref (L.cls k))
theorem wout_upd {H : Hp} {x dx : Addr} {o : HO} (hx : H x = none) (ne : dx ≠ x) : wout (upd (upd H dx (.own x)) x o) x = upd H dx (.own x) := by
  funext b
  unfold wout
  by_cases e : b = x
  · subst e; rw [if_pos rfl, upd_ne (Ne.symm ne)]; exact hx.symm
  · rw [if_neg e, upd_ne e]
theorem s_make {e : Expr} {es : List Expr} {es' : Es} {k : Cl} {x : Str} {np : Nat} (F : ClH L X n k x np (c.call (.ini k))) (tk : Takes X Wx) (hr : Room (2 * n + 1) X.A) (hl : ∀ ds s, ds.length ≠ np → c.call (.ini k) ds s = .st) (hg : Gl X x) (hdb : (x == ("__debug__" : Str)) = false)
    (ha : PA X (e :: es) (tEs L c Wx W es')) (ns : (e :: es).all noStar = true) : PE X (.Call (.Name x p) (e :: es) [] pos) (tE L c Wx W (.make k es')) := by
  obtain ⟨fd, ps, ok, hb⟩ := F.ok
  rw [List.all_cons, Bool.and_eq_true] at ns
  refine PE.imp (pe_makeS (E := WE Wx) F.mkk ok hr hg F.mg hb (fun σ => passAt tk σ) ha hdb (starEach_cons ns.1) (backAny ns.2)) fun σ H Q ⟨ρ, s, m, G, w, q, A⟩ => ?_
  unfold ev at A
  refine goEs w q (Aft.bind w A) fun ds s1 m1 G1 H1 vs t1 w1 q1 r1 A1 => ?_
  have hlen : ds.length = np := by
    refine Decidable.byContradiction fun z => ?_
    rw [hl ds s1 z] at A1
    exact A1
  intro x dx hx hdx ne
  have w2 := (w1.lay hdx (.own x)).lay (p := x) (by rw [upd_ne (Ne.symm ne)]; exact hx) (.ins (L.cls k) dx [])
  refine ⟨x, dx, vs, by rw [List.append_nil], by rw [r1.length]; exact hlen, upd_same, by rw [upd_ne ne, upd_same], ne, ds, s1, m1, G1, w2, w1.sub.free hx, fun z => (w1.off x z).2 hx, r1, ?_⟩
  rw [wout_upd hx ne]
  have back : ∀ {m' G' H'}, Stp m1 G1 (upd H1 dx (.own x)) m' G' H' → Stp m1 G1 H1 m' G' H' := fun {m' G' H'} t =>
    ⟨t.pre, t.keep, fun a y h g z => t.frame a y (by rw [upd_ne (ne_of_none h hdx)]; exact h) g z, fun a h z => by
      have := t.fresh a h z
      by_cases e : a = dx
      · rw [e]; exact hdx
      · rw [upd_ne e] at this; exact this⟩
  cases ec : c.call (.ini k) ds s1 with
  | st => rw [ec] at A1; exact A1
  | ex k' es s2 =>
    rw [ec] at A1
    exact fun m' G' H' dd t w' x => A1 m' G' H' dd (back t) w' x
  | ok d s2 =>
    rw [ec] at A1
    intro m' G' H' t w' o hg' hn' ho hc
    refine ⟨rfl, ?_⟩
    have t' := back t
    have t2 : Stp m1 G1 H1 m' (upd G' x o) H' := by
      refine ⟨t'.pre, fun b y h => ?_, fun b y hb g z => ?_, t'.fresh⟩
      · have : b ≠ x := fun e => by rw [e, w1.sub.free hx] at h; cases h
        rw [upd_ne this]; exact t'.keep _ _ h
      · have : b ≠ x := fun e => by rw [e, hx] at hb; cases hb
        rw [upd_ne this]; exact t'.frame b y hb g z
    refine A1 m' (upd G' x o) H' t2 (w'.settle ho hn') (.ref x) (.obj upd_same (hc.mono (List.prefix_refl _) fun b y h => ?_))
    have : b ≠ x := fun e => by rw [e, hg'] at h; cases h
    rw [upd_ne this]; exact h

/-! ### e.f -/
def notCall0 : Expr → Bool
  | .Call (.Name _ _) [] [] _ => false
  | _ => true
theorem base_is {e : Expr} {f : Str} {env : PySem.Env} {whole : Sem Value} (h : notCall0 e = true) : attributeBase e f env whole = whole := by
  unfold attributeBase
  split
  · cases h
  · rfl
theorem look_field {k : Cl} {i : Nat} {f : Str} {vs : List V} {v : V} (hf : (fields k)[i]? = some f) (hv : vs[i]? = some v) : ((fields k).zip vs).lookup f = some v := by
  have one : ∀ z : Str, [z][i]? = some f → ([z].zip vs).lookup f = some v := fun z hz => by
    cases i with
    | zero =>
      simp at hz; subst hz
      cases vs with
      | nil => simp at hv
      | cons u us => simp at hv; subst hv; simp
    | succ j => simp at hz
  cases k with
  | err j => simp [fields] at hf
  | _ => exact one _ hf
theorem s_fld (g : Gd L X Wx) {e : Expr} {e' : E} {k : Cl} {i : Nat} {f : Str} (hf : (fields k)[i]? = some f) (na : L.has k = true → NoAttr L.K (L.cls k) f) (he : PE X e (tB L c Wx W e')) (hb : notCall0 e = true) : PE X (.Attribute e f pos) (tE L c Wx W (.fld e' k i)) := by
  refine PE.imp (pe_fld he (base_is hb)) fun σ H Q ⟨ρ, s, m, G, w, q, A⟩ => ?_
  unfold ev at A
  refine goB w q (Aft.bind w A) fun d s1 m1 G1 H1 v t1 w1 q1 r1 A1 => ?_
  split at A1
  · split at A1
    · rename_i e; subst e
      obtain ⟨z, ez, A3⟩ := A1.opt
      obtain ⟨a, dx, vs, rfl, ha, ra, _, hk⟩ := r1.ins w1
      obtain ⟨u, hu, ru⟩ := ra.get ez
      exact ⟨a, _, dx, _, u, rfl, ha, by rw [g.K]; exact (g.cls _ hk).cl, by rw [g.K]; exact na hk, look_field hf hu, A3 m1 G1 H1 (Stp.refl _ _ _) w1 u ru⟩
    · exact False.elim A1
  · exact False.elim A1
/-- a property of the text where the reading stands -/
structure PrH (L : Lay) (X : Cx) (n : Nat) (k : Cl) (i : Nat) (nm : Str) (φ : List D → Sto → Rs D) : Prop where
  ok : ∃ fd ps, FnOk X.prog X.w X.K X.mg X.base (CX X.prog X.w) (2 * n) (L.fad (.pr k i)) fd ps (spF L 1 false φ) ∧ Binds X.K fd ps []
  pr : ∃ pa, PropOf X.K (L.cls k) nm pa (L.fad (.pr k i))
theorem s_prop (g : Gd L X Wx) {e : Expr} {e' : E} {k : Cl} {i : Nat} {f : Str} (F : PrH L X n k i f (c.call (.pr k i))) (hr : Room (2 * n + 1) X.A) (hk : L.has k = true) (he : PE X e (tE L c Wx W e')) (hb : notCall0 e = true) : PE X (.Attribute e f pos) (tE L c Wx W (.prop e' k i)) := by
  obtain ⟨fd, ps, ok, hbd⟩ := F.ok
  obtain ⟨pa, pr⟩ := F.pr
  refine PE.imp (pe_prop (E := fun _ _ _ => False) he (by rw [g.K]; exact (g.cls k hk).cl) pr ok hr hbd .nil (passes_call (takes0 (X := X.nox)) fun _ _ _ _ z => z) (base_is hb)) fun σ H Q ⟨ρ, s, m, G, w, q, A⟩ => ?_
  unfold ev at A
  refine goE w q (Aft.bind w A) fun d s1 m1 G1 H1 v t1 w1 q1 r1 A1 => ?_
  split at A1
  · split at A1
    · rename_i e; subst e
      have rb : RB L m1 G1 H1 v _ := .rep r1
      obtain ⟨a, dx, vs, rfl, ha, ra, _, _⟩ := rb.ins w1
      refine ⟨a, dx, _, rfl, ha, rfl, _, s1, m1, G1, w1, .one r1, ?_⟩
      cases ec : c.call (.pr _ i) [.ins _ _] s1 with
      | st => rw [ec] at A1; exact False.elim A1
      | ex k' es s2 => rw [ec] at A1; exact False.elim A1
      | ok z s2 =>
        rw [ec] at A1
        exact A1
    · exact False.elim A1
  · exact False.elim A1
end
end MP

end
section
set_option Elab.async false
set_option linter.all false
set_option maxRecDepth 100000
set_option maxHeartbeats 1000000
/-! What loops walk; targets; comprehensions. -/
namespace MP
open PySem PySem.Spec PyProof.Rows L2

/-- what is walked gives xs while P stands -/
structure Src (L : Lay) (xs : List D) (J : It) (P : List (Addr × Addr) → Hp → Prop) : Prop where
  mono : ∀ {m m' : List (Addr × Addr)} {G G' : Hp}, P m G → m <+: m' → Same G G' → P m' G'
  go : ∀ {i : Nat} {s : Sto} {m : List (Addr × Addr)} {G H : Hp}, P m G → Wd L s m G H → i < xs.length → J.go i H
  stop : ∀ {i : Nat} {s : Sto} {m : List (Addr × Addr)} {G H : Hp}, P m G → Wd L s m G H → xs.length ≤ i → J.stop i H
  yld : ∀ {i : Nat} {s : Sto} {m : List (Addr × Addr)} {G H H' : Hp} {x : V}, P m G → Wd L s m G H → J.yld i H x H' → i < xs.length →
    ∃ G' d, Stp m G H m G' H' ∧ Wd L s m G' H' ∧ xs[i]? = some d ∧ Rep L m G' x d
def tSr (L : Lay) (c : Cfg) (Wx : WX) (W : List Nat) (r : Sr) : TI := fun σ H R => ∃ ρ s m G, Wd L s m G H ∧ Sl L W ρ σ m G H ∧ Aft L Wx σ m G H (evr c r ρ s) fun xs _ m' G' H' => ∀ J P, Src L xs J P → P m' G' → R J H'
theorem PI.imp {X : Cx} {tg e : Expr} {t t' : TI} (h : PI X tg e t) (f : ∀ σ H R, t' σ H R → t σ H R) : PI X tg e t' := ⟨fun pins s σ H R I q => h.run pins s σ H R I (f σ H R q)⟩
theorem PI.or {X : Cx} {tg e : Expr} {t t' : TI} (h : PI X tg e t) (h' : PI X tg e t') : PI X tg e (fun σ H R => t σ H R ∨ t' σ H R) := ⟨fun pins s σ H R I q => q.elim (h.run pins s σ H R I) (h'.run pins s σ H R I)⟩
section
variable {L : Lay} {c : Cfg} {Wx : WX} {W : List Nat} {X : Cx} {pos p : Pos} {s : Sto} {m : List (Addr × Addr)} {G H : Hp} {tg : Expr}
theorem src_list {a : Addr} {xs : List D} : Src L xs (Itl L.K a) (fun m G => ∃ vs, G a = some (.lst vs) ∧ Reps L m G vs xs) where
  mono := fun ⟨vs, h, r⟩ hm hg => ⟨vs, hg _ _ h, r.mono hm hg⟩
  go := fun {i s m G H} ⟨vs, h, r⟩ w hi => ⟨vs, vs[i]'(by rw [r.length]; exact hi), .of (w.sub _ _ h), by simp⟩
  stop := fun ⟨vs, h, r⟩ w hi => ⟨vs, .of (w.sub _ _ h), by rw [r.length]; exact hi⟩
  yld := fun {i s m G H H' x} ⟨vs, h, r⟩ w y hi => by
    obtain ⟨e, y⟩ := y
    subst e
    have hx := y vs (.of (w.sub _ _ h))
    obtain ⟨d, h1, h2⟩ := r.getV hx
    exact ⟨G, d, Stp.refl _ _ _, w, h1, h2⟩
theorem src_tup {a : Addr} {xs : List D} : Src L xs (Itt L.K a) (fun m G => ∃ vs, G a = some (.tup vs) ∧ Reps L m G vs xs) where
  mono := fun ⟨vs, h, r⟩ hm hg => ⟨vs, hg _ _ h, r.mono hm hg⟩
  go := fun {i s m G H} ⟨vs, h, r⟩ w hi => ⟨vs, vs[i]'(by rw [r.length]; exact hi), .of (w.sub _ _ h), by simp⟩
  stop := fun ⟨vs, h, r⟩ w hi => ⟨vs, .of (w.sub _ _ h), by rw [r.length]; exact hi⟩
  yld := fun {i s m G H H' x} ⟨vs, h, r⟩ w y hi => by
    obtain ⟨e, y⟩ := y
    subst e
    have hx := y vs (.of (w.sub _ _ h))
    obtain ⟨d, h1, h2⟩ := r.getV hx
    exact ⟨G, d, Stp.refl _ _ _, w, h1, h2⟩
theorem src_range {lo : Int} {n : Nat} : Src L ((List.range n).map fun i => D.int (lo + (i : Nat))) (Itr lo n) (fun _ _ => True) where
  mono := fun _ _ _ => trivial
  go := fun {i s m G H} _ _ hi => by
    show i < n
    simpa using hi
  stop := fun {i s m G H} _ _ hi => by
    show n ≤ i
    simpa using hi
  yld := fun {i s m G H H' x} _ w y hi => by
    obtain ⟨e, y⟩ := y
    subst e; subst y
    have hi' : i < n := by simpa using hi
    exact ⟨G, .int (lo + (i : Nat)), Stp.refl _ _ _, w, by simp [hi'], .int _⟩
theorem s_of (g : Gd L X Wx) {e : Expr} {e' : E} (h : PE X e (tE L c Wx W e')) : PI X tg e (tSr L c Wx W (.of e')) := by
  have both : PI X tg e (fun σ H R => (iList X.K (tE L c Wx W e') σ H R) ∨ (iTup X.K (tE L c Wx W e') σ H R)) := PI.or (pi_list h) (pi_tup h)
  refine PI.imp both fun σ H R ⟨ρ, s, m, G, w, q, A⟩ => ?_
  unfold evr at A
  cases ee : ev c e' ρ s with
  | st => rw [ee] at A; exact False.elim A
  | ex k ds s' => rw [ee] at A; exact .inl ⟨ρ, s, m, G, w, q, by rw [ee]; exact A⟩
  | ok d s1 =>
    rw [ee] at A
    simp only [Rs.bind_ok] at A
    cases d with
    | lst ds =>
      refine .inl ⟨ρ, s, m, G, w, q, ?_⟩
      rw [ee]
      intro m1 G1 H1 t1 w1 v r1
      cases r1 with
      | obj hg hc =>
        cases hc with
        | lst hr => exact ⟨_, rfl, ⟨_, .of (w1.sub _ _ hg)⟩, A m1 G1 H1 t1 w1 _ (fun m G => ∃ vs, G _ = some (.lst vs) ∧ Reps L m G vs ds) (by rw [g.K]; exact src_list) ⟨_, hg, hr⟩⟩
    | tup ds =>
      refine .inr ⟨ρ, s, m, G, w, q, ?_⟩
      rw [ee]
      intro m1 G1 H1 t1 w1 v r1
      cases r1 with
      | obj hg hc =>
        cases hc with
        | tup hr => exact ⟨_, rfl, ⟨_, .of (w1.sub _ _ hg)⟩, A m1 G1 H1 t1 w1 _ (fun m G => ∃ vs, G _ = some (.tup vs) ∧ Reps L m G vs ds) (by rw [g.K]; exact src_tup) ⟨_, hg, hr⟩⟩
    | _ => exact False.elim A
theorem s_rg1 (g : Gd L X Wx) {a : Expr} {a' : E} (hg : Gl X "range") (ha : PE X a (tB L c Wx W a')) (ns : noStar a = true) : PI X tg (.Call (.Name "range" p) [a] [] pos) (tSr L c Wx W (.rg1 a')) := by
  refine PI.imp (pi_range1 hg (blt g (by decide +kernel)) (pa_cons ha pa_nil (starOne ns)) (starOne ns)) fun σ H R ⟨ρ, s, m, G, w, q, A⟩ => ?_
  unfold evr at A
  refine goB w q (Aft.bind w A) fun d s1 m1 G1 H1 v t1 w1 q1 r1 A1 => ?_
  split at A1
  · obtain ⟨xs, ex, A2⟩ := A1.opt
    unfold rgD at ex
    split at ex
    · rename_i hb
      simp only [Bool.and_eq_true, decide_eq_true_eq] at hb
      cases ex
      have e1 := r1.int; subst e1
      refine ⟨_, rfl, by omega, by omega, ?_⟩
      have := A2 m1 G1 H1 (Stp.refl _ _ _) w1
      rw [Int.sub_zero] at this
      exact this _ _ src_range trivial
    · cases ex
  · exact False.elim A1
theorem s_rg2 (g : Gd L X Wx) {a b : Expr} {a' b' : E} (hg : Gl X "range") (ha : PE X a (tB L c Wx W a')) (hb : PE X b (tB L c Wx W b')) (ns : noStar a = true) (nt : noStar b = true) : PI X tg (.Call (.Name "range" p) [a, b] [] pos) (tSr L c Wx W (.rg2 a' b')) := by
  refine PI.imp (pi_range2 hg (blt g (by decide +kernel)) (pa_cons ha (pa_cons hb pa_nil (starOne nt)) (starEach_cons ns)) (by rw [starEach_cons ns, starOne nt]; rfl) (starOne nt)) fun σ H R ⟨ρ, s, m, G, w, q, A⟩ => ?_
  unfold evr at A
  refine goB w q (Aft.bind w A) fun d s1 m1 G1 H1 v t1 w1 q1 r1 A1 => ?_
  refine goB w1 q1 (Aft.bind w1 A1) fun d2 s2 m2 G2 H2 v2 t2 w2 q2 r2 A2 => ?_
  split at A2
  · obtain ⟨xs, ex, A3⟩ := A2.opt
    unfold rgD at ex
    split at ex
    · rename_i hb
      simp only [Bool.and_eq_true, decide_eq_true_eq] at hb
      cases ex
      have e1 := r1.int; subst e1
      have e2 := r2.int; subst e2
      exact ⟨_, _, rfl, ⟨by omega, by omega, by omega, by omega⟩, A3 m2 G2 H2 (Stp.refl _ _ _) w2 _ _ src_range trivial⟩
    · cases ex
  · exact False.elim A2

/-! ### targets -/
def offT (S : List Nat) (σ σ' : L2.St) : Prop := σ'.length = σ.length ∧ ∀ j, j ∉ S → σ'[j]? = σ[j]?
theorem offT.refl {S : List Nat} {σ : L2.St} : offT S σ σ := ⟨rfl, fun _ _ => rfl⟩
theorem offT.trans {S T : List Nat} {σ σ1 σ2 : L2.St} (a : offT S σ σ1) (b : offT T σ1 σ2) : offT (S ++ T) σ σ2 :=
  ⟨b.1.trans a.1, fun j hj => (b.2 j fun z => hj (List.mem_append_right _ z)).trans (a.2 j fun z => hj (List.mem_append_left _ z))⟩
def gT (L : Lay) (W : List Nat) (t : Tg) : TG := fun v σ H Q => ∃ ρ s m G d ρ', Wd L s m G H ∧ Sl L W ρ σ m G H ∧ Rep L m G v d ∧ bindT t d ρ = some ρ' ∧ ∀ σ', Sl L W ρ' σ' m G H → offT (slotsT t) σ σ' → Q σ' H
def gTs (L : Lay) (W : List Nat) (ts : Tgs) : TGs := fun vs σ H Q => ∃ ρ s m G ds ρ', Wd L s m G H ∧ Sl L W ρ σ m G H ∧ Reps L m G vs ds ∧ bindTs ts ds ρ = some ρ' ∧ ∀ σ', Sl L W ρ' σ' m G H → offT (slotsTs ts) σ σ' → Q σ' H
theorem PG.imp {X : Cx} {e : Expr} {t t' : TG} (h : PG X e t) (f : ∀ v σ H Q, t' v σ H Q → t v σ H Q) : PG X e t' := ⟨fun pins s σ H v u Q I r q => h.run pins s σ H v u Q I r (f v σ H Q q)⟩
theorem PG.or {X : Cx} {e : Expr} {t t' : TG} (h : PG X e t) (h' : PG X e t') : PG X e (fun v σ H Q => t v σ H Q ∨ t' v σ H Q) := ⟨fun pins s σ H v u Q I r q => q.elim (h.run pins s σ H v u Q I r) (h'.run pins s σ H v u Q I r)⟩
theorem PGs.imp {X : Cx} {e : List Expr} {t t' : TGs} (h : PGs X e t) (f : ∀ v σ H Q, t' v σ H Q → t v σ H Q) : PGs X e t' := ⟨fun pins s σ H v u Q I r q => h.run pins s σ H v u Q I r (f v σ H Q q)⟩
theorem g_nm {i : Nat} {x : Str} (hN : X.N.Nodup) (hi : X.N[i]? = some x) (hx : Loc X.env.scope x) (hf : X.fn x = true ∨ X.env.scope.names.lookup x = some .local) (hW : i ∉ W) : PG X (.Name x pos) (gT L W (.nm i)) := by
  refine PG.imp (pg_name hN hi hx hf) fun v σ H Q ⟨ρ, s, m, G, d, ρ', w, q, r, e, k⟩ => ?_
  simp only [bindT, Option.some.injEq] at e
  subst e
  exact k _ (q.set hW r) ⟨by simp, fun j hj => List.getElem?_set_ne (fun z => hj (by simp [slotsT, z]))⟩
theorem g_nil : PGs X [] (gTs L W .nil) := by
  refine PGs.imp pgs_nil fun vs σ H Q ⟨ρ, s, m, G, ds, ρ', w, q, r, e, k⟩ => ?_
  cases r with
  | nil =>
    simp only [bindTs, Option.some.injEq] at e
    subst e
    exact ⟨rfl, k _ q offT.refl⟩
  | cons _ _ => simp [bindTs] at e
def noStarT : Expr → Bool
  | .Starred .. => false
  | _ => true
theorem assignEach_cons {e : Expr} {es : List Expr} {env : PySem.Env} (h : noStarT e = true) : assignEach (e :: es) env = (false, assign e env) :: assignEach es env := by
  cases e <;> first | rfl | cases h
theorem g_cons {e : Expr} {es : List Expr} {t : Tg} {ts : Tgs} (h1 : PG X e (gT L W t)) (h2 : PGs X es (gTs L W ts)) (hs : noStarT e = true) : PGs X (e :: es) (gTs L W (.cons t ts)) := by
  refine PGs.imp (pgs_cons h1 h2 (by rw [assignEach_cons hs]; rfl)) fun vs σ H Q ⟨ρ, s, m, G, ds, ρ', w, q, r, e, k⟩ => ?_
  cases r with
  | nil => simp [bindTs] at e
  | cons r1 rr =>
    unfold bindTs at e
    split at e
    · rename_i ρ1 e1
      exact ⟨_, _, rfl, ρ, s, m, G, _, ρ1, w, q, r1, e1, fun σ1 q1 o1 => ⟨ρ1, s, m, G, _, ρ', w, q1, rr, e, fun σ2 q2 o2 => k σ2 q2 (by unfold slotsTs; exact o1.trans o2)⟩⟩
    · cases e
theorem assignEach_len : ∀ {es : List Expr} {env : PySem.Env}, es.all noStarT = true → (assignEach es env).length = es.length ∧ (assignEach es env).findIdx? (·.1) = none
  | [], _, _ => ⟨rfl, rfl⟩
  | e :: es, env, h => by
    rw [List.all_cons, Bool.and_eq_true] at h
    rw [assignEach_cons h.1]
    obtain ⟨h1, h2⟩ := assignEach_len (env := env) h.2
    exact ⟨by rw [List.length_cons, List.length_cons, h1], by rw [List.findIdx?_cons]; simp [h2]⟩
theorem bindTs_len : ∀ {ts : Tgs} {ds : List D} {ρ ρ' : Env}, bindTs ts ds ρ = some ρ' → ∃ n, ds.length = n
  | _, ds, _, _, _ => ⟨_, rfl⟩
def lenTs : Tgs → Nat
  | .nil => 0
  | .cons _ ts => lenTs ts + 1
theorem bindTs_n : ∀ {ts : Tgs} {ds : List D} {ρ ρ' : Env}, bindTs ts ds ρ = some ρ' → ds.length = lenTs ts
  | .nil, [], _, _, _ => rfl
  | .nil, _ :: _, _, _, h => by simp [bindTs] at h
  | .cons _ _, [], _, _, h => by simp [bindTs] at h
  | .cons t ts, d :: ds, ρ, ρ', h => by
    unfold bindTs at h
    split at h
    · rw [List.length_cons, bindTs_n h]; rfl
    · cases h
theorem g_tp (g : Gd L X Wx) {es : List Expr} {k : Nat} {ts : Tgs} (h : PGs X es (gTs L W ts)) (hs : es.all noStarT = true) (hn : es.length = lenTs ts) : PG X (.Tuple es k pos) (gT L W (.tp ts)) := by
  obtain ⟨l1, l2⟩ := assignEach_len (env := X.env) hs
  refine PG.imp (PG.or (pg_tup (n := lenTs ts) g.calm h (by rw [l1, hn]) l2) (pg_lst (n := lenTs ts) g.calm h (by rw [l1, hn]) l2)) fun v σ H Q ⟨ρ, s, m, G, d, ρ', w, q, r, e, k⟩ => ?_
  cases d with
  | tup ds =>
    have rb : RB L m G H v (.tup ds) := .rep r
    obtain ⟨a, vs, rfl, ha, ra⟩ := rb.tup w
    simp only [bindT] at e
    exact .inl ⟨a, vs, rfl, .of ha, by rw [ra.length]; exact bindTs_n e, ρ, s, m, G, ds, ρ', w, q, ra, e, k⟩
  | lst ds =>
    have rb : RB L m G H v (.lst ds) := .rep r
    obtain ⟨a, vs, rfl, ha, ra⟩ := rb.lst w
    simp only [bindT] at e
    exact .inr ⟨a, vs, rfl, .of ha, by rw [ra.length]; exact bindTs_n e, ρ, s, m, G, ds, ρ', w, q, ra, e, k⟩
  | _ => simp [bindT] at e
end
end MP

end
section
set_option Elab.async false
set_option linter.all false
set_option maxRecDepth 100000
set_option maxHeartbeats 1000000
/-! Comprehensions. -/
namespace MP
open PySem PySem.Spec PyProof.Rows L2

abbrev WF : WX := fun _ _ _ _ => False
theorem Aft.nox {α : Type} {L : Lay} {Wx : WX} {σ σ' : L2.St} {m : List (Addr × Addr)} {G H : Hp} {r : Rs α} {K : α → Sto → List (Addr × Addr) → Hp → Hp → Prop} (A : Aft L Wx σ m G H r.nox K) : Aft L WF σ' m G H r K := by
  cases r with
  | ok a s => exact A
  | ex k ds s => exact False.elim A
  | st => exact A
theorem Sl.wipe {L : Lay} {W : List Nat} {ρ : Env} {σ : L2.St} {m : List (Addr × Addr)} {G H : Hp} (q : Sl L W ρ σ m G H) : ∀ vs : List Nat, Sl L W (wipeE ρ vs) (L2.wipe σ vs) m G H
  | [] => q
  | v :: vs => (Sl.wipe q vs).wipe1 v
theorem wipe_get_in {σ : L2.St} {j : Nat} : ∀ {vs : List Nat}, j ∈ vs → j < σ.length → (L2.wipe σ vs)[j]? = some none
  | [], h, _ => by cases h
  | v :: vs, h, hl => by
    unfold L2.wipe
    by_cases e : v = j
    · subst e
      exact List.getElem?_set_self (by rw [wipe_length]; exact hl)
    · rw [List.getElem?_set_ne e]
      exact wipe_get_in ((List.mem_cons.mp h).resolve_left fun z => e z.symm) hl
theorem wipe_get_out {σ : L2.St} {j : Nat} : ∀ {vs : List Nat}, j ∉ vs → (L2.wipe σ vs)[j]? = σ[j]?
  | [], _ => rfl
  | v :: vs, h => by
    unfold L2.wipe
    rw [List.getElem?_set_ne (fun z => h (by simp [z]))]
    exact wipe_get_out fun z => h (List.mem_cons_of_mem _ z)
theorem wipe_off {σ σ' : L2.St} {vs : List Nat} (o : offT vs (L2.wipe σ vs) σ') : L2.wipe σ' vs = L2.wipe σ vs := by
  have hl : σ'.length = σ.length := o.1.trans (wipe_length σ vs)
  apply List.ext_getElem?
  intro j
  by_cases hj : j ∈ vs
  · by_cases hlt : j < σ.length
    · rw [wipe_get_in hj hlt, wipe_get_in hj (by rw [hl]; exact hlt)]
    · rw [List.getElem?_eq_none (by rw [wipe_length, hl]; omega), List.getElem?_eq_none (by rw [wipe_length]; omega)]
  · rw [wipe_get_out hj, o.2 j hj]

section
variable {L : Lay} {c : Cfg} {Wx : WX} {W : List Nat} {X : Cx} {pos p : Pos} {s : Sto} {m : List (Addr × Addr)} {G H : Hp} {tg : Expr}
/-- the state of a comprehension: what is made so far stands at D, nobody's -/
structure Made (L : Lay) (Da : Addr) (acc : List D) (s : Sto) (m : List (Addr × Addr)) (G H : Hp) : Prop where
  w : Wd L s m G H
  g : G Da = none
  n : Da ∉ hs m
  at_ : ∃ vs, H Da = some (.lst vs) ∧ Reps L m G vs acc
theorem Made.step {Da : Addr} {acc : List D} {s1 : Sto} {m1 : List (Addr × Addr)} {G1 H1 : Hp} (d : Made L Da acc s m G H) (t : Stp m G H m1 G1 H1) (w1 : Wd L s1 m1 G1 H1) : Made L Da acc s1 m1 G1 H1 := by
  obtain ⟨vs, h, r⟩ := d.at_
  obtain ⟨h1, g1⟩ := t.frame Da _ h d.g d.n
  exact ⟨w1, g1, t.off h d.n, vs, h1, r.mono t.pre t.keep⟩
theorem Made.put {Da : Addr} {acc : List D} {x : D} {v : V} (d : Made L Da acc s m G H) (r : Rep L m G v x) : ∃ vs, H Da = some (.lst vs) ∧ vs.length = acc.length ∧ Made L Da (acc ++ [x]) s m G (upd H Da (.lst (vs ++ [v]))) := by
  obtain ⟨vs, h, ra⟩ := d.at_
  exact ⟨vs, h, ra.length, d.w.put d.g d.n _, d.g, d.n, vs ++ [v], upd_same, ra.append (.one r)⟩
/-- from the start to a state of the comprehension -/
structure From (m : List (Addr × Addr)) (G H : Hp) (Da : Addr) (m' : List (Addr × Addr)) (G' H' : Hp) : Prop where
  pre : m <+: m'
  keep : Same G G'
  frame : ∀ a x, a ≠ Da → H a = some x → G a = none → a ∉ hs m → H' a = some x ∧ G' a = none
  fresh : ∀ a, a ∈ hs m' → a ∉ hs m → H a = none
theorem From.stp {Da : Addr} {m' : List (Addr × Addr)} {G' H' : Hp} (f : From m G H Da m' G' H') (hD : H Da = none) : Stp m G H m' G' H' :=
  ⟨f.pre, f.keep, fun a x h => f.frame a x (fun e => by rw [e, hD] at h; cases h) h, f.fresh⟩
theorem From.step {Da : Addr} {s1 : Sto} {m1 m2 : List (Addr × Addr)} {G1 H1 G2 H2 : Hp} (hD : H Da = none) (w : Wd L s m G H) (w1 : Wd L s1 m1 G1 H1) (f : From m G H Da m1 G1 H1) (t : Stp m1 G1 H1 m2 G2 H2) : From m G H Da m2 G2 H2 := by
  have := Stp.trans w1 w (f.stp hD) t
  exact ⟨this.pre, this.keep, fun a x _ => this.frame a x, this.fresh⟩
theorem From.put {Da : Addr} {m1 : List (Addr × Addr)} {G1 H1 : Hp} {o : HO} (f : From m G H Da m1 G1 H1) : From m G H Da m1 G1 (upd H1 Da o) :=
  ⟨f.pre, f.keep, fun a x e h g n => by rw [upd_ne e]; exact f.frame a x e h g n, f.fresh⟩

theorem lc_walk {xs : List D} {J : It} {P : List (Addr × Addr) → Hp → Prop} (S : Src L xs J P) {t : Tg} {ρ : Env} {σ : L2.St} {Q : VK} {f : D → Sto → Rs (Option D)} {Da : Addr} {tt : TT} {te : TE} {vs : List Nat}
    (hD : H Da = none) (w : Wd L s m G H) (hP : P m G) (q : Sl L W ρ σ m G H)
    (hvs : vs = slotsT t)
    (turn : ∀ {x : D} {s1 : Sto} {m1 : List (Addr × Addr)} {G1 H1 : Hp} {v : V} {R : Option V → Hp → Prop}, Wd L s1 m1 G1 H1 → Sl L W (wipeE ρ vs) (L2.wipe σ vs) m1 G1 H1 → Rep L m1 G1 v x →
      (Aft L WF (L2.wipe σ vs) m1 G1 H1 (f x s1) fun o _ m' G' H' => match o with
        | none => R none H'
        | some d => ∀ u, Rep L m' G' u d → R (some u) H') →
      gT L W t v (L2.wipe σ vs) H1 fun σ2 H2 => L2.wipe σ2 vs = L2.wipe σ vs ∧ tt σ2 H2 fun b H3 => if b = true then te σ2 H3 fun y H4 => R (some y) H4 else R none H3)
    (A : Aft L Wx σ m G H (lciL f [] xs s) fun d _ m' G' H' => ∀ a o, H a = none → G' a = none → a ∉ hs m' → H' a = some o → Cont L m' G' o d → Q (.ref a) H') :
    ∃ Wv : Nat → Nat → Hp → Prop, (∃ k, Wv 0 k (upd H Da (.lst []))) ∧ ∀ i k H', Wv i k H' →
      (J.stop i H' ∧ Q (.ref Da) H') ∨ (J.go i H' ∧ ∃ Nx : Hp → Prop, (∀ H'', Nx H'' → ∃ k', k' < k ∧ Wv (i + 1) k' H'') ∧ ∀ x H'', J.yld i H' x H'' → gT L W t x (L2.wipe σ vs) H'' fun σ2 H2 => L2.wipe σ2 vs = L2.wipe σ vs ∧ tt σ2 H2 fun b H3 =>
        if b = true then te σ2 H3 fun y H4 => ∃ acc, H4 Da = some (.lst acc) ∧ acc.length < sizeLine ∧ Nx (upd H4 Da (.lst (acc ++ [y]))) else Nx H3) := by
  refine ⟨fun i k H' => k = xs.length - i ∧ i ≤ xs.length ∧ ∃ s1 m1 G1 acc, Made L Da acc s1 m1 G1 H' ∧ From m G H Da m1 G1 H' ∧ P m1 G1 ∧ Aft L Wx σ m G H (lciL f acc (xs.drop i) s1) fun d _ m' G' H' => ∀ a o, H a = none → G' a = none → a ∉ hs m' → H' a = some o → Cont L m' G' o d → Q (.ref a) H',
    ⟨xs.length, by simp, Nat.zero_le _, s, m, G, [], ⟨w.lay hD _, w.sub.free hD, fun z => (w.off Da z).2 hD, [], upd_same, .nil⟩, ⟨List.prefix_refl _, Same.refl _, fun a x e h g _ => by rw [upd_ne e]; exact ⟨h, g⟩, fun a h h' => absurd h h'⟩, hP, A⟩, ?_⟩
  rintro i k H' ⟨rfl, hle, s1, m1, G1, acc, M, F, hP1, A1⟩
  by_cases hlt : i < xs.length
  · refine .inr ⟨S.go hP1 M.w hlt, fun H'' => i + 1 ≤ xs.length ∧ ∃ s1 m1 G1 acc, Made L Da acc s1 m1 G1 H'' ∧ From m G H Da m1 G1 H'' ∧ P m1 G1 ∧ Aft L Wx σ m G H (lciL f acc (xs.drop (i + 1)) s1) fun d _ m' G' H' => ∀ a o, H a = none → G' a = none → a ∉ hs m' → H' a = some o → Cont L m' G' o d → Q (.ref a) H', fun H'' h => ⟨xs.length - (i + 1), by omega, rfl, h.1, h.2⟩, fun x H'' y => ?_⟩
    obtain ⟨G2, d, t2, w2, hd, r2⟩ := S.yld hP1 M.w y hlt
    have M2 := M.step t2 w2
    have F2 := F.step hD w M.w t2
    have hdrop : xs.drop i = d :: xs.drop (i + 1) := by
      have h1 := List.drop_eq_getElem_cons hlt
      have h2 : xs[i] = d := by
        have := List.getElem?_eq_getElem hlt
        rw [hd] at this
        exact (Option.some.inj this).symm
      rw [h1, h2]
    rw [hdrop] at A1
    unfold lciL at A1
    cases hf : f d s1 with
    | st => rw [hf] at A1; exact False.elim A1
    | ex k ds s' => rw [hf] at A1; exact False.elim A1
    | ok o s3 =>
      rw [hf] at A1
      simp only [Rs.nox_ok, Rs.bind_ok] at A1
      refine turn w2 ((q.step (F2.stp hD)).wipe vs) r2 (R := fun ov H4 => match ov with
        | none => i + 1 ≤ xs.length ∧ ∃ s1 m1 G1 acc, Made L Da acc s1 m1 G1 H4 ∧ From m G H Da m1 G1 H4 ∧ P m1 G1 ∧ Aft L Wx σ m G H (lciL f acc (xs.drop (i + 1)) s1) fun d _ m' G' H' => ∀ a o, H a = none → G' a = none → a ∉ hs m' → H' a = some o → Cont L m' G' o d → Q (.ref a) H'
        | some y => ∃ acc, H4 Da = some (.lst acc) ∧ acc.length < sizeLine ∧ (i + 1 ≤ xs.length ∧ ∃ s1 m1 G1 acc', Made L Da acc' s1 m1 G1 (upd H4 Da (.lst (acc ++ [y]))) ∧ From m G H Da m1 G1 (upd H4 Da (.lst (acc ++ [y]))) ∧ P m1 G1 ∧ Aft L Wx σ m G H (lciL f acc' (xs.drop (i + 1)) s1) fun d _ m' G' H' => ∀ a o, H a = none → G' a = none → a ∉ hs m' → H' a = some o → Cont L m' G' o d → Q (.ref a) H')) ?_
      rw [hf]
      intro m3 G3 H3 t3 w3
      have M3 := M2.step t3 w3
      have F3 := F2.step hD w w2 t3
      have P3 : P m3 G3 := S.mono (S.mono hP1 t2.pre t2.keep) t3.pre t3.keep
      cases o with
      | none => exact ⟨hlt, s3, m3, G3, acc, M3, F3, P3, A1⟩
      | some d' =>
        intro u ru
        obtain ⟨vs', h1, h2, M4⟩ := M3.put ru
        simp only at A1
        split at A1
        · rename_i hl
          exact ⟨vs', h1, by rw [h2, ← lim_eq]; exact hl, hlt, s3, m3, G3, acc ++ [d'], M4, F3.put, P3, A1⟩
        · exact False.elim A1
  · have e : i = xs.length := by omega
    subst e
    rw [List.drop_length] at A1
    unfold lciL at A1
    obtain ⟨vs', h1, r1⟩ := M.at_
    exact .inl ⟨S.stop hP1 M.w (Nat.le_refl _), A1 m1 G1 H' (F.stp hD) M.w Da (.lst vs') hD M.g M.n h1 (.lst r1)⟩
theorem lcL_is {f : D → Sto → Rs D} : ∀ (xs acc : List D) (s : Sto), lcL f acc xs s = lciL (fun x s => (f x s).bind fun d s => .ok (some d) s) acc xs s
  | [], acc, s => rfl
  | x :: xs, acc, s => by
    unfold lcL lciL
    cases f x s with
    | st => rfl
    | ex k ds s' => rfl
    | ok d s' =>
      simp only [Rs.nox_ok, Rs.bind_ok]
      split
      · exact lcL_is xs _ _
      · rfl
def noSetI : Expr → Bool
  | .Set .. => false
  | _ => true
theorem noSetI_is {e : Expr} {env : PySem.Env} (h : noSetI e = true) (x : Value) : foldedSetIterable e env x = pure x := by
  cases e <;> first | rfl | cases h
/-- what a comprehension's block knows -/
abbrev blkX (X : Cx) (scope : Scope) (s : Shared) (H : Hp) (C : Addr) (cl : List (Str × Addr)) (fp : List Addr) : Cx := X.blk s H scope (compEnvC scope cl C X.env) fp
theorem blk_tk {scope : Scope} {s : Shared} {H : Hp} {C : Addr} {cl : List (Str × Addr)} {fp : List Addr} : Takes (blkX X scope s H C cl fp) WF := takes0
theorem lc_imp {t : Tg} {r : Sr} {e' : E} {vs : List Nat} (ho : vs = slotsT t) {σ : L2.St} {Q : VK} (h : tO L c Wx W (.lc e' t r) σ H Q) : tLc (tSr L c Wx W r) (gT L W t) tYes (tE L c WF W e') vs σ H Q := by
  obtain ⟨ρ, s, m, G, w, q, A⟩ := h
  unfold ev at A
  refine ⟨ρ, s, m, G, w, q, (Aft.bind w A).imp fun xs s1 m1 G1 H1 t1 w1 A1 J P S hP Da hD => ?_⟩
  rw [lcL_is] at A1
  have A2 : Aft L Wx σ m1 G1 H1 _ fun d _ m' G' H' => ∀ a o, H1 a = none → G' a = none → a ∉ hs m' → H' a = some o → Cont L m' G' o d → Q (.ref a) H' := A1.imp fun d s' m' G' H' _ _ k a o h1 => k a o (Stp.back w1 t1 h1)
  refine lc_walk S hD w1 hP (q.step t1) ho (fun {x s2 m2 G2 H2 v R} w2 q2 r2 B => ?_) A2
  rw [ho] at q2 B ⊢
  cases eb : bindT t x (wipeE ρ (slotsT t)) with
  | none => simp only [eb] at B; exact False.elim B
  | some ρ' =>
    simp only [eb] at B
    refine ⟨_, s2, m2, G2, x, ρ', w2, q2, r2, eb, fun σ' q' o' => ⟨wipe_off o', ρ', s2, m2, G2, w2, q', ?_⟩⟩
    revert B
    cases ev c e' ρ' s2 with
    | st => exact id
    | ex k ds s' => exact fun B => B
    | ok d s' => exact fun B m' G' H' t' w' u ru => B m' G' H' t' w' u ru
theorem lci_imp {t : Tg} {r : Sr} {e' c' : E} {vs : List Nat} (ho : vs = slotsT t) {σ : L2.St} {Q : VK} (h : tO L c Wx W (.lci e' t r c') σ H Q) : tLc (tSr L c Wx W r) (gT L W t) (tT L c WF W c') (tE L c WF W e') vs σ H Q := by
  obtain ⟨ρ, s, m, G, w, q, A⟩ := h
  unfold ev at A
  refine ⟨ρ, s, m, G, w, q, (Aft.bind w A).imp fun xs s1 m1 G1 H1 t1 w1 A1 J P S hP Da hD => ?_⟩
  have A2 : Aft L Wx σ m1 G1 H1 _ fun d _ m' G' H' => ∀ a o, H1 a = none → G' a = none → a ∉ hs m' → H' a = some o → Cont L m' G' o d → Q (.ref a) H' := A1.imp fun d s' m' G' H' _ _ k a o h1 => k a o (Stp.back w1 t1 h1)
  refine lc_walk S hD w1 hP (q.step t1) ho (fun {x s2 m2 G2 H2 v R} w2 q2 r2 B => ?_) A2
  rw [ho] at q2 B ⊢
  cases eb : bindT t x (wipeE ρ (slotsT t)) with
  | none => simp only [eb] at B; exact False.elim B
  | some ρ' =>
    simp only [eb] at B
    rw [← Rs.bind_assoc (ev c c' ρ' s2) (fun x s => Rs.opt (truD x) s)] at B
    refine ⟨_, s2, m2, G2, x, ρ', w2, q2, r2, eb, fun σ' q' o' => ⟨wipe_off o', ?_⟩⟩
    refine goT w2 q' (Aft.bind w2 B) fun k s3 m3 G3 H3 t3 w3 q3 B3 => ?_
    cases k with
    | false => exact Aft.ok B3 w3
    | true =>
      simp only [if_true] at B3 ⊢
      refine ⟨ρ', s3, m3, G3, w3, q3, ?_⟩
      revert B3
      cases ev c e' ρ' s3 with
      | st => exact id
      | ex k ds s' => exact fun B => B
      | ok d s' => exact fun B m' G' H' t' w' u ru => B m' G' H' t' w' u ru
theorem s_lc (g : Gd L X Wx) {elt iter : Expr} {scope : Scope} {own : List (Str × Nat)} {t : Tg} {r : Sr} {e' : E} (ho : own.map (·.2) = slotsT t) (hi : PI X tg iter (tSr L c Wx W r)) (ok : BlkOk X.N X.env.scope scope own)
    (hg : ∀ (s : Shared) (H : Hp) (C : Addr) (cl : List (Str × Addr)) (fp : List Addr), PG (blkX X scope s H C cl fp) tg (gT L W t))
    (he : ∀ (s : Shared) (H : Hp) (C : Addr) (cl : List (Str × Addr)) (fp : List Addr), PE (blkX X scope s H C cl fp) elt (tE L c WF W e')) (hns : noSetI iter = true) :
    PE X (.ListComp elt [⟨tg, iter, [], 0⟩] scope pos) (tO L c Wx W (.lc e' t r)) :=
  PE.imp (pe_lc g.calm g.nd hi ok hg (fun _ _ _ _ _ => pts_nil) he (noSetI_is hns)) fun σ H Q h => lc_imp ho h
theorem s_lci (g : Gd L X Wx) {elt iter cnd : Expr} {scope : Scope} {own : List (Str × Nat)} {t : Tg} {r : Sr} {e' c' : E} (ho : own.map (·.2) = slotsT t) (hi : PI X tg iter (tSr L c Wx W r)) (ok : BlkOk X.N X.env.scope scope own)
    (hg : ∀ (s : Shared) (H : Hp) (C : Addr) (cl : List (Str × Addr)) (fp : List Addr), PG (blkX X scope s H C cl fp) tg (gT L W t))
    (hc : ∀ (s : Shared) (H : Hp) (C : Addr) (cl : List (Str × Addr)) (fp : List Addr), PT (blkX X scope s H C cl fp) cnd (tT L c WF W c'))
    (he : ∀ (s : Shared) (H : Hp) (C : Addr) (cl : List (Str × Addr)) (fp : List Addr), PE (blkX X scope s H C cl fp) elt (tE L c WF W e')) (hns : noSetI iter = true) :
    PE X (.ListComp elt [⟨tg, iter, [cnd], 0⟩] scope pos) (tO L c Wx W (.lci e' t r c')) :=
  PE.imp (pe_lc g.calm g.nd hi ok hg (fun s H C cl fp => pts_one (hc s H C cl fp)) he (noSetI_is hns)) fun σ H Q h => lci_imp ho h
/-- y = [..] -/
theorem s_setLc (g : Gd L X Wx) {i : Nat} {y : Str} {py spos : Pos} {elt iter : Expr} {scope : Scope} {own : List (Str × Nat)} {t : Tg} {r : Sr} {e' : E} (hy : X.N[i]? = some y) (hyl : X.env.scope.names.lookup y = some .local)
    (hsw : swapsWith (.ListComp elt [⟨tg, iter, [], 0⟩] scope pos) (some (.Name y py)) spos.line X.env = pure true) (ho : own.map (·.2) = slotsT t) (hi : PI X tg iter (tSr L c Wx W r)) (ok : BlkOk X.N X.env.scope scope own)
    (hg : ∀ (s : Shared) (H : Hp) (C : Addr) (cl : List (Str × Addr)) (fp : List Addr), PG (blkX X scope s H C cl fp) tg (gT L W t))
    (he : ∀ (s : Shared) (H : Hp) (C : Addr) (cl : List (Str × Addr)) (fp : List Addr), PE (blkX X scope s H C cl fp) elt (tE L c WF W e')) (hns : noSetI iter = true) :
    PS X (.Assign [.Name y py] (.ListComp elt [⟨tg, iter, [], 0⟩] scope pos) spos) (tAsg (tO L c Wx W (.lc e' t r)) (gName i)) :=
  PS.imp (ps_setLc g.calm g.nd hy hyl hsw hi ok hg (fun _ _ _ _ _ => pts_nil) he (noSetI_is hns)) fun Dn σ H h => lc_imp ho h
theorem s_setLci (g : Gd L X Wx) {i : Nat} {y : Str} {py spos : Pos} {elt iter cnd : Expr} {scope : Scope} {own : List (Str × Nat)} {t : Tg} {r : Sr} {e' c' : E} (hy : X.N[i]? = some y) (hyl : X.env.scope.names.lookup y = some .local)
    (hsw : swapsWith (.ListComp elt [⟨tg, iter, [cnd], 0⟩] scope pos) (some (.Name y py)) spos.line X.env = pure true) (ho : own.map (·.2) = slotsT t) (hi : PI X tg iter (tSr L c Wx W r)) (ok : BlkOk X.N X.env.scope scope own)
    (hg : ∀ (s : Shared) (H : Hp) (C : Addr) (cl : List (Str × Addr)) (fp : List Addr), PG (blkX X scope s H C cl fp) tg (gT L W t))
    (hc : ∀ (s : Shared) (H : Hp) (C : Addr) (cl : List (Str × Addr)) (fp : List Addr), PT (blkX X scope s H C cl fp) cnd (tT L c WF W c'))
    (he : ∀ (s : Shared) (H : Hp) (C : Addr) (cl : List (Str × Addr)) (fp : List Addr), PE (blkX X scope s H C cl fp) elt (tE L c WF W e')) (hns : noSetI iter = true) :
    PS X (.Assign [.Name y py] (.ListComp elt [⟨tg, iter, [cnd], 0⟩] scope pos) spos) (tAsg (tO L c Wx W (.lci e' t r c')) (gName i)) :=
  PS.imp (ps_setLc g.calm g.nd hy hyl hsw hi ok hg (fun s H C cl fp => pts_one (hc s H C cl fp)) he (noSetI_is hns)) fun Dn σ H h => lci_imp ho h
end
end MP

end
section
set_option Elab.async false
set_option linter.all false
set_option maxRecDepth 100000
set_option maxHeartbeats 1000000
/-! Statements. -/
namespace MP
open PySem PySem.Spec PyProof.Rows L2

/-- where a def's body began -/
structure Org where
  s : Sto
  m : List (Addr × Addr)
  G : Hp
  H : Hp
  /-- in an __init__: the new object, slot 0 -/
  slf : Option Addr := none
/-- a state of the body -/
structure At (L : Lay) (O : Org) (W : List Nat) (ρ : Env) (s : Sto) (m : List (Addr × Addr)) (G : Hp) (σ : L2.St) (H : Hp) : Prop where
  w0 : Wd L O.s O.m O.G O.H
  w : Wd L s m G H
  t : Stp O.m O.G O.H m G H
  q : Sl L W ρ σ m G H
  nw : ∀ i d a, i ∈ W → ρ[i]? = some (some d) → σ[i]? = some (some (.ref a)) → O.H a = none
  fx : ∀ x, O.slf = some x → σ[0]? = some (some (.ref x)) ∧ 0 ∈ W
abbrev WE' (Xk : XK) : WX := fun cl d _ H => Xk cl d H
def AftS (L : Lay) (O : Org) (Xk : XK) (W : List Nat) (fr : Bool) (Dn : Ends) (m0 : List (Addr × Addr)) (G0 : Hp) (r : R) : Prop :=
  match r with
  | .nx ρ s => ∀ σ m G H, m0 <+: m → Same G0 G → At L O W ρ s m G σ H → Dn.nx σ H
  | .rt d s => ∀ m G H, Stp O.m O.G O.H m G H → Wd L s m G H → if fr = true then ∀ a o, O.H a = none → G a = none → a ∉ hs m → H a = some o → Cont L m G o d → Dn.rt (.ref a) H else ∀ v, Rep L m G v d → Dn.rt v H
  | .ex k ds _ s => ∀ m G H dd, Stp O.m O.G O.H m G H → Wd L s m G H → ExR L m G H k ds dd → Xk (.ref (L.cls k)) dd H
  | .st => False
section
variable (L : Lay) (c : Cfg) (O : Org) (Xk : XK) (W W' : List Nat) (fr : Bool)
def tS (st : S) : TS := fun Dn σ H => ∃ ρ s m G, At L O W ρ s m G σ H ∧ AftS L O Xk W' fr Dn m G (exe c st ρ s)
def tSs (st : Ss) : TS := fun Dn σ H => ∃ ρ s m G, At L O W ρ s m G σ H ∧ AftS L O Xk W' fr Dn m G (exs c st ρ s)
end
section
variable {L : Lay} {c : Cfg} {O : Org} {Xk : XK} {W W' W'' : List Nat} {fr : Bool} {X : Cx} {pos p : Pos} {s s1 : Sto} {m m1 : List (Addr × Addr)} {G H G1 H1 : Hp} {σ : L2.St} {ρ : Env} {Dn : Ends}
theorem At.step (a : At L O W ρ s m G σ H) (t : Stp m G H m1 G1 H1) (w1 : Wd L s1 m1 G1 H1) : At L O W ρ s1 m1 G1 σ H1 := ⟨a.w0, w1, Stp.trans a.w a.w0 a.t t, a.q.step t, a.nw, a.fx⟩
theorem AftS.mono {r : R} {m' : List (Addr × Addr)} {G' : Hp} (A : AftS L O Xk W fr Dn m G r) (hm : m <+: m') (hg : Same G G') : AftS L O Xk W fr Dn m' G' r := by
  cases r with
  | nx ρ s => exact fun σ m2 G2 H2 h1 h2 => A σ m2 G2 H2 (hm.trans h1) (hg.trans h2)
  | rt d s => exact A
  | ex k ds ρ s => exact A
  | st => exact A
/-- a value on, in a statement -/
theorem sE {e : E} {Rp : V → Hp → Prop} {f : D → Sto → R} (a : At L O W ρ s m G σ H) (A : AftS L O Xk W' fr Dn m G ((ev c e ρ s).go ρ f))
    (h : ∀ d s1 m1 G1 H1 v, At L O W ρ s1 m1 G1 σ H1 → Rep L m1 G1 v d → AftS L O Xk W' fr Dn m1 G1 (f d s1) → Rp v H1) : tE L c (WE' Xk) W e σ H Rp := by
  refine ⟨ρ, s, m, G, a.w, a.q, ?_⟩
  cases ee : ev c e ρ s with
  | st => rw [ee] at A; exact A
  | ex k ds s' => rw [ee] at A; exact fun m' G' H' dd t w' x => A m' G' H' dd (Stp.trans a.w a.w0 a.t t) w' x
  | ok d s1 => rw [ee] at A; exact fun m' G' H' t w' v r => h d s1 m' G' H' v (a.step t w') r (A.mono t.pre t.keep)
theorem sB {e : E} {Rp : V → Hp → Prop} {f : D → Sto → R} (a : At L O W ρ s m G σ H) (A : AftS L O Xk W' fr Dn m G ((ev c e ρ s).go ρ f))
    (h : ∀ d s1 m1 G1 H1 v, At L O W ρ s1 m1 G1 σ H1 → RB L m1 G1 H1 v d → AftS L O Xk W' fr Dn m1 G1 (f d s1) → Rp v H1) : tB L c (WE' Xk) W e σ H Rp := by
  refine ⟨ρ, s, m, G, a.w, a.q, ?_⟩
  cases ee : ev c e ρ s with
  | st => rw [ee] at A; exact A
  | ex k ds s' => rw [ee] at A; exact fun m' G' H' dd t w' x => A m' G' H' dd (Stp.trans a.w a.w0 a.t t) w' x
  | ok d s1 => rw [ee] at A; exact fun m' G' H' t w' v r => h d s1 m' G' H' v (a.step t w') r (A.mono t.pre t.keep)
theorem sO {e : E} {Rp : V → Hp → Prop} {f : D → Sto → R} (a : At L O W ρ s m G σ H) (A : AftS L O Xk W' fr Dn m G ((ev c e ρ s).go ρ f))
    (h : ∀ d s1 m1 G1 H1 x o, At L O W ρ s1 m1 G1 σ H1 → H x = none → G1 x = none → x ∉ hs m1 → H1 x = some o → Cont L m1 G1 o d → AftS L O Xk W' fr Dn m1 G1 (f d s1) → Rp (.ref x) H1) : tO L c (WE' Xk) W e σ H Rp := by
  refine ⟨ρ, s, m, G, a.w, a.q, ?_⟩
  cases ee : ev c e ρ s with
  | st => rw [ee] at A; exact A
  | ex k ds s' => rw [ee] at A; exact fun m' G' H' dd t w' x => A m' G' H' dd (Stp.trans a.w a.w0 a.t t) w' x
  | ok d s1 => rw [ee] at A; exact fun m' G' H' t w' x o h1 h2 h3 h4 h5 => h d s1 m' G' H' x o (a.step t w') h1 h2 h3 h4 h5 (A.mono t.pre t.keep)
theorem sEs {es : Es} {Rp : List V → Hp → Prop} {f : List D → Sto → R} (a : At L O W ρ s m G σ H) (A : AftS L O Xk W' fr Dn m G ((evs c es ρ s).go ρ f))
    (h : ∀ d s1 m1 G1 H1 v, At L O W ρ s1 m1 G1 σ H1 → Reps L m1 G1 v d → AftS L O Xk W' fr Dn m1 G1 (f d s1) → Rp v H1) : tEs L c (WE' Xk) W es σ H Rp := by
  refine ⟨ρ, s, m, G, a.w, a.q, ?_⟩
  cases ee : evs c es ρ s with
  | st => rw [ee] at A; exact A
  | ex k ds s' => rw [ee] at A; exact fun m' G' H' dd t w' x => A m' G' H' dd (Stp.trans a.w a.w0 a.t t) w' x
  | ok d s1 => rw [ee] at A; exact fun m' G' H' t w' v r => h d s1 m' G' H' v (a.step t w') r (A.mono t.pre t.keep)
theorem go_assoc {α β : Type} (r : Rs α) (g : α → Sto → Rs β) (f : β → Sto → R) : (r.bind g).go ρ f = r.go ρ fun a s => (g a s).go ρ f := by cases r <;> rfl
theorem sT {e : E} {Rp : Bool → Hp → Prop} {f : Bool → Sto → R} (a : At L O W ρ s m G σ H) (A : AftS L O Xk W' fr Dn m G (((ev c e ρ s).bind fun x s => Rs.opt (truD x) s).go ρ f))
    (h : ∀ d s1 m1 G1 H1, At L O W ρ s1 m1 G1 σ H1 → AftS L O Xk W' fr Dn m1 G1 (f d s1) → Rp d H1) : tT L c (WE' Xk) W e σ H Rp := by
  refine ⟨ρ, s, m, G, a.w, a.q, ?_⟩
  cases ee : (ev c e ρ s).bind fun x s => Rs.opt (truD x) s with
  | st => rw [ee] at A; exact A
  | ex k ds s' => rw [ee] at A; exact fun m' G' H' dd t w' x => A m' G' H' dd (Stp.trans a.w a.w0 a.t t) w' x
  | ok d s1 => rw [ee] at A; exact fun m' G' H' t w' => h d s1 m' G' H' (a.step t w') (A.mono t.pre t.keep)
/-- a slot that owns nothing is set by a target -/
theorem At.bind (a : At L O W ρ s m G σ H) {t : Tg} {ρ' : Env} {σ' : L2.St} (hd : ∀ i, i ∈ slotsT t → i ∉ W) (q : Sl L W ρ' σ' m G H) (o : offT (slotsT t) σ σ') (he : ∀ j, j ∉ slotsT t → ρ'[j]? = ρ[j]?) : At L O W ρ' s m G σ' H :=
  ⟨a.w0, a.w, a.t, q, fun i d x hi h1 h2 => by
    have hn : i ∉ slotsT t := fun z => hd i z hi
    rw [o.2 i hn] at h2
    rw [he i hn] at h1
    exact a.nw i d x hi h1 h2, fun x h => by
    obtain ⟨h1, h2⟩ := a.fx x h
    exact ⟨by rw [o.2 0 fun z => hd 0 z h2]; exact h1, h2⟩⟩
mutual
theorem bindT_off : ∀ {t : Tg} {d : D} {ρ ρ' : Env}, bindT t d ρ = some ρ' → ∀ j, j ∉ slotsT t → ρ'[j]? = ρ[j]?
  | .nm i, d, ρ, ρ', h, j, hj => by
    simp only [bindT, Option.some.injEq] at h
    subst h
    exact List.getElem?_set_ne (fun z => hj (by simp [slotsT, z]))
  | .tp ts, .tup ds, ρ, ρ', h, j, hj => by
    simp only [bindT] at h
    exact bindTs_off h j (by unfold slotsT at hj; exact hj)
  | .tp ts, .lst ds, ρ, ρ', h, j, hj => by
    simp only [bindT] at h
    exact bindTs_off h j (by unfold slotsT at hj; exact hj)
  | .tp ts, .non, ρ, ρ', h, j, hj => by simp [bindT] at h
  | .tp ts, .bl _, ρ, ρ', h, j, hj => by simp [bindT] at h
  | .tp ts, .int _, ρ, ρ', h, j, hj => by simp [bindT] at h
  | .tp ts, .str _, ρ, ρ', h, j, hj => by simp [bindT] at h
  | .tp ts, .dK _, ρ, ρ', h, j, hj => by simp [bindT] at h
  | .tp ts, .dT _, ρ, ρ', h, j, hj => by simp [bindT] at h
  | .tp ts, .ins _ _, ρ, ρ', h, j, hj => by simp [bindT] at h
  | .tp ts, .fn _, ρ, ρ', h, j, hj => by simp [bindT] at h
  | .tp ts, .hnd _, ρ, ρ', h, j, hj => by simp [bindT] at h
  | .tp ts, .scr _, ρ, ρ', h, j, hj => by simp [bindT] at h
theorem bindTs_off : ∀ {ts : Tgs} {ds : List D} {ρ ρ' : Env}, bindTs ts ds ρ = some ρ' → ∀ j, j ∉ slotsTs ts → ρ'[j]? = ρ[j]?
  | .nil, [], ρ, ρ', h, j, hj => by simp only [bindTs, Option.some.injEq] at h; rw [h]
  | .nil, _ :: _, _, _, h, _, _ => by simp [bindTs] at h
  | .cons _ _, [], _, _, h, _, _ => by simp [bindTs] at h
  | .cons t ts, d :: ds, ρ, ρ', h, j, hj => by
    unfold bindTs at h
    unfold slotsTs at hj
    split at h
    · rename_i ρ1 e1
      rw [bindTs_off h j fun z => hj (List.mem_append_right _ z), bindT_off e1 j fun z => hj (List.mem_append_left _ z)]
    · cases h
end
/-! ### blocks -/
theorem AftS.bind {r : R} {f : Env → Sto → R} (A : AftS L O Xk W' fr Dn m G (r.bind f)) : AftS L O Xk W'' fr { Dn with nx := fun σ H => ∃ ρ s m G, At L O W'' ρ s m G σ H ∧ AftS L O Xk W' fr Dn m G (f ρ s) } m G r := by
  cases r with
  | nx ρ s => exact fun σ m G H h1 h2 a => ⟨ρ, s, m, G, a, A.mono h1 h2⟩
  | rt d s => exact A
  | ex k ds ρ s => exact A
  | st => exact A
theorem ss_nil : PSs X [] (tSs L c O Xk W W fr .nil) := PSs.imp pss_nil fun Dn σ H ⟨ρ, s, m, G, a, A⟩ => by
  unfold exs at A
  exact A σ m G H (List.prefix_refl _) (Same.refl _) a
theorem ss_cons {st : Stmt} {r : List Stmt} {st' : S} {r' : Ss} (h1 : PS X st (tS L c O Xk W W'' fr st')) (h2 : PSs X r (tSs L c O Xk W'' W' fr r')) : PSs X (st :: r) (tSs L c O Xk W W' fr (.cons st' r')) := by
  refine PSs.imp (pss_cons h1 h2) fun Dn σ H ⟨ρ, s, m, G, a, A⟩ => ?_
  unfold exs at A
  refine ⟨ρ, s, m, G, a, ?_⟩
  have := AftS.bind (W'' := W'') A
  exact this
theorem ss_frz {r : List Stmt} {r' : Ss} {i : Nat} (h2 : PSs X r (tSs L c O Xk (W.filter (· != i)) W' fr r')) (hi : i ∈ W) (h0 : O.slf = none ∨ i ≠ 0) : PSs X r (tSs L c O Xk W W' fr (.cons (.frz i) r')) := by
  refine PSs.imp h2 fun Dn σ H ⟨ρ, s, m, G, a, A⟩ => ?_
  unfold exs exe at A
  simp only [R.bind_nx] at A
  obtain ⟨G', h1, h2, h3, h4⟩ := a.q.give a.w hi
  refine ⟨ρ, s, m, G', ⟨a.w0, h3, ⟨a.t.pre, a.t.keep.trans h1, fun b x hb g n => ?_, a.t.fresh⟩, h4, fun j d x hj => a.nw j d x (List.mem_filter.mp hj).1, fun x h => ?_⟩, A.mono (List.prefix_refl _) h1⟩
  · obtain ⟨y1, y2⟩ := a.t.frame b x hb g n
    refine ⟨y1, h2 b x y1 y2 (a.t.off hb n) fun d e z => ?_⟩
    have := a.nw i d b hi e z
    rw [hb] at this; cases this
  · obtain ⟨z1, z2⟩ := a.fx x h
    refine ⟨z1, List.mem_filter.mpr ⟨z2, ?_⟩⟩
    rcases h0 with h0 | h0
    · rw [h0] at h; cases h
    · simp only [bne_iff_ne, ne_eq]; exact fun e => h0 e.symm

/-! ### assignments -/
def isComp : Expr → Bool
  | .ListComp .. => true
  | .SetComp .. => true
  | .DictComp .. => true
  | _ => false
theorem noComp_sw {e : Expr} {t : Option Expr} {l : Nat} {env : PySem.Env} (h : isComp e = false) : swapsWith e t l env = pure false := by
  cases e <;> first | rfl | cases h
/-- no swapped stores: not both are tuples -/
def noPair : Expr → Expr → Bool
  | .Tuple .., .Tuple .. => false
  | .List .., .Tuple .. => false
  | _, _ => true
theorem noPair_is {tg e : Expr} {env : PySem.Env} (h : noPair tg e = true) : swappedStores [tg] e env = pure none := by
  cases tg <;> cases e <;> first | rfl | cases h
theorem one_target {tg : Expr} {env : PySem.Env} (h : noStarT tg = true) : (assignEach [tg] env).map (·.2) = [assign tg env] := by
  rw [assignEach_cons h]; rfl
theorem ss_asg {tg e : Expr} {t : Tg} {e' : E} (hd : ∀ i, i ∈ slotsT t → i ∉ W) (he : PE X e (tE L c (WE' Xk) W e')) (hg : PG X tg (gT L W t)) (hc : swapsWith e (some tg) pos.line X.env = pure false) (hp : swappedStores [tg] e X.env = pure none) (ht : noStarT tg = true) :
    PS X (.Assign [tg] e pos) (tS L c O Xk W W fr (.asg t e')) := by
  refine PS.imp (ps_asg he hg hc hp (one_target ht)) fun Dn σ H ⟨ρ, s, m, G, a, A⟩ => ?_
  unfold exe at A
  refine sE a A fun d s1 m1 G1 H1 v a1 r1 A1 => ?_
  cases eb : bindT t d ρ with
  | none => rw [eb] at A1; exact False.elim A1
  | some ρ' =>
    rw [eb] at A1
    exact ⟨ρ, s1, m1, G1, d, ρ', a1.w, a1.q, r1, eb, fun σ' q' o' => A1 σ' m1 G1 H1 (List.prefix_refl _) (Same.refl _) (a1.bind hd q' o' (bindT_off eb))⟩
/-- x = [..] with the store inside -/
theorem lc_asg {i : Nat} {st : Stmt} {e' : E} (hW : i ∉ W) (h : PS X st (tAsg (tO L c (WE' Xk) W e') (gName i))) : PS X st (tS L c O Xk W W fr (.asg (.nm i) e')) := by
  refine PS.imp h fun Dn σ H ⟨ρ, s, m, G, a, A⟩ => ?_
  unfold exe at A
  refine sO a A fun d s1 m1 G1 H1 x o a1 h1 h2 h3 h4 h5 A1 => ?_
  simp only [bindT, R.opt_some] at A1
  have sm : Same G1 (upd G1 x o) := fun b y z => by
    have : b ≠ x := fun e => by rw [e, h2] at z; cases z
    rw [upd_ne this]; exact z
  have nx : ∀ b y, H1 b = some y → G1 b = none → H b = some y → upd G1 x o b = none := fun b y hb g z => by
    have : b ≠ x := fun e => by rw [e, h1] at z; cases z
    rw [upd_ne this]; exact g
  have ox : O.H x = none := Stp.back a.w a.t h1
  have w2 := a1.w.settle h4 h3
  have q2 : Sl L W ρ σ m1 (upd G1 x o) H1 := by
    refine ⟨a1.q.len, fun j d' e n => ?_, fun j d' e n => ?_, a1.q.dj⟩
    · obtain ⟨v, y1, y2⟩ := a1.q.sh j d' e n
      exact ⟨v, y1, y2.mono (List.prefix_refl _) sm⟩
    · obtain ⟨b, ob, y1, y2, y3, y4, y5⟩ := a1.q.ow j d' e n
      obtain ⟨b', ob', z1, z2, z3, z4, z5⟩ := a.q.ow j d' e n
      have eb : b' = b := by rw [y1] at z1; cases z1; rfl
      subst eb
      have : b' ≠ x := fun e => by rw [e, h1] at z4; cases z4
      exact ⟨b', ob, y1, by rw [upd_ne this]; exact y2, y3, y4, y5.mono (List.prefix_refl _) sm⟩
  refine A1 _ m1 (upd G1 x o) H1 (List.prefix_refl _) sm ⟨a1.w0, w2, ⟨a1.t.pre, a1.t.keep.trans sm, fun b y hb g n => ?_, a1.t.fresh⟩, q2.set hW (.obj upd_same (h5.mono (List.prefix_refl _) sm)), fun j d' y hj e1 e2 => ?_, fun y h => ?_⟩
  · obtain ⟨z1, z2⟩ := a1.t.frame b y hb g n
    have : b ≠ x := fun e => by rw [e, ox] at hb; cases hb
    exact ⟨z1, by rw [upd_ne this]; exact z2⟩
  · have hji : j ≠ i := fun e => hW (e ▸ hj)
    rw [List.getElem?_set_ne (Ne.symm hji)] at e1 e2
    exact a1.nw j d' y hj e1 e2
  · obtain ⟨z1, z2⟩ := a1.fx y h
    exact ⟨by rw [List.getElem?_set_ne (fun e => hW (by rw [e]; exact z2))]; exact z1, z2⟩
/-- x = a new object, its owner from now on -/
theorem own_at {i : Nat} {x : Addr} {o : HO} {d : D} (hW : i ∉ W) (a : At L O W ρ s m G σ H) (a1 : At L O W ρ s1 m1 G1 σ H1) (h1 : H x = none) (h2 : G1 x = none) (h3 : x ∉ hs m1) (h4 : H1 x = some o) (h5 : Cont L m1 G1 o d) :
    At L O (i :: W) (ρ.set i (some d)) s1 m1 G1 (σ.set i (some (.ref x))) H1 := by
  have ox : O.H x = none := Stp.back a.w a.t h1
  refine ⟨a1.w0, a1.w, a1.t, a1.q.own h2 h3 h4 h5 fun j d' hj hji e1 e2 => ?_, fun j d' y hj e1 e2 => ?_, fun y h => ?_⟩
  · obtain ⟨b', ob', z1, z2, z3, z4, z5⟩ := a.q.ow j d' e1 hj
    rw [e2] at z1; cases z1
    rw [h1] at z4; cases z4
  · rcases set_get e1 with ⟨rfl, z1, z2⟩ | ⟨z1, z2⟩
    · rw [List.getElem?_set_self (by rw [← a1.q.len]; exact z2)] at e2
      cases e2
      exact ox
    · rw [List.getElem?_set_ne (Ne.symm z1)] at e2
      exact a1.nw j d' y ((List.mem_cons.mp hj).resolve_left z1) z2 e2
  · obtain ⟨z1, z2⟩ := a1.fx y h
    exact ⟨by rw [List.getElem?_set_ne (fun e => hW (by rw [e]; exact z2))]; exact z1, List.mem_cons_of_mem _ z2⟩
theorem ss_own {i : Nat} {st : Stmt} {e' : E} (hW : i ∉ W) (h : PS X st (tAsg (tO L c (WE' Xk) W e') (gName i))) : PS X st (tS L c O Xk W (i :: W) fr (.own i e')) := by
  refine PS.imp h fun Dn σ H ⟨ρ, s, m, G, a, A⟩ => ?_
  unfold exe at A
  refine sO a A fun d s1 m1 G1 H1 x o a1 h1 h2 h3 h4 h5 A1 => ?_
  split at A1
  · exact A1 _ m1 G1 H1 (List.prefix_refl _) (Same.refl _) (own_at hW a a1 h1 h2 h3 h4 h5)
  · exact False.elim A1
theorem ss_expr {e : Expr} {e' : E} (he : PE X e (tE L c (WE' Xk) W e')) (hc : isComp e = false) : PS X (.Expr e pos) (tS L c O Xk W W fr (.expr e')) := by
  refine PS.imp (ps_expr he (noComp_sw hc)) fun Dn σ H ⟨ρ, s, m, G, a, A⟩ => ?_
  unfold exe at A
  exact sE a A fun d s1 m1 G1 H1 v a1 r1 A1 => A1 σ m1 G1 H1 (List.prefix_refl _) (Same.refl _) a1
theorem ss_ret {e : Expr} {e' : E} (he : PE X e (tE L c (WE' Xk) W e')) : PS X (.Return (some e) pos) (tS L c O Xk W W' false (.ret e')) := by
  refine PS.imp (ps_ret he) fun Dn σ H ⟨ρ, s, m, G, a, A⟩ => ?_
  unfold exe at A
  exact sE a A fun d s1 m1 G1 H1 v a1 r1 A1 => A1 m1 G1 H1 a1.t a1.w v r1
theorem ss_retO {e : Expr} {e' : E} (he : PE X e (tO L c (WE' Xk) W e')) : PS X (.Return (some e) pos) (tS L c O Xk W W' true (.ret e')) := by
  refine PS.imp (ps_ret he) fun Dn σ H ⟨ρ, s, m, G, a, A⟩ => ?_
  unfold exe at A
  exact sO a A fun d s1 m1 G1 H1 x o a1 h1 h2 h3 h4 h5 A1 => A1 m1 G1 H1 a1.t a1.w x o (Stp.back a.w a.t h1) h2 h3 h4 h5
/-- return x, x the owner of what it gives -/
theorem ss_retV {i : Nat} {x : Str} {p : Pos} (hi : i ∈ W) (hN : X.N[i]? = some x) (hv : Vis X.env.scope x) (hd : (x == ("__debug__" : Str)) = false) (hcd : (x == ("__classdict__" : Str)) = false) : PS X (.Return (some (.Name x p)) pos) (tS L c O Xk W W' true (.ret (.var i))) := by
  refine PS.imp (ps_ret (pe_var hN hv hd hcd)) fun Dn σ H ⟨ρ, s, m, G, a, A⟩ => ?_
  unfold exe ev at A
  cases e : ρ[i]? with
  | none => rw [e] at A; exact False.elim A
  | some od =>
    cases od with
    | none => rw [e] at A; exact False.elim A
    | some d =>
      rw [e] at A
      obtain ⟨b, o, h1, h2, h3, h4, h5⟩ := a.q.ow i d e hi
      exact ⟨_, h1, A m G H a.t a.w b o (a.nw i d b hi e h1) h2 h3 h4 h5⟩
theorem ss_retn : PS X (.Return none pos) (tS L c O Xk W W' false .retn) := by
  refine PS.imp ps_retN fun Dn σ H ⟨ρ, s, m, G, a, A⟩ => ?_
  unfold exe at A
  exact A m G H a.t a.w _ .non
theorem ss_pass : PS X (.Pass pos) (tS L c O Xk W W fr .pass) := by
  refine PS.imp ps_pass fun Dn σ H ⟨ρ, s, m, G, a, A⟩ => ?_
  unfold exe at A
  exact A σ m G H (List.prefix_refl _) (Same.refl _) a
theorem ss_if {t : Expr} {x y : List Stmt} {t' : E} {x' y' : Ss} (ht : PT X t (tT L c (WE' Xk) W t')) (hx : PSs X x (tSs L c O Xk W W' fr x')) (hy : PSs X y (tSs L c O Xk W W' fr y')) : PS X (.If t x y pos) (tS L c O Xk W W' fr (.ite t' x' y')) := by
  refine PS.imp (ps_if ht hx hy) fun Dn σ H ⟨ρ, s, m, G, a, A⟩ => ?_
  unfold exe at A
  rw [← go_assoc (ev c t' ρ s) (fun x s => Rs.opt (truD x) s)] at A
  refine sT a A fun k s1 m1 G1 H1 a1 A1 => ?_
  cases k with
  | true => exact ⟨ρ, s1, m1, G1, a1, A1⟩
  | false => exact ⟨ρ, s1, m1, G1, a1, A1⟩
/-- code behind which nothing comes on -/
theorem ss_any {st : List Stmt} {st' : Ss} (h : PSs X st (tSs L c O Xk W W' fr st')) (hn : ∀ ρ s ρ' s', exs c st' ρ s ≠ .nx ρ' s') : PSs X st (tSs L c O Xk W W'' fr st') := by
  refine PSs.imp h fun Dn σ H ⟨ρ, s, m, G, a, A⟩ => ⟨ρ, s, m, G, a, ?_⟩
  revert A
  cases e : exs c st' ρ s with
  | nx ρ' s' => exact absurd e (hn ρ s ρ' s')
  | rt d s' => exact id
  | ex k ds ρ' s' => exact id
  | st => exact id
/-! ### loops -/
theorem ss_for (hp : PassesOwn (model X.prog X.w) X.A X.env X.xe) (g : Gd L X (WE' Xk)) {tg iter : Expr} {body : List Stmt} {t : Tg} {r : Sr} {b : Ss} (hd : ∀ i, i ∈ slotsT t → i ∉ W) (hi : PI X tg iter (tSr L c (WE' Xk) W r)) (hg : PG X tg (gT L W t)) (hb : PSs X body (tSs L c O Xk W W fr b)) (hns : noSetI iter = true) :
    PS X (.For tg iter body [] pos) (tS L c O Xk W W fr (.for t r b)) := by
  refine PS.imp (ps_for hp g.calm hi hg hb (noSetI_is hns)) fun Dn σ H ⟨ρ, s, m, G, a, A⟩ => ?_
  unfold exe at A
  refine ⟨ρ, s, m, G, a.w, a.q, ?_⟩
  cases ee : evr c r ρ s with
  | st => rw [ee] at A; exact A
  | ex k ds s' => rw [ee] at A; exact fun m' G' H' dd t w' x => A m' G' H' dd (Stp.trans a.w a.w0 a.t t) w' x
  | ok xs s1 =>
    rw [ee] at A
    simp only [Rs.go_ok] at A
    intro m1 G1 H1 t1 w1 J P S hP
    refine ⟨fun i k σ' H' => k = xs.length - i ∧ i ≤ xs.length ∧ ∃ ρ' s' m' G', At L O W ρ' s' m' G' σ' H' ∧ P m' G' ∧ AftS L O Xk W fr Dn m' G' (forL (fun x ρ s => match bindT t x ρ with
        | some ρ' => exs c b ρ' s
        | none => .st) (xs.drop i) ρ' s'), ⟨xs.length, by simp, Nat.zero_le _, ρ, s1, m1, G1, a.step t1 w1, hP, A.mono t1.pre t1.keep⟩, ?_⟩
    rintro i k σ' H' ⟨rfl, hle, ρ', s', m', G', a', hP', A'⟩
    by_cases hlt : i < xs.length
    · refine .inr ⟨S.go hP' a'.w hlt, fun σ'' H'' => i + 1 ≤ xs.length ∧ ∃ ρ' s' m' G', At L O W ρ' s' m' G' σ'' H'' ∧ P m' G' ∧ AftS L O Xk W fr Dn m' G' (forL (fun x ρ s => match bindT t x ρ with
        | some ρ' => exs c b ρ' s
        | none => .st) (xs.drop (i + 1)) ρ' s'), fun σ'' H'' h => ⟨xs.length - (i + 1), by omega, rfl, h.1, h.2⟩, fun x H'' y => ?_⟩
      obtain ⟨G2, d, t2, w2, hd', r2⟩ := S.yld hP' a'.w y hlt
      have a2 := a'.step t2 w2
      have P2 := S.mono hP' t2.pre t2.keep
      have hdrop : xs.drop i = d :: xs.drop (i + 1) := by
        have h1 := List.drop_eq_getElem_cons hlt
        have h2 : xs[i] = d := by
          have := List.getElem?_eq_getElem hlt
          rw [hd'] at this
          exact (Option.some.inj this).symm
        rw [h1, h2]
      rw [hdrop] at A'
      unfold forL at A'
      cases eb : bindT t d ρ' with
      | none => simp only [eb] at A'; exact False.elim A'
      | some ρ2 =>
        simp only [eb] at A'
        refine ⟨ρ', s', m', G2, d, ρ2, w2, a2.q, r2, eb, fun σ2 q2 o2 => ⟨ρ2, s', m', G2, a2.bind hd q2 o2 (bindT_off eb), ?_⟩⟩
        revert A'
        cases exs c b ρ2 s' with
        | nx ρ3 s3 =>
          intro A' σ3 m3 G3 H3 h1 h2 a3
          exact ⟨hlt, ρ3, s3, m3, G3, a3, S.mono P2 h1 h2, A'.mono (t2.pre.trans h1) (t2.keep.trans h2)⟩
        | rt d s3 => exact id
        | ex k ds ρ3 s3 => exact id
        | st => exact id
    · have e : i = xs.length := by omega
      subst e
      rw [List.drop_length] at A'
      unfold forL at A'
      exact .inl ⟨S.stop hP' a'.w (Nat.le_refl _), A' σ' m' G' H' (List.prefix_refl _) (Same.refl _) a'⟩
end
end MP

end
section
set_option Elab.async false
set_option linter.all false
set_option maxRecDepth 100000
set_option maxHeartbeats 1000000
/-! Further statements: while, methods of lists, stores into lists, dicts and objects, parallel assignments. -/
namespace MP
open PySem PySem.Spec PyProof.Rows L2
section
variable {L : Lay} {c : Cfg} {O : Org} {Xk : XK} {W W' W'' : List Nat} {fr : Bool} {X : Cx} {pos p : Pos} {s s1 : Sto} {m m1 : List (Addr × Addr)} {G H G1 H1 : Hp} {σ : L2.St} {ρ : Env} {Dn : Ends}
theorem ss_while (hp : PassesOwn (model X.prog X.w) X.A X.env X.xe) {t : Expr} {body : List Stmt} {t' : E} {b : Ss} (ht : PT X t (tT L c (WE' Xk) W t')) (hb : PSs X body (tSs L c O Xk W W fr b)) : PS X (.While t body [] pos) (tS L c O Xk W W fr (.whl t' b)) := by
  refine PS.imp (ps_while hp ht hb) fun Dn σ H ⟨ρ, s, m, G, a, A⟩ => ?_
  unfold exe at A
  refine ⟨fun k σ H => ∃ ρ s m G, At L O W ρ s m G σ H ∧ AftS L O Xk W fr Dn m G (whlL (fun ρ s => (ev c t' ρ s).bind fun x s => Rs.opt (truD x) s) (fun ρ s => exs c b ρ s) k ρ s), ⟨c.fuel, ρ, s, m, G, a, A⟩, ?_⟩
  rintro k σ' H' ⟨ρ', s', m', G', a', A'⟩
  cases k with
  | zero => exact False.elim A'
  | succ k =>
    unfold whlL at A'
    refine sT a' A' fun z s1 m1 G1 H1 a1 A1 => ?_
    cases z with
    | false => exact A1 σ' m1 G1 H1 (List.prefix_refl _) (Same.refl _) a1
    | true =>
      simp only [if_true] at A1 ⊢
      refine ⟨fun σ H => ∃ ρ s m G, At L O W ρ s m G σ H ∧ AftS L O Xk W fr Dn m G (whlL (fun ρ s => (ev c t' ρ s).bind fun x s => Rs.opt (truD x) s) (fun ρ s => exs c b ρ s) k ρ s), fun σ'' H'' h => ⟨k, Nat.lt_succ_self k, h⟩, ρ', s1, m1, G1, a1, ?_⟩
      revert A1
      cases exs c b ρ' s1 with
      | nx ρ2 s2 => exact fun A1 σ2 m2 G2 H2 h1 h2 a2 => ⟨ρ2, s2, m2, G2, a2, A1.mono h1 h2⟩
      | rt d s2 => exact id
      | ex k ds ρ2 s2 => exact id
      | st => exact id

/-! ### the methods append, extend -/
theorem few_one {e : Expr} {env : PySem.Env} {cpos : Pos} (h : noStar e = true) : ((backTo cpos (starEach [e] env)).all (fun x => !x.1) && (backToKw cpos (keywordEach [] env)).all (fun x => x.1.isSome)
      && decide (([e] : List Expr).length + ([] : List Keyword).length + (if ([] : List Keyword).isEmpty then 0 else 1) < 30)) = true := by
  rw [starOne h]; rfl
theorem name_base {x f : Str} {p : Pos} {env : PySem.Env} : attributeBase (.Name x p) f env (eval (.Name x p) env) = eval (.Name x p) env := base_is rfl
theorem At.put (a : At L O W ρ s m G σ H) {i : Nat} {x : Addr} {o : HO} {d0 d : D} (hi : i ∈ W) (e0 : ρ[i]? = some (some d0)) (hx : σ[i]? = some (some (.ref x))) (c : Cont L m G o d) : At L O W (ρ.set i (some d)) s m G σ (upd H x o) := by
  obtain ⟨b, ob, y1, y2, y3, y4, y5⟩ := a.q.ow i d0 e0 hi
  rw [hx] at y1; cases y1
  have ox := a.nw i d0 x hi e0 hx
  refine ⟨a.w0, a.w.put y2 y3 o, ⟨a.t.pre, a.t.keep, fun b y hb g n => ?_, a.t.fresh⟩, a.q.put hi e0 hx c, fun j d' y hj e1 e2 => ?_, a.fx⟩
  · have : b ≠ x := fun e => by rw [e, ox] at hb; cases hb
    rw [upd_ne this]; exact a.t.frame b y hb g n
  · rcases set_get e1 with ⟨rfl, _, _⟩ | ⟨_, z2⟩
    · rw [hx] at e2; cases e2; exact ox
    · exact a.nw j d' y hj z2 e2
theorem at'_some {ρ : Env} {i : Nat} {d : D} (h : at' ρ i = some d) : ρ[i]? = some (some d) := by
  unfold at' at h
  split at h
  · cases h; assumption
  · cases h
theorem ss_app (g : Gd L X (WE' Xk)) {i : Nat} {x : Str} {e : Expr} {e' : E} {px apos cpos : Pos} (hi : i ∈ W) (hN : X.N[i]? = some x) (hv : Vis X.env.scope x) (hd : (x == ("__debug__" : Str)) = false) (hcd : (x == ("__classdict__" : Str)) = false)
    (he : PE X e (tE L c (WE' Xk) W e')) (ns : noStar e = true) (hl : (apos.endLine == cpos.line) = true) : PS X (.Expr (.Call (.Attribute (.Name x px) "append" apos) [e] [] cpos) pos) (tS L c O Xk W W fr (.app i e')) := by
  refine PS.imp (ps_expr (pe_bm PySem.F.plainAttrs_list PySem.F.slot_list_append PySem.F.type_list_append mt_append (pe_var hN hv hd hcd) (pa_cons he pa_nil (starOne ns)) name_base (few_one ns) hl (starOne ns) backNil) (noComp_sw rfl)) fun Dn σ H ⟨ρ, s, m, G, a, A⟩ => ?_
  unfold exe at A
  cases e0 : at' ρ i with
  | none => rw [e0] at A; exact False.elim A
  | some d0 =>
    rw [e0] at A
    have e1 := at'_some e0
    obtain ⟨b, o, y1, y2, y3, y4, y5⟩ := a.q.ow i d0 e1 hi
    cases d0 with
    | lst ds =>
      cases y5 with
      | lst hr =>
        refine ⟨_, y1, .inl ⟨rfl, _, .of y4⟩, ?_⟩
        refine sE a A fun d s1 m1 G1 H1 v a1 r1 A1 => ?_
        split at A1
        · rename_i hl
          obtain ⟨b', o', z1, z2, z3, z4, z5⟩ := a1.q.ow i _ e1 hi
          rw [y1] at z1; cases z1
          cases z5 with
          | lst hr' => exact ⟨b, _, v, rfl, rfl, z4, by rw [hr'.length, ← lim_eq]; exact hl, A1 σ m1 G1 _ (List.prefix_refl _) (Same.refl _) (a1.put hi e1 y1 (.lst (hr'.append (.one r1))))⟩
        · exact False.elim A1
    | _ => exact False.elim A
theorem ss_ext (g : Gd L X (WE' Xk)) {i : Nat} {x : Str} {e : Expr} {e' : E} {px apos cpos : Pos} (hi : i ∈ W) (hN : X.N[i]? = some x) (hv : Vis X.env.scope x) (hd : (x == ("__debug__" : Str)) = false) (hcd : (x == ("__classdict__" : Str)) = false)
    (he : PE X e (tE L c (WE' Xk) W e')) (ns : noStar e = true) (hl : (apos.endLine == cpos.line) = true) : PS X (.Expr (.Call (.Attribute (.Name x px) "extend" apos) [e] [] cpos) pos) (tS L c O Xk W W fr (.ext i e')) := by
  refine PS.imp (ps_expr (pe_bm PySem.F.plainAttrs_list PySem.F.slot_list_extend PySem.F.type_list_extend mt_extend (pe_var hN hv hd hcd) (pa_cons he pa_nil (starOne ns)) name_base (few_one ns) hl (starOne ns) backNil) (noComp_sw rfl)) fun Dn σ H ⟨ρ, s, m, G, a, A⟩ => ?_
  unfold exe at A
  cases e0 : at' ρ i with
  | none => rw [e0] at A; exact False.elim A
  | some d0 =>
    rw [e0] at A
    have e1 := at'_some e0
    obtain ⟨b, o, y1, y2, y3, y4, y5⟩ := a.q.ow i d0 e1 hi
    cases d0 with
    | lst ds =>
      cases y5 with
      | lst hr =>
        refine ⟨_, y1, .inl ⟨rfl, _, .of y4⟩, ?_⟩
        refine sE a A fun d s1 m1 G1 H1 v a1 r1 A1 => ?_
        split at A1
        · split at A1
          · rename_i hl
            obtain ⟨b', o', z1, z2, z3, z4, z5⟩ := a1.q.ow i _ e1 hi
            rw [y1] at z1; cases z1
            have rb : RB L m1 G1 H1 v _ := .rep r1
            obtain ⟨b2, vs, rfl, h2, r2⟩ := rb.lst a1.w
            cases z5 with
            | lst hr' => exact ⟨b, b2, _, vs, rfl, rfl, z4, h2, by rw [hr'.length, r2.length, ← lim_eq]; exact hl, A1 σ m1 G1 _ (List.prefix_refl _) (Same.refl _) (a1.put hi e1 y1 (.lst (hr'.append r2)))⟩
          · exact False.elim A1
        · exact False.elim A1
    | _ => exact False.elim A

/-! ### x[k] = e -/
def rSetA : V → V → V → Hp → (Hp → Prop) → Prop := fun o i v H Q => rSetL o i v H Q ∨ ∃ a H', o = .ref a ∧ DPut H a i v H' ∧ Q H'
theorem set_all (hu : X.A.units + 1 < cLine) : PSet X rSetA := by
  intro pins s σ H o i v ov iv u Q I ro ri rv h
  rcases h with h | ⟨a, H', rfl, hp, q⟩
  · exact set_list pins s σ H o i v ov iv u Q I ro ri rv h
  · cases ro
    exact d_setItem hu I hp ri rv fun s' I' => ⟨H', I', q⟩
theorem sub_assign {o i : Expr} {env : PySem.Env} (h : noSlice i = true) (v : Value) : assign (.Subscript o i pos) env v = (do
      let ov ← holding [v] (eval o env)
      let iv ← holding [v, ov] (eval i env)
      standAt pos
      holding [v, ov, iv] (setItem ov iv v)
      release [v, ov, iv] []) := by
  cases i <;> first | rfl | cases h
theorem setD_of {x y v : D} {z : D} {b : Addr} {o : HO} {vy vv : V} {Q : Hp → Prop} (w : Wd L s m G H) (hb : H b = some o) (c : Cont L m G o x) (ry : RB L m G H vy y) (rv : Rep L m G vv v) (e : setD x y v = some z)
    (q : ∀ o', Cont L m G o' z → Q (upd H b o')) : rSetA (.ref b) vy vv H Q := by
  have dict : ∀ z', dput x y v = some z' → z' = z → rSetA (.ref b) vy vv H Q := fun z' ez' hz => by
    subst hz
    unfold dput at ez'
    split at ez'
    · split at ez'
      · split at ez'
        · rename_i kvs key v' k' hk hl
          cases ez'
          cases c with
          | dK h1 h2 =>
            have hy := key_of' hk (ry.flat (isFl_key hk))
            subst hy
            obtain ⟨p1, p2⟩ := put_keys (k := k') h1 h2 rv
            have hl' := congrArg List.length h1
            rw [List.length_map, List.length_map] at hl'
            exact .inr ⟨b, _, rfl, DPut.k hb (by rw [hl', ← lim_eq]; exact hl), q _ (.dK p1 p2)⟩
        · cases ez'
      · cases ez'
    · split at ez'
      · split at ez'
        · rename_i kvs ks v' k' hk hl
          cases ez'
          cases c with
          | dT h1 h2 =>
            obtain ⟨b2, vs, rfl, h3, r2⟩ := ry.tup w
            have hy := keys_of' hk r2
            subst hy
            obtain ⟨p1, p2⟩ := put_keys (k := k') h1 h2 rv
            have hl' := congrArg List.length h1
            rw [List.length_map, List.length_map] at hl'
            exact .inr ⟨b, _, rfl, DPut.t hb h3 (by rw [hl', ← lim_eq]; exact hl), q _ (.dT p1 p2)⟩
        · cases ez'
      · cases ez'
    · cases ez'
  cases x with
  | lst ds =>
    cases y with
    | int i =>
      simp only [setD] at e
      cases c with
      | lst hr =>
        cases ei : ixN ds.length i with
        | none => rw [ei] at e; cases e
        | some j =>
          rw [ei] at e; cases e
          have e1 := ry.int; subst e1
          exact .inl ⟨b, _, i, j, rfl, rfl, hb, by rw [hr.length]; exact ei, q _ (.lst (hr.set rv j))⟩
    | _ => exact dict z e rfl
  | _ => exact dict z e rfl
theorem ss_put (g : Gd L X (WE' Xk)) {i : Nat} {x : Str} {k e : Expr} {k' e' : E} {px tp : Pos} (hi : i ∈ W) (hN : X.N[i]? = some x) (hv : Vis X.env.scope x) (hd : (x == ("__debug__" : Str)) = false) (hcd : (x == ("__classdict__" : Str)) = false)
    (he : PE X e (tE L c (WE' Xk) W e')) (hk : PE X k (tB L c (WE' Xk) W k')) (hs : noSlice k = true) : PS X (.Assign [.Subscript (.Name x px) k tp] e pos) (tS L c O Xk W W fr (.put i k' e')) := by
  have hu : X.A.units + 1 < cLine := by have := g.units; omega
  have hsw : swapsWith e (some (.Subscript (.Name x px) k tp)) pos.line X.env = pure false := by
    cases e <;> rfl
  refine PS.imp (ps_asg he (pg_sub (pe_var hN hv hd hcd) hk (set_all hu) (fun v => sub_assign hs v)) hsw (by cases e <;> rfl) (one_target rfl)) fun Dn σ H ⟨ρ, s, m, G, a, A⟩ => ?_
  unfold exe at A
  cases e0 : at' ρ i with
  | none => rw [e0] at A; exact False.elim A
  | some d0 =>
    rw [e0] at A
    have e1 := at'_some e0
    obtain ⟨b, o, y1, y2, y3, y4, y5⟩ := a.q.ow i d0 e1 hi
    refine sE a A fun d s1 m1 G1 H1 v a1 r1 A1 => ⟨_, y1, ?_⟩
    refine ⟨ρ, s1, m1, G1, a1.w, a1.q, ?_⟩
    cases ek : ev c k' ρ s1 with
    | st => rw [ek] at A1; exact A1
    | ex k ds s' => rw [ek] at A1; exact fun m' G' H' dd t w' x => A1 m' G' H' dd (Stp.trans a1.w a1.w0 a1.t t) w' x
    | ok y s2 =>
      rw [ek] at A1
      intro m2 G2 H2 t2 w2 v2 r2
      have a2 := a1.step t2 w2
      have A2 := A1.mono t2.pre t2.keep
      simp only [Rs.go_ok] at A2
      obtain ⟨b', o', z1, z2, z3, z4, z5⟩ := a2.q.ow i _ e1 hi
      rw [y1] at z1; cases z1
      cases es : setD d0 y d with
      | none => rw [es] at A2; exact False.elim A2
      | some z =>
        rw [es] at A2
        exact setD_of w2 z4 z5 r2 (r1.mono t2.pre t2.keep) es fun o'' hc => A2 σ m2 G2 _ (List.prefix_refl _) (Same.refl _) (a2.put hi e1 y1 hc)

/-! ### x op= e -/
theorem ss_aug (g : Gd L X (WE' Xk)) {i : Nat} {x : Str} {e : Expr} {e' : E} {px : Pos} (hW : i ∉ W) (hN : X.N[i]? = some x) (hx : Loc X.env.scope x) (hf : X.fn x = true ∨ X.env.scope.names.lookup x = some .local)
    (he : PE X e (tB L c (WE' Xk) W e')) : PS X (.AugAssign (.Name x px) .Add e pos) (tS L c O Xk W W fr (.aug i .add e')) := by
  refine PS.imp (ps_aug g.nd hN hx he ip_add hf) fun Dn σ H ⟨ρ, s, m, G, a, A⟩ => ?_
  unfold exe at A
  cases e0 : at' ρ i with
  | none => rw [e0] at A; exact False.elim A
  | some d0 =>
    rw [e0] at A
    have e1 := at'_some e0
    obtain ⟨v0, y1, y2⟩ := a.q.sh i d0 e1 hW
    refine ⟨v0, y1, ?_⟩
    refine sB a A fun d s1 m1 G1 H1 v a1 r1 A1 => ?_
    cases d0 <;> cases d <;> simp only at A1 <;> first | (exact False.elim A1; done) | skip
    have z1 := RB.int (H := H) (.rep y2); subst z1
    have z2 := r1.int; subst z2
    refine ⟨_, _, rfl, rfl, A1 _ m1 G1 H1 (List.prefix_refl _) (Same.refl _) ⟨a1.w0, a1.w, a1.t, a1.q.set hW (.int _), fun j d' y hj f1 f2 => ?_, fun y h => ⟨by rw [List.getElem?_set_ne (fun e => hW (by rw [e]; exact (a1.fx y h).2))]; exact (a1.fx y h).1, (a1.fx y h).2⟩⟩⟩
    have hji : j ≠ i := fun e => hW (e ▸ hj)
    rw [List.getElem?_set_ne (Ne.symm hji)] at f1 f2
    exact a1.nw j d' y hj f1 f2
theorem ss_augm (g : Gd L X (WE' Xk)) {i : Nat} {x : Str} {e : Expr} {e' : E} {px : Pos} (hW : i ∉ W) (hN : X.N[i]? = some x) (hx : Loc X.env.scope x) (hf : X.fn x = true ∨ X.env.scope.names.lookup x = some .local)
    (he : PE X e (tB L c (WE' Xk) W e')) : PS X (.AugAssign (.Name x px) .Mult e pos) (tS L c O Xk W W fr (.aug i .mul e')) := by
  refine PS.imp (ps_aug g.nd hN hx he (show PIp X .Mult _ from iop_mul) hf) fun Dn σ H ⟨ρ, s, m, G, a, A⟩ => ?_
  unfold exe at A
  cases e0 : at' ρ i with
  | none => rw [e0] at A; exact False.elim A
  | some d0 =>
    rw [e0] at A
    have e1 := at'_some e0
    obtain ⟨v0, y1, y2⟩ := a.q.sh i d0 e1 hW
    refine ⟨v0, y1, ?_⟩
    refine sB a A fun d s1 m1 G1 H1 v a1 r1 A1 => ?_
    cases d0 <;> cases d <;> simp only at A1 <;> first | (exact False.elim A1; done) | skip
    split at A1
    · rename_i hl
      have z1 := RB.int (H := H) (.rep y2); subst z1
      have z2 := r1.int; subst z2
      unfold mulOk at hl
      simp only [Bool.or_eq_true, Bool.and_eq_true, decide_eq_true_eq] at hl
      refine ⟨_, _, rfl, rfl, hl, A1 _ m1 G1 H1 (List.prefix_refl _) (Same.refl _) ⟨a1.w0, a1.w, a1.t, a1.q.set hW (.int _), fun j d' y hj f1 f2 => ?_, fun y h => ⟨by rw [List.getElem?_set_ne (fun e => hW (by rw [e]; exact (a1.fx y h).2))]; exact (a1.fx y h).1, (a1.fx y h).2⟩⟩⟩
      have hji : j ≠ i := fun e => hW (e ▸ hj)
      rw [List.getElem?_set_ne (Ne.symm hji)] at f1 f2
      exact a1.nw j d' y hj f1 f2
    · exact False.elim A1

/-! ### self.f = e -/
theorem lookup_none {k : Cl} : (fields k).zip ([] : List V) = [] := by cases fields k <;> rfl
theorem ss_seta (g : Gd L X (WE' Xk)) {i : Nat} {x : Str} {cl : Cl} {f : Str} {e : Expr} {e' : E} {px tp : Pos} (hf : fields cl = [f]) (na : L.has cl = true → NoAttr L.K (L.cls cl) f) (hi : i ∈ W) (hN : X.N[i]? = some x) (hv : Vis X.env.scope x) (hd : (x == ("__debug__" : Str)) = false) (hcd : (x == ("__classdict__" : Str)) = false)
    (he : PE X e (tE L c (WE' Xk) W e')) : PS X (.Assign [.Attribute (.Name x px) f tp] e pos) (tS L c O Xk W W fr (.seta i cl e')) := by
  have hsw : swapsWith e (some (.Attribute (.Name x px) f tp)) pos.line X.env = pure false := by
    cases e <;> rfl
  refine PS.imp (ps_fld (pe_var hN hv hd hcd) he hsw) fun Dn σ H ⟨ρ, s, m, G, a, A⟩ => ?_
  unfold exe at A
  split at A
  · rename_i cl' e0
    have e1 := at'_some e0
    split at A
    · rename_i ek
      subst ek
      refine sE a A fun d s1 m1 G1 H1 v a1 r1 A1 => ?_
      obtain ⟨b, o, y1, y2, y3, y4, y5⟩ := a1.q.ow i _ e1 hi
      cases y5 with
      | @ins _ dx _ _ hr hl hh =>
        cases hr
        rw [hf] at y4
        refine ⟨_, y1, b, _, _, _, rfl, y4, by rw [g.K]; exact (g.cls _ hh).cl, by rw [g.K]; exact na hh, by simp, ?_⟩
        refine A1 σ m1 G1 _ (List.prefix_refl _) (Same.refl _) (a1.put hi e1 y1 ?_)
        have := Cont.ins (L := L) (m := m1) (G := G1) (c := cl') (dx := dx) (Reps.one r1) (by rw [hf]; exact Nat.le_refl _) hh
        rw [hf] at this
        exact this
    · exact False.elim A
  · exact False.elim A

/-! ### a, b = x, y -/
/-- the stores of a, b = x, y are turned round: what is looked at -/
def parB (sc : Scope) (ts : List (Str × Pos)) (vs : List Expr) : Bool :=
  (match sc.kind with | .function => true | _ => false) && vs.all noStar && (ts.all fun t => decide (sc.names.lookup t.1 = some .local)) && (ts.all fun t => t.2.line == ((ts.head?.map fun t => t.2.line).getD 0)) &&
    decide ((ts.map (·.1)).eraseDups.length = ts.length) && !(vs.all (foldedForSure 8)) && !(vs.all (constantsAlone 8))
theorem par2_sw {x y : Str} {px py pt pt2 : Pos} {kt k2 : Nat} {a b : Expr} (h : parB X.env.scope [(x, px), (y, py)] [a, b] = true) : swappedStores [.Tuple [.Name x px, .Name y py] kt pt] (.Tuple [a, b] k2 pt2) X.env = pure (some [x, y]) := by
  unfold parB at h
  simp only [Bool.and_eq_true, Bool.not_eq_true', List.all_cons, List.all_nil, decide_eq_true_eq, Bool.and_true, List.head?_cons, Option.map_some, Option.getD_some, List.map_cons, List.map_nil, List.length_cons, List.length_nil] at h
  obtain ⟨⟨⟨⟨⟨⟨h1, h2⟩, h3⟩, h4⟩, h5⟩, h6⟩, h7⟩ := h
  have hk : X.env.scope.kind = .function := by
    split at h1
    · assumption
    · cases h1
  have hb : X.env.blockKind = .function := by unfold Env.blockKind; rw [hk]; rfl
  have kx : X.env.kindOf x = some .local := h3.1
  have ky : X.env.kindOf y = some .local := h3.2
  unfold swappedStores
  simp only [List.length_cons, List.length_nil, hb, List.head?_cons, Option.map_some, Option.getD_some, Expr.pos, List.filterMap_cons, List.filterMap_nil, kx, ky, h4.2, h5, List.all_cons, List.all_nil, Bool.and_true]
  simp [h6, h7, h5]
  intro h
  rcases h with h | h
  · cases a <;> first | (cases h; done) | cases h2.1
  · cases b <;> first | (cases h; done) | cases h2.2
theorem par3_sw {x y z : Str} {px py pz pt pt2 : Pos} {kt k2 : Nat} {a b d : Expr} (h : parB X.env.scope [(x, px), (y, py), (z, pz)] [a, b, d] = true) : swappedStores [.Tuple [.Name x px, .Name y py, .Name z pz] kt pt] (.Tuple [a, b, d] k2 pt2) X.env = pure (some [x, y, z]) := by
  unfold parB at h
  simp only [Bool.and_eq_true, Bool.not_eq_true', List.all_cons, List.all_nil, decide_eq_true_eq, Bool.and_true, List.head?_cons, Option.map_some, Option.getD_some, List.map_cons, List.map_nil, List.length_cons, List.length_nil] at h
  obtain ⟨⟨⟨⟨⟨⟨h1, h2⟩, h3⟩, h4⟩, h5⟩, h6⟩, h7⟩ := h
  have hk : X.env.scope.kind = .function := by
    split at h1
    · assumption
    · cases h1
  have hb : X.env.blockKind = .function := by unfold Env.blockKind; rw [hk]; rfl
  have kx : X.env.kindOf x = some .local := h3.1
  have ky : X.env.kindOf y = some .local := h3.2.1
  have kz : X.env.kindOf z = some .local := h3.2.2
  unfold swappedStores
  simp only [List.length_cons, List.length_nil, hb, List.head?_cons, Option.map_some, Option.getD_some, Expr.pos, List.filterMap_cons, List.filterMap_nil, kx, ky, kz, h4.2.1, h4.2.2, h5, List.all_cons, List.all_nil, Bool.and_true]
  simp [h6, h7, h5]
  intro h
  rcases h with h | h | h
  · cases a <;> first | (cases h; done) | cases h2.1
  · cases b <;> first | (cases h; done) | cases h2.2.1
  · cases d <;> first | (cases h; done) | cases h2.2.2
theorem At.set1 (a : At L O W ρ s m G σ H) {i : Nat} {v : V} {d : D} (hW : i ∉ W) (r : Rep L m G v d) : At L O W (ρ.set i (some d)) s m G (σ.set i (some v)) H :=
  ⟨a.w0, a.w, a.t, a.q.set hW r, fun j d' y hj f1 f2 => by
    have hji : j ≠ i := fun e => hW (e ▸ hj)
    rw [List.getElem?_set_ne (Ne.symm hji)] at f1 f2
    exact a.nw j d' y hj f1 f2, fun y h => ⟨by rw [List.getElem?_set_ne (fun e => hW (by rw [e]; exact (a.fx y h).2))]; exact (a.fx y h).1, (a.fx y h).2⟩⟩
theorem ss_par2 (g : Gd L X (WE' Xk)) {i j : Nat} {x y : Str} {px py pt pt2 : Pos} {kt k2 : Nat} {a b : Expr} {es : Es} (hi : X.N[i]? = some x) (hj : X.N[j]? = some y) (hij : i ≠ j) (h : parB X.env.scope [(x, px), (y, py)] [a, b] = true) (Wi : i ∉ W) (Wj : j ∉ W)
    (ha : PA X [a, b] (tEs L c (WE' Xk) W es)) : PS X (.Assign [.Tuple [.Name x px, .Name y py] kt pt] (.Tuple [a, b] k2 pt2) pos) (tS L c O Xk W W fr (.par [i, j] es)) := by
  have h3 : X.env.scope.names.lookup x = some .local ∧ X.env.scope.names.lookup y = some .local := by
    unfold parB at h
    simp only [Bool.and_eq_true, List.all_cons, List.all_nil, decide_eq_true_eq, Bool.and_true] at h
    exact h.1.1.1.1.2
  refine PS.imp (ps_par g.calm g.nd hi hj hij h3.1 h3.2 ha (par2_sw h) rfl) fun Dn σ H ⟨ρ, s, m, G, a, A⟩ => ?_
  unfold exe at A
  refine sEs a A fun ds s1 m1 G1 H1 vs a1 r1 A1 => ?_
  cases e : parE [i, j] ds ρ with
  | none => rw [e] at A1; exact False.elim A1
  | some ρ' =>
    rw [e] at A1
    cases r1 with
    | nil => simp [parE] at e
    | cons r1 r2 =>
      cases r2 with
      | nil => simp [parE] at e
      | cons r2 r3 =>
        cases r3 with
        | cons _ _ => simp [parE] at e
        | nil =>
          simp [parE] at e
          subst e
          exact ⟨_, _, rfl, A1 _ m1 G1 H1 (List.prefix_refl _) (Same.refl _) ((a1.set1 Wi r1).set1 Wj r2)⟩
theorem ss_par3 (g : Gd L X (WE' Xk)) {i j l : Nat} {x y z : Str} {px py pz pt pt2 : Pos} {kt k2 : Nat} {a b d : Expr} {es : Es} (hi : X.N[i]? = some x) (hj : X.N[j]? = some y) (hl : X.N[l]? = some z) (hij : i ≠ j) (hil : i ≠ l) (hjl : j ≠ l) (h : parB X.env.scope [(x, px), (y, py), (z, pz)] [a, b, d] = true) (Wi : i ∉ W) (Wj : j ∉ W) (Wl : l ∉ W)
    (ha : PA X [a, b, d] (tEs L c (WE' Xk) W es)) : PS X (.Assign [.Tuple [.Name x px, .Name y py, .Name z pz] kt pt] (.Tuple [a, b, d] k2 pt2) pos) (tS L c O Xk W W fr (.par [i, j, l] es)) := by
  have h3 : X.env.scope.names.lookup x = some .local ∧ X.env.scope.names.lookup y = some .local ∧ X.env.scope.names.lookup z = some .local := by
    unfold parB at h
    simp only [Bool.and_eq_true, List.all_cons, List.all_nil, decide_eq_true_eq, Bool.and_true] at h
    exact h.1.1.1.1.2
  refine PS.imp (ps_par3 g.calm g.nd hi hj hl hij hil hjl h3.1 h3.2.1 h3.2.2 ha (par3_sw h) rfl) fun Dn σ H ⟨ρ, s, m, G, a, A⟩ => ?_
  unfold exe at A
  refine sEs a A fun ds s1 m1 G1 H1 vs a1 r1 A1 => ?_
  cases e : parE [i, j, l] ds ρ with
  | none => rw [e] at A1; exact False.elim A1
  | some ρ' =>
    rw [e] at A1
    cases r1 with
    | nil => simp [parE] at e
    | cons r1 r2 =>
      cases r2 with
      | nil => simp [parE] at e
      | cons r2 r3 =>
        cases r3 with
        | nil => simp [parE] at e
        | cons r3 r4 =>
          cases r4 with
          | cons _ _ => simp [parE] at e
          | nil =>
            simp [parE] at e
            subst e
            exact ⟨_, _, _, rfl, A1 _ m1 G1 H1 (List.prefix_refl _) (Same.refl _) (((a1.set1 Wi r1).set1 Wj r2).set1 Wl r3)⟩
/-- what isn't reached -/
theorem ss_never {st : Stmt} {st' : S} (h : ∀ ρ s, exe c st' ρ s = .st) : PS X st (tS L c O Xk W W' fr st') := by
  refine PS.imp ps_never fun Dn σ H ⟨ρ, s, m, G, a, A⟩ => ?_
  rw [h] at A
  exact A
end
end MP

end
section
set_option Elab.async false
set_option linter.all false
set_option maxRecDepth 100000
set_option maxHeartbeats 1000000
/-! == and len by a class's own defs; enumerate. -/
namespace MP
open PySem PySem.Spec PyProof.Rows L2
section
variable {L : Lay} {c : Cfg} {Wx : WX} {W : List Nat} {X : Cx} {pos p : Pos} {s : Sto} {m : List (Addr × Addr)} {G H : Hp} {n : Nat} {tg : Expr}
/-- a class's own == where the reading stands -/
structure EqH (L : Lay) (X : Cx) (n : Nat) (k : Cl) (φ : List D → Sto → Rs D) : Prop where
  ok : ∃ fd ps, FnOk X.prog X.w X.K X.mg X.base (CX X.prog X.w) (2 * n) (L.fad (.eq k)) fd ps (spF L 2 false φ) ∧ Binds X.K fd ps []
  at_ : PySem.W.findIn X.K (.ref (L.cls k)) "__eq__" = some (some (.ref (L.fad (.eq k))))
  fn : PySem.W.isFn X.K (.ref (L.fad (.eq k))) = true
  no : PySem.W.subIn X.K (.type "tuple") (.ref (L.cls k)) = some false
structure LenH (L : Lay) (X : Cx) (n : Nat) (k : Cl) (φ : List D → Sto → Rs D) : Prop where
  ok : ∃ fd ps, FnOk X.prog X.w X.K X.mg X.base (CX X.prog X.w) (2 * n) (L.fad (.len k)) fd ps (spF L 1 false φ) ∧ Binds X.K fd ps []
  at_ : PySem.W.findIn X.K (.ref (L.cls k)) "__len__" = some (some (.ref (L.fad (.len k))))
  fn : PySem.W.isFn X.K (.ref (L.fad (.len k))) = true
def rOwnE (L : Lay) (c : Cfg) (has : Cl → Bool) : R2 := fun x y H Q => ∃ s m G k ds dy b s', Wd L s m G H ∧ has k = true ∧ Rep L m G x (.ins k ds) ∧ Rep L m G y dy ∧ ((∃ es, dy = .tup es) ∨ ∃ es, dy = .ins k es) ∧
  c.call (.eq k) [.ins k ds, dy] s = .ok (.bl b) s' ∧ ∀ m' G' H', Stp m G H m' G' H' → Wd L s' m' G' H' → Q (.bl b) H'
theorem op_ownE {has : Cl → Bool} (hE : ∀ k, has k = true → EqH L X n k (c.call (.eq k))) (hr : Room (2 * n) X.A) : OpR X (compareOp .Eq) (rOwnE L c has) := by
  intro pins sh σ H x y u v Q I rx ry h
  obtain ⟨s, m, G, k, ds, dy, b, s', w, hk, r1, r2, hy, ec, q⟩ := h
  have F := hE k hk
  obtain ⟨fd, ps, ok, hb⟩ := F.ok
  have rb1 : RB L m G H x (.ins k ds) := .rep r1
  obtain ⟨a, dx, vs, rfl, ha, ra, _, _⟩ := rb1.ins w
  obtain rfl : u = Value.ref a := rx
  obtain ⟨mA, J, _⟩ := ins_get I.hok ha
  obtain ⟨od, J, _⟩ := J.look
  obtain ⟨m', hF⟩ := I.fr
  have ht : ∃ (z : Addr) (tb : Value), v = .ref z ∧ y = .ref z ∧ PySem.W.Looks (model X.prog X.w) sh.heap (typeOf v) tb ∧ PySem.W.notFirst X.K (L.cls k) tb = true := by
    rcases hy with ⟨es, rfl⟩ | ⟨es, rfl⟩
    · have rb2 : RB L m G H y (.tup es) := .rep r2
      obtain ⟨z, ws, rfl, hz, _⟩ := rb2.tup w
      obtain rfl : v = Value.ref z := ry
      obtain ⟨_, its, rv, o, h1, h2, _⟩ := (show ObjOk X.prog X.w H sh.heap z (.tup ws) from I.hok z _ hz)
      refine ⟨z, .type "tuple", rfl, rfl, ?_, ?_⟩
      · rw [← h2]; exact (PySem.W.Looks.ld h1).andThen .now
      · unfold PySem.W.notFirst
        rw [F.no]; simp
    · have rb2 : RB L m G H y (.ins k es) := .rep r2
      obtain ⟨z, dz, ws, rfl, hz, _⟩ := rb2.ins w
      obtain rfl : v = Value.ref z := ry
      obtain ⟨mB, J', _⟩ := ins_get I.hok hz
      obtain ⟨od', J', _⟩ := J'.look
      exact ⟨z, .ref (L.cls k), rfl, rfl, J'.type, by simp [PySem.W.notFirst]⟩
  obtain ⟨z, tb, rfl, rfl, hL, hn⟩ := ht
  show wpAny (model X.prog X.w) X.A (richCompare .Eq (.ref a) (.ref z)) (EP X pins σ Q) X.xe sh
  refine PySem.W.cmp_K (op := .Eq) (tb := tb) hr.units0 hF I.ok.mod.kin J hL hn F.at_ F.fn ?_
  have hsp : spF L 2 false (c.call (.eq k)) [.ref a, .ref z] H (fun v H' => v = .bl b ∧ Q (.bl b) H') (fun _ _ _ => False) :=
    ⟨rfl, [.ins k ds, dy], s, m, G, w, .cons r1 (.cons r2 .nil), by
      rw [ec]
      exact fun m' G' H' t w' v r => ⟨RB.bl (H := H') (.rep r), q m' G' H' t w'⟩⟩
  have hl := ok.len _ _ _ _ hsp
  refine wpAny_call (codeAny_mono (ok.run X.A X.stack sh H ⟨[.ref a, .ref z], []⟩ [.ref a, .ref z] [.ref a, .ref z] _ _ hr I.env0 (by
    have := hb sh [.ref a, .ref z] I.kIn (by simpa using hl)
    simpa using this) (.cons rfl (.cons rfl .nil)) hsp) fun r s2 hq => ?_)
  cases r with
  | error e =>
    obtain ⟨_, _, _, _, _, _, _, _, _, _, _, _, z⟩ := hq
    exact z.elim
  | ok fl =>
    cases fl with
    | ret w2 =>
      obtain ⟨z2, H', I', rz, ez, q'⟩ := I.after hq
      subst ez
      cases rz
      exact ⟨.bl b, H', I', rfl, q'⟩
    | next => exact False.elim hq
    | brk => exact False.elim hq
    | cont => exact False.elim hq
def rLenO (L : Lay) (c : Cfg) (has : Cl → Bool) : List V → Hp → VK → Prop := fun xs H Q => ∃ x s m G k ds i s', xs = [x] ∧ Wd L s m G H ∧ has k = true ∧ Rep L m G x (.ins k ds) ∧ c.call (.len k) [.ins k ds] s = .ok (.int i) s' ∧ (0 ≤ i ∧ i < 2 ^ 63) ∧
  ∀ m' G' H', Stp m G H m' G' H' → Wd L s' m' G' H' → Q (.int i) H'
theorem cr_lenO {has : Cl → Bool} (hE : ∀ k, has k = true → LenH L X n k (c.call (.len k))) (hr : Room (2 * n + 1) X.A) : CallR X (.builtin "len") (rLenO L c has) := by
  intro pins sh σ H xs us Q I rv h
  obtain ⟨x, s, m, G, k, ds, i, s', rfl, w, hk, r1, ec, hi, q⟩ := h
  have F := hE k hk
  obtain ⟨fd, ps, ok, hb⟩ := F.ok
  have rb1 : RB L m G H x (.ins k ds) := .rep r1
  obtain ⟨a, dx, vs, rfl, ha, ra, _, _⟩ := rb1.ins w
  obtain rfl := Vals.ref1 rv
  obtain ⟨mA, J, _⟩ := ins_get I.hok ha
  obtain ⟨od, J, _⟩ := J.look
  obtain ⟨m', hF⟩ := I.fr
  refine PySem.W.len_K hF I.ok.mod.kin J F.at_ F.fn ?_
  have hsp : spF L 1 false (c.call (.len k)) [.ref a] H (fun v H' => v = .int i ∧ Q (.int i) H') (fun _ _ _ => False) :=
    ⟨rfl, [.ins k ds], s, m, G, w, .cons r1 .nil, by
      rw [ec]
      exact fun m' G' H' t w' v r => ⟨RB.int (H := H') (.rep r), q m' G' H' t w'⟩⟩
  have hl := ok.len _ _ _ _ hsp
  refine wpAny_call (codeAny_mono (ok.run X.A.in1 X.stack sh H ⟨[.ref a], []⟩ [.ref a] [.ref a] _ _ hr.in1 I.env0.in1 (by
    have := hb sh [.ref a] I.kIn (by simpa using hl)
    simpa using this) (.cons rfl .nil) hsp) fun r s2 hq => ?_)
  cases r with
  | error e =>
    obtain ⟨_, _, _, _, _, _, _, _, _, _, _, _, z⟩ := hq
    exact z.elim
  | ok fl =>
    cases fl with
    | ret w2 =>
      obtain ⟨z2, H', I', rz, ez, q'⟩ := I.after hq
      subst ez
      obtain ⟨t, rfl⟩ := rz
      exact ⟨hi, .int i, H', I'.tok _, ⟨_, rfl⟩, q'⟩
    | next => exact False.elim hq
    | brk => exact False.elim hq
    | cont => exact False.elim hq
/-- len(x) of an object -/
theorem s_leno (g : Gd L X Wx) {has : Cl → Bool} (hE : ∀ k, has k = true → LenH L X n k (c.call (.len k))) (hr : Room (2 * n + 1) X.A) {a : Expr} {a' : E} {k : Cl} (hk : has k = true) (hg : Gl X "len") (ha : PE X a (tE L c Wx W a')) (ns : noStar a = true) : PE X (.Call (.Name "len" p) [a] [] pos) (tE L c Wx W (.leno a' k)) := by
  refine PE.imp (pe_callB (cr_lenO hE hr) hg (blt g (by decide +kernel)) (by decide +kernel) (pa_cons ha pa_nil (starOne ns)) (by decide +kernel) (by decide +kernel) (starOne ns) backNil) fun σ H Q ⟨ρ, s, m, G, w, q, A⟩ => ?_
  unfold ev at A
  refine goE w q (Aft.bind w A) fun d s1 m1 G1 H1 v t1 w1 q1 r1 A1 => ?_
  split at A1
  · split at A1
    · rename_i e; subst e
      split at A1
      · rename_i ec
        split at A1
        · rename_i hb
          simp only [Bool.and_eq_true, decide_eq_true_eq] at hb
          exact ⟨v, s1, m1, G1, _, _, _, _, rfl, w1, hk, r1, ec, ⟨hb.1, by omega⟩, fun m' G' H' t w' => A1 m' G' H' t w' _ (.int _)⟩
        · exact False.elim A1
      · exact False.elim A1
    · exact False.elim A1
  · exact False.elim A1
/-- x == y by the class's own -/
theorem eqo_go {has : Cl → Bool} {a' b' : E} {k : Cl} {Q : VK} {σ : L2.St} {ρ : Env} (hk : has k = true) (w : Wd L s m G H) (q : Sl L W ρ σ m G H) (A : Aft L Wx σ m G H (ev c (.eqo k a' b') ρ s) fun d _ m' G' H' => ∀ v, Rep L m' G' v d → Q v H') :
    tOp (rOwnE L c has) (tE L c Wx W a') (tE L c Wx W b') σ H Q := by
  unfold ev at A
  refine goE w q (Aft.bind w A) fun x s1 m1 G1 H1 v t1 w1 q1 r1 A1 => ?_
  refine goE w1 q1 (Aft.bind w1 A1) fun y s2 m2 G2 H2 v2 t2 w2 q2 r2 A2 => ?_
  split at A2
  · split at A2
    · rename_i hc
      rw [Bool.and_eq_true, decide_eq_true_eq] at hc
      obtain ⟨e, hy⟩ := hc
      subst e
      split at A2
      · rename_i ec
        refine ⟨s2, m2, G2, _, _, y, _, _, w2, hk, r1.mono t2.pre t2.keep, r2, ?_, ec, fun m' G' H' t w' => A2 m' G' H' t w' _ (.bl _)⟩
        cases y with
        | tup es => exact .inl ⟨es, rfl⟩
        | ins k'' es =>
          simp only [eqRt, decide_eq_true_eq] at hy
          subst hy
          exact .inr ⟨es, rfl⟩
        | _ => simp [eqRt] at hy
      · exact False.elim A2
    · exact False.elim A2
  · exact False.elim A2
theorem s_eqo (g : Gd L X Wx) {has : Cl → Bool} (hE : ∀ k, has k = true → EqH L X n k (c.call (.eq k))) (hr : Room (2 * n) X.A) {a b : Expr} {a' b' : E} {k : Cl} (hk : has k = true) (ha : PE X a (tE L c Wx W a')) (hb : PE X b (tE L c Wx W b')) (hs : noSet b = true) : PE X (.Compare a [.Eq] [b] pos) (tE L c Wx W (.eqo k a' b')) :=
  PE.imp (pe_cmpR (op_ownE hE hr) ha hb (noSet_is hs)) fun σ H Q ⟨ρ, s, m, G, w, q, A⟩ => eqo_go hk w q A
theorem s_teqo (g : Gd L X Wx) {has : Cl → Bool} (hE : ∀ k, has k = true → EqH L X n k (c.call (.eq k))) (hr : Room (2 * n) X.A) {a b : Expr} {a' b' : E} {k : Cl} (hk : has k = true) (ha : PE X a (tE L c Wx W a')) (hb : PE X b (tE L c Wx W b')) (hs : noSet b = true) : PT X (.Compare a [.Eq] [b] pos) (tT L c Wx W (.eqo k a' b')) := by
  refine PT.imp (pt_cmpR (op_ownE hE hr) ha hb (noSet_is hs)) fun σ H Q ⟨ρ, s, m, G, w, q, A⟩ => ?_
  refine eqo_go (Q := fun x H' => ∃ k, x = .bl k ∧ Q k H') hk w q ?_
  revert A
  have hb : ∀ d s', ev c (.eqo k a' b') ρ s = .ok d s' → ∃ z, d = .bl z := fun d s' e => by
    unfold ev at e
    cases e1 : ev c a' ρ s with
    | st => rw [e1] at e; cases e
    | ex _ _ _ => rw [e1] at e; cases e
    | ok x s1 =>
      rw [e1] at e
      simp only [Rs.bind_ok] at e
      cases e2 : ev c b' ρ s1 with
      | st => rw [e2] at e; cases e
      | ex _ _ _ => rw [e2] at e; cases e
      | ok y s2 =>
        rw [e2] at e
        simp only [Rs.bind_ok] at e
        split at e
        · split at e
          · split at e
            · cases e; exact ⟨_, rfl⟩
            · cases e
          · cases e
        · cases e
  cases e : ev c (.eqo k a' b') ρ s with
  | st => exact id
  | ex _ _ _ => exact id
  | ok d s' =>
    obtain ⟨z, rfl⟩ := hb d s' e
    exact fun A m' G' H' t w' v r => ⟨z, RB.bl (H := H') (.rep r), A m' G' H' t w'⟩
end
end MP

end
section
set_option Elab.async false
set_option linter.all false
set_option maxRecDepth 100000
set_option maxHeartbeats 1000000
/-! enumerate over tuples and lists. -/
namespace PySem
open Sem (wp)
open AutoSeq1 (wpAny_loadPart')
theorem meets_enumerate_newT (l : Addr) (items : Array Value) (n : Nat) (dct : Option Addr) (sl : Array (Option Value)) :
    Meets (Builtin.«enumerate.__new__» ⟨[.type "enumerate", .ref l], []⟩) (fun _ R s => s.heap.get? l = some { cls := .type "tuple", dict := dct, data := .seq items n, slots := sl } ∧
      R (.ok (.ret (.ref (s.heap.push { cls := .type "tuple_iterator", data := .fields #[.ref l, .int 0 0] }).objs.size)))
        { s with heap := (s.heap.push { cls := .type "tuple_iterator", data := .fields #[.ref l, .int 0 0] }).push { cls := .type "enumerate", data := .fields #[.none, .bool false, .ref s.heap.objs.size, rawInt 0, .none, .none] } }) :=
  .of_wp fun prog w A R s h => by
    obtain ⟨hp, g, d, tk, os⟩ := s; obtain ⟨hl, h⟩ := h
    have hsub := sub_enumerate
    have hL : Heap.IsTuple (Shared.heap ⟨hp, g, d, tk, os⟩) l items := ⟨_, hl, rfl, n, rfl⟩
    wp_walk using wpAny_loadPart' hl
    refine wpAny_stack_any fun st => wpAny_pure ?_
    split
    · rename_i c _ _ _ _ _
      cases (c == Value.type "enumerate")
      · wp_walk using wpAny_loadPart' hl, wpAny_pyIter_tuple hL
        exact ⟨_, rfl, h⟩
      · wp_walk using wpAny_loadPart' hl, wpAny_pyIter_tuple hL
        exact ⟨_, rfl, h⟩
    · wp_walk using wpAny_loadPart' hl, wpAny_pyIter_tuple hL
      exact ⟨_, rfl, h⟩
theorem call_enumerate_tup {prog : Program} {w : World} {A : Around} {E : Value → Shared → Prop} {s : Shared} {l : Addr} {items : Array Value} {Q : Value → Shared → Prop} (hL : s.heap.IsTuple l items)
    (h : ∀ h', IsEnum h' (s.heap.objs.size + 1) s.heap.objs.size 0 .none → h'.IsTupleIter s.heap.objs.size l 0 → h'.objs.size = s.heap.objs.size + 2 →
      (∀ b o, s.heap.get? b = some o → h'.get? b = some o) → Q (.ref (s.heap.objs.size + 1)) { s with heap := h' }) :
    wpAny (model prog w) A (call (.type "enumerate") [.ref l]) Q E s := by
  obtain ⟨⟨c, dct, dt, sl⟩, hl, hc, n, hd⟩ := hL
  replace hc : c = .type "tuple" := hc
  replace hd : dt = .seq items n := hd
  subst hc hd
  refine callType_new F.called_enumerate (by decide) (F.typeCall_enumerate_1 _) (F.newCall_enumerate_1 _) (fun obj => F.args_object_init_2 obj _) F.entry_enumerate_new
    (meets_enumerate_newT l items n dct sl) ⟨hl, ?_⟩
  have hz : (s.heap.push { cls := .type "tuple_iterator", data := .fields #[.ref l, .int 0 0] }).objs.size = s.heap.objs.size + 1 := Heap.size_push ..
  show _ ∧ _
  rw [hz]
  have he : IsEnum ((s.heap.push { cls := .type "tuple_iterator", data := .fields #[.ref l, .int 0 0] }).push
      { cls := .type "enumerate", data := .fields #[.none, .bool false, .ref s.heap.objs.size, rawInt 0, .none, .none] }) (s.heap.objs.size + 1) s.heap.objs.size 0 .none := by
    have := Heap.get?_push_size (s.heap.push { cls := .type "tuple_iterator", data := .fields #[.ref l, .int 0 0] })
      (o := { cls := .type "enumerate", data := .fields #[.none, .bool false, .ref s.heap.objs.size, rawInt 0, .none, .none] }) rfl
    rw [hz] at this; exact this
  refine ⟨⟨_, he, rfl⟩, h _ he ⟨_, Heap.get?_push_of_some _ (Heap.get?_push_size _ rfl), rfl, rfl⟩ (by rw [Heap.size_push, hz]) fun b o x => Heap.get?_push_of_some _ (Heap.get?_push_of_some _ x)⟩
theorem enum_end_tup {prog : Program} {w : World} {A : Around} {E : Value → Shared → Prop} {s : Shared} {e it l : Addr} {i : Nat} {items : Array Value} {old : Value} {Q : Option Value → Shared → Prop} (hh : A.handled = none)
    (he : IsEnum s.heap e it i old) (hit : s.heap.IsTupleIter it l i) (hl : s.heap.IsTuple l items) (hx : items[i]? = none)
    (hQ : ∀ h', Heap.ExtBut it s.heap h' → Q none { s with heap := h' }) : wpAny (model prog w) A (pyNext (.ref e)) Q E s := by
  have hT : s.TypeIs (.ref e) "enumerate" := ⟨_, he, rfl⟩
  unfold pyNext
  refine wpAny_bind (wpAny_attempt (wpAny_callSpecial?_slot (name := Str.ofString "__next__") hT F.slot_enumerate_next
    (wpAny_call_entry F.slot_enumerate_next hT F.entry_enumerate_next ?_ (F.args_enumerate_next_1 _))))
  show wpAny _ _ (field (.ref e) 2 >>= _) _ _ _
  refine wpAny_bind (wpAny_field he rfl (x := .ref it) rfl ?_)
  refine wpAny_bind (wpAny_nextOf_tuple_end hh hit hl hx fun h' x he' hx' => ?_)
  obtain ⟨o, ho, hc⟩ := hx'
  refine wpAny_bind (wpAny_isInstance (T := "StopIteration") (b := true) ⟨o, ho, hc⟩ isSubtype_stop ?_)
  exact wpAny_pure (hQ _ he')
end PySem
namespace MP
open PySem PySem.Spec PyProof.Rows L2
def IteT (K : PySem.W.Frag) (a : Addr) : It :=
  ⟨fun i H => ∃ (xs : List V) (x : V), H a = some (.tup xs) ∧ xs[i]? = some x, fun i H v H' => ∃ T x, v = .ref T ∧ H T = none ∧ H' = upd H T (.tup [.int (i : Nat), x]) ∧ ∀ xs, H a = some (.tup xs) → xs[i]? = some x, fun i H => ∃ xs : List V, H a = some (.tup xs) ∧ xs.length ≤ i⟩
theorem turn_enumT {P : Program} {w : World} {K : PySem.W.Frag} {elts : List Expr} {kk : Nat} {tpos : Pos} (a e it : Addr) :
    Turn P w K (.Tuple elts kk tpos) (IteT K a) [e, it] e (fun i h => (∃ old, IsEnum h e it ((i : Nat) : Int) old) ∧ h.IsTupleIter it a i ∧ e ≠ it) where
  mem := by simp
  obj := fun i h st b hb => by
    obtain ⟨⟨old, he⟩, ⟨o, ho, hc, hd⟩, _⟩ := st
    have e' : b = e ∨ b = it := by simpa using hb
    rcases e' with z | z
    · rw [z]; exact ⟨_, he, fun v q => nomatch q⟩
    · rw [z]; exact ⟨o, ho, fun v q => by rw [hd] at q; cases q⟩
  keep := fun i h h' st k => let ⟨⟨old, he⟩, hi, hne⟩ := st; ⟨⟨old, k e (by simp) _ he⟩, hi.at fun o q => k it (by simp) o q, hne⟩
  item := by
    intro X hP hw hK hc i pins s σ H E I hf st hg
    subst hP hw hK
    obtain ⟨⟨old, he⟩, hit, hne⟩ := st
    obtain ⟨xs, x, hq, hx⟩ := hg
    obtain ⟨its, rv, p, hz⟩ := I.tuple (.of hq)
    obtain ⟨u, hu, ru⟩ := rv.get hx
    have hel : e < s.heap.objs.size := Heap.lt_size he
    have hil : it < s.heap.objs.size := by obtain ⟨_, q, _⟩ := hit; exact Heap.lt_size q
    have hai : a ≠ it := fun z => by
      have := (hf it (by simp)).1
      rw [← z, hq] at this; cases this
    have hae : a ≠ e := fun z => by
      have := (hf e (by simp)).1
      rw [← z, hq] at this; cases this
    have hlt : i < its.toArray.size := by
      have := (List.getElem?_eq_some_iff.mp hu).1
      simpa using this
    have hh := I.ok.hd hc
    refine wpAny_pyNext_enum_itemD (Draws.tuple (A := X.A.in1) hh it a hai its.toArray) he ⟨hit, p⟩ hlt hne (by simp; exact ⟨hne, Ne.symm hae⟩) fun x' h' tk hx' ho hit' hT hsz hk => ?_
    have ex : x' = u := by
      have : its.toArray[i]? = some x' := hx'
      simp only [List.getElem?_toArray] at this
      rw [hu] at this; cases this; rfl
    subst ex
    refine ⟨_, rfl, wpAny_letOwnedTupleGo_enum (s := { s with heap := h', toks := tk + 1 }) ho fun h'' he' sb => ?_⟩
    have hT2 : h''.get? s.heap.objs.size = some { cls := .type "tuple", data := .seq #[.int i tk, x'] } := (sb.2 _ (Nat.ne_of_gt hel)).trans hT
    have new : ObjOk X.prog X.w (upd H s.heap.objs.size (.tup [.int (i : Nat), x])) h'' s.heap.objs.size (.tup [.int (i : Nat), x]) :=
      ⟨by show 2 ≤ sizeLine; decide, [.int i tk, x'], .cons ⟨_, rfl⟩ (.cons ru .nil), ⟨_, hT2, rfl, _, rfl⟩⟩
    have I1 : L2.Inv X pins σ (upd H s.heap.objs.size (.tup [.int (i : Nat), x])) { s with heap := h'', toks := tk + 1 } :=
      I.turnedNew (ch := [e, it]) (fun b ob hb q => (sb.2 b (fun z => hb (by simp [z]))).trans (hk b ob (fun z => hb (by simp [z])) (fun z => hb (by simp [z])) q)) hf (Nat.le_refl _) new
    refine ⟨.ref s.heap.objs.size, _, I1, rfl, ⟨_, x, rfl, I.hok.fresh (Nat.le_refl _), rfl, fun ys hy => by rw [hq] at hy; cases hy; exact hx⟩, ⟨⟨x', ?_⟩, hit'.1.at fun o q => (sb.2 it (Ne.symm hne)).trans q, hne⟩, fun b hb => ?_⟩
    · have e1 : ((i + 1 : Nat) : Int) = (i : Int) + 1 := by omega
      rw [e1]; exact he'
    · have hb' : b < s.heap.objs.size := by
        have e' : b = e ∨ b = it := by simpa using hb
        rcases e' with z | z
        · rw [z]; exact hel
        · rw [z]; exact hil
      rw [upd_ne (Nat.ne_of_lt hb')]
      exact (hf b hb).1
  done := by
    intro X hP hw hK hc i pins s σ H E I hf st hg
    subst hP hw hK
    obtain ⟨⟨old, he⟩, hit, hne⟩ := st
    obtain ⟨xs, hq, hx⟩ := hg
    obtain ⟨its, rv, p, hz⟩ := I.tuple (.of hq)
    obtain ⟨f0, f1, f2, f3, f4, f5⟩ := hf it (by simp)
    have hai : a ≠ it := fun z => by
      rw [← z, hq] at f0; cases f0
    have hl := rv.length
    exact enum_end_tup (I.ok.hd hc) he hit p (by simp; omega) fun h' eb => ⟨rfl, I.turned (t' := s.toks) (fun b o hb q => eb b o hb q) f0 f1 f3 f4 f5⟩
  self := fun A i s Q E st h => let ⟨⟨_, he⟩, _⟩ := st; wpAny_pyIter_enum he h
def iEnumT (K : PySem.W.Frag) (ta : TA) : TI := fun σ H R => ta σ H fun vs H1 => ∃ a xs, vs = [.ref a] ∧ H1 a = some (.tup xs) ∧ R (IteT K a) H1
theorem pi_enumT {X : Cx} {e : Expr} {ta : TA} {p pos tpos : Pos} {elts : List Expr} {kk : Nat} (hg : Gl X "enumerate") (hm : X.mg "enumerate" = none) (ha : PA X [e] ta) (hs : starEach [e] X.env = [(false, eval e X.env)]) :
    PI X (.Tuple elts kk tpos) (.Call (.Name "enumerate" p) [e] [] pos) (iEnumT X.K ta) := by
  refine ⟨fun pins s σ H R I h => ?_⟩
  refine Call_ (ld_blt I hg hm boot_enumerate (PyProof.Rows.callWith_type1 (thn (ha.run pos pins s σ H _ I h) fun us s1 ⟨vs, H1, I1, r1, q1⟩ => ?_) hs rfl))
  obtain ⟨a, xs, ex, hq, q⟩ := q1
  subst ex
  cases r1 with
  | cons r rr =>
    cases rr
    cases r
    obtain ⟨its, rv, p', hz⟩ := I1.tuple (.of hq)
    refine call_enumerate_tup (show s1.heap.IsTuple a its.toArray from p') fun h' he hit hsz hk => wpAny_pyIter_enum he ?_
    have I2 : L2.Inv X pins σ H1 { s1 with heap := h' } := I1.kept (t' := s1.toks) hk
    refine ⟨s1.heap.objs.size + 1, [s1.heap.objs.size + 1, s1.heap.objs.size], _, _, H1, rfl, I2, turn_enumT a (s1.heap.objs.size + 1) s1.heap.objs.size, ⟨⟨.none, he⟩, hit, Nat.succ_ne_self _⟩, fun b hb => ?_, q⟩
    have e' : b = s1.heap.objs.size + 1 ∨ b = s1.heap.objs.size := by simpa using hb
    have hle : s1.heap.objs.size ≤ b := by
      rcases e' with z | z
      · rw [z]; exact Nat.le_add_right _ _
      · rw [z]; exact Nat.le_refl _
    exact I1.fpOk hle (I1.hok.fresh hle)
theorem enL_get : ∀ (xs : List D) (n i : Nat), (enL n xs)[i]? = (xs[i]?).map fun d => D.tup [.int ((n + i : Nat) : Int), d]
  | [], n, i => by simp [enL]
  | x :: xs, n, 0 => by simp [enL]
  | x :: xs, n, i + 1 => by
    have := enL_get xs (n + 1) i
    unfold enL
    simp only [List.getElem?_cons_succ]
    rw [this]
    congr 1
    funext d
    rw [show n + 1 + i = n + (i + 1) by omega]
theorem enL_length : ∀ (xs : List D) (n : Nat), (enL n xs).length = xs.length
  | [], n => rfl
  | x :: xs, n => by unfold enL; rw [List.length_cons, List.length_cons, enL_length xs]
section
variable {L : Lay} {c : Cfg} {Wx : WX} {W : List Nat} {X : Cx} {pos p tpos : Pos} {s : Sto} {m : List (Addr × Addr)} {G H : Hp} {elts : List Expr} {kk : Nat}
theorem src_enumT {K : PySem.W.Frag} {a : Addr} {xs : List D} : Src L (enL 0 xs) (IteT K a) (fun m G => ∃ vs, G a = some (.tup vs) ∧ Reps L m G vs xs) where
  mono := fun ⟨vs, h, r⟩ hm hg => ⟨vs, hg _ _ h, r.mono hm hg⟩
  go := fun {i s m G H} ⟨vs, h, r⟩ w hi => ⟨vs, vs[i]'(by rw [r.length]; rw [enL_length] at hi; exact hi), w.sub _ _ h, by simp⟩
  stop := fun ⟨vs, h, r⟩ w hi => ⟨vs, w.sub _ _ h, by rw [r.length]; rw [enL_length] at hi; exact hi⟩
  yld := fun {i s m G H H' x} ⟨vs, h, r⟩ w y hi => by
    obtain ⟨T, x, rfl, hT, rfl, y⟩ := y
    have hx := y vs (w.sub _ _ h)
    obtain ⟨d, h1, h2⟩ := r.getV hx
    have t := Stp.new w hT (.tup [.int (i : Nat), x])
    refine ⟨upd G T (.tup [.int (i : Nat), x]), .tup [.int (i : Nat), d], t, w.new hT _, by rw [enL_get, h1]; simp, .obj upd_same (.tup ?_)⟩
    exact .cons (.int _) (.one (h2.mono t.pre t.keep))
theorem src_enumL {a : Addr} {xs : List D} : Src L (enL 0 xs) (Ite L.K a) (fun m G => ∃ vs, G a = some (.lst vs) ∧ Reps L m G vs xs) where
  mono := fun ⟨vs, h, r⟩ hm hg => ⟨vs, hg _ _ h, r.mono hm hg⟩
  go := fun {i s m G H} ⟨vs, h, r⟩ w hi => ⟨vs, vs[i]'(by rw [r.length]; rw [enL_length] at hi; exact hi), .of (w.sub _ _ h), by simp⟩
  stop := fun ⟨vs, h, r⟩ w hi => ⟨vs, .of (w.sub _ _ h), by rw [r.length]; rw [enL_length] at hi; exact hi⟩
  yld := fun {i s m G H H' x} ⟨vs, h, r⟩ w y hi => by
    obtain ⟨T, x, rfl, hT, rfl, y⟩ := y
    have hx := y vs (.of (w.sub _ _ h))
    obtain ⟨d, h1, h2⟩ := r.getV hx
    have t := Stp.new w hT (.tup [.int (i : Nat), x])
    refine ⟨upd G T (.tup [.int (i : Nat), x]), .tup [.int (i : Nat), d], t, w.new hT _, by rw [enL_get, h1]; simp, .obj upd_same (.tup ?_)⟩
    exact .cons (.int _) (.one (h2.mono t.pre t.keep))
theorem s_en (g : Gd L X Wx) {a : Expr} {a' : E} (hg : Gl X "enumerate") (ha : PE X a (tE L c Wx W a')) (ns : noStar a = true) : PI X (.Tuple elts kk tpos) (.Call (.Name "enumerate" p) [a] [] pos) (tSr L c Wx W (.en a')) := by
  have both := PI.or (pi_enum (tpos := tpos) (elts := elts) (kk := kk) (p := p) (pos := pos) hg (blt g (by decide +kernel)) (pa_cons ha pa_nil (starOne ns)) (starOne ns)) (pi_enumT hg (blt g (by decide +kernel)) (pa_cons ha pa_nil (starOne ns)) (starOne ns))
  refine PI.imp both fun σ H R ⟨ρ, s, m, G, w, q, A⟩ => ?_
  unfold evr at A
  cases ee : ev c a' ρ s with
  | st => rw [ee] at A; exact False.elim A
  | ex k ds s' => rw [ee] at A; exact .inl ⟨ρ, s, m, G, w, q, by rw [ee]; exact A⟩
  | ok d s1 =>
    rw [ee] at A
    simp only [Rs.bind_ok] at A
    cases d with
    | lst ds =>
      refine .inl ⟨ρ, s, m, G, w, q, ?_⟩
      rw [ee]
      intro m1 G1 H1 t1 w1 v r1
      cases r1 with
      | obj hgo hc =>
        cases hc with
        | lst hr => exact ⟨_, _, rfl, .of (w1.sub _ _ hgo), A m1 G1 H1 t1 w1 _ (fun m G => ∃ vs, G _ = some (.lst vs) ∧ Reps L m G vs ds) (by rw [g.K]; exact src_enumL) ⟨_, hgo, hr⟩⟩
    | tup ds =>
      refine .inr ⟨ρ, s, m, G, w, q, ?_⟩
      rw [ee]
      intro m1 G1 H1 t1 w1 v r1
      cases r1 with
      | obj hgo hc =>
        cases hc with
        | tup hr => exact ⟨_, _, rfl, w1.sub _ _ hgo, A m1 G1 H1 t1 w1 _ (fun m G => ∃ vs, G _ = some (.tup vs) ∧ Reps L m G vs ds) src_enumT ⟨_, hgo, hr⟩⟩
    | _ => exact False.elim A
end
end MP

end
section
set_option Elab.async false
set_option linter.all false
set_option maxRecDepth 100000
/-! The small syntax against the program's text. -/
namespace MP
open PySem PySem.Spec PyProof.Rows L2

inductive Md where | val | look | test | new | tw
  deriving DecidableEq
/-- what stands in the text: defs by name, number of parameters, whether what they give is new; classes; constants; properties -/
structure Ck where
  fn : F → Option (Str × Nat × Bool)
  cl : Cl → Option (Str × Nat)
  con : Str → Option D
  pr : Cl → Nat → Option Str
  leno : Cl → Bool
  eqo : Cl → Bool
def okN (x : Str) : Bool := !(x == ("__debug__" : Str)) && !(x == ("__classdict__" : Str))
def visB (sc : Scope) (x : Str) : Bool := match sc.names.lookup x with
  | some .local => true
  | some .cell => true
  | some .free => true
  | _ => false
def locB (sc : Scope) (x : Str) : Bool := match sc.names.lookup x with
  | some .local => true
  | some .cell => true
  | _ => false
def glB (sc : Scope) (x : Str) : Bool := decide (sc.names.lookup x = some .globalImplicit)
def okV (N : List Str) (sc : Scope) (i : Nat) (x : Str) : Bool := decide (N[i]? = some x) && visB sc x && okN x
/-- a value that is no new object -/
def ok1 (md : Md) (x : Expr) : Bool := match md with
  | .test => plainT x
  | .new => false
  | .tw => false
  | _ => true
def okW (md : Md) (x : Expr) : Bool := match md with
  | .test => plainT x
  | .tw => false
  | _ => true
def cmM : Md → Bool
  | .new => false
  | .tw => false
  | _ => true
def tyOk (ck : Ck) (sc : Scope) (t : Ty) (z : Str) : Bool := glB sc z && okN z && match t with
  | .cls k => (match ck.cl k with
    | some (nm, _) => decide (z = nm)
    | none => false)
  | t => decide (z = (tyName t : Str))
mutual
def okTg (N : List Str) (W : List Nat) : Tg → Scope → Expr → Bool
  | .nm i, sc, x => match x with
    | .Name y _ => decide (N[i]? = some y) && locB sc y && !(W.contains i)
    | _ => false
  | .tp ts, sc, x => match x with
    | .Tuple es _ _ => okTgs N W ts sc es && es.all noStarT && decide (es.length = lenTs ts)
    | _ => false
def okTgs (N : List Str) (W : List Nat) : Tgs → Scope → List Expr → Bool
  | .nil, _, es => match es with
    | [] => true
    | _ => false
  | .cons t ts, sc, es => match es with
    | e :: es => okTg N W t sc e && okTgs N W ts sc es && noStarT e
    | [] => false
end
def b1N : B1 → Str
  | .len => "len"
  | .sum => "sum"
  | .max => "max"
  | .min => "min"
  | .abs => "abs"
  | .int => "int"
  | .str => "str"
  | .list => "list"
  | .tuple => "tuple"
  | .dict => "dict"
  | .mind => "min"
def ownOf (N : List Str) (t : Tg) : List (Str × Nat) := (slotsT t).map fun i => (N.getD i "", i)
mutual
def okE (ck : Ck) (N : List Str) (W : List Nat) : E → Md → Scope → Expr → Bool
  | .var i, md, sc, x => ok1 md x && match x with
    | .Name y _ => okV N sc i y && (decide (md = .look) || decide (md = .test) || !(W.contains i))
    | _ => false
  | .int i, md, sc, x => ok1 md x && match x with
    | .Constant (.int j) _ _ => decide (i = j)
    | .Name y _ => glB sc y && okN y && (match ck.con y with
      | some (.int j) => decide (i = j)
      | _ => false)
    | _ => false
  | .str i, md, sc, x => ok1 md x && match x with
    | .Constant (.str j) _ _ => decide (i = j)
    | .Name y _ => glB sc y && okN y && (match ck.con y with
      | some (.str j) => decide (i = j)
      | _ => false)
    | _ => false
  | .bl b, md, _, x => ok1 md x && match x with
    | .Constant (.bool j) _ _ => b == j
    | _ => false
  | .non, md, _, x => ok1 md x && match x with
    | .Constant .none _ _ => true
    | _ => false
  | .tup es, md, sc, x => ok1 md x && match x with
    | .Tuple xs _ _ => okEs ck N W es sc xs
    | _ => false
  | .lst es, md, sc, x => okW md x && match x with
    | .List xs _ => okEs ck N W es sc xs
    | _ => false
  | .bin op a b, md, sc, x => ok1 md x && match x with
    | .BinOp l o r _ => decide (o = opOf op) && okE ck N W a .val sc l && okE ck N W b .val sc r
    | _ => false
  | .neg a, md, sc, x => ok1 md x && match x with
    | .UnaryOp .USub l _ => okE ck N W a .look sc l
    | _ => false
  | .nott a, md, sc, x => match x with
    | .UnaryOp .Not l _ => (match md with
      | .test => okE ck N W a .test sc l
      | .new => false
      | .tw => false
      | _ => okE ck N W a .look sc l)
    | _ => false
  | .and a b, md, sc, x => match x with
    | .BoolOp .And (l :: r :: rest) p => (match md with
      | .test => okE ck N W a .test sc l && (match rest with
        | [] => okE ck N W b .test sc r
        | z :: zs => okE ck N W b .tw sc (.BoolOp .And (r :: z :: zs) p))
      | .tw => okE ck N W a .test sc l && (match rest with
        | [] => okE ck N W b .test sc r
        | z :: zs => okE ck N W b .tw sc (.BoolOp .And (r :: z :: zs) p))
      | .new => false
      | _ => okE ck N W a .look sc l && (match rest with
        | [] => okE ck N W b .val sc r
        | z :: zs => okE ck N W b .val sc (.BoolOp .And (r :: z :: zs) p)))
    | _ => false
  | .or a b, md, sc, x => match x with
    | .BoolOp .Or (l :: r :: rest) p => (match md with
      | .test => okE ck N W a .test sc l && (match rest with
        | [] => okE ck N W b .test sc r
        | z :: zs => okE ck N W b .tw sc (.BoolOp .Or (r :: z :: zs) p))
      | .tw => okE ck N W a .test sc l && (match rest with
        | [] => okE ck N W b .test sc r
        | z :: zs => okE ck N W b .tw sc (.BoolOp .Or (r :: z :: zs) p))
      | .new => false
      | _ => okE ck N W a .look sc l && (match rest with
        | [] => okE ck N W b .val sc r
        | z :: zs => okE ck N W b .val sc (.BoolOp .Or (r :: z :: zs) p)))
    | _ => false
  | .cmp op a b, md, sc, x => cmM md && match x with
    | .Compare l [o] [r] _ => decide (o = cmOf op) && okE ck N W a .look sc l && okE ck N W b .look sc r && noSet r
    | _ => false
  | .chain o p a b d, md, sc, x => cmM md && match x with
    | .Compare l [o', p'] [r, t] _ => decide (o' = cmOf o) && decide (p' = cmOf p) && okE ck N W a .look sc l && okE ck N W b .look sc r && okE ck N W d .look sc t && noSet t
    | _ => false
  | .ifx t a b, md, sc, x => ok1 md x && match x with
    | .IfExp u l r _ => okE ck N W t .test sc u && okE ck N W a .val sc l && okE ck N W b .val sc r
    | _ => false
  | .ix a i, md, sc, x => ok1 md x && match x with
    | .Subscript l r _ => okE ck N W a .look sc l && okE ck N W i .look sc r && noSlice r
    | _ => false
  | .sl a lo hi, md, sc, x => ok1 md x && match x with
    | .Subscript l (.Slice u v none _) _ => okE ck N W a .val sc l && okO ck N W lo sc u && okO ck N W hi sc v
    | _ => false
  | .call f es, md, sc, x => okW md x && match x with
    | .Call (.Name y _) (a :: as) [] _ => (match ck.fn f with
      | some (nm, _, fr) => decide (y = nm) && glB sc y && okN y && okEs ck N W es sc (a :: as) && (a :: as).all noStar && (fr || !(decide (md = .new)))
      | none => false)
    | _ => false
  | .make k es, md, sc, x => ok1 md x && match x with
    | .Call (.Name y _) (a :: as) [] _ => (match ck.cl k with
      | some (nm, _) => decide (y = nm) && glB sc y && okN y && okEs ck N W es sc (a :: as) && (a :: as).all noStar
      | none => false)
    | _ => false
  | .fld a k i, md, sc, x => ok1 md x && match x with
    | .Attribute l f _ => decide ((fields k)[i]? = some f) && okE ck N W a .look sc l && notCall0 l
    | _ => false
  | .prop a k i, md, sc, x => ok1 md x && match x with
    | .Attribute l f _ => decide (ck.pr k i = some f) && (ck.cl k).isSome && okE ck N W a .val sc l && notCall0 l
    | _ => false
  | .isa a t, md, sc, x => ok1 md x && match x with
    | .Call (.Name y _) [l, .Name z _] [] _ => decide (y = ("isinstance" : Str)) && glB sc y && okE ck N W a .look sc l && noStar l && tyOk ck sc t z
    | _ => false
  | .b1 b a, md, sc, x => (match b with
      | .list => okW md x
      | .dict => okW md x
      | .mind => false
      | _ => ok1 md x) && match x with
    | .Call (.Name y _) [l] [] _ => decide (y = b1N b) && glB sc y && noStar l && okE ck N W a (match b with
      | .tuple => .val
      | _ => .look) sc l
    | _ => false
  | .leno a k, md, sc, x => ok1 md x && match x with
    | .Call (.Name y _) [l] [] _ => decide (y = ("len" : Str)) && glB sc y && noStar l && ck.leno k && okE ck N W a .val sc l
    | _ => false
  | .eqo k a b, md, sc, x => cmM md && match x with
    | .Compare l [.Eq] [r] _ => ck.eqo k && okE ck N W a .val sc l && okE ck N W b .val sc r && noSet r
    | _ => false
  | .b2 b a d, md, sc, x => ok1 md x && match x with
    | .Call (.Name y _) [l, r] [] _ => (match b with
      | .max => decide (y = ("max" : Str))
      | .min => decide (y = ("min" : Str))
      | _ => false) && glB sc y && noStar l && noStar r && okE ck N W a .look sc l && okE ck N W d .look sc r
    | _ => false
  | .lc e t r, md, sc, x => okW md x && match x with
    | .ListComp elt [⟨tg, iter, [], 0⟩] scope _ => okTg N W t scope tg && okR ck N W r sc tg iter && blkC N sc scope (ownOf N t) && okE ck N W e .val scope elt && noSetI iter
    | _ => false
  | .lci e t r i, md, sc, x => okW md x && match x with
    | .ListComp elt [⟨tg, iter, [cnd], 0⟩] scope _ => okTg N W t scope tg && okR ck N W r sc tg iter && blkC N sc scope (ownOf N t) && okE ck N W i .test scope cnd && okE ck N W e .val scope elt && noSetI iter
    | _ => false
  | _, _, _, _ => false
def okEs (ck : Ck) (N : List Str) (W : List Nat) : Es → Scope → List Expr → Bool
  | .nil, _, xs => match xs with
    | [] => true
    | _ => false
  | .cons e es, sc, xs => match xs with
    | x :: xs => okE ck N W e .val sc x && noStar x && okEs ck N W es sc xs
    | [] => false
def okO (ck : Ck) (N : List Str) (W : List Nat) : Oe → Scope → Option Expr → Bool
  | .no, _, x => match x with
    | none => true
    | some _ => false
  | .so e, sc, x => match x with
    | some y => okE ck N W e .look sc y
    | none => false
def okR (ck : Ck) (N : List Str) (W : List Nat) : Sr → Scope → Expr → Expr → Bool
  | .of e, sc, _, x => okE ck N W e .val sc x
  | .rg1 e, sc, _, x => match x with
    | .Call (.Name y _) [l] [] _ => decide (y = ("range" : Str)) && glB sc y && noStar l && okE ck N W e .look sc l
    | _ => false
  | .rg2 a b, sc, _, x => match x with
    | .Call (.Name y _) [l, r] [] _ => decide (y = ("range" : Str)) && glB sc y && noStar l && noStar r && okE ck N W a .look sc l && okE ck N W b .look sc r
    | _ => false
  | .en e, sc, tg, x => match tg, x with
    | .Tuple _ _ _, .Call (.Name y _) [l] [] _ => decide (y = ("enumerate" : Str)) && glB sc y && noStar l && okE ck N W e .val sc l
    | _, _ => false
  | .zp _ _, _, _, _ => false
end
end MP

end
section
set_option Elab.async false
set_option linter.all false
set_option maxRecDepth 100000
set_option maxHeartbeats 2000000
/-! Expressions that are checked are read soundly. -/
namespace MP
open PySem PySem.Spec PyProof.Rows L2

/-- what is known where a checked text runs -/
structure Gud (ck : Ck) (L : Lay) (c : Cfg) (n : Nat) (N : List Str) (X : Cx) (sc : Scope) (Wx : WX) : Prop where
  g : Gd L X Wx
  hN : X.N = N
  scs : ∀ x k, sc.names.lookup x = some k → ∃ k', X.env.scope.names.lookup x = some k' ∧ (k' = k ∨ (k = .free ∧ k' = .cell))
  fnc : ∀ x, sc.names.lookup x = some .cell → X.fn x = true
  kd : X.env.scope.kind = .function
  room : Room (2 * n + 1) X.A
  fn : ∀ f nm np fr, ck.fn f = some (nm, np, fr) → FnH L X n f nm np fr (c.call f) ∧ ∀ ds s, ds.length ≠ np → c.call f ds s = .st
  cl : ∀ k nm np, ck.cl k = some (nm, np) → L.has k = true ∧ X.mg nm = some (.ref (L.cls k)) ∧ ClH L X n k nm np (c.call (.ini k)) ∧ ∀ ds s, ds.length ≠ np → c.call (.ini k) ds s = .st
  pr : ∀ k i nm, ck.pr k i = some nm → PrH L X n k i nm (c.call (.pr k i))
  leno : ∀ k, ck.leno k = true → LenH L X n k (c.call (.len k))
  eqo : ∀ k, ck.eqo k = true → EqH L X n k (c.call (.eq k))
  con : ∀ x d, ck.con x = some d → match d with
    | .int i => ∃ t, X.mg x = some (.int i t)
    | .str i => ∃ t, X.mg x = some (.str i t)
    | _ => True
  na : ∀ k f, f ∈ fields k → L.has k = true → NoAttr L.K (L.cls k) f

section
variable {ck : Ck} {L : Lay} {c : Cfg} {n : Nat} {N : List Str} {X : Cx} {sc scope : Scope} {Wx : WX} {W : List Nat}
theorem Gud.vis (q : Gud ck L c n N X sc Wx) {x : Str} (h : visB sc x = true) : Vis X.env.scope x := by
  unfold visB at h
  split at h
  · rename_i e
    obtain ⟨k', h1, h2⟩ := q.scs x _ e
    rcases h2 with rfl | ⟨h2, _⟩
    · exact .inl h1
    · cases h2
  · rename_i e
    obtain ⟨k', h1, h2⟩ := q.scs x _ e
    rcases h2 with rfl | ⟨h2, _⟩
    · exact .inr (.inl h1)
    · cases h2
  · rename_i e
    obtain ⟨k', h1, h2⟩ := q.scs x _ e
    rcases h2 with rfl | ⟨_, rfl⟩
    · exact .inr (.inr h1)
    · exact .inr (.inl h1)
  · cases h
theorem Gud.loc (q : Gud ck L c n N X sc Wx) {x : Str} (h : locB sc x = true) : Loc X.env.scope x ∧ (X.fn x = true ∨ X.env.scope.names.lookup x = some .local) := by
  unfold locB at h
  split at h
  · rename_i e
    obtain ⟨k', h1, h2⟩ := q.scs x _ e
    rcases h2 with rfl | ⟨h2, _⟩
    · exact ⟨.inl h1, .inr h1⟩
    · cases h2
  · rename_i e
    obtain ⟨k', h1, h2⟩ := q.scs x _ e
    rcases h2 with rfl | ⟨h2, _⟩
    · exact ⟨.inr h1, .inl (q.fnc x e)⟩
    · cases h2
  · cases h
theorem Gud.gl (q : Gud ck L c n N X sc Wx) {x : Str} (h : glB sc x = true) : Gl X x := by
  obtain ⟨k', h1, h2⟩ := q.scs x _ (of_decide_eq_true h)
  rcases h2 with rfl | ⟨h2, _⟩
  · exact h1
  · cases h2
theorem okN_of {x : Str} (h : okN x = true) : (x == ("__debug__" : Str)) = false ∧ (x == ("__classdict__" : Str)) = false := by
  unfold okN at h
  rw [Bool.and_eq_true] at h
  exact ⟨by simpa using h.1, by simpa using h.2⟩
/-- a block's names -/
theorem relabel_look {env : PySem.Env} : ∀ {names : List (Str × NameKind)} {x : Str} {k : NameKind}, names.lookup x = some k →
    ∃ k', (names.map fun (n, k) => if (k == NameKind.free && env.scope.kind == .function && env.kindOf n == some .cell) then (n, NameKind.cell) else (n, k)).lookup x = some k' ∧ (k' = k ∨ (k = .free ∧ k' = .cell))
  | [], _, _, h => by simp at h
  | (n, k0) :: r, x, k, h => by
    have ih := @relabel_look env r x k
    show ∃ k', List.lookup x ((if (k0 == NameKind.free && env.scope.kind == .function && env.kindOf n == some .cell) = true then (n, NameKind.cell) else (n, k0)) :: _) = some k' ∧ _
    cases hx : x == n with
    | true =>
      simp only [List.lookup_cons, hx] at h
      cases h
      by_cases hc : (k0 == NameKind.free && env.scope.kind == .function && env.kindOf n == some .cell) = true
      · rw [if_pos hc]
        simp only [Bool.and_eq_true, beq_iff_eq] at hc
        exact ⟨.cell, by simp [List.lookup_cons, hx], .inr ⟨hc.1.1, rfl⟩⟩
      · rw [if_neg hc]
        exact ⟨k0, by simp [List.lookup_cons, hx], .inl rfl⟩
    | false =>
      simp only [List.lookup_cons, hx] at h
      obtain ⟨k', h1, h2⟩ := ih h
      refine ⟨k', ?_, h2⟩
      by_cases hc : (k0 == NameKind.free && env.scope.kind == .function && env.kindOf n == some .cell) = true
      · rw [if_pos hc]; simp only [List.lookup_cons, hx]; exact h1
      · rw [if_neg hc]; simp only [List.lookup_cons, hx]; exact h1
theorem Gud.blkOk (q : Gud ck L c n N X sc Wx) {own : List (Str × Nat)} (h : blkC N sc scope own = true) : BlkOk X.N X.env.scope scope own := by
  have b := blkOk_by h
  rw [q.hN]
  refine ⟨b.kind, b.uniq, b.ix, fun y hy e => ?_, b.own⟩
  rcases b.free y hy e with k | k
  · obtain ⟨k', h1, h2⟩ := q.scs _ _ k
    rcases h2 with rfl | ⟨h2, _⟩
    · exact .inl h1
    · cases h2
  · obtain ⟨k', h1, h2⟩ := q.scs _ _ k
    rcases h2 with rfl | ⟨_, rfl⟩
    · exact .inr h1
    · exact .inl h1
theorem Gud.blk (q : Gud ck L c n N X sc Wx) (hk : scope.kind = .function) (s : Shared) (H : Hp) (C : Addr) (cl : List (Str × Addr)) (fp : List Addr) : Gud ck L c n N (blkX X scope s H C cl fp) scope WF where
  g := ⟨q.g.cls, q.g.kk, q.g.blt, q.g.K, q.g.nd, q.g.calm, q.g.units, blk_tk⟩
  hN := q.hN
  scs := fun x k h => relabel_look (env := X.env) h
  fnc := fun x h => by
    show (scope.names.lookup x == some .cell) = true
    rw [h]; rfl
  kd := hk
  room := q.room
  fn := fun f nm np fr h => by
    obtain ⟨h1, h2⟩ := q.fn f nm np fr h
    exact ⟨⟨h1.ok, h1.mg, h1.kp⟩, h2⟩
  cl := fun k nm np h => by
    obtain ⟨h0, h3, h1, h2⟩ := q.cl k nm np h
    exact ⟨h0, h3, ⟨h1.ok, h1.mkk, h1.mg⟩, h2⟩
  pr := fun k i nm h => ⟨(q.pr k i nm h).ok, (q.pr k i nm h).pr⟩
  leno := fun k h => ⟨(q.leno k h).ok, (q.leno k h).at_, (q.leno k h).fn⟩
  eqo := fun k h => ⟨(q.eqo k h).ok, (q.eqo k h).at_, (q.eqo k h).fn, (q.eqo k h).no⟩
  con := q.con
  na := q.na

/-- what is shown of an expression, by the way it is asked -/
def Snd (L : Lay) (c : Cfg) (Wx : WX) (W : List Nat) (X : Cx) (e : E) (x : Expr) : Md → Prop
  | .val => PE X x (tE L c Wx W e)
  | .look => PE X x (tB L c Wx W e)
  | .test => PT X x (tT L c Wx W e)
  | .new => PE X x (tO L c Wx W e)
  | .tw => PW X x (tT L c Wx W e)
theorem Snd.val {e : E} {x : Expr} {md : Md} (g : Gd L X Wx) (h1 : ok1 md x = true) (h : PE X x (tE L c Wx W e)) : Snd L c Wx W X e x md := by
  cases md with
  | val => exact h
  | look => exact PE.look h
  | test => exact s_test g (PE.look h) h1
  | new => cases h1
  | tw => cases h1
theorem Snd.new {e : E} {x : Expr} {md : Md} (g : Gd L X Wx) (h1 : okW md x = true) (h : PE X x (tO L c Wx W e)) : Snd L c Wx W X e x md := by
  cases md with
  | val => exact PE.ofO h
  | look => exact PE.look (PE.ofO h)
  | test => exact s_test g (PE.look (PE.ofO h)) h1
  | new => exact h
  | tw => cases h1
theorem slot_of (q : Gud ck L c n N X sc Wx) {i : Nat} {x : Str} (h : N[i]? = some x) : X.N[i]? = some x := by rw [q.hN]; exact h
mutual
theorem sd_tg (q : Gud ck L c n N X sc Wx) : ∀ (t : Tg) (x : Expr), okTg N W t sc x = true → PG X x (gT L W t)
  | .nm i, x, h => by
    unfold okTg at h
    split at h
    · simp only [Bool.and_eq_true, decide_eq_true_eq, Bool.not_eq_true'] at h
      obtain ⟨h1, h2⟩ := q.loc h.1.2
      exact g_nm q.g.nd (slot_of q h.1.1) h1 h2 (by simpa using h.2)
    · cases h
  | .tp ts, x, h => by
    unfold okTg at h
    split at h
    · simp only [Bool.and_eq_true, decide_eq_true_eq] at h
      exact g_tp q.g (sd_tgs q ts _ h.1.1) h.1.2 h.2
    · cases h
theorem sd_tgs (q : Gud ck L c n N X sc Wx) : ∀ (ts : Tgs) (xs : List Expr), okTgs N W ts sc xs = true → PGs X xs (gTs L W ts)
  | .nil, xs, h => by
    unfold okTgs at h
    split at h
    · exact g_nil
    · cases h
  | .cons t ts, xs, h => by
    unfold okTgs at h
    split at h
    · simp only [Bool.and_eq_true] at h
      exact g_cons (sd_tg q t _ h.1.1) (sd_tgs q ts _ h.1.2) h.2
    · cases h
end
mutual
theorem slots_ok : ∀ (t : Tg) (x : Expr), okTg N W t sc x = true → ∀ i, i ∈ slotsT t → i ∉ W ∧ ∃ y, N[i]? = some y
  | .nm i, x, h, j, hj => by
    unfold okTg at h
    split at h
    · simp only [Bool.and_eq_true, decide_eq_true_eq, Bool.not_eq_true'] at h
      simp [slotsT] at hj
      subst hj
      exact ⟨by simpa using h.2, _, h.1.1⟩
    · cases h
  | .tp ts, x, h, j, hj => by
    unfold okTg at h
    split at h
    · simp only [Bool.and_eq_true, decide_eq_true_eq] at h
      exact slotss_ok ts _ h.1.1 j (by unfold slotsT at hj; exact hj)
    · cases h
theorem slotss_ok : ∀ (ts : Tgs) (xs : List Expr), okTgs N W ts sc xs = true → ∀ i, i ∈ slotsTs ts → i ∉ W ∧ ∃ y, N[i]? = some y
  | .nil, xs, h, j, hj => by simp [slotsTs] at hj
  | .cons t ts, xs, h, j, hj => by
    unfold okTgs at h
    split at h
    · simp only [Bool.and_eq_true] at h
      unfold slotsTs at hj
      rcases List.mem_append.mp hj with hj | hj
      · exact slots_ok t _ h.1.1 j hj
      · exact slotss_ok ts _ h.1.2 j hj
    · cases h
end
theorem own_map {t : Tg} : (ownOf N t).map (·.2) = slotsT t := by
  unfold ownOf
  rw [List.map_map]
  exact List.map_id' _
theorem notnew {md : Md} (h : (!decide (md = .new)) = true) : md ≠ .new := by simpa using h
theorem blk_kind {own : List (Str × Nat)} (h : blkC N sc scope own = true) : scope.kind = .function := (blkOk_by h).kind

mutual
theorem sd_E : ∀ {X : Cx} {sc : Scope} {Wx : WX} (q : Gud ck L c n N X sc Wx) (e : E) (md : Md) (x : Expr), okE ck N W e md sc x = true → Snd L c Wx W X e x md
  | _, _, _, q, .var i, md, x, h => by
    unfold okE at h
    rw [Bool.and_eq_true] at h
    obtain ⟨h1, h⟩ := h
    split at h
    · unfold okV at h
      simp only [Bool.and_eq_true, Bool.or_eq_true, decide_eq_true_eq, Bool.not_eq_true'] at h
      obtain ⟨⟨⟨hN, hv⟩, hn⟩, hm⟩ := h
      obtain ⟨d1, d2⟩ := okN_of hn
      cases md with
      | val =>
        rcases hm with (hm | hm) | hm
        · cases hm
        · cases hm
        · exact s_var (by simpa using hm) (slot_of q hN) (q.vis hv) d1 d2
      | look => exact s_varB (slot_of q hN) (q.vis hv) d1 d2
      | test => exact s_test q.g (s_varB (slot_of q hN) (q.vis hv) d1 d2) rfl
      | new => cases h1
      | tw => cases h1
    · cases h
  | _, _, _, q, .int i, md, x, h => by
    unfold okE at h
    rw [Bool.and_eq_true] at h
    obtain ⟨h1, h⟩ := h
    split at h
    · have e := of_decide_eq_true h
      subst e
      exact Snd.val q.g h1 s_int
    · simp only [Bool.and_eq_true] at h
      obtain ⟨⟨hg, hn⟩, h⟩ := h
      split at h
      · rename_i ec
        have e := of_decide_eq_true h
        subst e
        obtain ⟨t, hm⟩ := q.con _ _ ec
        exact Snd.val q.g h1 (s_gint (q.gl hg) hm (okN_of hn).1)
      · cases h
    · cases h
  | _, _, _, q, .str i, md, x, h => by
    unfold okE at h
    rw [Bool.and_eq_true] at h
    obtain ⟨h1, h⟩ := h
    split at h
    · have e := of_decide_eq_true h
      subst e
      exact Snd.val q.g h1 s_str
    · simp only [Bool.and_eq_true] at h
      obtain ⟨⟨hg, hn⟩, h⟩ := h
      split at h
      · rename_i ec
        have e := of_decide_eq_true h
        subst e
        obtain ⟨t, hm⟩ := q.con _ _ ec
        exact Snd.val q.g h1 (s_gstr (q.gl hg) hm (okN_of hn).1)
      · cases h
    · cases h
  | _, _, _, q, .bl b, md, x, h => by
    unfold okE at h
    rw [Bool.and_eq_true] at h
    obtain ⟨h1, h⟩ := h
    split at h
    · have e := eq_of_beq h
      subst e
      exact Snd.val q.g h1 s_bl
    · cases h
  | _, _, _, q, .non, md, x, h => by
    unfold okE at h
    rw [Bool.and_eq_true] at h
    obtain ⟨h1, h⟩ := h
    split at h
    · exact Snd.val q.g h1 s_non
    · cases h
  | _, _, _, q, .tup es, md, x, h => by
    unfold okE at h
    rw [Bool.and_eq_true] at h
    obtain ⟨h1, h⟩ := h
    split at h
    · exact Snd.val q.g h1 (s_tup (sd_Es q es _ h))
    · cases h
  | _, _, _, q, .lst es, md, x, h => by
    unfold okE at h
    rw [Bool.and_eq_true] at h
    obtain ⟨h1, h⟩ := h
    split at h
    · exact Snd.new q.g h1 (s_lst (sd_Es q es _ h))
    · cases h
  | _, _, _, q, .bin op a b, md, x, h => by
    unfold okE at h
    rw [Bool.and_eq_true] at h
    obtain ⟨h1, h⟩ := h
    split at h
    · simp only [Bool.and_eq_true, decide_eq_true_eq] at h
      obtain ⟨⟨e, ha⟩, hb⟩ := h
      subst e
      exact Snd.val q.g h1 (s_bin q.g (sd_E q a .val _ ha) (sd_E q b .val _ hb))
    · cases h
  | _, _, _, q, .neg a, md, x, h => by
    unfold okE at h
    rw [Bool.and_eq_true] at h
    obtain ⟨h1, h⟩ := h
    split at h
    · exact Snd.val q.g h1 (s_neg q.g (sd_E q a .look _ h))
    · cases h
  | _, _, _, q, .nott a, md, x, h => by
    unfold okE at h
    split at h
    · cases md with
      | test => exact s_tnot (sd_E q a .test _ h)
      | new => cases h
      | tw => cases h
      | val => exact s_nott q.g (sd_E q a .look _ h)
      | look => exact PE.look (s_nott q.g (sd_E q a .look _ h))
    · cases h
  | _, _, _, q, .and a b, md, x, h => by
    unfold okE at h
    split at h
    · rename_i l r rest p
      cases md with
      | test =>
        simp only [Bool.and_eq_true] at h
        obtain ⟨ha, hb⟩ := h
        cases rest with
        | nil => exact PW.pt (s_tand (sd_E q a .test _ ha) (pw_and1 (sd_E q b .test _ hb)))
        | cons z zs => exact PW.pt (s_tand (sd_E q a .test _ ha) (sd_E q b .tw _ hb))
      | tw =>
        simp only [Bool.and_eq_true] at h
        obtain ⟨ha, hb⟩ := h
        cases rest with
        | nil => exact s_tand (sd_E q a .test _ ha) (pw_and1 (sd_E q b .test _ hb))
        | cons z zs => exact s_tand (sd_E q a .test _ ha) (sd_E q b .tw _ hb)
      | new => cases h
      | val =>
        simp only [Bool.and_eq_true] at h
        obtain ⟨ha, hb⟩ := h
        cases rest with
        | nil => exact s_and (sd_E q a .look _ ha) (s_one (sd_E q b .val _ hb))
        | cons z zs => exact s_and (sd_E q a .look _ ha) (sd_E q b .val _ hb)
      | look =>
        simp only [Bool.and_eq_true] at h
        obtain ⟨ha, hb⟩ := h
        cases rest with
        | nil => exact PE.look (s_and (sd_E q a .look _ ha) (s_one (sd_E q b .val _ hb)))
        | cons z zs => exact PE.look (s_and (sd_E q a .look _ ha) (sd_E q b .val _ hb))
    · cases h
  | _, _, _, q, .or a b, md, x, h => by
    unfold okE at h
    split at h
    · rename_i l r rest p
      cases md with
      | test =>
        simp only [Bool.and_eq_true] at h
        obtain ⟨ha, hb⟩ := h
        cases rest with
        | nil => exact PW.pt (s_tor (sd_E q a .test _ ha) (pw_or1 (sd_E q b .test _ hb)))
        | cons z zs => exact PW.pt (s_tor (sd_E q a .test _ ha) (sd_E q b .tw _ hb))
      | tw =>
        simp only [Bool.and_eq_true] at h
        obtain ⟨ha, hb⟩ := h
        cases rest with
        | nil => exact s_tor (sd_E q a .test _ ha) (pw_or1 (sd_E q b .test _ hb))
        | cons z zs => exact s_tor (sd_E q a .test _ ha) (sd_E q b .tw _ hb)
      | new => cases h
      | val =>
        simp only [Bool.and_eq_true] at h
        obtain ⟨ha, hb⟩ := h
        cases rest with
        | nil => exact s_or (sd_E q a .look _ ha) (s_one (sd_E q b .val _ hb))
        | cons z zs => exact s_or (sd_E q a .look _ ha) (sd_E q b .val _ hb)
      | look =>
        simp only [Bool.and_eq_true] at h
        obtain ⟨ha, hb⟩ := h
        cases rest with
        | nil => exact PE.look (s_or (sd_E q a .look _ ha) (s_one (sd_E q b .val _ hb)))
        | cons z zs => exact PE.look (s_or (sd_E q a .look _ ha) (sd_E q b .val _ hb))
    · cases h
  | _, _, _, q, .cmp op a b, md, x, h => by
    unfold okE at h
    rw [Bool.and_eq_true] at h
    obtain ⟨h1, h⟩ := h
    split at h
    · simp only [Bool.and_eq_true, decide_eq_true_eq] at h
      obtain ⟨⟨⟨e, ha⟩, hb⟩, hs⟩ := h
      subst e
      have A := sd_E q a .look _ ha
      have B := sd_E q b .look _ hb
      cases md with
      | new => cases h1
      | tw => cases h1
      | val => exact s_cmp q.g A B hs
      | look => exact PE.look (s_cmp q.g A B hs)
      | test => exact s_tcmp q.g A B hs
    · cases h
  | _, _, _, q, .chain o p a b d, md, x, h => by
    unfold okE at h
    rw [Bool.and_eq_true] at h
    obtain ⟨h1, h⟩ := h
    split at h
    · simp only [Bool.and_eq_true, decide_eq_true_eq] at h
      obtain ⟨⟨⟨⟨⟨e1, e2⟩, ha⟩, hb⟩, hd⟩, hs⟩ := h
      subst e1; subst e2
      have A := sd_E q a .look _ ha
      have B := sd_E q b .look _ hb
      have Z := sd_E q d .look _ hd
      cases md with
      | new => cases h1
      | tw => cases h1
      | val => exact s_chain q.g A B Z hs
      | look => exact PE.look (s_chain q.g A B Z hs)
      | test => exact s_tchain q.g A B Z hs
    · cases h
  | _, _, _, q, .ifx t a b, md, x, h => by
    unfold okE at h
    rw [Bool.and_eq_true] at h
    obtain ⟨h1, h⟩ := h
    split at h
    · simp only [Bool.and_eq_true] at h
      exact Snd.val q.g h1 (s_ifx (sd_E q t .test _ h.1.1) (sd_E q a .val _ h.1.2) (sd_E q b .val _ h.2))
    · cases h
  | _, _, _, q, .ix a i, md, x, h => by
    unfold okE at h
    rw [Bool.and_eq_true] at h
    obtain ⟨h1, h⟩ := h
    split at h
    · simp only [Bool.and_eq_true] at h
      exact Snd.val q.g h1 (s_ix q.g (sd_E q a .look _ h.1.1) (sd_E q i .look _ h.1.2) h.2)
    · cases h
  | _, _, _, q, .sl a lo hi, md, x, h => by
    unfold okE at h
    rw [Bool.and_eq_true] at h
    obtain ⟨h1, h⟩ := h
    split at h
    · simp only [Bool.and_eq_true] at h
      exact Snd.val q.g h1 (s_sl q.g (sd_E q a .val _ h.1.1) (sd_O q lo _ h.1.2) (sd_O q hi _ h.2))
    · cases h
  | _, _, _, q, .call f es, md, x, h => by
    unfold okE at h
    rw [Bool.and_eq_true] at h
    obtain ⟨h1, h⟩ := h
    split at h
    · split at h
      · rename_i nm np fr ef
        simp only [Bool.and_eq_true, Bool.or_eq_true, decide_eq_true_eq] at h
        obtain ⟨⟨⟨⟨⟨e, hg⟩, hn⟩, hes⟩, hs⟩, hf⟩ := h
        subst e
        obtain ⟨F, hl⟩ := q.fn _ _ _ _ ef
        have hr := q.room.mono (Nat.le_succ (2 * n))
        cases fr with
        | true => exact Snd.new q.g h1 (s_callO F q.g.tk hr hl (q.gl hg) (okN_of hn).1 (sd_Es q es _ hes) hs)
        | false =>
          have hm : md ≠ .new := by
            rcases hf with hf | hf
            · cases hf
            · exact notnew hf
          refine Snd.val q.g ?_ (s_call F q.g.tk hr hl (q.gl hg) (okN_of hn).1 (sd_Es q es _ hes) hs)
          cases md with
          | new => exact absurd rfl hm
          | tw => cases h1
          | test => exact h1
          | val => rfl
          | look => rfl
      · cases h
    · cases h
  | _, _, _, q, .make k es, md, x, h => by
    unfold okE at h
    rw [Bool.and_eq_true] at h
    obtain ⟨h1, h⟩ := h
    split at h
    · split at h
      · rename_i nm np ef
        simp only [Bool.and_eq_true, decide_eq_true_eq] at h
        obtain ⟨⟨⟨⟨e, hg⟩, hn⟩, hes⟩, hs⟩ := h
        subst e
        obtain ⟨_, _, F, hl⟩ := q.cl _ _ _ ef
        exact Snd.val q.g h1 (s_make F q.g.tk q.room hl (q.gl hg) (okN_of hn).1 (sd_Es q es _ hes) hs)
      · cases h
    · cases h
  | _, _, _, q, .fld a k i, md, x, h => by
    unfold okE at h
    rw [Bool.and_eq_true] at h
    obtain ⟨h1, h⟩ := h
    split at h
    · simp only [Bool.and_eq_true, decide_eq_true_eq] at h
      obtain ⟨⟨hf, ha⟩, hb⟩ := h
      exact Snd.val q.g h1 (s_fld q.g hf (q.na k _ (List.mem_of_getElem? hf)) (sd_E q a .look _ ha) hb)
    · cases h
  | _, _, _, q, .prop a k i, md, x, h => by
    unfold okE at h
    rw [Bool.and_eq_true] at h
    obtain ⟨h1, h⟩ := h
    split at h
    · simp only [Bool.and_eq_true, decide_eq_true_eq] at h
      obtain ⟨⟨⟨hf, hk⟩, ha⟩, hb⟩ := h
      obtain ⟨⟨nm, np⟩, ec⟩ := Option.isSome_iff_exists.mp hk
      exact Snd.val q.g h1 (s_prop q.g (q.pr k i _ hf) q.room (q.cl _ _ _ ec).1 (sd_E q a .val _ ha) hb)
    · cases h
  | _, _, _, q, .isa a t, md, x, h => by
    unfold okE at h
    rw [Bool.and_eq_true] at h
    obtain ⟨h1, h⟩ := h
    split at h
    · rename_i y py l z pz pp
      simp only [Bool.and_eq_true, decide_eq_true_eq] at h
      obtain ⟨⟨⟨⟨e, hg⟩, ha⟩, hs⟩, ht⟩ := h
      subst e
      unfold tyOk at ht
      simp only [Bool.and_eq_true] at ht
      obtain ⟨⟨hgz, hnz⟩, ht⟩ := ht
      have A := sd_E q a .look _ ha
      cases t with
      | cls k =>
        simp only at ht
        split at ht
        · rename_i nm np ec
          have e := of_decide_eq_true ht
          subst e
          obtain ⟨hh, hm, _⟩ := q.cl _ _ _ ec
          exact Snd.val q.g h1 (s_isa q.g (q.gl hg) A (pe_glob (v := .ref (L.cls k)) (q.gl hgz) hm rfl (okN_of hnz).1) (fun k' e => by cases e; exact hh) hs rfl)
        · cases ht
      | int =>
        have e := of_decide_eq_true ht
        subst e
        exact Snd.val q.g h1 (s_isa (t := .int) q.g (q.gl hg) A (pe_bltn (v := .ty "int") (q.gl hgz) (blt q.g (by decide +kernel)) (u := .type "int") (by decide +kernel) rfl (by decide +kernel) (by decide +kernel)) (fun k' e => by cases e) hs rfl)
      | bool =>
        have e := of_decide_eq_true ht
        subst e
        exact Snd.val q.g h1 (s_isa (t := .bool) q.g (q.gl hg) A (pe_bltn (v := .ty "bool") (q.gl hgz) (blt q.g (by decide +kernel)) (u := .type "bool") (by decide +kernel) rfl (by decide +kernel) (by decide +kernel)) (fun k' e => by cases e) hs rfl)
      | tuple =>
        have e := of_decide_eq_true ht
        subst e
        exact Snd.val q.g h1 (s_isa (t := .tuple) q.g (q.gl hg) A (pe_bltn (v := .ty "tuple") (q.gl hgz) (blt q.g (by decide +kernel)) (u := .type "tuple") (by decide +kernel) rfl (by decide +kernel) (by decide +kernel)) (fun k' e => by cases e) hs rfl)
      | list =>
        have e := of_decide_eq_true ht
        subst e
        exact Snd.val q.g h1 (s_isa (t := .list) q.g (q.gl hg) A (pe_bltn (v := .ty "list") (q.gl hgz) (blt q.g (by decide +kernel)) (u := .type "list") (by decide +kernel) rfl (by decide +kernel) (by decide +kernel)) (fun k' e => by cases e) hs rfl)
      | str =>
        have e := of_decide_eq_true ht
        subst e
        exact Snd.val q.g h1 (s_isa (t := .str) q.g (q.gl hg) A (pe_bltn (v := .ty "str") (q.gl hgz) (blt q.g (by decide +kernel)) (u := .type "str") (by decide +kernel) rfl (by decide +kernel) (by decide +kernel)) (fun k' e => by cases e) hs rfl)
    · cases h
  | _, _, _, q, .b1 b a, md, x, h => by
    unfold okE at h
    rw [Bool.and_eq_true] at h
    obtain ⟨h1, h⟩ := h
    split at h
    · simp only [Bool.and_eq_true, decide_eq_true_eq] at h
      obtain ⟨⟨⟨e, hg⟩, hs⟩, ha⟩ := h
      subst e
      cases b with
      | len => exact Snd.val q.g h1 (s_len q.g (q.gl hg) (sd_E q a .look _ ha) hs)
      | sum => exact Snd.val q.g h1 (s_sum q.g (q.gl hg) (sd_E q a .look _ ha) hs)
      | max => exact Snd.val q.g h1 (s_max q.g (q.gl hg) (sd_E q a .look _ ha) hs)
      | min => exact Snd.val q.g h1 (s_min q.g (q.gl hg) (sd_E q a .look _ ha) hs)
      | abs => exact Snd.val q.g h1 (s_abs q.g (q.gl hg) (sd_E q a .look _ ha) hs)
      | int => exact Snd.val q.g h1 (s_intc q.g (q.gl hg) (sd_E q a .look _ ha) hs)
      | str => exact Snd.val q.g h1 (s_strc q.g (q.gl hg) (sd_E q a .look _ ha) hs)
      | list => exact Snd.new q.g h1 (s_listc q.g (q.gl hg) (sd_E q a .look _ ha) hs)
      | tuple => exact Snd.val q.g h1 (s_tuplec q.g (q.gl hg) (sd_E q a .val _ ha) hs)
      | dict => exact Snd.new q.g h1 (s_dictc q.g (q.gl hg) (sd_E q a .look _ ha) hs)
      | mind => cases h1
    · cases h
  | _, _, _, q, .leno a k, md, x, h => by
    unfold okE at h
    rw [Bool.and_eq_true] at h
    obtain ⟨h1, h⟩ := h
    split at h
    · simp only [Bool.and_eq_true, decide_eq_true_eq] at h
      obtain ⟨⟨⟨⟨e, hg⟩, hs⟩, hk⟩, ha⟩ := h
      subst e
      exact Snd.val q.g h1 (s_leno (has := ck.leno) q.g q.leno q.room hk (q.gl hg) (sd_E q a .val _ ha) hs)
    · cases h
  | _, _, _, q, .eqo k a b, md, x, h => by
    unfold okE at h
    rw [Bool.and_eq_true] at h
    obtain ⟨h1, h⟩ := h
    split at h
    · simp only [Bool.and_eq_true] at h
      obtain ⟨⟨⟨hk, ha⟩, hb⟩, hs⟩ := h
      have A := sd_E q a .val _ ha
      have B := sd_E q b .val _ hb
      have hr := q.room.mono (Nat.le_succ (2 * n))
      cases md with
      | new => cases h1
      | tw => cases h1
      | val => exact s_eqo (has := ck.eqo) q.g q.eqo hr hk A B hs
      | look => exact PE.look (s_eqo (has := ck.eqo) q.g q.eqo hr hk A B hs)
      | test => exact s_teqo (has := ck.eqo) q.g q.eqo hr hk A B hs
    · cases h
  | _, _, _, q, .b2 b a d, md, x, h => by
    unfold okE at h
    rw [Bool.and_eq_true] at h
    obtain ⟨h1, h⟩ := h
    split at h
    · simp only [Bool.and_eq_true] at h
      obtain ⟨⟨⟨⟨⟨e, hg⟩, hs⟩, ht⟩, ha⟩, hd⟩ := h
      cases b with
      | max =>
        have e := of_decide_eq_true e
        subst e
        exact Snd.val q.g h1 (s_max2 q.g (q.gl hg) (sd_E q a .look _ ha) (sd_E q d .look _ hd) hs ht)
      | min =>
        have e := of_decide_eq_true e
        subst e
        exact Snd.val q.g h1 (s_min2 q.g (q.gl hg) (sd_E q a .look _ ha) (sd_E q d .look _ hd) hs ht)
      | _ => cases e
    · cases h
  | _, _, _, q, .lc e t r, md, x, h => by
    unfold okE at h
    rw [Bool.and_eq_true] at h
    obtain ⟨h1, h⟩ := h
    split at h
    · simp only [Bool.and_eq_true] at h
      obtain ⟨⟨⟨⟨ht, hr⟩, hb⟩, he⟩, hs⟩ := h
      have hk := blk_kind hb
      exact Snd.new q.g h1 (s_lc q.g own_map (sd_R q r _ _ hr) (q.blkOk hb) (fun s H C cl fp => sd_tg (q.blk hk s H C cl fp) t _ ht) (fun s H C cl fp => sd_E (q.blk hk s H C cl fp) e .val _ he) hs)
    · cases h
  | _, _, _, q, .lci e t r i, md, x, h => by
    unfold okE at h
    rw [Bool.and_eq_true] at h
    obtain ⟨h1, h⟩ := h
    split at h
    · simp only [Bool.and_eq_true] at h
      obtain ⟨⟨⟨⟨⟨ht, hr⟩, hb⟩, hi⟩, he⟩, hs⟩ := h
      have hk := blk_kind hb
      exact Snd.new q.g h1 (s_lci q.g own_map (sd_R q r _ _ hr) (q.blkOk hb) (fun s H C cl fp => sd_tg (q.blk hk s H C cl fp) t _ ht) (fun s H C cl fp => sd_E (q.blk hk s H C cl fp) i .test _ hi) (fun s H C cl fp => sd_E (q.blk hk s H C cl fp) e .val _ he) hs)
    · cases h
  | _, _, _, _, .callv _ _ _, _, _, h => by simp [okE] at h
  | _, _, _, q, .lrg _, _, _, h => by simp [okE] at h
  | _, _, _, q, .max3 _ _ _, _, _, h => by simp [okE] at h
  | _, _, _, q, .get _ _ _, _, _, h => by simp [okE] at h
  | _, _, _, q, .dnew _, _, _, h => by simp [okE] at h
  | _, _, _, q, .ddis _ _, _, _, h => by simp [okE] at h
  | _, _, _, q, .lc2 _ _ _ _ _, _, _, h => by simp [okE] at h
  | _, _, _, q, .lc2i _ _ _ _ _ _, _, _, h => by simp [okE] at h
  | _, _, _, q, .dcm _ _ _ _, _, _, h => by simp [okE] at h
theorem sd_Es : ∀ {X : Cx} {sc : Scope} {Wx : WX} (q : Gud ck L c n N X sc Wx) (es : Es) (xs : List Expr), okEs ck N W es sc xs = true → PA X xs (tEs L c Wx W es)
  | _, _, _, q, .nil, xs, h => by
    unfold okEs at h
    split at h
    · exact s_nil
    · cases h
  | _, _, _, q, .cons e es, xs, h => by
    unfold okEs at h
    split at h
    · simp only [Bool.and_eq_true] at h
      exact s_cons (sd_E q e .val _ h.1.1) (sd_Es q es _ h.2) h.1.2
    · cases h
theorem sd_O : ∀ {X : Cx} {sc : Scope} {Wx : WX} (q : Gud ck L c n N X sc Wx) (e : Oe) (x : Option Expr), okO ck N W e sc x = true → PO X x (tOe L c Wx W e)
  | _, _, _, q, .no, x, h => by
    unfold okO at h
    split at h
    · exact s_no
    · cases h
  | _, _, _, q, .so e, x, h => by
    unfold okO at h
    split at h
    · exact s_so (sd_E q e .look _ h)
    · cases h
theorem sd_R : ∀ {X : Cx} {sc : Scope} {Wx : WX} (q : Gud ck L c n N X sc Wx) (r : Sr) (tg x : Expr), okR ck N W r sc tg x = true → PI X tg x (tSr L c Wx W r)
  | _, _, _, q, .of e, tg, x, h => by
    unfold okR at h
    exact s_of q.g (sd_E q e .val _ h)
  | _, _, _, q, .rg1 e, tg, x, h => by
    unfold okR at h
    split at h
    · simp only [Bool.and_eq_true, decide_eq_true_eq] at h
      obtain ⟨⟨⟨e1, hg⟩, hs⟩, ha⟩ := h
      subst e1
      exact s_rg1 q.g (q.gl hg) (sd_E q e .look _ ha) hs
    · cases h
  | _, _, _, q, .rg2 a b, tg, x, h => by
    unfold okR at h
    split at h
    · simp only [Bool.and_eq_true, decide_eq_true_eq] at h
      obtain ⟨⟨⟨⟨⟨e1, hg⟩, hs⟩, ht⟩, ha⟩, hb⟩ := h
      subst e1
      exact s_rg2 q.g (q.gl hg) (sd_E q a .look _ ha) (sd_E q b .look _ hb) hs ht
    · cases h
  | _, _, _, q, .en e, tg, x, h => by
    unfold okR at h
    split at h
    · simp only [Bool.and_eq_true, decide_eq_true_eq] at h
      obtain ⟨⟨⟨e1, hg⟩, hs⟩, ha⟩ := h
      subst e1
      exact s_en q.g (q.gl hg) (sd_E q e .val _ ha) hs
    · cases h
  | _, _, _, q, .zp _ _, _, _, h => by simp [okR] at h
end
end
end MP

end
section
set_option Elab.async false
set_option linter.all false
set_option maxRecDepth 100000
set_option maxHeartbeats 2000000
/-! Statements that are checked are read soundly. -/
namespace MP
open PySem PySem.Spec PyProof.Rows L2

def okNew (ck : Ck) (N : List Str) (W : List Nat) (e : E) (i : Nat) (sc : Scope) (y : Str) (py : Pos) (x : Expr) : Bool :=
  decide (N[i]? = some y) && locB sc y && ((match e, x with
  | .lc e' t r, .ListComp elt [⟨tg, iter, [], 0⟩] scope p => decide (sc.names.lookup y = some .local) && (py.line == p.line) && !(scope.names.any fun (n, k) => n == y && (k == .local || k == .cell)) &&
      (okTg N W t scope tg && okR ck N W r sc tg iter && blkC N sc scope (ownOf N t) && okE ck N W e' .val scope elt && noSetI iter)
  | .lci e' t r i', .ListComp elt [⟨tg, iter, [cnd], 0⟩] scope p => decide (sc.names.lookup y = some .local) && (py.line == p.line) && !(scope.names.any fun (n, k) => n == y && (k == .local || k == .cell)) &&
      (okTg N W t scope tg && okR ck N W r sc tg iter && blkC N sc scope (ownOf N t) && okE ck N W i' .test scope cnd && okE ck N W e' .val scope elt && noSetI iter)
  | _, _ => false) || ((match x with
  | .ListComp .. => decide (sc.names.lookup y = some .cell)
  | x => !(isComp x)) && okE ck N W e .new sc x))
def bw (b : Bool) (W : List Nat) : Option (List Nat × Bool) := if b then some (W, true) else none
def bn (b : Bool) (W : List Nat) : Option (List Nat × Bool) := if b then some (W, false) else none
def sameW (a b : List Nat) : Bool := a.all (b.contains ·) && b.all (a.contains ·)
def joinW (W : List Nat) : Option (List Nat × Bool) → Option (List Nat × Bool) → Option (List Nat × Bool)
  | some (a, true), some (b, true) => if sameW a b then some (a, true) else none
  | some (a, true), some (_, false) => some (a, true)
  | some (_, false), some (b, true) => some (b, true)
  | some (_, false), some (_, false) => some (W, false)
  | _, _ => none
def loopW (W : List Nat) : Option (List Nat × Bool) → Bool
  | some (a, true) => sameW a W
  | some (_, false) => true
  | none => false
/-- a, b = x, y where a name is no plain local: no swapped stores -/
def pairB (sc : Scope) (tg v : Expr) : Bool := match tg, v with
  | .Tuple ts _ _, .Tuple _ _ _ => ts.any fun t => match t with
    | .Name id _ => decide (sc.names.lookup id = some .cell)
    | _ => false
  | _, _ => false
mutual
def okS (ck : Ck) (N : List Str) (fr sf : Bool) : S → List Nat → Scope → Stmt → Option (List Nat × Bool)
  | .asg t e, W, sc, x => match x with
    | .Assign [tg] v _ => bw (okTg N W t sc tg && noStarT tg && ((!(isComp v) && (noPair tg v || pairB sc tg v) && okE ck N W e .val sc v) || (match t, tg with
      | .nm i, .Name y py => okNew ck N W e i sc y py v
      | _, _ => false))) W
    | _ => none
  | .own i e, W, sc, x => match x with
    | .Assign [.Name y py] v _ => bw (okNew ck N W e i sc y py v && !(W.contains i)) (i :: W)
    | _ => none
  | .par ts es, W, sc, x => match ts, x with
    | [i, j], .Assign [.Tuple [.Name x px, .Name y py] _ _] (.Tuple [a, b] _ _) _ => bw (decide (N[i]? = some x) && decide (N[j]? = some y) && decide (i ≠ j) && parB sc [(x, px), (y, py)] [a, b] && !(W.contains i) && !(W.contains j) && okEs ck N W es sc [a, b]) W
    | [i, j, l], .Assign [.Tuple [.Name x px, .Name y py, .Name z pz] _ _] (.Tuple [a, b, d] _ _) _ => bw (decide (N[i]? = some x) && decide (N[j]? = some y) && decide (N[l]? = some z) && decide (i ≠ j) && decide (i ≠ l) && decide (j ≠ l) && parB sc [(x, px), (y, py), (z, pz)] [a, b, d] && !(W.contains i) && !(W.contains j) && !(W.contains l) && okEs ck N W es sc [a, b, d]) W
    | _, _ => none
  | .aug i op e, W, sc, x => match op, x with
    | .add, .AugAssign (.Name y _) .Add v _ => bw (decide (N[i]? = some y) && locB sc y && !(W.contains i) && okE ck N W e .look sc v) W
    | .mul, .AugAssign (.Name y _) .Mult v _ => bw (decide (N[i]? = some y) && locB sc y && !(W.contains i) && okE ck N W e .look sc v) W
    | _, _ => none
  | .expr e, W, sc, x => match x with
    | .Expr v _ => bw (!(isComp v) && okE ck N W e .val sc v) W
    | _ => none
  | .app i e, W, sc, x => match x with
    | .Expr (.Call (.Attribute (.Name y _) m apos) [v] [] cpos) _ => bw (decide (m = ("append" : Str)) && W.contains i && okV N sc i y && okE ck N W e .val sc v && noStar v && (apos.endLine == cpos.line)) W
    | _ => none
  | .ext i e, W, sc, x => match x with
    | .Expr (.Call (.Attribute (.Name y _) m apos) [v] [] cpos) _ => bw (decide (m = ("extend" : Str)) && W.contains i && okV N sc i y && okE ck N W e .val sc v && noStar v && (apos.endLine == cpos.line)) W
    | _ => none
  | .put i k e, W, sc, x => match x with
    | .Assign [.Subscript (.Name y _) kx _] v _ => bw (W.contains i && okV N sc i y && okE ck N W e .val sc v && okE ck N W k .look sc kx && noSlice kx) W
    | _ => none
  | .seta i cl e, W, sc, x => match x with
    | .Assign [.Attribute (.Name y _) f _] v _ => bw (decide (fields cl = [f]) && W.contains i && okV N sc i y && okE ck N W e .val sc v) W
    | _ => none
  | .ret e, W, sc, x => match x with
    | .Return (some v) _ => bn (if fr then (match e, v with
        | .var i, .Name y _ => W.contains i && okV N sc i y
        | _, _ => false) || okE ck N W e .new sc v else okE ck N W e .val sc v) W
    | _ => none
  | .retn, W, _, x => match x with
    | .Return none _ => bn (!fr) W
    | _ => none
  | .ite t a b, W, sc, x => match x with
    | .If u l r _ => if okE ck N W t .test sc u then joinW W (okSs ck N fr sf a W sc l) (okSs ck N fr sf b W sc r) else none
    | _ => none
  | .whl t b, W, sc, x => match x with
    | .While u l [] _ => bw (okE ck N W t .test sc u && loopW W (okSs ck N fr sf b W sc l)) W
    | _ => none
  | .for t r b, W, sc, x => match x with
    | .For tg iter l [] _ => bw (okTg N W t sc tg && okR ck N W r sc tg iter && noSetI iter && loopW W (okSs ck N fr sf b W sc l)) W
    | _ => none
  | .rais _ _, W, _, _ => some (W, false)
  | .tri _ _, W, _, _ => some (W, false)
  | .frz _, _, _, _ => none
  | .pass, W, _, x => match x with
    | .Pass _ => some (W, true)
    | _ => none
def okSs (ck : Ck) (N : List Str) (fr sf : Bool) : Ss → List Nat → Scope → List Stmt → Option (List Nat × Bool)
  | .nil, W, _, xs => match xs with
    | [] => some (W, true)
    | _ => none
  | .cons (.frz i) r, W, sc, xs => if W.contains i && (!sf || i != 0) then okSs ck N fr sf r (W.filter (· != i)) sc xs else none
  | .cons st r, W, sc, xs => match xs with
    | x :: xs => match okS ck N fr sf st W sc x with
      | some (W1, true) => okSs ck N fr sf r W1 sc xs
      | some (W1, false) => match r, xs with
        | .nil, [] => some (W1, false)
        | _, _ => none
      | none => none
    | [] => none
end

section
variable {ck : Ck} {L : Lay} {c : Cfg} {n : Nat} {N : List Str} {X : Cx} {sc : Scope} {W W' W'' : List Nat} {O : Org} {Xk : XK} {fr sf : Bool} {pos : Pos}
theorem bw_some {b : Bool} {W W' : List Nat} {k : Bool} (h : bw b W = some (W', k)) : b = true ∧ W' = W ∧ k = true := by
  unfold bw at h
  split at h
  · cases h; exact ⟨by assumption, rfl, rfl⟩
  · cases h
theorem bn_some {b : Bool} {W W' : List Nat} {k : Bool} (h : bn b W = some (W', k)) : b = true ∧ W' = W ∧ k = false := by
  unfold bn at h
  split at h
  · cases h; exact ⟨by assumption, rfl, rfl⟩
  · cases h
theorem sameW_iff {a b : List Nat} (h : sameW a b = true) (i : Nat) : i ∈ a ↔ i ∈ b := by
  unfold sameW at h
  simp only [Bool.and_eq_true, List.all_eq_true, List.contains_iff_mem] at h
  exact ⟨h.1 i, h.2 i⟩
theorem At.mem {ρ : Env} {s : Sto} {m : List (Addr × Addr)} {G : Hp} {σ : L2.St} {H : Hp} (a : At L O W ρ s m G σ H) (h : ∀ i, i ∈ W' ↔ i ∈ W) : At L O W' ρ s m G σ H :=
  ⟨a.w0, a.w, a.t, ⟨a.q.len, fun i d e hi => a.q.sh i d e fun z => hi ((h i).mpr z), fun i d e hi => a.q.ow i d e ((h i).mp hi), fun i j b d e hi hj => a.q.dj i j b d e ((h i).mp hi) ((h j).mp hj)⟩, fun i d b hi => a.nw i d b ((h i).mp hi), fun x e => ⟨(a.fx x e).1, (h 0).mpr (a.fx x e).2⟩⟩
theorem AftS.mem {Dn : Ends} {m : List (Addr × Addr)} {G : Hp} {r : R} (A : AftS L O Xk W'' fr Dn m G r) (h : ∀ i, i ∈ W'' ↔ i ∈ W') : AftS L O Xk W' fr Dn m G r := by
  cases r with
  | nx ρ s => exact fun σ m' G' H' h1 h2 a => A σ m' G' H' h1 h2 (a.mem h)
  | rt d s => exact A
  | ex k ds ρ s => exact A
  | st => exact A
theorem tS_out {x : Stmt} {st : S} (h : PS X x (tS L c O Xk W W' fr st)) (e : ∀ i, i ∈ W'' ↔ i ∈ W') : PS X x (tS L c O Xk W W'' fr st) :=
  PS.imp h fun Dn σ H ⟨ρ, s, m, G, a, A⟩ => ⟨ρ, s, m, G, a, A.mem e⟩
theorem sw_cell {elt : Expr} {gs : List Comprehension} {scope : Scope} {pos py : Pos} {y : Str} {l : Nat} {env : PySem.Env} (hy : env.scope.names.lookup y = some .cell) : swapsWith (.ListComp elt gs scope pos) (some (.Name y py)) l env = pure false := by
  have ky : env.kindOf y = some .cell := hy
  have h2 : (env.kindOf y == some NameKind.local) = false := by rw [ky]; rfl
  unfold swapsWith
  simp only [h2, Bool.and_false, Bool.false_and]
theorem okNew_is (q : Gud ck L c n N X sc (WE' Xk)) (hs : X.env.scope = sc) {e : E} {i : Nat} {y : Str} {py : Pos} {x : Expr} (h : okNew ck N W e i sc y py x = true) : PS X (.Assign [.Name y py] x pos) (tAsg (tO L c (WE' Xk) W e) (gName i)) := by
  unfold okNew at h
  simp only [Bool.and_eq_true, Bool.or_eq_true, decide_eq_true_eq] at h
  obtain ⟨⟨hN, hl⟩, h⟩ := h
  rcases h with h | ⟨h1, h2⟩
  · split at h
    · simp only [Bool.and_eq_true, decide_eq_true_eq, Bool.not_eq_true'] at h
      obtain ⟨⟨⟨hy, hln⟩, hna⟩, ⟨⟨⟨ht, hr⟩, hb⟩, he⟩, hns⟩ := h
      have hk := blk_kind hb
      exact s_setLc q.g (slot_of q hN) (by rw [hs]; exact hy) (sw_true q.kd (by rw [hs]; exact hy) hln hna) own_map (sd_R q _ _ _ hr) (q.blkOk hb) (fun s H C cl fp => sd_tg (q.blk hk s H C cl fp) _ _ ht) (fun s H C cl fp => sd_E (q.blk hk s H C cl fp) _ .val _ he) hns
    · simp only [Bool.and_eq_true, decide_eq_true_eq, Bool.not_eq_true'] at h
      obtain ⟨⟨⟨hy, hln⟩, hna⟩, ⟨⟨⟨⟨ht, hr⟩, hb⟩, hi⟩, he⟩, hns⟩ := h
      have hk := blk_kind hb
      exact s_setLci q.g (slot_of q hN) (by rw [hs]; exact hy) (sw_true q.kd (by rw [hs]; exact hy) hln hna) own_map (sd_R q _ _ _ hr) (q.blkOk hb) (fun s H C cl fp => sd_tg (q.blk hk s H C cl fp) _ _ ht) (fun s H C cl fp => sd_E (q.blk hk s H C cl fp) _ .test _ hi) (fun s H C cl fp => sd_E (q.blk hk s H C cl fp) _ .val _ he) hns
    · cases h
  · obtain ⟨g1, g2⟩ := q.loc hl
    have hc : swapsWith x (some (.Name y py)) pos.line X.env = pure false := by
      split at h1
      · exact sw_cell (by rw [hs]; exact of_decide_eq_true h1)
      · exact noComp_sw (by simpa using h1)
    have hp : swappedStores [.Name y py] x X.env = pure none := noPair_is (by cases x <;> rfl)
    exact ps_asg (sd_E q e .new _ h2) (pg_name q.g.nd (slot_of q hN) g1 g2) hc hp rfl
theorem fm_less {α β : Type} {f : α → Option β} : ∀ {l : List α}, (∃ x ∈ l, f x = none) → (l.filterMap f).length < l.length
  | [], h => by obtain ⟨x, hx, _⟩ := h; cases hx
  | y :: l, h => by
    have le : (l.filterMap f).length ≤ l.length := List.length_filterMap_le _ _
    rw [List.filterMap_cons]
    obtain ⟨x, hx, e⟩ := h
    rcases List.mem_cons.mp hx with rfl | hx
    · rw [e]; simp only [List.length_cons]; omega
    · have := fm_less ⟨x, hx, e⟩
      split <;> simp only [List.length_cons] <;> omega
theorem pairB_is {tg v : Expr} {env : PySem.Env} (h : pairB env.scope tg v = true) : swappedStores [tg] v env = pure none := by
  unfold pairB at h
  split at h
  · rename_i ts k p vs k2 p2
    obtain ⟨x, hx, hc⟩ := List.any_eq_true.mp h
    unfold swappedStores
    simp only
    split
    · rfl
    · split
      · rfl
      · have hl := fm_less (f := fun t => match t with
          | .Name id pos => if (env.kindOf id == some .local && pos.line == (ts.head?.map (·.pos.line)).getD 0) = true then some id else none
          | _ => none) (l := ts) ⟨x, hx, by
            split at hc
            · rename_i id _
              have e : env.kindOf id = some .cell := of_decide_eq_true hc
              have e2 : (env.kindOf id == some NameKind.local) = false := by rw [e]; rfl
              simp only [e2, Bool.false_and]
              rfl
            · cases hc⟩
        rw [if_pos ?_]
        simp only [Bool.or_eq_true, bne_iff_ne, ne_eq]
        exact .inl (Nat.ne_of_lt hl)
  · cases h
theorem loop_of {o : Option (List Nat × Bool)} (h : loopW W o = true) : ∃ a b, o = some (a, b) ∧ (b = true → ∀ i, i ∈ W ↔ i ∈ a) := by
  unfold loopW at h
  split at h
  · exact ⟨_, _, rfl, fun _ i => (sameW_iff h i).symm⟩
  · exact ⟨_, _, rfl, fun z => by cases z⟩
  · cases h
theorem join_of {o p : Option (List Nat × Bool)} {b : Bool} (h : joinW W o p = some (W', b)) : ∃ a k a' k', o = some (a, k) ∧ p = some (a', k') ∧ ∀ W'' : List Nat, (b = true → ∀ i, i ∈ W'' ↔ i ∈ W') → (k = true → ∀ i, i ∈ W'' ↔ i ∈ a) ∧ (k' = true → ∀ i, i ∈ W'' ↔ i ∈ a') := by
  unfold joinW at h
  split at h
  · split at h
    · rename_i hs
      cases h
      exact ⟨_, _, _, _, rfl, rfl, fun W'' z => ⟨fun _ => z rfl, fun _ i => (z rfl i).trans (sameW_iff hs i)⟩⟩
    · cases h
  · cases h
    exact ⟨_, _, _, _, rfl, rfl, fun W'' z => ⟨fun _ => z rfl, fun k => (by cases k)⟩⟩
  · cases h
    exact ⟨_, _, _, _, rfl, rfl, fun W'' z => ⟨fun k => (by cases k), fun _ => z rfl⟩⟩
  · cases h
    exact ⟨_, _, _, _, rfl, rfl, fun W'' z => ⟨fun k => (by cases k), fun k => (by cases k)⟩⟩
  · cases h
theorem okV_of (q : Gud ck L c n N X sc (WE' Xk)) {i : Nat} {y : Str} (h : okV N sc i y = true) : X.N[i]? = some y ∧ Vis X.env.scope y ∧ (y == ("__debug__" : Str)) = false ∧ (y == ("__classdict__" : Str)) = false := by
  unfold okV at h
  simp only [Bool.and_eq_true, decide_eq_true_eq] at h
  exact ⟨slot_of q h.1.1, q.vis h.1.2, okN_of h.2⟩
theorem okSs_cons {st : S} {r : Ss} {xs : List Stmt} (hf : ∀ i, st ≠ .frz i) : okSs ck N fr sf (.cons st r) W sc xs = (match xs with
    | x :: xs => match okS ck N fr sf st W sc x with
      | some (W1, true) => okSs ck N fr sf r W1 sc xs
      | some (W1, false) => match r, xs with
        | .nil, [] => some (W1, false)
        | _, _ => none
      | none => none
    | [] => none) := by
  cases st <;> first | rfl | exact absurd rfl (hf _) | (rw [okSs]; done) | (rw [okSs]; rfl) | (cases xs <;> simp only [okSs])
mutual
theorem sd_S (q : Gud ck L c n N X sc (WE' Xk)) (hs : X.env.scope = sc) (hp : PassesOwn (model X.prog X.w) X.A X.env X.xe) (hz : sf = false → O.slf = none) : ∀ (st : S) (W : List Nat) (x : Stmt) (W' : List Nat) (b : Bool), okS ck N fr sf st W sc x = some (W', b) → ∀ W'' : List Nat, (b = true → ∀ i, i ∈ W'' ↔ i ∈ W') → PS X x (tS L c O Xk W W'' fr st)
  | .asg t e, W, x, W', b, h, W'', hw => by
    unfold okS at h
    split at h
    · obtain ⟨hh, rfl, rfl⟩ := bw_some h
      have h := hh
      simp only [Bool.and_eq_true, Bool.or_eq_true, Bool.not_eq_true'] at h
      obtain ⟨⟨ht, hn⟩, h⟩ := h
      refine tS_out ?_ (hw rfl)
      rcases h with ⟨⟨h1, h2⟩, h3⟩ | h
      · exact ss_asg (fun i hi => (slots_ok t _ ht i hi).1) (sd_E q e .val _ h3) (sd_tg q t _ ht) (noComp_sw h1) (h2.elim noPair_is fun z => pairB_is (by rw [hs]; exact z)) hn
      · split at h
        · exact lc_asg (slots_ok _ _ ht _ (by simp [slotsT])).1 (okNew_is q hs h)
        · cases h
    · cases h
  | .own i e, W, x, W', b, h, W'', hw => by
    unfold okS at h
    split at h
    · obtain ⟨hh, rfl, rfl⟩ := bw_some h
      have h := hh
      simp only [Bool.and_eq_true, Bool.not_eq_true'] at h
      exact tS_out (ss_own (by simpa using h.2) (okNew_is q hs h.1)) (hw rfl)
    · cases h
  | .par ts es, W, x, W', b, h, W'', hw => by
    unfold okS at h
    split at h
    · obtain ⟨hh, rfl, rfl⟩ := bw_some h
      have h := hh
      simp only [Bool.and_eq_true, decide_eq_true_eq, Bool.not_eq_true'] at h
      obtain ⟨⟨⟨⟨⟨⟨h1, h2⟩, h3⟩, h4⟩, h5⟩, h6⟩, h7⟩ := h
      exact tS_out (ss_par2 q.g (slot_of q h1) (slot_of q h2) h3 (by rw [hs]; exact h4) (by simpa using h5) (by simpa using h6) (sd_Es q es _ h7)) (hw rfl)
    · obtain ⟨hh, rfl, rfl⟩ := bw_some h
      have h := hh
      simp only [Bool.and_eq_true, decide_eq_true_eq, Bool.not_eq_true'] at h
      obtain ⟨⟨⟨⟨⟨⟨⟨⟨⟨⟨h1, h2⟩, h3⟩, h4⟩, h5⟩, h6⟩, h7⟩, h8⟩, h9⟩, h10⟩, h11⟩ := h
      exact tS_out (ss_par3 q.g (slot_of q h1) (slot_of q h2) (slot_of q h3) h4 h5 h6 (by rw [hs]; exact h7) (by simpa using h8) (by simpa using h9) (by simpa using h10) (sd_Es q es _ h11)) (hw rfl)
    · cases h
  | .aug i op e, W, x, W', b, h, W'', hw => by
    unfold okS at h
    split at h
    · obtain ⟨hh, rfl, rfl⟩ := bw_some h
      have h := hh
      simp only [Bool.and_eq_true, decide_eq_true_eq, Bool.not_eq_true'] at h
      obtain ⟨⟨⟨h1, h2⟩, h3⟩, h4⟩ := h
      obtain ⟨g1, g2⟩ := q.loc h2
      exact tS_out (ss_aug q.g (by simpa using h3) (slot_of q h1) g1 g2 (sd_E q e .look _ h4)) (hw rfl)
    · obtain ⟨hh, rfl, rfl⟩ := bw_some h
      have h := hh
      simp only [Bool.and_eq_true, decide_eq_true_eq, Bool.not_eq_true'] at h
      obtain ⟨⟨⟨h1, h2⟩, h3⟩, h4⟩ := h
      obtain ⟨g1, g2⟩ := q.loc h2
      exact tS_out (ss_augm q.g (by simpa using h3) (slot_of q h1) g1 g2 (sd_E q e .look _ h4)) (hw rfl)
    · cases h
  | .expr e, W, x, W', b, h, W'', hw => by
    unfold okS at h
    split at h
    · obtain ⟨hh, rfl, rfl⟩ := bw_some h
      have h := hh
      simp only [Bool.and_eq_true, Bool.not_eq_true'] at h
      exact tS_out (ss_expr (sd_E q e .val _ h.2) h.1) (hw rfl)
    · cases h
  | .app i e, W, x, W', b, h, W'', hw => by
    unfold okS at h
    split at h
    · obtain ⟨hh, rfl, rfl⟩ := bw_some h
      have h := hh
      simp only [Bool.and_eq_true, decide_eq_true_eq] at h
      obtain ⟨⟨⟨⟨⟨rfl, h2⟩, h3⟩, h4⟩, h5⟩, h6⟩ := h
      obtain ⟨v1, v2, v3, v4⟩ := okV_of q h3
      exact tS_out (ss_app q.g (by simpa using h2) v1 v2 v3 v4 (sd_E q e .val _ h4) h5 h6) (hw rfl)
    · cases h
  | .ext i e, W, x, W', b, h, W'', hw => by
    unfold okS at h
    split at h
    · obtain ⟨hh, rfl, rfl⟩ := bw_some h
      have h := hh
      simp only [Bool.and_eq_true, decide_eq_true_eq] at h
      obtain ⟨⟨⟨⟨⟨rfl, h2⟩, h3⟩, h4⟩, h5⟩, h6⟩ := h
      obtain ⟨v1, v2, v3, v4⟩ := okV_of q h3
      exact tS_out (ss_ext q.g (by simpa using h2) v1 v2 v3 v4 (sd_E q e .val _ h4) h5 h6) (hw rfl)
    · cases h
  | .put i k e, W, x, W', b, h, W'', hw => by
    unfold okS at h
    split at h
    · obtain ⟨hh, rfl, rfl⟩ := bw_some h
      have h := hh
      simp only [Bool.and_eq_true] at h
      obtain ⟨⟨⟨⟨h2, h3⟩, h4⟩, h5⟩, h6⟩ := h
      obtain ⟨v1, v2, v3, v4⟩ := okV_of q h3
      exact tS_out (ss_put q.g (by simpa using h2) v1 v2 v3 v4 (sd_E q e .val _ h4) (sd_E q k .look _ h5) h6) (hw rfl)
    · cases h
  | .seta i cl e, W, x, W', b, h, W'', hw => by
    unfold okS at h
    split at h
    · obtain ⟨hh, rfl, rfl⟩ := bw_some h
      have h := hh
      simp only [Bool.and_eq_true, decide_eq_true_eq] at h
      obtain ⟨⟨⟨h1, h2⟩, h3⟩, h4⟩ := h
      obtain ⟨v1, v2, v3, v4⟩ := okV_of q h3
      exact tS_out (ss_seta q.g h1 (q.na cl _ (by rw [h1]; simp)) (by simpa using h2) v1 v2 v3 v4 (sd_E q e .val _ h4)) (hw rfl)
    · cases h
  | .ret e, W, x, W', b, h, W'', hw => by
    unfold okS at h
    split at h
    · obtain ⟨hh, rfl, rfl⟩ := bn_some h
      have h := hh
      cases fr with
      | false =>
        simp only [Bool.false_eq_true, if_false] at h
        exact ss_ret (sd_E q e .val _ h)
      | true =>
        simp only [if_true, Bool.or_eq_true] at h
        rcases h with h | h
        · split at h
          · simp only [Bool.and_eq_true] at h
            obtain ⟨v1, v2, v3, v4⟩ := okV_of q h.2
            exact ss_retV (by simpa using h.1) v1 v2 v3 v4
          · cases h
        · exact ss_retO (sd_E q e .new _ h)
    · cases h
  | .retn, W, x, W', b, h, W'', hw => by
    unfold okS at h
    split at h
    · obtain ⟨hh, rfl, rfl⟩ := bn_some h
      have h := hh
      cases fr with
      | false => exact ss_retn
      | true => cases h
    · cases h
  | .ite t a b', W, x, W', b, h, W'', hw => by
    unfold okS at h
    split at h
    · split at h
      · rename_i ht
        obtain ⟨a1, k1, a2, k2, e1, e2, hj⟩ := join_of h
        obtain ⟨j1, j2⟩ := hj W'' hw
        exact ss_if (sd_E q t .test _ ht) (sd_Ss q hs hp hz a W _ _ _ e1 W'' j1) (sd_Ss q hs hp hz b' W _ _ _ e2 W'' j2)
      · cases h
    · cases h
  | .whl t b', W, x, W', b, h, W'', hw => by
    unfold okS at h
    split at h
    · obtain ⟨hh, rfl, rfl⟩ := bw_some h
      have h := hh
      simp only [Bool.and_eq_true] at h
      obtain ⟨a1, k1, e1, j1⟩ := loop_of h.2
      exact tS_out (ss_while hp (sd_E q t .test _ h.1) (sd_Ss q hs hp hz b' _ _ _ _ e1 _ j1)) (hw rfl)
    · cases h
  | .for t r b', W, x, W', b, h, W'', hw => by
    unfold okS at h
    split at h
    · obtain ⟨hh, rfl, rfl⟩ := bw_some h
      have h := hh
      simp only [Bool.and_eq_true] at h
      obtain ⟨⟨⟨ht, hr⟩, hn⟩, h⟩ := h
      obtain ⟨a1, k1, e1, j1⟩ := loop_of h
      exact tS_out (ss_for hp q.g (fun i hi => (slots_ok t _ ht i hi).1) (sd_R q r _ _ hr) (sd_tg q t _ ht) (sd_Ss q hs hp hz b' _ _ _ _ e1 _ j1) hn) (hw rfl)
    · cases h
  | .rais _ _, W, x, W', b, h, W'', hw => ss_never fun ρ s => by unfold exe; rfl
  | .tri _ _, W, x, W', b, h, W'', hw => ss_never fun ρ s => by unfold exe; rfl
  | .frz _, W, x, W', b, h, W'', hw => by unfold okS at h; cases h
  | .pass, W, x, W', b, h, W'', hw => by
    unfold okS at h
    split at h
    · cases h
      exact tS_out ss_pass (hw rfl)
    · cases h
theorem sd_Ss (q : Gud ck L c n N X sc (WE' Xk)) (hs : X.env.scope = sc) (hp : PassesOwn (model X.prog X.w) X.A X.env X.xe) (hz : sf = false → O.slf = none) : ∀ (st : Ss) (W : List Nat) (x : List Stmt) (W' : List Nat) (b : Bool), okSs ck N fr sf st W sc x = some (W', b) → ∀ W'' : List Nat, (b = true → ∀ i, i ∈ W'' ↔ i ∈ W') → PSs X x (tSs L c O Xk W W'' fr st)
  | .nil, W, x, W', b, h, W'', hw => by
    unfold okSs at h
    split at h
    · cases h
      exact PSs.imp ss_nil fun Dn σ H ⟨ρ, s, m, G, a, A⟩ => ⟨ρ, s, m, G, a, A.mem (hw rfl)⟩
    · cases h
  | .cons st r, W, x, W', b, h, W'', hw => by
    by_cases hf : ∃ i, st = .frz i
    · obtain ⟨i, rfl⟩ := hf
      unfold okSs at h
      split at h
      · rename_i hi
        simp only [Bool.and_eq_true, Bool.or_eq_true, Bool.not_eq_true', bne_iff_ne, ne_eq] at hi
        exact ss_frz (sd_Ss q hs hp hz r _ _ _ _ h W'' hw) (by simpa using hi.1) (hi.2.imp hz id)
      · cases h
    · rw [okSs_cons (fun i e => hf ⟨i, e⟩)] at h
      split at h
      · split at h
        · rename_i W1 e1
          exact ss_cons (W'' := W1) (sd_S q hs hp hz st W _ _ _ e1 W1 fun _ _ => Iff.rfl) (sd_Ss q hs hp hz r _ _ _ _ h W'' hw)
        · rename_i W1 e1
          split at h
          · cases h
            exact ss_cons (W'' := W'') (sd_S q hs hp hz st W _ _ _ e1 W'' fun z => by cases z) ss_nil
          · cases h
        · cases h
      · cases h
end
end
end MP

end
section
set_option Elab.async false
set_option linter.all false
set_option maxRecDepth 100000
set_option maxHeartbeats 1000000
/-! Defs: a checked body keeps the promise of its reading; all defs at once, by fuel. -/
namespace MP
open PySem PySem.Spec PyProof.Rows L2

theorem lk_zip {α : Type} : ∀ {ns : List Str} {us : List α}, us.length = ns.length → ∀ n ∈ ns, ((ns.zip us).lookup n).isNone = false
  | [], _, _, n, h => by cases h
  | x :: ns, [], hl, n, h => by cases hl
  | x :: ns, u :: us, hl, n, h => by
    rw [List.zip_cons_cons, List.lookup_cons]
    cases e : n == x with
    | true => rfl
    | false =>
      have : n ∈ ns := by
        rcases List.mem_cons.mp h with h | h
        · rw [h] at e; simp at e
        · exact h
      exact lk_zip (by simpa using hl) n this
theorem fm_zip {α : Type} : ∀ {ns : List Str} {us : List α}, ns.Nodup → us.length = ns.length → ∀ z : List (Str × α), (∀ n ∈ ns, z.lookup n = (ns.zip us).lookup n) → ns.filterMap (fun n => (z.lookup n).map (n, ·)) = ns.zip us
  | [], _, _, _, _, _ => rfl
  | x :: ns, [], _, hl, _, _ => by cases hl
  | x :: ns, u :: us, nd, hl, z, hz => by
    have nd' := List.nodup_cons.mp nd
    have e1 : z.lookup x = some u := by rw [hz x (List.mem_cons_self ..)]; simp
    rw [List.filterMap_cons, e1]
    show (x, u) :: _ = _
    rw [List.zip_cons_cons]
    congr 1
    refine fm_zip nd'.2 (by simpa using hl) z fun n hn => ?_
    rw [hz n (List.mem_cons_of_mem _ hn), List.zip_cons_cons, List.lookup_cons]
    have : (n == x) = false := by
      rw [beq_eq_false_iff_ne]
      intro e; exact nd'.1 (e ▸ hn)
    rw [this]
/-- a def of plain parameters -/
theorem bind_plain {x qual : Str} {as : List Arg} {body : List Stmt} {scope : Scope} {kV doc pm cdv ct : Value} {an : Option Addr} {us : List Value} (nd : (as.map (·.arg)).Nodup) (hl : us.length = (as.map (·.arg)).length) :
    bindArgs (PySem.W.fnOf x qual ⟨[], as, none, [], [], none, []⟩ body scope .none kV doc pm an cdv ct) ⟨us, []⟩ = pure ((as.map (·.arg)).zip us) := by
  have h1 : (List.filter (fun n => (List.lookup n ((as.map (·.arg)).zip us)).isNone) (as.map (·.arg))) = [] := List.filter_eq_nil_iff.mpr fun n hn => by rw [lk_zip hl n hn]; simp
  have h2 := fm_zip nd hl _ (fun n _ => rfl)
  have h3 : ¬ us.length > (as.map (·.arg)).length := by omega
  have h4 : seqItems? (Value.none) = pure none := rfl
  have h0 : (decide (us.length > (as.map (·.arg)).length) && (none : Option Arg).isNone) = false := by simp [hl]
  have h5 : (List.drop ((as.map (·.arg)).length - 0) (as.map (·.arg))) = [] := by simp
  show bindArgs _ _ = _
  unfold bindArgs
  simp only [PySem.W.fnOf, List.map_nil, List.nil_append, List.append_nil, List.forIn_nil, pure_bind, h4, Option.getD_none, List.length_nil, Nat.sub_zero, List.drop_nil, Bool.and_true, Nat.zero_sub, Array.toList, List.take_length, h1, h2, h0, List.drop_length, List.zip_nil_right, List.isEmpty_nil, Bool.not_true, Bool.false_eq_true, if_false, hl, gt_iff_lt, Nat.lt_irrefl, Bool.false_and, decide_false, Option.isNone_none]

/-! ### what is known of a text at one fuel -/
structure Stat (ck : Ck) (L : Lay) (c : Cfg) (n : Nat) (P : Program) (w : World) (mg : Str → Option Value) (base : Heap) : Prop where
  cls : ∀ k, L.has k = true → ClF L k
  kk : ∀ k k', L.has k = true → L.has k' = true → PySem.W.kitOne L.K (.ref (L.cls k)) (.ref (L.cls k')) = some (decide (k = k'))
  blt : ∀ x ∈ bnames, mg x = none
  fn : ∀ f nm np fr, ck.fn f = some (nm, np, fr) → (∃ fd ps, FnOk P w L.K mg base (CX P w) (2 * n) (L.fad f) fd ps (spF L np fr (c.call f)) ∧ Binds L.K fd ps []) ∧ mg nm = some (.ref (L.fad f)) ∧
    PySem.W.keepIn L.K (.ref (L.fad f)) = true ∧ ∀ ds s, ds.length ≠ np → c.call f ds s = .st
  cl : ∀ k nm np, ck.cl k = some (nm, np) → L.has k = true ∧ mg nm = some (.ref (L.cls k)) ∧ (∃ fd ps, FnOk P w L.K mg base (CX P w) (2 * n) (L.fad (.ini k)) fd ps (spI L np k (c.call (.ini k))) ∧ Binds L.K fd ps []) ∧
    Mk L.K (L.cls k) (L.fad (.ini k)) ∧ ∀ ds s, ds.length ≠ np → c.call (.ini k) ds s = .st
  pr : ∀ k i nm, ck.pr k i = some nm → (∃ fd ps, FnOk P w L.K mg base (CX P w) (2 * n) (L.fad (.pr k i)) fd ps (spF L 1 false (c.call (.pr k i))) ∧ Binds L.K fd ps []) ∧ ∃ pa, PropOf L.K (L.cls k) nm pa (L.fad (.pr k i))
  leno : ∀ k, ck.leno k = true → (∃ fd ps, FnOk P w L.K mg base (CX P w) (2 * n) (L.fad (.len k)) fd ps (spF L 1 false (c.call (.len k))) ∧ Binds L.K fd ps []) ∧ PySem.W.findIn L.K (.ref (L.cls k)) "__len__" = some (some (.ref (L.fad (.len k)))) ∧ PySem.W.isFn L.K (.ref (L.fad (.len k))) = true
  eqo : ∀ k, ck.eqo k = true → (∃ fd ps, FnOk P w L.K mg base (CX P w) (2 * n) (L.fad (.eq k)) fd ps (spF L 2 false (c.call (.eq k))) ∧ Binds L.K fd ps []) ∧ PySem.W.findIn L.K (.ref (L.cls k)) "__eq__" = some (some (.ref (L.fad (.eq k)))) ∧
    PySem.W.isFn L.K (.ref (L.fad (.eq k))) = true ∧ PySem.W.subIn L.K (.type "tuple") (.ref (L.cls k)) = some false
  con : ∀ x d, ck.con x = some d → match d with
    | .int i => ∃ t, mg x = some (.int i t)
    | .str i => ∃ t, mg x = some (.str i t)
    | _ => True
  na : ∀ k f, f ∈ fields k → L.has k = true → NoAttr L.K (L.cls k) f
section
variable {ck : Ck} {L : Lay} {c : Cfg} {n : Nat} {P : Program} {w : World} {mg : Str → Option Value} {base : Heap} {N : List Str} {qual : Str} {scope : Scope} {f : Addr} {cdv : Value} {A : Around} {outer : List PySem.Env} {sh : Shared} {H : Hp} {E : XK}
theorem Stat.gud (S : Stat ck L c n P w mg base) (nd : N.Nodup) (hk : scope.kind = .function) (hr : Room (2 * n + 1) (A.deeper (envOfC qual scope sh.heap.objs.size f cdv))) :
    Gud ck L c n N (cxOf (CX P w) P w L.K mg base N qual scope f cdv A outer sh H E) scope (WE' E) where
  g := ⟨S.cls, S.kk, S.blt, rfl, nd, rfl, hr.units, takes_of rfl rfl rfl rfl⟩
  hN := rfl
  scs := fun x k h => ⟨k, h, .inl rfl⟩
  fnc := fun _ _ => rfl
  kd := hk
  room := hr
  fn := fun f nm np fr h => by
    obtain ⟨h1, h2, h3, h4⟩ := S.fn f nm np fr h
    exact ⟨⟨h1, h2, h3⟩, h4⟩
  cl := fun k nm np h => by
    obtain ⟨h0, h1, h2, h3, h4⟩ := S.cl k nm np h
    exact ⟨h0, h1, ⟨h2, h3, h1⟩, h4⟩
  pr := fun k i nm h => ⟨(S.pr k i nm h).1, (S.pr k i nm h).2⟩
  leno := fun k h => ⟨(S.leno k h).1, (S.leno k h).2.1, (S.leno k h).2.2⟩
  eqo := fun k h => ⟨(S.eqo k h).1, (S.eqo k h).2.1, (S.eqo k h).2.2.1, (S.eqo k h).2.2.2⟩
  con := S.con
  na := S.na
end

/-! ### one def -/
def plainA (a : Arguments) : Bool := a.posonlyargs.isEmpty && a.vararg.isNone && a.kwonlyargs.isEmpty && a.kw_defaults.isEmpty && a.kwarg.isNone && a.defaults.isEmpty
def nodupB : List Str → Bool
  | [] => true
  | x :: xs => !(xs.contains x) && nodupB xs
theorem nodupB_of : ∀ {l : List Str}, nodupB l = true → l.Nodup
  | [], _ => List.nodup_nil
  | x :: xs, h => by
    unfold nodupB at h
    rw [Bool.and_eq_true] at h
    exact List.nodup_cons.mpr ⟨by simpa using h.1, nodupB_of h.2⟩
def scopeB (N : List Str) (k : Nat) (sc : Scope) : Bool := (match sc.kind with
  | .function => true
  | _ => false) && !sc.isCoroutine && !sc.isGenerator && nodupB N && decide (k ≤ N.length) && (N.take k).all (locB sc) && sc.names.all fun y => !(decide (y.2 = .free))
theorem scopeB_of {N : List Str} {k : Nat} {sc : Scope} (h : scopeB N k sc = true) : FnScope N (N.take k) sc := by
  unfold scopeB at h
  simp only [Bool.and_eq_true, Bool.not_eq_true', decide_eq_true_eq, List.all_eq_true] at h
  obtain ⟨⟨⟨⟨⟨⟨h1, h2⟩, h3⟩, h4⟩, h5⟩, h6⟩, h7⟩ := h
  refine ⟨?_, h2, h3, nodupB_of h4, ?_, fun x hx => ?_, fun y hy => of_decide_eq_false (h7 y hy)⟩
  · split at h1
    · assumption
    · cases h1
  · rw [List.length_take, Nat.min_eq_left h5]
  · have := h6 x hx
    unfold locB at this
    split at this
    · exact .inl (by assumption)
    · exact .inr (by assumption)
    · cases this
def okDef (fn : Fn) (d : He.DefD) : Bool := plainA d.params && decide (d.params.args.map (·.arg) = fn.names.take fn.pars) && scopeB fn.names fn.pars d.scope && d.dfl.isEmpty && d.kwd.isEmpty
def okFn (ck : Ck) (fn : Fn) (d : He.DefD) : Bool := okDef fn d && (okSs ck fn.names fn.fresh false fn.body [] d.scope d.body).isSome
def okIni (ck : Ck) (fn : Fn) (d : He.DefD) : Bool := okDef fn d && decide (0 < fn.pars) && (okSs ck fn.names false true fn.body [0] d.scope d.body).isSome
theorem plainA_of {a : Arguments} (h : plainA a = true) : a = ⟨[], a.args, none, [], [], none, []⟩ := by
  unfold plainA at h
  obtain ⟨a1, a2, a3, a4, a5, a6, a7⟩ := a
  simp only [Bool.and_eq_true, List.isEmpty_iff, Option.isNone_iff_eq_none] at h
  obtain ⟨⟨⟨⟨⟨rfl, rfl⟩, rfl⟩, rfl⟩, rfl⟩, rfl⟩ := h
  rfl
section
variable {ck : Ck} {L : Lay} {c : Cfg} {n : Nat} {P : Program} {w : World} {mg : Str → Option Value} {base : Heap} {fn : Fn} {d : He.DefD} {f : Addr} {fd : FuncData}
theorem binds_of (F : FunD L.K d.name d.qual d.params d.body d.scope (d.dvs L.K) (d.kws L.K) f fd) (h : okDef fn d = true) : Binds L.K fd (fn.names.take fn.pars) [] ∧ FnScope fn.names (fn.names.take fn.pars) d.scope ∧ (fn.names.take fn.pars).length = fn.pars ∧ fn.pars ≤ fn.names.length := by
  unfold okDef at h
  simp only [Bool.and_eq_true, decide_eq_true_eq, List.isEmpty_iff] at h
  obtain ⟨⟨⟨⟨h1, h2⟩, h3⟩, h4⟩, h5⟩ := h
  have e := plainA_of h1
  have hle : fn.pars ≤ fn.names.length := by
    unfold scopeB at h3
    simp only [Bool.and_eq_true, decide_eq_true_eq] at h3
    exact h3.1.1.2
  have S := scopeB_of h3
  have nd : (fn.names.take fn.pars).Nodup := S.nd.sublist (List.take_sublist _ _)
  refine ⟨?_, S, by rw [List.length_take, Nat.min_eq_left hle], hle⟩
  rw [He.DefD.dvs, h4, List.map_nil] at F
  rw [← h2]
  rw [← h2] at nd
  refine FunD.bindsN F fun kV doc pm an cdv ct us hl => ?_
  have := bind_plain (x := d.name) (qual := d.qual) (body := d.body) (scope := d.scope) (kV := kV) (doc := doc) (pm := pm) (cdv := cdv) (ct := ct) (an := an) nd hl
  rw [← e] at this
  exact this
theorem start_sl {m : List (Addr × Addr)} {G H : Hp} {vs : List V} {ds : List D} (r : Reps L m G vs ds) : Sl L [] (start fn ds) (L2.start fn.names vs) m G H := by
  have hl := r.length
  refine ⟨by unfold start L2.start; simp [hl], fun i d e _ => ?_, fun i d e z => (by cases z), fun i j a d e hi => (by cases hi)⟩
  unfold start at e
  unfold L2.start
  by_cases hi : i < ds.length
  · rw [List.getElem?_append_left (by simpa using hi), List.getElem?_map] at e
    rw [List.getElem?_append_left (by simpa [hl] using hi), List.getElem?_map]
    cases ed : ds[i]? with
    | none => rw [ed] at e; cases e
    | some d' =>
      rw [ed] at e
      cases e
      obtain ⟨v, h1, h2⟩ := r.get ed
      exact ⟨v, by rw [h1]; rfl, h2⟩
  · rw [List.getElem?_append_right (by simpa using hi)] at e
    rcases List.getElem?_replicate ▸ e with e
    split at e <;> cases e
theorem fn_ok (S : Stat ck L c n P w mg base) (F : FunD L.K d.name d.qual d.params d.body d.scope (d.dvs L.K) (d.kws L.K) f fd) (h : okFn ck fn d = true) :
    FnOk P w L.K mg base (CX P w) (2 * (n + 1)) f fd (fn.names.take fn.pars) (spF L fn.pars fn.fresh (runFn c fn)) ∧ Binds L.K fd (fn.names.take fn.pars) [] := by
  unfold okFn at h
  rw [Bool.and_eq_true] at h
  obtain ⟨hd, ho⟩ := h
  obtain ⟨hb, sc, hlen, hle⟩ := binds_of F hd
  obtain ⟨⟨W', b⟩, hok⟩ := Option.isSome_iff_exists.mp ho
  refine ⟨?_, hb⟩
  refine FunD.ok (k := 2 * n + 1) F sc (fun vs H Q E h => by rw [hlen]; exact h.1) fun cdv A outer s H vs Q E hr hsp => ?_
  obtain ⟨hl, ds, s0, m, G, wd, r, Af⟩ := hsp
  refine ⟨tSs L c ⟨s0, m, G, H, none⟩ E [] W' fn.fresh fn.body, sd_Ss (S.gud sc.nd sc.kind hr) rfl (passes_of rfl) (sf := false) (fun _ => rfl) fn.body [] _ W' b hok W' fun _ _ => Iff.rfl, start fn ds, s0, m, G, ⟨wd, wd, Stp.refl _ _ _, start_sl r, fun i d a hi => (by cases hi), fun x z => (by cases z)⟩, ?_⟩
  unfold runFn at Af
  split at Af
  · cases ex : exs c fn.body (start fn ds) s0 with
    | nx ρ s1 =>
      rw [ex] at Af
      intro σ m1 G1 H1 h1 h2 a
      cases hf : fn.fresh with
      | true => rw [hf] at Af; exact False.elim Af
      | false =>
        rw [hf] at Af
        exact Af m1 G1 H1 a.t a.w .non .non
    | rt d s1 =>
      rw [ex] at Af
      exact fun m1 G1 H1 t w' => Af m1 G1 H1 t w'
    | ex k ds ρ s1 =>
      rw [ex] at Af
      exact fun m1 G1 H1 dd t w' x => Af m1 G1 H1 dd t w' x
    | st => rw [ex] at Af; exact Af
  · exact False.elim Af
/-! ### an __init__ -/
theorem Wd.wout {s : Sto} {m : List (Addr × Addr)} {G H : Hp} {x : Addr} (w : Wd L s m G H) (hg : G x = none) (hn : x ∉ hs m) : Wd L s m G (wout H x) where
  sub := fun b y h => by
    have : b ≠ x := fun e => by rw [e, hg] at h; cases h
    unfold MP.wout; rw [if_neg this]; exact w.sub _ _ h
  len := w.len
  hnd := fun k st cells ix a b h1 h2 => by
    obtain ⟨e1, e2⟩ := w.hnd k st cells ix a b h1 h2
    obtain ⟨q1, q2⟩ := mem_hs h2
    unfold MP.wout
    rw [if_neg (show a ≠ x from fun e => hn (e ▸ q1)), if_neg (show b ≠ x from fun e => hn (e ▸ q2))]
    exact ⟨e1, e2⟩
  off := fun a h => by
    obtain ⟨e1, e2⟩ := w.off a h
    unfold MP.wout
    rw [if_neg (show a ≠ x from fun e => hn (e ▸ h))]; exact ⟨e1, e2⟩
  dis := w.dis
theorem start_sl0 {m : List (Addr × Addr)} {G H : Hp} {vs : List V} {ds : List D} {k : Cl} {x dx : Addr} (r : Reps L m G vs ds) (hx : H x = some (.ins (L.cls k) dx [])) (hg : G x = none) (hn : x ∉ hs m) (hk : L.has k = true) : Sl L [0] (start fn (.ins k [] :: ds)) (L2.start fn.names (.ref x :: vs)) m G H := by
  have hl := r.length
  refine ⟨by unfold start L2.start; simp [hl], fun i d e hi => ?_, fun i d e z => ?_, fun i j a d e hi hj _ _ _ _ => ?_⟩
  · cases i with
    | zero => exact absurd (List.mem_singleton.mpr rfl) hi
    | succ i =>
      unfold start at e
      unfold L2.start
      simp only [List.map_cons, List.cons_append, List.getElem?_cons_succ, List.length_cons] at e ⊢
      by_cases hi : i < ds.length
      · rw [List.getElem?_append_left (by simpa using hi), List.getElem?_map] at e
        rw [List.getElem?_append_left (by simpa [hl] using hi), List.getElem?_map]
        cases ed : ds[i]? with
        | none => rw [ed] at e; cases e
        | some d' =>
          rw [ed] at e
          cases e
          obtain ⟨v, h1, h2⟩ := r.get ed
          exact ⟨v, by rw [h1]; rfl, h2⟩
      · rw [List.getElem?_append_right (by simpa using hi)] at e
        rcases List.getElem?_replicate ▸ e with e
        split at e <;> cases e
  · have := List.mem_singleton.mp z
    subst this
    unfold start at e
    simp only [List.map_cons, List.cons_append, List.getElem?_cons_zero, Option.some.injEq] at e
    subst e
    have hc := Cont.ins (L := L) (m := m) (G := G) (c := k) (dx := dx) .nil (Nat.zero_le _) hk
    rw [lookup_none] at hc
    exact ⟨x, _, rfl, hg, hn, hx, hc⟩
  · rw [List.mem_singleton.mp hi, List.mem_singleton.mp hj]
theorem ini_ok (S : Stat ck L c n P w mg base) {k : Cl} (hk : L.has k = true) (F : FunD L.K d.name d.qual d.params d.body d.scope (d.dvs L.K) (d.kws L.K) f fd) (h : okIni ck fn d = true) :
    FnOk P w L.K mg base (CX P w) (2 * (n + 1)) f fd (fn.names.take fn.pars) (spI L (fn.pars - 1) k (runIni c k fn)) ∧ Binds L.K fd (fn.names.take fn.pars) [] := by
  unfold okIni at h
  simp only [Bool.and_eq_true, decide_eq_true_eq] at h
  obtain ⟨⟨hd, h0⟩, ho⟩ := h
  obtain ⟨hb, sc, hlen, hle⟩ := binds_of F hd
  obtain ⟨⟨W', b⟩, hok⟩ := Option.isSome_iff_exists.mp ho
  refine ⟨?_, hb⟩
  refine FunD.ok (k := 2 * n + 1) F sc (fun vs H Q E h => ?_) fun cdv A outer s H vs Q E hr hsp => ?_
  · obtain ⟨x, dx, us, rfl, hl, _⟩ := h
    rw [hlen, List.length_cons, hl]; omega
  obtain ⟨x, dx, us, rfl, hl, hx, hdx, ne, ds, s0, m, G, wd, hg, hn, r, Af⟩ := hsp
  have w0 := wd.wout hg hn
  have st : Stp m G (wout H x) m G H := by
    refine ⟨List.prefix_refl _, Same.refl _, fun a y h g _ => ?_, fun a h h' => absurd h h'⟩
    unfold wout at h
    split at h
    · cases h
    · exact ⟨h, g⟩
  refine ⟨tSs L c ⟨s0, m, G, wout H x, some x⟩ E [0] W' false fn.body, sd_Ss (S.gud sc.nd sc.kind hr) rfl (passes_of rfl) (sf := true) (fun z => by cases z) fn.body [0] _ W' b hok W' fun _ _ => Iff.rfl, start fn (.ins k [] :: ds), s0, m, G, ⟨w0, wd, st, start_sl0 r hx hg hn hk, fun i d a hi e1 e2 => ?_, fun y z => ?_⟩, ?_⟩
  · have := List.mem_singleton.mp hi
    subst this
    unfold L2.start at e2
    simp only [List.map_cons, List.cons_append, List.getElem?_cons_zero, Option.some.injEq, V.ref.injEq] at e2
    subst e2
    show wout H x x = none
    unfold wout; rw [if_pos rfl]
  · cases z
    exact ⟨rfl, List.mem_singleton.mpr rfl⟩
  unfold runIni at Af
  split at Af
  · cases ex : exs c fn.body (start fn (.ins k [] :: ds)) s0 with
    | nx ρ s1 =>
      rw [ex] at Af
      intro σ m1 G1 H1 h1 h2 a
      simp only at Af
      cases e0 : at' ρ 0 with
      | none => rw [e0] at Af; exact False.elim Af
      | some d =>
        rw [e0] at Af
        obtain ⟨z1, z2⟩ := a.fx x rfl
        obtain ⟨y, o, y1, y2, y3, y4, y5⟩ := a.q.ow 0 d (at'_some e0) z2
        rw [z1] at y1; cases y1
        exact Af m1 G1 H1 a.t a.w o y2 y3 y4 y5
    | rt d s1 => rw [ex] at Af; exact False.elim Af
    | ex k ds ρ s1 =>
      rw [ex] at Af
      exact fun m1 G1 H1 dd t w' x => Af m1 G1 H1 dd t w' x
    | st => rw [ex] at Af; exact Af
  · exact False.elim Af
end
end MP

end
section
set_option Elab.async false
set_option linter.all false
set_option maxRecDepth 100000
set_option maxHeartbeats 1000000
/-! A whole text: its defs as small syntax, the facts of its written part, and what follows. -/
namespace MP
open PySem PySem.Spec PyProof.Rows L2

def cn : Cl → Str
  | .book => "Book"
  | .ring => "Ring"
  | .round => "Round"
  | .desk => "Desk"
  | .err _ => "CountError"
/-- one def of a text: its small syntax, its place in the text -/
structure Dd where
  f : F
  nm : Str
  fn : Fn
  d : He.DefD
structure Tx where
  cls : List Cl
  defs : List Dd
  con : List (Str × D)
def propP (K : PySem.W.Frag) (C : Addr) (x : Str) : Addr := match PySem.W.findIn K (.ref C) x with
  | some (some (.ref p)) => p
  | _ => 0
def propG (K : PySem.W.Frag) (C : Addr) (x : Str) : Addr := match PySem.W.recIn K (propP K C x) "property" with
  | some (.ref g :: _) => g
  | _ => 0
def adOf (K : PySem.W.Frag) (f : F) (nm : Str) : Addr := match f with
  | .ini k => He.ma K (He.ga K (cn k)) "__init__"
  | .eq k => He.ma K (He.ga K (cn k)) "__eq__"
  | .len k => He.ma K (He.ga K (cn k)) "__len__"
  | .me k _ => He.ma K (He.ga K (cn k)) nm
  | .pr k _ => propG K (He.ga K (cn k)) nm
  | _ => He.ga K nm
def Dd.ad (K : PySem.W.Frag) (d : Dd) : Addr := adOf K d.f d.nm
def Tx.find (t : Tx) (f : F) : Option Dd := t.defs.find? fun d => decide (d.f = f)
def Tx.has (t : Tx) (k : Cl) : Bool := t.cls.any fun k' => decide (k' = k)
def isGl : F → Bool
  | .mix => true
  | .next => true
  | .p _ => true
  | .law _ => true
  | _ => false
def Tx.ck (t : Tx) : Ck where
  fn := fun f => if isGl f then (t.find f).map fun d => (d.nm, d.fn.pars, d.fn.fresh) else none
  cl := fun k => if t.has k then (t.find (.ini k)).map fun d => (cn k, d.fn.pars - 1) else none
  con := fun x => t.con.lookup x
  pr := fun k i => if t.has k then (t.find (.pr k i)).map (·.nm) else none
  leno := fun k => t.has k && (t.find (.len k)).isSome
  eqo := fun k => t.has k && (t.find (.eq k)).isSome
def Tx.T (t : Tx) (f : F) : Option Fn := (t.find f).map (·.fn)
def Tx.lay (t : Tx) (K : PySem.W.Frag) : Lay where
  K := K
  cls := fun k => He.ga K (cn k)
  fad := fun f => match t.find f with
    | some d => d.ad K
    | none => 0
  has := t.has

/-! ### facts of the written part -/
def clB (K : PySem.W.Frag) (k : Cl) : Bool := (He.Fa.glo (cn k)).ok K && (He.Fa.cls (cn k)).ok K && He.eqO (PySem.W.findIn K (.ref (He.ga K (cn k))) "__class__") (some (some (.builtin "object.__class__"))) &&
  He.eqO (PySem.W.specialIn K (.builtin "object.__class__") "__get__") (some (some (.builtin "getset_descriptor.__get__"))) && decide (PySem.W.takesIn K (.builtin "object.__class__") = some true) && decide (PySem.W.mroIn K (He.ga K (cn k)) (.type "object") = some true) &&
  (["NoneType", "bool", "int", "str", "list", "tuple", "dict"].all fun T => decide (PySem.W.kitOne K (.type T) (.ref (He.ga K (cn k))) = some false)) && (["bool", "int", "str", "list", "tuple"].all fun T => decide (PySem.W.kitOne K (.ref (He.ga K (cn k))) (.type T) = some false)) &&
  (fields k).all fun f => (He.Fa.noat (cn k) f).ok K
def dB (K : PySem.W.Frag) (d : Dd) : Bool := PySem.W.keepIn K (.ref (d.ad K)) && (match K.lookup (d.ad K) with
  | some ⟨_, _, .func fd, _⟩ => PySem.W.codeIn K fd.code d.d.qual
  | _ => false) && match d.f with
  | .ini k => (He.Fa.mkr (cn k)).ok K
  | .eq k => He.eqO (PySem.W.findIn K (.ref (He.ga K (cn k))) "__eq__") (some (some (.ref (d.ad K)))) && PySem.W.isFn K (.ref (d.ad K)) && decide (PySem.W.subIn K (.type "tuple") (.ref (He.ga K (cn k))) = some false)
  | .len k => He.eqO (PySem.W.findIn K (.ref (He.ga K (cn k))) "__len__") (some (some (.ref (d.ad K)))) && PySem.W.isFn K (.ref (d.ad K))
  | .pr k _ => He.eqO (PySem.W.findIn K (.ref (He.ga K (cn k))) d.nm) (some (some (.ref (propP K (He.ga K (cn k)) d.nm)))) && He.eqO (PySem.W.specialIn K (.ref (propP K (He.ga K (cn k)) d.nm)) "__get__") (some (some (.builtin "property.__get__"))) &&
      decide (PySem.W.takesIn K (.ref (propP K (He.ga K (cn k)) d.nm)) = some true) && (match PySem.W.recIn K (propP K (He.ga K (cn k)) d.nm) "property" with
        | some (.ref _ :: _) => true
        | _ => false)
  | .me _ _ => true
  | _ => (He.Fa.glo d.nm).ok K
def conB (K : PySem.W.Frag) (p : Str × D) : Bool := match p.2 with
  | .int i => (He.Fa.int p.1 i).ok K
  | .str z => (He.Fa.str p.1 z).ok K
  | _ => true
def Tx.facts (t : Tx) (K : PySem.W.Frag) : Bool := (bnames.all fun x => (He.Fa.free x).ok K) && t.cls.all (clB K) && (t.cls.all fun k => t.cls.all fun k' => decide (PySem.W.kitOne K (.ref (He.ga K (cn k))) (.ref (He.ga K (cn k'))) = some (decide (k = k')))) &&
  t.defs.all (dB K) && t.con.all (conB K)
def fnAt (K : PySem.W.Frag) (a : Addr) : He.FnV := match K.lookup a with
  | some ⟨_, _, .func fd, _⟩ => some (fd.name, fd.qualname, fd.params, fd.body, fd.scope, fd.globals, fd.closure, fd.defaults, fd.builtins)
  | _ => none
def Dd.val (d : Dd) : He.FnV := some (d.d.name, d.d.qual, d.d.params, .stmts d.d.body, d.d.scope, mainGlobals, [], .none, builtinsNs)
def Tx.obs (t : Tx) (K : PySem.W.Frag) : He.Al := (t.facts K, t.defs.map fun d => fnAt K (d.ad K))
def Tx.val (t : Tx) : He.Al := (true, t.defs.map Dd.val)
def Tx.obsG (t : Tx) (n : Nat) (g : Addr → Option Obj) : He.Al := t.obs (He.frG g (He.asG g n))
def Tx.hook (t : Tx) (n : Nat) : PySem.W.Hook where
  α := He.Al
  obs := fun s => t.obsG n s.heap.get?
  val := fun _ => t.val
  says := fun _ h => ∃ K : PySem.W.Frag, K.In h ∧ t.obs K = t.val
  of := fun _ _ e => ⟨_, He.frG_in, e⟩
  keeps := fun _ _ _ ⟨K, hK, c⟩ k => ⟨K, PySem.W.Frag.In.keeps hK k, c⟩
theorem Tx.obsG_eq {t : Tx} {n : Nat} {g : Addr → Option Obj} {s : Shared} (h : ∀ a, g a = s.heap.get? a) : t.obsG n g = (t.hook n).obs s := by
  have e : g = s.heap.get? := funext h
  rw [e] <;> rfl
/-! ### every def checked -/
def isPrim : F → Bool
  | .mix => true
  | .next => true
  | _ => false
def Dd.ok (ck : Ck) (t : Tx) (d : Dd) : Bool := match d.f with
  | .mix => okDef d.fn d.d && decide (d.fn.pars = 2) && !d.fn.fresh
  | .next => okDef d.fn d.d && decide (d.fn.pars = 2) && !d.fn.fresh
  | .ini k => okIni ck d.fn d.d && t.has k
  | .pr _ _ => okFn ck d.fn d.d && decide (d.fn.pars = 1) && !d.fn.fresh
  | .len _ => okFn ck d.fn d.d && decide (d.fn.pars = 1) && !d.fn.fresh
  | .eq _ => okFn ck d.fn d.d && decide (d.fn.pars = 2) && !d.fn.fresh
  | _ => okFn ck d.fn d.d
def Tx.ok (t : Tx) : Bool := t.defs.all (Dd.ok t.ck t)

section
variable {t : Tx} {K : PySem.W.Frag} {P : Program} {w : World} {mg : Str → Option Value} {base h : Heap}
theorem find_mem {f : F} {d : Dd} (e : t.find f = some d) : d ∈ t.defs ∧ d.f = f := by
  unfold Tx.find at e
  have h := List.find?_some e
  exact ⟨List.mem_of_find?_eq_some e, of_decide_eq_true h⟩
theorem fad_of {f : F} {d : Dd} (e : t.find f = some d) : (t.lay K).fad f = d.ad K := by
  show (match t.find f with
    | some d => d.ad K
    | none => 0) = _
  rw [e]
structure Say (t : Tx) (K : PySem.W.Frag) : Prop where
  o : t.obs K = t.val
theorem Say.facts (s : Say t K) : t.facts K = true := congrArg (fun z : He.Al => z.1) s.o
theorem Say.dB (s : Say t K) {d : Dd} (h : d ∈ t.defs) : dB K d = true := by
  have := s.facts
  unfold Tx.facts at this
  simp only [Bool.and_eq_true, List.all_eq_true] at this
  exact this.1.2 d h
theorem map_at {α β : Type} {f g : α → β} : ∀ {l : List α}, l.map f = l.map g → ∀ x ∈ l, f x = g x
  | [], _, x, h => by cases h
  | y :: l, e, x, h => by
    simp only [List.map_cons, List.cons.injEq] at e
    rcases List.mem_cons.mp h with rfl | h
    · exact e.1
    · exact map_at e.2 x h
theorem Say.fun_ (s : Say t K) {d : Dd} (h : d ∈ t.defs) (hz : okDef d.fn d.d = true) : ∃ fd, FunD K d.d.name d.d.qual d.d.params d.d.body d.d.scope (d.d.dvs K) (d.d.kws K) (d.ad K) fd := by
  have e : fnAt K (d.ad K) = d.val := map_at (congrArg (fun z : He.Al => z.2) s.o) d h
  have c := s.dB h
  unfold MP.dB at c
  simp only [Bool.and_eq_true] at c
  obtain ⟨⟨kp, c2⟩, _⟩ := c
  unfold okDef at hz
  simp only [Bool.and_eq_true, List.isEmpty_iff] at hz
  have hd : d.d.dvs K = [] := by rw [He.DefD.dvs, hz.1.2]; rfl
  have hk : d.d.kws K = [] := by rw [He.DefD.kws, hz.2]; rfl
  rw [hd, hk]
  unfold fnAt Dd.val at e
  cases q : K.lookup (d.ad K) with
  | none =>
    rw [q] at c2
    cases c2
  | some o =>
    obtain ⟨oc, od, dt, osl⟩ := o
    rw [q] at c2 e
    cases dt with
    | func fd =>
      obtain ⟨n1, n2, n3, n4, n5, n6, n7, n8, n9, n10, n11, n12, n13, n14, n15⟩ := fd
      simp only [Option.some.injEq, Prod.mk.injEq] at e
      obtain ⟨h1, h2, h3, h4, h5, h6, h7, h8, h9⟩ := e
      subst h1 h2 h3 h4 h5 h6 h7 h8 h9
      exact ⟨_, ⟨oc, od, _, n9, n10, n11, n12, n13, n14, osl, rfl, q, c2, .inl ⟨rfl, rfl⟩, .inl rfl⟩, kp⟩
    | _ => cases c2
theorem Dd.okd {ck : Ck} {d : Dd} (h : d.ok ck t = true) : okDef d.fn d.d = true := by
  unfold Dd.ok at h
  split at h <;> simp only [Bool.and_eq_true, okFn, okIni] at h <;> first | exact h.1.1 | exact h.1 | exact h.1.1.1 | exact h.1.1.1.1
/-- the draws' two defs -/
structure Prim (t : Tx) (K : PySem.W.Frag) (P : Program) (w : World) (mg : Str → Option Value) (base : Heap) : Prop where
  mix : ∀ d fd, t.find .mix = some d → FunD K d.d.name d.d.qual d.d.params d.d.body d.d.scope (d.d.dvs K) (d.d.kws K) (d.ad K) fd → FnOk P w K mg base (CX P w) 2 (d.ad K) fd (d.fn.names.take d.fn.pars) (spF (t.lay K) 2 false primMix)
  next : ∀ d fd, t.find .next = some d → FunD K d.d.name d.d.qual d.d.params d.d.body d.d.scope (d.d.dvs K) (d.d.kws K) (d.ad K) fd → FnOk P w K mg base (CX P w) 2 (d.ad K) fd (d.fn.names.take d.fn.pars) (spF (t.lay K) 2 false primNext)
theorem fn_zero {L : Lay} {f : Addr} {fd : FuncData} {ps : List Str} {np : Nat} {fr : Bool} : FnOk P w L.K mg base (CX P w) 0 f fd ps (spF L np fr fun _ _ => .st) := by
  refine ⟨fun vs H Q E h => ?_, fun A outer s H args us vs Q E _ _ _ _ h => ?_⟩
  · obtain ⟨_, ds, s, m, G, _, _, A⟩ := h; exact False.elim A
  · obtain ⟨_, ds, s, m, G, _, _, A⟩ := h; exact False.elim A
theorem ini_zero {L : Lay} {f : Addr} {fd : FuncData} {ps : List Str} {np : Nat} {k : Cl} : FnOk P w L.K mg base (CX P w) 0 f fd ps (spI L np k fun _ _ => .st) := by
  refine ⟨fun vs H Q E h => ?_, fun A outer s H args us vs Q E _ _ _ _ h => ?_⟩
  · obtain ⟨x, dx, us, _, _, _, _, _, ds, s, m, G, _, _, _, _, A⟩ := h; exact False.elim A
  · obtain ⟨x, dx, us, _, _, _, _, _, ds, s, m, G, _, _, _, _, A⟩ := h; exact False.elim A
theorem Say.cl (s : Say t K) {k : Cl} (h : t.has k = true) : clB K k = true := by
  have := s.facts
  unfold Tx.facts at this
  simp only [Bool.and_eq_true, List.all_eq_true] at this
  unfold Tx.has at h
  obtain ⟨k', h1, h2⟩ := List.any_eq_true.mp h
  have e := of_decide_eq_true h2
  subst e
  exact this.1.1.1.2 k' h1
theorem has_mem {k : Cl} (h : t.has k = true) : k ∈ t.cls := by
  unfold Tx.has at h
  obtain ⟨k', h1, h2⟩ := List.any_eq_true.mp h
  have e := of_decide_eq_true h2
  subst e
  exact h1
/-- one def at one more fuel -/
theorem step_fn {n N : Nat} (X : Say t K) (ok : t.ok = true) (pr : Prim t K P w mg base) (S : Stat t.ck (t.lay K) ⟨callN t.T N n, N⟩ n P w mg base) {f : F} {d : Dd} (e : t.find f = some d) (hi : ∀ k, f ≠ .ini k) :
    (∃ fd ps, FnOk P w K mg base (CX P w) (2 * (n + 1)) (d.ad K) fd ps (spF (t.lay K) d.fn.pars d.fn.fresh (callN t.T N (n + 1) f)) ∧ Binds K fd ps []) ∧ ∀ ds s, ds.length ≠ d.fn.pars → callN t.T N (n + 1) f ds s = .st := by
  obtain ⟨hm, hf⟩ := find_mem e
  unfold Tx.ok at ok
  have hok := List.all_eq_true.mp ok d hm
  have hz := Dd.okd hok
  obtain ⟨fd, F⟩ := X.fun_ hm hz
  have bd := (binds_of (L := t.lay K) (fn := d.fn) F hz).1
  have eT : t.T f = some d.fn := by unfold Tx.T; rw [e]; rfl
  have gen : okFn t.ck d.fn d.d = true → callN t.T N (n + 1) f = runFn ⟨callN t.T N n, N⟩ d.fn → (∃ fd ps, FnOk P w K mg base (CX P w) (2 * (n + 1)) (d.ad K) fd ps (spF (t.lay K) d.fn.pars d.fn.fresh (callN t.T N (n + 1) f)) ∧ Binds K fd ps []) ∧ ∀ ds s, ds.length ≠ d.fn.pars → callN t.T N (n + 1) f ds s = .st := fun h1 h2 => by
    rw [h2]
    refine ⟨⟨fd, _, fn_ok (L := t.lay K) S F h1⟩, fun ds s hl => ?_⟩
    unfold runFn
    rw [if_neg hl]
  have prm : ∀ φ : List D → Sto → Rs D, callN t.T N (n + 1) f = φ → d.fn.pars = 2 → d.fn.fresh = false → (∀ ds s, ds.length ≠ 2 → φ ds s = .st) → FnOk P w K mg base (CX P w) 2 (d.ad K) fd (d.fn.names.take d.fn.pars) (spF (t.lay K) 2 false φ) →
      (∃ fd ps, FnOk P w K mg base (CX P w) (2 * (n + 1)) (d.ad K) fd ps (spF (t.lay K) d.fn.pars d.fn.fresh (callN t.T N (n + 1) f)) ∧ Binds K fd ps []) ∧ ∀ ds s, ds.length ≠ d.fn.pars → callN t.T N (n + 1) f ds s = .st := fun φ h1 h2 h3 h4 h5 => by
    rw [h1, h3]
    refine ⟨⟨fd, _, ?_, bd⟩, fun ds s hl => h4 ds s (by rw [← h2]; exact hl)⟩
    rw [show spF (t.lay K) d.fn.pars false φ = spF (t.lay K) 2 false φ by rw [h2]]
    exact h5.mono (by omega)
  unfold Dd.ok at hok
  rw [hf] at hok
  cases f with
  | mix =>
    simp only [Bool.and_eq_true, decide_eq_true_eq, Bool.not_eq_true'] at hok
    refine prm primMix (by funext ds s; rfl) hok.1.2 hok.2 (fun ds s hl => ?_) (pr.mix d fd e F)
    unfold primMix
    split
    · exact absurd rfl hl
    · rfl
  | next =>
    simp only [Bool.and_eq_true, decide_eq_true_eq, Bool.not_eq_true'] at hok
    refine prm primNext (by funext ds s; rfl) hok.1.2 hok.2 (fun ds s hl => ?_) (pr.next d fd e F)
    unfold primNext
    split
    · exact absurd rfl hl
    · rfl
  | ini k => exact absurd rfl (hi k)
  | p i => exact gen hok (by funext ds s; show (match t.T _ with | some fn => runFn ⟨callN t.T N n, N⟩ fn ds s | none => .st) = _; rw [eT])
  | law i => exact gen hok (by funext ds s; show (match t.T _ with | some fn => runFn ⟨callN t.T N n, N⟩ fn ds s | none => .st) = _; rw [eT])
  | eq k =>
    simp only [Bool.and_eq_true] at hok
    exact gen hok.1.1 (by funext ds s; show (match t.T _ with | some fn => runFn ⟨callN t.T N n, N⟩ fn ds s | none => .st) = _; rw [eT])
  | len k =>
    simp only [Bool.and_eq_true] at hok
    exact gen hok.1.1 (by funext ds s; show (match t.T _ with | some fn => runFn ⟨callN t.T N n, N⟩ fn ds s | none => .st) = _; rw [eT])
  | pr k i =>
    simp only [Bool.and_eq_true] at hok
    exact gen hok.1.1 (by funext ds s; show (match t.T _ with | some fn => runFn ⟨callN t.T N n, N⟩ fn ds s | none => .st) = _; rw [eT])
  | me k i => exact gen hok (by funext ds s; show (match t.T _ with | some fn => runFn ⟨callN t.T N n, N⟩ fn ds s | none => .st) = _; rw [eT])
theorem Dd.pars {ck : Ck} {f : F} {d : Dd} (h : d.ok ck t = true) (e : d.f = f) : match f with
    | .pr _ _ => d.fn.pars = 1 ∧ d.fn.fresh = false
    | .len _ => d.fn.pars = 1 ∧ d.fn.fresh = false
    | .eq _ => d.fn.pars = 2 ∧ d.fn.fresh = false
    | .ini _ => 0 < d.fn.pars
    | _ => True := by
  unfold Dd.ok at h
  rw [e] at h
  cases f <;> simp only [Bool.and_eq_true, decide_eq_true_eq, Bool.not_eq_true', okIni] at h ⊢ <;> first | exact ⟨h.1.2, h.2⟩ | exact h.1.1.2 | trivial
theorem stat_of {c : Cfg} {n : Nat} (X : Say t K) (KX : K.In h) (G : h.Ns mainGlobals mg) (ok : t.ok = true)
    (hf : ∀ f d, t.find f = some d → (∀ k, f ≠ .ini k) → (∃ fd ps, FnOk P w K mg base (CX P w) (2 * n) (d.ad K) fd ps (spF (t.lay K) d.fn.pars d.fn.fresh (c.call f)) ∧ Binds K fd ps []) ∧ ∀ ds s, ds.length ≠ d.fn.pars → c.call f ds s = .st)
    (hi : ∀ k d, t.find (.ini k) = some d → t.has k = true → (∃ fd ps, FnOk P w K mg base (CX P w) (2 * n) (d.ad K) fd ps (spI (t.lay K) (d.fn.pars - 1) k (c.call (.ini k))) ∧ Binds K fd ps []) ∧ ∀ ds s, ds.length ≠ d.fn.pars - 1 → c.call (.ini k) ds s = .st) :
    Stat t.ck (t.lay K) c n P w mg base := by
  have dok : ∀ {f d}, t.find f = some d → d ∈ t.defs ∧ d.f = f ∧ d.ok t.ck t = true := fun {f d} e => by
    obtain ⟨hm, hf⟩ := find_mem e
    unfold Tx.ok at ok
    exact ⟨hm, hf, List.all_eq_true.mp ok d hm⟩
  have fc := X.facts
  unfold Tx.facts at fc
  simp only [Bool.and_eq_true, List.all_eq_true] at fc
  obtain ⟨⟨⟨⟨fb, fcl⟩, fkk⟩, fd_⟩, fco⟩ := fc
  refine ⟨fun k hk => ?_, fun k k' hk hk' => ?_, fun x hx => ?_, fun f nm np fr e => ?_, fun k nm np e => ?_, fun k i nm e => ?_, fun k e => ?_, fun k e => ?_, fun x d e => ?_, fun k f hf' hk => ?_⟩
  · have := X.cl hk
    unfold clB at this
    simp only [Bool.and_eq_true, List.all_eq_true, decide_eq_true_eq] at this
    obtain ⟨⟨⟨⟨⟨⟨⟨⟨_, c1⟩, c2⟩, c3⟩, c4⟩, c5⟩, c6⟩, c7⟩, c8⟩ := this
    exact ⟨He.cls_ok c1, He.eqO_ok c2, He.eqO_ok c3, c4, c5, c6, c7⟩
  · exact of_decide_eq_true (fkk k (has_mem hk) k' (has_mem hk'))
  · exact He.free_ok KX G (fb x hx)
  · have e' : (if isGl f then (t.find f).map fun d => (d.nm, d.fn.pars, d.fn.fresh) else none) = some (nm, np, fr) := e
    split at e'
    · rename_i hg
      cases ef : t.find f with
      | none => rw [ef] at e'; cases e'
      | some d =>
        rw [ef] at e'
        cases e'
        obtain ⟨hm, hdf, hok⟩ := dok ef
        have hni : ∀ k, f ≠ .ini k := fun k z => by subst z; cases hg
        obtain ⟨h1, h2⟩ := hf f d ef hni
        have hd := fd_ d hm
        have glo : (He.Fa.glo d.nm).ok K = true ∧ PySem.W.keepIn K (.ref (d.ad K)) = true := by
          unfold MP.dB at hd
          simp only [Bool.and_eq_true] at hd
          refine ⟨?_, hd.1.1⟩
          have := hd.2
          rw [hdf] at this
          cases f <;> first | exact this | cases hg
        have ead : d.ad K = He.ga K d.nm := by
          unfold Dd.ad adOf
          rw [hdf]
          cases f <;> first | rfl | cases hg
        rw [fad_of ef]
        exact ⟨h1, by rw [ead]; exact He.glo_ok KX G glo.1, glo.2, h2⟩
    · cases e'
  · have e' : (if t.has k then (t.find (.ini k)).map fun d => (cn k, d.fn.pars - 1) else none) = some (nm, np) := e
    split at e'
    · rename_i hk
      cases ef : t.find (.ini k) with
      | none => rw [ef] at e'; cases e'
      | some d =>
        rw [ef] at e'
        cases e'
        obtain ⟨hm, hdf, hok⟩ := dok ef
        obtain ⟨h1, h2⟩ := hi k d ef hk
        have hd := fd_ d hm
        unfold MP.dB at hd
        simp only [Bool.and_eq_true] at hd
        have hmk := hd.2
        rw [hdf] at hmk
        have ead : d.ad K = He.ma K (He.ga K (cn k)) "__init__" := by
          unfold Dd.ad adOf
          rw [hdf]
        have hcl := X.cl hk
        unfold clB at hcl
        simp only [Bool.and_eq_true] at hcl
        rw [fad_of ef]
        refine ⟨hk, He.glo_ok KX G hcl.1.1.1.1.1.1.1.1, h1, ?_, h2⟩
        rw [ead]
        exact He.mkr_ok hmk
    · cases e'
  · have e' : (if t.has k then (t.find (.pr k i)).map (·.nm) else none) = some nm := e
    split at e'
    · cases ef : t.find (.pr k i) with
      | none => rw [ef] at e'; cases e'
      | some d =>
        rw [ef] at e'
        cases e'
        obtain ⟨hm, hdf, hok⟩ := dok ef
        obtain ⟨p1, p2⟩ := Dd.pars hok hdf
        obtain ⟨h1, h2⟩ := hf _ d ef (fun k z => by cases z)
        rw [p1, p2] at h1
        have hd := fd_ d hm
        unfold MP.dB at hd
        simp only [Bool.and_eq_true] at hd
        have hp := hd.2
        rw [hdf] at hp
        simp only [Bool.and_eq_true, decide_eq_true_eq] at hp
        obtain ⟨⟨⟨q1, q2⟩, q3⟩, q4⟩ := hp
        have ead : d.ad K = propG K (He.ga K (cn k)) d.nm := by
          unfold Dd.ad adOf
          rw [hdf]
        rw [fad_of ef]
        refine ⟨h1, _, He.eqO_ok q1, He.eqO_ok q2, q3, ?_⟩
        rw [ead]
        split at q4
        · rename_i g rest eq
          have eg : propG K (He.ga K (cn k)) d.nm = g := by unfold propG; rw [eq]
          rw [eg]
          exact ⟨rest, eq⟩
        · cases q4
    · cases e'
  · have e' : (t.has k && (t.find (.len k)).isSome) = true := e
    rw [Bool.and_eq_true] at e'
    obtain ⟨d, ef⟩ := Option.isSome_iff_exists.mp e'.2
    obtain ⟨hm, hdf, hok⟩ := dok ef
    obtain ⟨p1, p2⟩ := Dd.pars hok hdf
    obtain ⟨h1, h2⟩ := hf _ d ef (fun k z => by cases z)
    rw [p1, p2] at h1
    have hd := fd_ d hm
    unfold MP.dB at hd
    simp only [Bool.and_eq_true] at hd
    have hp := hd.2
    rw [hdf] at hp
    simp only [Bool.and_eq_true] at hp
    rw [fad_of ef]
    exact ⟨h1, He.eqO_ok hp.1, hp.2⟩
  · have e' : (t.has k && (t.find (.eq k)).isSome) = true := e
    rw [Bool.and_eq_true] at e'
    obtain ⟨d, ef⟩ := Option.isSome_iff_exists.mp e'.2
    obtain ⟨hm, hdf, hok⟩ := dok ef
    obtain ⟨p1, p2⟩ := Dd.pars hok hdf
    obtain ⟨h1, h2⟩ := hf _ d ef (fun k z => by cases z)
    rw [p1, p2] at h1
    have hd := fd_ d hm
    unfold MP.dB at hd
    simp only [Bool.and_eq_true] at hd
    have hp := hd.2
    rw [hdf] at hp
    simp only [Bool.and_eq_true, decide_eq_true_eq] at hp
    rw [fad_of ef]
    exact ⟨h1, He.eqO_ok hp.1.1, hp.1.2, hp.2⟩
  · have hm : (x, d) ∈ t.con := by
      have e' : t.con.lookup x = some d := e
      clear fco
      generalize t.con = l at e'
      induction l with
      | nil => cases e'
      | cons p l ih =>
        obtain ⟨y, d'⟩ := p
        rw [List.lookup_cons] at e'
        split at e'
        · rename_i hq
          cases e'
          rw [eq_of_beq hq]
          exact List.mem_cons_self ..
        · exact List.mem_cons_of_mem _ (ih e')
    have := fco _ hm
    unfold conB at this
    cases d <;> first | trivial | exact He.int_ok KX G this | exact He.str_ok KX G this
  · have hcl := X.cl hk
    unfold clB at hcl
    simp only [Bool.and_eq_true, List.all_eq_true] at hcl
    exact He.noat_ok (hcl.2 f hf')
theorem stat_all {N : Nat} (X : Say t K) (KX : K.In h) (G : h.Ns mainGlobals mg) (ok : t.ok = true) (pr : Prim t K P w mg base) : ∀ n, Stat t.ck (t.lay K) ⟨callN t.T N n, N⟩ n P w mg base
  | 0 => by
    have bd : ∀ f d, t.find f = some d → ∃ fd ps, Binds K fd ps [] ∧ True := fun f d e => by
      obtain ⟨hm, _⟩ := find_mem e
      have hz := Dd.okd (List.all_eq_true.mp ok d hm)
      obtain ⟨fd, F⟩ := X.fun_ hm hz
      exact ⟨fd, _, (binds_of (L := t.lay K) (fn := d.fn) F hz).1, trivial⟩
    refine stat_of X KX G ok (fun f d e hni => ?_) (fun k d e hk => ?_)
    · obtain ⟨fd, ps, hb, _⟩ := bd f d e
      exact ⟨⟨fd, ps, fn_zero (L := t.lay K), hb⟩, fun ds s _ => rfl⟩
    · obtain ⟨fd, ps, hb, _⟩ := bd _ d e
      exact ⟨⟨fd, ps, ini_zero (L := t.lay K), hb⟩, fun ds s _ => rfl⟩
  | n + 1 => by
    have S := stat_all (N := N) X KX G ok pr n
    refine stat_of X KX G ok (fun f d e hni => step_fn X ok pr S e hni) (fun k d e hk => ?_)
    obtain ⟨hm, hf⟩ := find_mem e
    have hok := List.all_eq_true.mp ok d hm
    have hz := Dd.okd hok
    obtain ⟨fd, F⟩ := X.fun_ hm hz
    have eT : t.T (.ini k) = some d.fn := by unfold Tx.T; rw [e]; rfl
    have hp := Dd.pars hok hf
    have ec : callN t.T N (n + 1) (.ini k) = runIni ⟨callN t.T N n, N⟩ k d.fn := by
      funext ds s
      show (match t.T (.ini k) with | some fn => runIni ⟨callN t.T N n, N⟩ k fn ds s | none => .st) = _
      rw [eT]
    unfold Dd.ok at hok
    rw [hf] at hok
    simp only [Bool.and_eq_true] at hok
    have h0 : 0 < d.fn.pars := hp
    show (∃ fd ps, FnOk P w K mg base (CX P w) (2 * (n + 1)) (d.ad K) fd ps (spI (t.lay K) (d.fn.pars - 1) k (callN t.T N (n + 1) (.ini k))) ∧ Binds K fd ps []) ∧ ∀ ds s, ds.length ≠ d.fn.pars - 1 → callN t.T N (n + 1) (.ini k) ds s = .st
    rw [ec]
    refine ⟨⟨fd, _, ini_ok (L := t.lay K) S hk F hok.1⟩, fun ds s hl => ?_⟩
    unfold runIni
    rw [if_neg (by omega)]
end
end MP

end
section
set_option Elab.async false
set_option linter.all false
set_option maxRecDepth 100000
set_option maxHeartbeats 2000000
/-! The draws' two defs. -/
namespace MP
open PySem PySem.Spec PyProof.Rows L2

def mixBody (p : Nat → Pos) : List Stmt := [ (Stmt.Assign ([(Expr.Name "_law_state" (p 0))]) ((Expr.Name "_law_seed" (p 1))) ((p 2))), (Stmt.For ((Expr.Name "_law_cell" (p 3))) ((Expr.Name "_law_script" (p 4))) ([ (Stmt.Assign ([(Expr.Name "_law_state" (p 5))]) ((Expr.BinOp ((Expr.Call ((Expr.Name "int" (p 6))) ([ (Expr.BinOp ((Expr.BinOp ((Expr.BinOp ((Expr.Name "_law_state" (p 7))) (Operator.Mult) ((Expr.Constant (Const.int 48271) 0 (p 8))) ((p 9)))) (Operator.Add) ((Expr.BinOp ((Expr.Call ((Expr.Name "int" (p 10))) ([(Expr.Name "_law_cell" (p 11))]) ([]) ((p 12)))) (Operator.Mod) ((Expr.Constant (Const.int 2147483629) 0 (p 13))) ((p 14)))) ((p 15)))) (Operator.Add) ((Expr.Constant (Const.int 1) 0 (p 16))) ((p 17)))]) ([]) ((p 18)))) (Operator.Mod) ((Expr.Constant (Const.int 2147483647) 0 (p 19))) ((p 20)))) ((p 21)))]) ([]) ((p 22))), (Stmt.Return ((some (Expr.List ([ (Expr.Name "_law_state" (p 23)), (Expr.Call ((Expr.Name "list" (p 24))) ([(Expr.Name "_law_script" (p 25))]) ([]) ((p 26))), (Expr.Constant (Const.int 0) 0 (p 27))]) ((p 28))))) ((p 29)))]
def mixScope : Scope := { kind := ScopeKind.function, names := [ (Str.ofString "_law_script", NameKind.local), (Str.ofString "_law_seed", NameKind.local), (Str.ofString "_law_state", NameKind.local), (Str.ofString "_law_cell", NameKind.local), (Str.ofString "int", NameKind.globalImplicit), (Str.ofString "list", NameKind.globalImplicit)], isGenerator := false, isCoroutine := false, more := [] : Scope }
-- 30 places
def nextBody (p : Nat → Pos) : List Stmt := [ (Stmt.Assign ([(Expr.Name "_law_cell" (p 0))]) ((Expr.Subscript ((Expr.BinOp ((Expr.Subscript ((Expr.Name "_law_h" (p 1))) ((Expr.Constant (Const.int 1) 0 (p 2))) ((p 3)))) (Operator.Add) ((Expr.List [(Expr.Constant (Const.int 0) 0 (p 4))] (p 5))) ((p 6)))) ((Expr.BinOp ((Expr.Call ((Expr.Name "int" (p 7))) ([ (Expr.Subscript ((Expr.Name "_law_h" (p 8))) ((Expr.Constant (Const.int 2) 0 (p 9))) ((p 10)))]) ([]) ((p 11)))) (Operator.Mod) ((Expr.Call ((Expr.Name "max" (p 12))) ([ (Expr.Constant (Const.int 1) 0 (p 13)), (Expr.Call ((Expr.Name "len" (p 14))) ([ (Expr.Subscript ((Expr.Name "_law_h" (p 15))) ((Expr.Constant (Const.int 1) 0 (p 16))) ((p 17)))]) ([]) ((p 18)))]) ([]) ((p 19)))) ((p 20)))) ((p 21)))) ((p 22))), (Stmt.If ((Expr.Compare ((Expr.Name "_law_cell" (p 23))) ([CmpOp.GtE]) ([ (Expr.BinOp ((Expr.Constant (Const.int 10) 0 (p 24))) (Operator.Pow) ((Expr.Constant (Const.int 18) 0 (p 25))) ((p 26)))]) ((p 27)))) ([ (Stmt.Assign ([(Expr.Name "_law_cells" (p 28))]) ((Expr.Subscript ((Expr.Name "_law_h" (p 29))) ((Expr.Constant (Const.int 1) 0 (p 30))) ((p 31)))) ((p 32))), (Stmt.Assign ([ (Expr.Subscript ((Expr.Name "_law_cells" (p 33))) ((Expr.BinOp ((Expr.Call ((Expr.Name "int" (p 34))) ([ (Expr.Subscript ((Expr.Name "_law_h" (p 35))) ((Expr.Constant (Const.int 2) 0 (p 36))) ((p 37)))]) ([]) ((p 38)))) (Operator.Mod) ((Expr.Call ((Expr.Name "len" (p 39))) ([(Expr.Name "_law_cells" (p 40))]) ([]) ((p 41)))) ((p 42)))) ((p 43)))]) ((Expr.BinOp ((Expr.Name "_law_cell" (p 44))) (Operator.FloorDiv) ((Expr.Name "_law_bound" (p 45))) ((p 46)))) ((p 47))), (Stmt.Return ((some (Expr.BinOp ((Expr.Call ((Expr.Name "int" (p 48))) ([(Expr.Name "_law_cell" (p 49))]) ([]) ((p 50)))) (Operator.Mod) ((Expr.Name "_law_bound" (p 51))) ((p 52))))) ((p 53)))]) ([]) ((p 54))), (Stmt.Assign ([ (Expr.Subscript ((Expr.Name "_law_h" (p 55))) ((Expr.Constant (Const.int 0) 0 (p 56))) ((p 57)))]) ((Expr.BinOp ((Expr.Call ((Expr.Name "int" (p 58))) ([ (Expr.BinOp ((Expr.BinOp ((Expr.BinOp ((Expr.Subscript ((Expr.Name "_law_h" (p 59))) ((Expr.Constant (Const.int 0) 0 (p 60))) ((p 61)))) (Operator.Mult) ((Expr.Constant (Const.int 48271) 0 (p 62))) ((p 63)))) (Operator.Add) ((Expr.BinOp ((Expr.Name "_law_cell" (p 64))) (Operator.Mult) ((Expr.Constant (Const.int 69621) 0 (p 65))) ((p 66)))) ((p 67)))) (Operator.Add) ((Expr.Constant (Const.int 11) 0 (p 68))) ((p 69)))]) ([]) ((p 70)))) (Operator.Mod) ((Expr.Constant (Const.int 2147483647) 0 (p 71))) ((p 72)))) ((p 73))), (Stmt.Assign ([ (Expr.Subscript ((Expr.Name "_law_h" (p 74))) ((Expr.Constant (Const.int 2) 0 (p 75))) ((p 76)))]) ((Expr.BinOp ((Expr.Subscript ((Expr.Name "_law_h" (p 77))) ((Expr.Constant (Const.int 2) 0 (p 78))) ((p 79)))) (Operator.Add) ((Expr.Constant (Const.int 1) 0 (p 80))) ((p 81)))) ((p 82))), (Stmt.Return ((some (Expr.BinOp ((Expr.Call ((Expr.Name "int" (p 83))) ([ (Expr.BinOp ((Expr.Subscript ((Expr.Name "_law_h" (p 84))) ((Expr.Constant (Const.int 0) 0 (p 85))) ((p 86)))) (Operator.FloorDiv) ((Expr.Constant (Const.int 7) 0 (p 87))) ((p 88)))]) ([]) ((p 89)))) (Operator.Mod) ((Expr.Name "_law_bound" (p 90))) ((p 91))))) ((p 92)))]
def nextScope : Scope := { kind := ScopeKind.function, names := [ (Str.ofString "_law_h", NameKind.local), (Str.ofString "_law_bound", NameKind.local), (Str.ofString "_law_cell", NameKind.local), (Str.ofString "_law_cells", NameKind.local), (Str.ofString "int", NameKind.globalImplicit), (Str.ofString "max", NameKind.globalImplicit), (Str.ofString "len", NameKind.globalImplicit)], isGenerator := false, isCoroutine := false, more := [] : Scope }
-- 93 places
def mixN : List Str := ["_law_script", "_law_seed", "_law_state", "_law_cell"]
def nextN : List Str := ["_law_h", "_law_bound", "_law_cell", "_law_cells"]
theorem mixSc : FnScope mixN ["_law_script", "_law_seed"] mixScope := ⟨rfl, rfl, rfl, by decide +kernel, rfl, by decide +kernel, by decide +kernel⟩
theorem nextSc : FnScope nextN ["_law_h", "_law_bound"] nextScope := ⟨rfl, rfl, rfl, by decide +kernel, rfl, by decide +kernel, by decide +kernel⟩
section
variable {L : Lay} {P : Program} {w : World} {mg : Str → Option Value} {base : Heap} {f : Addr} {fd : FuncData} {x qual : Str} {params : Arguments}
theorem same_upd {H : Hp} {p : Addr} {o : HO} (h : H p = none) : Same H (upd H p o) := fun b x e => by
  rw [upd_ne (ne_of_none e h)]
  exact e
theorem mixSt_take {seed : Int} {ns : List Int} {i : Nat} {x : Int} (h : ns[i]? = some x) : mixSt seed (ns.take (i + 1)) = (mixSt seed (ns.take i) * 48271 + x % 2147483629 + 1) % 2147483647 := by
  have app : ∀ (l : List Int) (s : Int), mixSt s (l ++ [x]) = (mixSt s l * 48271 + x % 2147483629 + 1) % 2147483647 := fun l => by
    induction l with
    | nil => intro s; rfl
    | cons a l ih => intro s; exact ih _
  rw [List.take_add_one, h]
  exact app _ _
theorem hs_snoc {m : List (Addr × Addr)} {a b c : Addr} : c ∈ hs (m ++ [(a, b)]) ↔ c ∈ hs m ∨ c = a ∨ c = b := by
  unfold hs
  simp [List.flatMap_append]
theorem hs_two {m : List (Addr × Addr)} {n : Nat} {a b : Addr} (nd : (hs m).Nodup) (h : m[n]? = some (a, b)) : a ≠ b := by
  induction m generalizing n with
  | nil => simp at h
  | cons p m ih =>
    have e : hs (p :: m) = p.1 :: p.2 :: hs m := rfl
    rw [e] at nd
    have n1 := List.nodup_cons.mp nd
    have n2 := List.nodup_cons.mp n1.2
    cases n with
    | zero =>
      simp at h
      subst h
      exact fun z => n1.1 (by rw [show a = b from z]; exact List.mem_cons_self ..)
    | succ n => exact ih n2.2 (by simpa using h)
theorem hs_apart {m : List (Addr × Addr)} {k n : Nat} {a b c d : Addr} (nd : (hs m).Nodup) (h : m[k]? = some (c, d)) (h' : m[n]? = some (a, b)) (hk : k ≠ n) : c ≠ a ∧ c ≠ b ∧ d ≠ a ∧ d ≠ b := by
  induction m generalizing k n with
  | nil => simp at h
  | cons p m ih =>
    have e : hs (p :: m) = p.1 :: p.2 :: hs m := rfl
    rw [e] at nd
    have n1 := List.nodup_cons.mp nd
    have n2 := List.nodup_cons.mp n1.2
    cases k with
    | zero =>
      cases n with
      | zero => exact absurd rfl hk
      | succ n =>
        simp at h
        obtain ⟨z1, z2⟩ := mem_hs (show m[n]? = some (a, b) by simpa using h')
        subst h
        exact ⟨fun e => n1.1 (by rw [show c = a from e]; exact List.mem_cons_of_mem _ z1), fun e => n1.1 (by rw [show c = b from e]; exact List.mem_cons_of_mem _ z2), fun e => n2.1 (by rw [show d = a from e]; exact z1), fun e => n2.1 (by rw [show d = b from e]; exact z2)⟩
    | succ k =>
      cases n with
      | zero =>
        simp at h'
        obtain ⟨z1, z2⟩ := mem_hs (show m[k]? = some (c, d) by simpa using h)
        subst h'
        exact ⟨fun e => n1.1 (by rw [← show c = a from e]; exact List.mem_cons_of_mem _ z1), fun e => n2.1 (by rw [← show c = b from e]; exact z1), fun e => n1.1 (by rw [← show d = a from e]; exact List.mem_cons_of_mem _ z2), fun e => n2.1 (by rw [← show d = b from e]; exact z2)⟩
      | succ n => exact ih n2.2 (by simpa using h) (by simpa using h') (by omega)
/-- the sources of draws: a new one -/
theorem Wd.born {s : Sto} {m : List (Addr × Addr)} {G H : Hp} {a b : Addr} {st : Int} {cells : List Int} (wd : Wd L s m G H) (ha : H a = none) (hb : H b = none) (ne : a ≠ b) :
    Wd L (s ++ [.dr st cells 0]) (m ++ [(a, b)]) G (upd (upd H b (.lst (cells.map V.int))) a (.lst [.int st, .ref b, .int 0])) ∧ Stp m G H (m ++ [(a, b)]) G (upd (upd H b (.lst (cells.map V.int))) a (.lst [.int st, .ref b, .int 0])) := by
  have nin : ∀ c, c ∈ hs m → c ≠ a ∧ c ≠ b := fun c hc => ⟨fun e => (wd.off c hc).2 (e ▸ ha), fun e => (wd.off c hc).2 (e ▸ hb)⟩
  refine ⟨⟨fun c o h => ?_, by simp [wd.len], fun n st' cells' ix' a' b' h1 h2 => ?_, fun c hc => ?_, ?_⟩, ⟨List.prefix_append _ _, Same.refl _, fun c o h g n => ?_, fun c hc hn => ?_⟩⟩
  · have h' := wd.sub _ _ h
    rw [upd_ne (ne_of_none h' ha), upd_ne (ne_of_none h' hb)]; exact h'
  · by_cases hn : n < s.length
    · rw [List.getElem?_append_left hn] at h1
      rw [List.getElem?_append_left (by rw [wd.len]; exact hn)] at h2
      obtain ⟨e1, e2⟩ := wd.hnd n st' cells' ix' a' b' h1 h2
      rw [upd_ne (ne_of_none e1 ha), upd_ne (ne_of_none e1 hb), upd_ne (ne_of_none e2 ha), upd_ne (ne_of_none e2 hb)]
      exact ⟨e1, e2⟩
    · rw [List.getElem?_append_right (by omega)] at h1
      rw [List.getElem?_append_right (by rw [wd.len]; omega)] at h2
      cases hk : n - s.length with
      | zero =>
        rw [hk] at h1
        rw [wd.len, hk] at h2
        cases h1; cases h2
        rw [upd_same, upd_ne (Ne.symm ne), upd_same]
        exact ⟨rfl, rfl⟩
      | succ k => rw [hk] at h1; cases h1
  · rcases hs_snoc.mp hc with h | rfl | rfl
    · obtain ⟨e1, e2⟩ := wd.off c h
      obtain ⟨n1, n2⟩ := nin c h
      rw [upd_ne n1, upd_ne n2]; exact ⟨e1, e2⟩
    · exact ⟨wd.sub.free ha, by rw [upd_same]; exact fun z => by cases z⟩
    · refine ⟨wd.sub.free hb, ?_⟩
      rw [upd_ne (Ne.symm ne), upd_same]; exact fun z => by cases z
  · have e : hs (m ++ [(a, b)]) = hs m ++ [a, b] := by unfold hs; simp [List.flatMap_append]
    rw [e, List.nodup_append]
    refine ⟨wd.dis, by simp [ne], fun c hc d hd z => ?_⟩
    obtain ⟨n1, n2⟩ := nin c hc
    simp at hd
    rcases hd with rfl | rfl
    · exact n1 z
    · exact n2 z
  · have n1 : c ≠ a := ne_of_none h ha
    have n2 : c ≠ b := ne_of_none h hb
    rw [upd_ne n1, upd_ne n2]; exact ⟨h, g⟩
  · rcases hs_snoc.mp hc with h | rfl | rfl
    · exact absurd h hn
    · exact ha
    · exact hb
theorem pos1 : (0 : Int) < 2147483629 := by decide
theorem pos2 : (0 : Int) < 2147483647 := by decide
theorem pos7 : (0 : Int) < 7 ∧ (7 : Int) < 1073741824 := by decide
theorem ok_mix {p : Nat → Pos} (mi : mg "int" = none) (ml : mg "list" = none) (F : FunD L.K x qual params (mixBody p) mixScope [] [] f fd) : FnOk P w L.K mg base (CX P w) 2 f fd ["_law_script", "_law_seed"] (spF L 2 false primMix) := by
  refine FunD.ok (N := mixN) (k := 1) F mixSc (fun vs H Q E h => h.1) fun cdv A outer s H vs Q E hr hsp => ?_
  obtain ⟨hl, ds, s0, m, G, wd, r, Af⟩ := hsp
  refine ⟨_, pss_cons (ps_set (i := 2) mixSc.nd rfl (.inl rfl) (pv 1)) (pss_cons (ps_for (passes_of rfl) rfl (pi_list (pv 0)) (pg_name (i := 3) mixSc.nd rfl (.inl rfl))
      (pss_one (ps_set (i := 2) mixSc.nd rfl (.inl rfl) (pe_op op_mod (pe_callTy call_int1 rfl mi boot_int (pa_cons (pe_op op_add (pe_op op_add (pe_op op_mul (pv 2) pe_int) (pe_op op_mod (pe_callTy call_int1 rfl mi boot_int (pa_cons (pv 3) pa_nil)) pe_int)) pe_int) pa_nil)) pe_int))))
    (pss_one (ps_ret (pe_lst (pa_cons (pv 2) (pa_cons (pe_callTy call_list_of rfl ml boot_list (pa_cons (pv 0) pa_nil)) (pa_cons pe_int pa_nil))))))), ?_⟩
  unfold primMix at Af
  split at Af
  · rename_i s1 ns seed
    cases r with
    | cons r1 r2 => cases r2 with
      | cons r2 r3 => cases r3 with
        | nil =>
          have e2 := RB.int (H := H) (.rep r2)
          subst e2
          cases r1 with
          | obj _ hc => cases hc
          | @scr a _ hS =>
            have hA : SqL L.K H a (ns.map V.int) := wd.sub.seq hS
            refine ⟨.int seed, rfl, .ref a, rfl, a, rfl, ⟨_, hA⟩, ?_⟩
            refine ⟨fun i k σ H' => H' = H ∧ k = ns.length - i ∧ i ≤ ns.length ∧ ∃ y, σ = [some (.ref a), some (.int seed), some (.int (mixSt seed (ns.take i))), y], ⟨ns.length, rfl, by omega, Nat.zero_le _, none, rfl⟩, ?_⟩
            rintro i k σ H' ⟨rfl, rfl, hle, y, rfl⟩
            by_cases hi : i < ns.length
            · have g1 : (ns.map V.int)[i]? = some (.int ns[i]) := by rw [List.getElem?_map, List.getElem?_eq_getElem hi]; rfl
              refine .inr ⟨⟨_, _, hA, g1⟩, fun σ2 H2 => H2 = H' ∧ ∃ y, σ2 = [some (.ref a), some (.int seed), some (.int (mixSt seed (ns.take (i + 1)))), y], fun σ2 H2 ⟨h1, y, h2⟩ => ⟨ns.length - (i + 1), by omega, h1, rfl, by omega, y, h2⟩, fun v H2 ⟨e1, e2⟩ => ?_⟩
              subst e1
              have ev := Option.some.inj ((e2 _ hA).symm.trans g1)
              subst ev
              refine ⟨.int (mixSt seed (ns.take i)), rfl, _, _, rfl, rfl, .inr (by constructor <;> decide), .int ns[i], rfl, .inl ⟨_, rfl, _, _, rfl, rfl, pos1, _, _, rfl, rfl, _, _, rfl, rfl, .inl ⟨_, rfl, _, _, rfl, rfl, pos2, rfl, some (.int ns[i]), ?_⟩⟩⟩
              rw [mixSt_take (List.getElem?_eq_getElem hi)]
              rfl
            · have ei : i = ns.length := by omega
              subst ei
              rw [List.take_length]
              refine .inl ⟨⟨_, hA, by rw [List.length_map]; exact Nat.le_refl _⟩, ?_⟩
              refine ⟨.int (mixSt seed ns), rfl, .ref a, rfl, a, _, rfl, .inl hA, fun b hb => ⟨by rw [sizeLine_eq]; exact (by decide : (3 : Nat) ≤ 16777216), fun q hq => ?_⟩⟩
              have hq' : H' q = none := by
                by_cases e : q = b
                · rw [e]; exact hb
                · rw [upd_ne e] at hq; exact hq
              have ne : q ≠ b := fun e => by rw [e, upd_same] at hq; cases hq
              obtain ⟨w2, t2⟩ := Wd.born (st := mixSt seed ns) (cells := ns) wd hq' hb ne
              refine Af (m ++ [(q, b)]) G _ t2 w2 (.ref q) (.hnd (b := b) ?_)
              rw [wd.len.symm]
              simp
  · exact False.elim Af
/-- a source's two lists are changed -/
theorem Wd.redraw {s : Sto} {m : List (Addr × Addr)} {G H : Hp} {n : Nat} {a b : Addr} {st st' : Int} {cells cells' : List Int} {ix ix' : Int} (wd : Wd L s m G H) (hs1 : s[n]? = some (.dr st cells ix)) (hm : m[n]? = some (a, b)) :
    Wd L (s.set n (.dr st' cells' ix')) m G (upd (upd H b (.lst (cells'.map V.int))) a (.lst [.int st', .ref b, .int ix'])) ∧ Stp m G H m G (upd (upd H b (.lst (cells'.map V.int))) a (.lst [.int st', .ref b, .int ix'])) := by
  obtain ⟨ia, ib⟩ := mem_hs hm
  have ga := (wd.off a ia).1
  have gb := (wd.off b ib).1
  have dis : ∀ {k c d}, k ≠ n → m[k]? = some (c, d) → c ≠ a ∧ c ≠ b ∧ d ≠ a ∧ d ≠ b := fun {k c d} hk hm2 => hs_apart wd.dis hm2 hm hk
  have ne : a ≠ b := hs_two wd.dis hm
  refine ⟨⟨fun c o h => ?_, by simp [wd.len], fun k st2 cells2 ix2 c d h1 h2 => ?_, fun c hc => ?_, wd.dis⟩, ⟨List.prefix_refl _, Same.refl _, fun c o h g hn => ?_, fun c hc hn => absurd hc hn⟩⟩
  · have n1 : c ≠ a := fun e => by rw [e, ga] at h; cases h
    have n2 : c ≠ b := fun e => by rw [e, gb] at h; cases h
    rw [upd_ne n1, upd_ne n2]; exact wd.sub _ _ h
  · by_cases hk : k = n
    · subst hk
      rw [List.getElem?_set_self (List.getElem?_eq_some_iff.mp hs1).1] at h1
      cases h1
      rw [hm] at h2; cases h2
      rw [upd_same, upd_ne (Ne.symm ne), upd_same]
      exact ⟨rfl, rfl⟩
    · rw [List.getElem?_set_ne (Ne.symm hk)] at h1
      obtain ⟨n1, n2, n3, n4⟩ := dis hk h2
      obtain ⟨e1, e2⟩ := wd.hnd k st2 cells2 ix2 c d h1 h2
      rw [upd_ne n1, upd_ne n2, upd_ne n3, upd_ne n4]; exact ⟨e1, e2⟩
  · obtain ⟨e1, e2⟩ := wd.off c hc
    refine ⟨e1, ?_⟩
    by_cases z1 : c = a
    · subst z1; rw [upd_same]; exact fun z => by cases z
    · rw [upd_ne z1]
      by_cases z2 : c = b
      · subst z2; rw [upd_same]; exact fun z => by cases z
      · rw [upd_ne z2]; exact e2
  · have n1 : c ≠ a := fun e => hn (e ▸ ia)
    have n2 : c ≠ b := fun e => hn (e ▸ ib)
    rw [upd_ne n1, upd_ne n2]; exact ⟨h, g⟩
theorem ok_next {p : Nat → Pos} (mi : mg "int" = none) (ml : mg "len" = none) (mm : mg "max" = none) (F : FunD L.K x qual params (nextBody p) nextScope [] [] f fd) : FnOk P w L.K mg base (CX P w) 2 f fd ["_law_h", "_law_bound"] (spF L 2 false primNext) := by
  refine FunD.ok (N := nextN) (k := 1) F nextSc (fun vs H Q E h => h.1) fun cdv A outer s H vs Q E hr hsp => ?_
  obtain ⟨hl, ds, s0, m, G, wd, r, Af⟩ := hsp
  refine ⟨_, pss_cons (ps_set (i := 2) nextSc.nd rfl (.inl rfl) (pe_ix ix_list (pe_op op_cat (pe_ix ix_list (pv 0) pe_int (fun _ _ => rfl)) (pe_lst (pa_cons pe_int pa_nil)))
        (pe_op op_mod (pe_callTy call_int1 rfl mi boot_int (pa_cons (pe_ix ix_list (pv 0) pe_int (fun _ _ => rfl)) pa_nil)) (pe_callB (call_max2 rfl) rfl mm boot_max (pa_cons pe_int (pa_cons (pe_callB call_len_seq rfl ml boot_len (pa_cons (pe_ix ix_list (pv 0) pe_int (fun _ _ => rfl)) pa_nil)) pa_nil)))) (fun _ _ => rfl)))
    (pss_cons (ps_if (pt_cmpR op_ge (pv 2) (pe_op op_pow pe_int pe_int) (nomark _))
      (pss_cons (ps_set (i := 3) nextSc.nd rfl (.inl rfl) (pe_ix ix_list (pv 0) pe_int (fun _ _ => rfl)))
      (pss_cons (ps_asg (pe_op op_fdivW (pv 2) (pv 1)) (pg_sub (pv 3) (pe_op op_mod (pe_callTy call_int1 rfl mi boot_int (pa_cons (pe_ix ix_list (pv 0) pe_int (fun _ _ => rfl)) pa_nil)) (pe_callB call_len_seq rfl ml boot_len (pa_cons (pv 3) pa_nil))) set_list (fun v => sub_assign rfl v)))
      (pss_one (ps_ret (pe_op op_mod (pe_callTy call_int1 rfl mi boot_int (pa_cons (pv 2) pa_nil)) (pv 1)))))) pss_nil)
    (pss_cons (ps_asg (pe_op op_mod (pe_callTy call_int1 rfl mi boot_int (pa_cons (pe_op op_add (pe_op op_add (pe_op op_mul (pe_ix ix_list (pv 0) pe_int (fun _ _ => rfl)) pe_int) (pe_op op_mul (pv 2) pe_int)) pe_int) pa_nil)) pe_int) (pg_sub (pv 0) pe_int set_list (fun v => sub_assign rfl v)))
    (pss_cons (ps_asg (pe_op op_add (pe_ix ix_list (pv 0) pe_int (fun _ _ => rfl)) pe_int) (pg_sub (pv 0) pe_int set_list (fun v => sub_assign rfl v)))
    (pss_one (ps_ret (pe_op op_mod (pe_callTy call_int1 rfl mi boot_int (pa_cons (pe_op op_fdiv (pe_ix ix_list (pv 0) pe_int (fun _ _ => rfl)) pe_int) pa_nil)) (pv 1))))))), ?_⟩
  unfold primNext at Af
  split at Af
  · rename_i s1 n b
    split at Af
    · rename_i st cells ix hs1
      split at Af
      · rename_i hc
        obtain ⟨hb0, hb1, hix, hcl⟩ := hc
        cases r with
        | cons r1 r2 => cases r2 with
          | cons r2 r3 => cases r3 with
            | nil =>
              have e2 := RB.int (H := H) (.rep r2)
              subst e2
              cases r1 with
              | obj _ hc => cases hc
              | @hnd _ a q hm =>
                obtain ⟨ha, hq⟩ := wd.hnd _ _ _ _ _ _ hs1 hm
                obtain ⟨k, hk⟩ : ∃ k : Int, k = ix % (if (cells.length : Int) > 1 then cells.length else 1) := ⟨_, rfl⟩
                rw [show ((if (cells.length : Int) > 1 then cells.length else 1 : Nat) : Int) = (if (cells.length : Int) > 1 then (cells.length : Int) else 1) by split <;> rfl] at hk
                have hk1 : (0 : Int) < (if (cells.length : Int) > 1 then (cells.length : Int) else 1) := by split <;> omega
                have hk0 : 0 ≤ k := by rw [hk]; exact Int.emod_nonneg _ (by omega)
                have hk2 : k < (cells ++ [(0 : Int)]).length := by
                  have := Int.emod_lt_of_pos ix hk1
                  rw [← hk] at this
                  rw [List.length_append]
                  split at this <;> simp <;> omega
                obtain ⟨c, hc⟩ : ∃ c, (cells ++ [(0 : Int)])[k.toNat]? = some c := ⟨_, List.getElem?_eq_getElem (by omega)⟩
                have hcD : (cells ++ [(0 : Int)]).getD k.toNat 0 = c := by rw [List.getD_eq_getElem?_getD, hc]; rfl
                have ed : drawn st cells ix b = if 1000000000000000000 ≤ c then (c % b, .dr st (cells.set k.toNat (c / b)) ix) else (((st * 48271 + c * 69621 + 11) % 2147483647 / 7) % b, .dr ((st * 48271 + c * 69621 + 11) % 2147483647) cells (ix + 1)) := by
                  unfold drawn
                  rw [show ((if (cells.length : Int) > 1 then cells.length else 1 : Nat) : Int) = (if (cells.length : Int) > 1 then (cells.length : Int) else 1) by split <;> rfl]
                  simp only [← hk, hcD]
                -- the sum of lists
                refine ⟨.ref a, rfl, a, _, 1, .ref q, rfl, rfl, .inl (.inl ha), rfl, ?_⟩
                refine ⟨by rw [sizeLine_eq]; exact (by decide : (1 : Nat) ≤ 16777216), fun p1 hp1 => ?_⟩
                have q1 : q ≠ p1 := ne_of_none hq hp1
                have a1 : a ≠ p1 := ne_of_none ha hp1
                refine ⟨q, p1, _, _, rfl, rfl, by rw [upd_ne q1]; exact hq, upd_same, ?_, fun p2 hp2 => ?_⟩
                · rw [sizeLine_eq, List.length_map]
                  have e1 : ([V.int 0] : List V).length = 1 := rfl
                  rw [e1]; omega
                have hp2' : H p2 = none ∧ p2 ≠ p1 := by
                  have : p2 ≠ p1 := fun e => by rw [e, upd_same] at hp2; cases hp2
                  rw [upd_ne this] at hp2
                  exact ⟨hp2, this⟩
                have q2 : q ≠ p2 := ne_of_none hq hp2'.1
                have a2 : a ≠ p2 := ne_of_none ha hp2'.1
                obtain ⟨H2, eH⟩ : ∃ H2, H2 = upd (upd H p1 (.lst [.int 0])) p2 (.lst (cells.map V.int ++ [.int 0])) := ⟨_, rfl⟩
                have ha2 : H2 a = some (.lst [.int st, .ref q, .int ix]) := by rw [eH, upd_ne a2, upd_ne a1]; exact ha
                have hq2 : H2 q = some (.lst (cells.map V.int)) := by rw [eH, upd_ne q2, upd_ne q1]; exact hq
                have hp3 : H2 p2 = some (.lst (cells.map V.int ++ [.int 0])) := by rw [eH, upd_same]
                have w2 : Wd L s0 m G H2 := by rw [eH]; exact (wd.lay hp1 _).lay hp2 _
                have t2 : Stp m G H m G H2 := by rw [eH]; exact Stp.trans (wd.lay hp1 _) wd (Stp.lay hp1 _) (Stp.lay hp2 _)
                have naq : a ≠ q := hs_two wd.dis hm
                rw [← eH]
                have ek : ix % (if ((cells.map V.int).length : Int) > 1 then ((cells.map V.int).length : Int) else 1) = (k.toNat : Int) := by
                  rw [List.length_map, ← hk]; omega
                refine ⟨.ref a, rfl, a, _, 2, .int ix, rfl, rfl, .inl (.inl ha2), rfl, .inl ⟨ix, rfl, .ref a, rfl, a, _, 1, .ref q, rfl, rfl, .inl (.inl ha2), rfl, q, _, rfl, .inl (.inl (.inl hq2)), _, _, rfl, _, _, rfl, rfl, ?_, p2, _, _, .int c, rfl, rfl, .inl (.inl hp3), ?_, ?_⟩⟩
                · show (0 : Int) < (if ((cells.map V.int).length : Int) > 1 then ((cells.map V.int).length : Int) else 1)
                  rw [List.length_map]; exact hk1
                · show atI _ (ix % (if ((cells.map V.int).length : Int) > 1 then ((cells.map V.int).length : Int) else 1)) = _
                  rw [ek]
                  refine atI_nat ?_
                  rw [show cells.map V.int ++ [V.int 0] = (cells ++ [(0 : Int)]).map V.int by simp, List.getElem?_map, hc]
                  rfl
                rw [ed] at Af
                refine ⟨.int c, rfl, _, _, rfl, rfl, by constructor; decide; constructor <;> decide, _, _, rfl, rfl, _, rfl, ite2 (fun e => ?_) (fun e => ?_)⟩
                · have hge : (1000000000000000000 : Int) ≤ c := of_decide_eq_true e
                  rw [if_pos hge] at Af
                  have hlen : k.toNat < cells.length := by
                    refine Decidable.byContradiction fun z => ?_
                    rw [List.getElem?_append_right (by omega)] at hc
                    have : k.toNat - cells.length = 0 := by
                      rw [List.length_append] at hk2
                      simp at hk2
                      omega
                    rw [this] at hc
                    simp at hc
                    omega
                  have emx : (if (cells.length : Int) > 1 then (cells.length : Int) else 1) = cells.length := by split <;> omega
                  have ek2 : ix % ((cells.map V.int).length : Int) = (k.toNat : Int) := by
                    rw [List.length_map]; rw [emx] at hk; rw [← hk]; omega
                  obtain ⟨w3, t3⟩ := Wd.redraw (st' := st) (cells' := cells.set k.toNat (c / b)) (ix' := ix) w2 hs1 hm
                  have eU : upd (upd H2 q (.lst ((cells.set k.toNat (c / b)).map V.int))) a (.lst [.int st, .ref q, .int ix]) = upd H2 q (.lst ((cells.set k.toNat (c / b)).map V.int)) := by
                    funext z
                    by_cases hz : z = a
                    · rw [hz, upd_same, upd_ne naq]; exact ha2.symm
                    · rw [upd_ne hz]
                  rw [eU] at w3 t3
                  refine ⟨.ref a, rfl, a, _, 1, .ref q, rfl, rfl, .inl (.inl ha2), rfl, .int c, rfl, .int b, rfl, _, _, rfl, rfl, wide_div hb0 (b := 2000) ?_ (by decide) (by decide), .ref q, rfl, .ref a, rfl, a, _, 2, .int ix, rfl, rfl, .inl (.inl ha2), rfl, .inl ⟨ix, rfl, .ref q, rfl, q, _, rfl, .inl (.inl (.inl hq2)), _, _, rfl, rfl, ?_, q, _, _, k.toNat, rfl, rfl, hq2, ?_, .int c, rfl, .inl ⟨c, rfl, .int b, rfl, _, _, rfl, rfl, hb0, ?_⟩⟩⟩
                  · have : b.natAbs < 2 ^ 2000 := by
                      have h1 : (b.natAbs : Int) = b := Int.natAbs_of_nonneg (by omega)
                      have h2 : (b.natAbs : Int) < ((2 ^ 2000 : Nat) : Int) := by rw [h1]; exact_mod_cast hb1
                      exact_mod_cast h2
                    exact this
                  · show (0 : Int) < ((cells.map V.int).length : Int)
                    rw [List.length_map]; omega
                  · show ixN _ (ix % ((cells.map V.int).length : Int)) = _
                    rw [ek2]
                    unfold ixN
                    rw [if_pos (Int.natCast_nonneg _), if_pos (by rw [List.length_map]; omega)]
                    rfl
                  · have := Af m G (upd H2 q (.lst ((cells.set k.toNat (c / b)).map V.int))) (Stp.trans w2 wd t2 t3) w3 (.int (c % b)) (.int _)
                    rw [List.map_set] at this
                    exact this
                · have hlt : ¬ (1000000000000000000 : Int) ≤ c := fun z => e (decide_eq_true z)
                  rw [if_neg hlt] at Af
                  obtain ⟨w3, t3⟩ := Wd.redraw (st' := (st * 48271 + c * 69621 + 11) % 2147483647) (cells' := cells) (ix' := ix + 1) w2 hs1 hm
                  rw [show upd H2 q (.lst (cells.map V.int)) = H2 from by
                    funext z
                    by_cases hz : z = q
                    · rw [hz, upd_same]; exact hq2.symm
                    · rw [upd_ne hz]] at w3 t3
                  refine ⟨.ref a, rfl, a, _, 0, .int st, rfl, rfl, .inl (.inl ha2), rfl, _, _, rfl, rfl, .inr (by constructor <;> decide), .int c, rfl, _, _, rfl, rfl, .inr (by constructor <;> decide), _, _, rfl, rfl, _, _, rfl, rfl, .inl ⟨_, rfl, _, _, rfl, rfl, pos2, .ref a, rfl, a, _, 0, 0, rfl, rfl, ha2, rfl, ?_⟩⟩
                  refine ⟨.ref a, rfl, a, [.int ((st * 48271 + c * 69621 + 11) % 2147483647), .ref q, .int ix], 2, .int ix, rfl, rfl, .inl (.inl upd_same), rfl, _, _, rfl, rfl, .ref a, rfl, a, [.int ((st * 48271 + c * 69621 + 11) % 2147483647), .ref q, .int ix], 2, 2, rfl, rfl, upd_same, rfl, ?_⟩
                  rw [upd_upd]
                  refine ⟨.ref a, rfl, a, [.int ((st * 48271 + c * 69621 + 11) % 2147483647), .ref q, .int (ix + 1)], 0, .int ((st * 48271 + c * 69621 + 11) % 2147483647), rfl, rfl, .inl (.inl upd_same), rfl, _, _, rfl, rfl, pos7, .inl ⟨_, rfl, .int b, rfl, _, _, rfl, rfl, hb0, ?_⟩⟩
                  exact Af m G _ (Stp.trans w2 wd t2 t3) w3 (.int (((st * 48271 + c * 69621 + 11) % 2147483647 / 7) % b)) (.int _)
      · exact False.elim Af
    · exact False.elim Af
  · exact False.elim Af
end
end MP

end
section
set_option Elab.async false
set_option linter.all false
set_option maxRecDepth 100000
set_option maxHeartbeats 1000000
/-! A law's end. -/
namespace MP
open PySem PySem.Spec PyProof.Rows L2

theorem prim_of {t : Tx} {K : PySem.W.Frag} {P : Program} {w : World} {mg : Str → Option Value} {base h : Heap} (X : Say t K) (KX : K.In h) (G : h.Ns mainGlobals mg)
    (hmix : ∀ dm, t.find .mix = some dm → ∃ p, dm.d.body = mixBody p ∧ dm.d.scope = mixScope ∧ dm.d.dfl = [] ∧ dm.d.kwd = [] ∧ dm.fn.names.take dm.fn.pars = (["_law_script", "_law_seed"] : List Str))
    (hnext : ∀ dm, t.find .next = some dm → ∃ p, dm.d.body = nextBody p ∧ dm.d.scope = nextScope ∧ dm.d.dfl = [] ∧ dm.d.kwd = [] ∧ dm.fn.names.take dm.fn.pars = (["_law_h", "_law_bound"] : List Str)) : Prim t K P w mg base := by
  have fc := X.facts
  unfold Tx.facts at fc
  simp only [Bool.and_eq_true, List.all_eq_true] at fc
  have fb : ∀ x ∈ bnames, mg x = none := fun x hx => He.free_ok KX G (fc.1.1.1.1 x hx)
  refine ⟨fun d fd e F => ?_, fun d fd e F => ?_⟩
  · obtain ⟨p, h1, h2, h3, h4, h5⟩ := hmix d e
    rw [He.DefD.dvs, He.DefD.kws, h1, h2, h3, h4] at F
    rw [h5]
    exact ok_mix (L := t.lay K) (fb _ (by decide +kernel)) (fb _ (by decide +kernel)) F
  · obtain ⟨p, h1, h2, h3, h4, h5⟩ := hnext d e
    rw [He.DefD.dvs, He.DefD.kws, h1, h2, h3, h4] at F
    rw [h5]
    exact ok_next (L := t.lay K) (fb _ (by decide +kernel)) (fb _ (by decide +kernel)) (fb _ (by decide +kernel)) F
theorem walk_mp {l : PySem.W.OpenLaw} {q : Program} {loose : List Str} {XP : (Str → Option Value) → Heap → Prop} {d : DefRec} {t : Tx} {hn n : Nat} {dl : Dd} {x : Str} (hmost : l.most = some 63) (hdf : d.params.defaults = []) (hr : Room (2 * (n + 1)) callerA) (hname : d.name = ("law" : Str)) (ok : t.ok = true)
    (hmix : ∀ dm, t.find .mix = some dm → ∃ p, dm.d.body = mixBody p ∧ dm.d.scope = mixScope ∧ dm.d.dfl = [] ∧ dm.d.kwd = [] ∧ dm.fn.names.take dm.fn.pars = (["_law_script", "_law_seed"] : List Str))
    (hnext : ∀ dm, t.find .next = some dm → ∃ p, dm.d.body = nextBody p ∧ dm.d.scope = nextScope ∧ dm.d.dfl = [] ∧ dm.d.kwd = [] ∧ dm.fn.names.take dm.fn.pars = (["_law_h", "_law_bound"] : List Str))
    (hl : t.find (.law 0) = some dl) (hnm : dl.nm = ("law" : Str)) (hp : dl.fn.names.take dl.fn.pars = [x]) (hfr : dl.fn.fresh = false)
    (hlaw : ∀ ns : List Int, ns.length ≤ 63 → ∃ N s', callN t.T N (n + 1) (.law 0) [.scr ns] [] = .ok (.bl true) s') :
    PySem.W.WalkO q loose XP (t.hook hn).says l.row.toRowW d [] (fun f vs => PySem.call f vs) := by
  refine Att.attach_call hmost hdf fun w s₀ s₁ mg mb fa o pm cd doc a vs ns G Y ho hd hcd hmg hobj hints hlen hg => ?_
  obtain ⟨K, KX, hs⟩ := Y
  have X : Say t K := ⟨hs⟩
  obtain ⟨hm, hf⟩ := find_mem hl
  have hok := List.all_eq_true.mp ok dl hm
  have hz := Dd.okd hok
  obtain ⟨fd, F⟩ := X.fun_ hm hz
  have hok' : okFn t.ck dl.fn dl.d = true := by
    unfold Dd.ok at hok
    rw [hf] at hok
    exact hok
  obtain ⟨_, _, hlen2, hle⟩ := binds_of (L := t.lay K) (fn := dl.fn) F hz
  have hpars : dl.fn.pars = 1 := by rw [← hlen2, hp]; rfl
  have ead : dl.ad K = He.ga K "law" := by
    unfold Dd.ad adOf
    rw [hf, hnm]
  have hfa : fa = dl.ad K := by
    have hd := X.dB hm
    unfold MP.dB at hd
    simp only [Bool.and_eq_true] at hd
    have h2 := hd.2
    rw [hf] at h2
    have h3 := He.glo_ok KX G.T.g h2
    rw [hnm] at h3
    rw [hname] at hmg
    rw [hmg] at h3
    rw [ead]
    cases h3
    rfl
  have hb : ∀ (s : Shared) (u : Value), BindsTo s fd ⟨[u], []⟩ [(x, u)] := fun s u => by
    unfold okDef at hz
    simp only [Bool.and_eq_true, decide_eq_true_eq, List.isEmpty_iff] at hz
    obtain ⟨⟨⟨⟨h1, h2⟩, h3⟩, h4⟩, h5⟩ := hz
    have e := plainA_of h1
    rw [He.DefD.dvs, h4, List.map_nil] at F
    have h2' : dl.d.params.args.map (·.arg) = [x] := by rw [h2, hp]
    have := FunD.bindsA (ps := [x]) F (fun kV doc pm an cdv ct us hl => by
      have := bind_plain (x := dl.d.name) (qual := dl.d.qual) (as := dl.d.params.args) (body := dl.d.body) (scope := dl.d.scope) (kV := kV) (doc := doc) (pm := pm) (cdv := cdv) (ct := ct) (an := an) (us := us) (by rw [h2']; simp) (by rw [h2']; exact hl)
      rw [← e, h2'] at this
      exact this) s [u] rfl
    exact this
  have hF : ∀ base : Heap, K.In base → base.Ns mainGlobals mg → FnOk l.prog w K mg base (CX l.prog w) (2 * (n + 1)) fa fd [x] (fun vs H Q E => ∃ N, spF (t.lay K) 1 false (callN t.T N (n + 1) (.law 0)) vs H Q E) := fun base KB GB => by
    have one : ∀ N, FnOk l.prog w K mg base (CX l.prog w) (2 * (n + 1)) fa fd [x] (spF (t.lay K) 1 false (callN t.T N (n + 1) (.law 0))) := fun N => by
      have S := stat_all (N := N) X KB GB ok (prim_of (P := l.prog) (w := w) (base := base) X KB GB hmix hnext) n
      have := (fn_ok (L := t.lay K) S F hok').1
      rw [hp, hpars, hfr, ← hfa] at this
      have eT : t.T (.law 0) = some dl.fn := by unfold Tx.T; rw [hl]; rfl
      have ec : callN t.T N (n + 1) (.law 0) = runFn ⟨callN t.T N n, N⟩ dl.fn := by
        funext ds s
        show (match t.T (.law 0) with | some fn => runFn ⟨callN t.T N n, N⟩ fn ds s | none => .st) = _
        rw [eT]
      rw [ec]
      exact this
    exact ⟨fun vs H Q E ⟨N, h⟩ => (one N).len vs H Q E h, fun A outer s H args us vs Q E h1 h2 h3 h4 ⟨N, h5⟩ => (one N).run A outer s H args us vs Q E h1 h2 h3 h4 h5⟩
  refine law_call KX G.T.g G.T.b G.T.builtins G.T.nolimit hg hobj hints (Nat.le_trans hlen (by rw [sizeLine_eq]; decide)) hr hF hb (fun H hO hS => ?_) fun H e s' h => ?_
  · obtain ⟨N, s', ec⟩ := hlaw ns hlen
    refine ⟨N, rfl, [.scr ns], [], [], H, ⟨Same.refl _, rfl, fun n st cells ix a b h1 => by simp at h1, fun a h => by simp [MP.hs] at h, by simp [MP.hs]⟩, .one (.scr hS), ?_⟩
    rw [ec]
    exact fun m' G' H' t' w' v r => RB.bl (H := H') (.rep r)
  · obtain ⟨_, _, _, _, _, _, _, _, _, _, _, _, z⟩ := h
    exact z
end MP

end
section
set_option Elab.async false
set_option linter.all false
set_option maxRecDepth 100000
namespace MP
open PySem
/-! is_integer -/
def f_p_0 : Fn := ⟨["value"], 1, (.cons (.ret (.and (.isa (.var 0) .int) (.nott (.isa (.var 0) .bool)))) .nil), false⟩
/-! is_from -/
def f_p_1 : Fn := ⟨["value", "low", "high"], 3, (.cons (.ret (.and (.call (.p 0) (.cons (.var 0) .nil)) (.chain .le .le (.var 1) (.var 0) (.var 2)))) .nil), false⟩
/-! is_fact -/
def f_p_2 : Fn := ⟨["value", "cells"], 2, (.cons (.ite (.or (.nott (.isa (.var 0) .tuple)) (.cmp .ne (.b1 .len (.var 0)) (.int 4))) (.cons (.ret (.bl false)) .nil) .nil) (.cons (.ite (.or (.nott (.call (.p 1) (.cons (.ix (.var 0) (.int 0)) (.cons (.int 0) (.cons (.bin .sub (.var 1) (.int 1)) .nil))))) (.nott (.call (.p 1) (.cons (.ix (.var 0) (.int 1)) (.cons (.bin .add (.ix (.var 0) (.int 0)) (.int 1)) (.cons (.var 1) .nil)))))) (.cons (.ret (.bl false)) .nil) .nil) (.cons (.ret (.and (.call (.p 1) (.cons (.ix (.var 0) (.int 2)) (.cons (.int 0) (.cons (.int 100000000000000000000000000000000) .nil)))) (.call (.p 1) (.cons (.ix (.var 0) (.int 3)) (.cons (.ix (.var 0) (.int 2)) (.cons (.int 100000000000000000000000000000000) .nil)))))) .nil))), false⟩
/-! Book.__init__ -/
def f_ini_book_b0 : Ss := (.cons (.ite (.nott (.call (.p 2) (.cons (.var 5) (.cons (.var 1) .nil)))) (.cons (.rais (.err 3) (.cons (.var 4) .nil)) .nil) .nil) .nil)
def f_ini_book_l1 : S := .for (.tp (.cons (.nm 4) (.cons (.nm 5) .nil))) (.en (.var 3)) f_ini_book_b0
def f_ini_book : Fn := ⟨["self", "cells", "most", "facts", "index", "fact"], 4, (.cons (.ite (.nott (.call (.p 1) (.cons (.var 1) (.cons (.int 1) (.cons (.int 20) .nil))))) (.cons (.rais (.err 1) .nil) .nil) .nil) (.cons (.ite (.nott (.call (.p 1) (.cons (.var 2) (.cons (.int 0) (.cons (.int 1000000000000000000000000000000) .nil))))) (.cons (.rais (.err 2) .nil) .nil) .nil) (.cons (.ite (.or (.nott (.isa (.var 3) .tuple)) (.cmp .gt (.b1 .len (.var 3)) (.int 12))) (.cons (.rais (.err 3) (.cons .non .nil)) .nil) .nil) (.cons f_ini_book_l1 (.cons (.seta 0 .book (.tup (.cons (.var 1) (.cons (.var 2) (.cons (.var 3) .nil))))) .nil))))), false⟩
/-! Book.cells -/
def f_pr_book_0 : Fn := ⟨["self"], 1, (.cons (.ret (.ix (.fld (.var 0) .book 0) (.int 0))) .nil), false⟩
/-! Book.most -/
def f_pr_book_1 : Fn := ⟨["self"], 1, (.cons (.ret (.ix (.fld (.var 0) .book 0) (.int 1))) .nil), false⟩
/-! Book.facts -/
def f_pr_book_2 : Fn := ⟨["self"], 1, (.cons (.ret (.ix (.fld (.var 0) .book 0) (.int 2))) .nil), false⟩
/-! Book.__len__ -/
def f_len_book : Fn := ⟨["self"], 1, (.cons (.ret (.b1 .len (.ix (.fld (.var 0) .book 0) (.int 2)))) .nil), false⟩
/-! Book.__eq__ -/
def f_eq_book : Fn := ⟨["self", "other"], 2, (.cons (.ret (.and (.isa (.var 1) (.cls .book)) (.cmp .eq (.fld (.var 0) .book 0) (.fld (.var 1) .book 0)))) .nil), false⟩
/-! check_book -/
def f_p_3 : Fn := ⟨["value"], 1, (.cons (.ite (.nott (.isa (.var 0) (.cls .book))) (.cons (.rais (.err 4) .nil) .nil) .nil) .nil), false⟩
/-! check_row -/
def f_p_4_b0 : Ss := (.cons (.ite (.nott (.call (.p 1) (.cons (.var 2) (.cons (.int 0) (.cons (.ix (.fld (.var 0) .book 0) (.int 1)) .nil))))) (.cons (.rais (.err 5) .nil) .nil) .nil) .nil)
def f_p_4_l1 : S := .for (.nm 2) (.of (.var 1)) f_p_4_b0
def f_p_4 : Fn := ⟨["book", "value", "number"], 2, (.cons (.ite (.or (.nott (.isa (.var 1) .tuple)) (.cmp .ne (.b1 .len (.var 1)) (.ix (.fld (.var 0) .book 0) (.int 0)))) (.cons (.rais (.err 5) .nil) .nil) .nil) (.cons f_p_4_l1 .nil)), false⟩
/-! broken_by -/
def f_p_5_b0 : Ss := (.cons (.asg (.tp (.cons (.nm 5) (.cons (.nm 6) (.cons (.nm 7) (.cons (.nm 8) .nil))))) (.var 4)) (.cons (.ite (.nott (.chain .le .le (.var 7) (.b1 .sum (.sl (.var 1) (.so (.var 5)) (.so (.var 6)))) (.var 8))) (.cons (.app 2 (.var 3)) .nil) .nil) .nil))
def f_p_5_l1 : S := .for (.tp (.cons (.nm 3) (.cons (.nm 4) .nil))) (.en (.ix (.fld (.var 0) .book 0) (.int 2))) f_p_5_b0
def f_p_5 : Fn := ⟨["book", "row", "found", "index", "fact", "begin", "end", "low", "high"], 2, (.cons (.own 2 (.lst .nil)) (.cons f_p_5_l1 (.cons (.frz 2) (.cons (.ret (.var 2)) .nil)))), false⟩
/-! broken -/
def f_p_6 : Fn := ⟨["book", "row"], 2, (.cons (.expr (.call (.p 3) (.cons (.var 0) .nil))) (.cons (.expr (.call (.p 4) (.cons (.var 0) (.cons (.var 1) .nil)))) (.cons (.ret (.call (.p 5) (.cons (.var 0) (.cons (.var 1) .nil)))) .nil))), false⟩
/-! _law_mix -/
def f_mix : Fn := ⟨["_law_script", "_law_seed", "_law_state", "_law_cell"], 2, .nil, false⟩
/-! _law_next -/
def f_next : Fn := ⟨["_law_h", "_law_bound", "_law_cell", "_law_cells"], 2, .nil, false⟩
/-! _law_stretch -/
def f_law_1 : Fn := ⟨["_law_h", "_law_cells", "_law_begin"], 2, (.cons (.asg (.nm 2) (.call (.next) (.cons (.var 0) (.cons (.var 1) .nil)))) (.cons (.ret (.tup (.cons (.var 2) (.cons (.bin .add (.bin .add (.var 2) (.int 1)) (.call (.next) (.cons (.var 0) (.cons (.bin .sub (.var 1) (.var 2)) .nil)))) .nil)))) .nil)), false⟩
/-! _law_fact -/
def f_law_2 : Fn := ⟨["_law_h", "_law_row", "_law_loose", "_law_own", "_law_begin", "_law_end", "_law_low", "_law_high"], 3, (.cons (.asg (.tp (.cons (.nm 4) (.cons (.nm 5) .nil))) (.call (.law 1) (.cons (.var 0) (.cons (.b1 .len (.var 1)) .nil)))) (.cons (.asg (.nm 3) (.b1 .sum (.sl (.var 1) (.so (.var 4)) (.so (.var 5))))) (.cons (.par [6, 7] (.cons (.b2 .max (.int 0) (.bin .sub (.var 3) (.call (.next) (.cons (.var 0) (.cons (.var 2) .nil))))) (.cons (.bin .add (.var 3) (.call (.next) (.cons (.var 0) (.cons (.var 2) .nil)))) .nil))) (.cons (.ite (.cmp .eq (.call (.next) (.cons (.var 0) (.cons (.int 12) .nil))) (.int 0)) (.cons (.par [6, 7] (.cons (.var 7) (.cons (.bin .add (.var 7) (.call (.next) (.cons (.var 0) (.cons (.var 2) .nil)))) .nil))) .nil) .nil) (.cons (.ret (.tup (.cons (.var 4) (.cons (.var 5) (.cons (.var 6) (.cons (.var 7) .nil)))))) .nil))))), false⟩
/-! _law_fact -/
def f_law_2v1 : Fn := ⟨["_law_h", "_law_row", "_law_loose_here", "_law_own", "_law_begin", "_law_end", "_law_low", "_law_high"], 3, (.cons (.asg (.tp (.cons (.nm 4) (.cons (.nm 5) .nil))) (.call (.law 1) (.cons (.var 0) (.cons (.b1 .len (.var 1)) .nil)))) (.cons (.asg (.nm 3) (.b1 .sum (.sl (.var 1) (.so (.var 4)) (.so (.var 5))))) (.cons (.par [6, 7] (.cons (.b2 .max (.int 0) (.bin .sub (.var 3) (.call (.next) (.cons (.var 0) (.cons (.var 2) .nil))))) (.cons (.bin .add (.var 3) (.call (.next) (.cons (.var 0) (.cons (.var 2) .nil)))) .nil))) (.cons (.ite (.cmp .eq (.call (.next) (.cons (.var 0) (.cons (.int 12) .nil))) (.int 0)) (.cons (.par [6, 7] (.cons (.var 7) (.cons (.bin .add (.var 7) (.call (.next) (.cons (.var 0) (.cons (.var 2) .nil)))) .nil))) .nil) .nil) (.cons (.ret (.tup (.cons (.var 4) (.cons (.var 5) (.cons (.var 6) (.cons (.var 7) .nil)))))) .nil))))), false⟩
/-! _law_fact -/
def f_law_2v2 : Fn := ⟨["_law_h", "_law_row_here", "_law_loose", "_law_own", "_law_begin", "_law_end", "_law_low", "_law_high"], 3, (.cons (.asg (.tp (.cons (.nm 4) (.cons (.nm 5) .nil))) (.call (.law 1) (.cons (.var 0) (.cons (.b1 .len (.var 1)) .nil)))) (.cons (.asg (.nm 3) (.b1 .sum (.sl (.var 1) (.so (.var 4)) (.so (.var 5))))) (.cons (.par [6, 7] (.cons (.b2 .max (.int 0) (.bin .sub (.var 3) (.call (.next) (.cons (.var 0) (.cons (.var 2) .nil))))) (.cons (.bin .add (.var 3) (.call (.next) (.cons (.var 0) (.cons (.var 2) .nil)))) .nil))) (.cons (.ite (.cmp .eq (.call (.next) (.cons (.var 0) (.cons (.int 12) .nil))) (.int 0)) (.cons (.par [6, 7] (.cons (.var 7) (.cons (.bin .add (.var 7) (.call (.next) (.cons (.var 0) (.cons (.var 2) .nil)))) .nil))) .nil) .nil) (.cons (.ret (.tup (.cons (.var 4) (.cons (.var 5) (.cons (.var 6) (.cons (.var 7) .nil)))))) .nil))))), false⟩
/-! _law_book -/
def f_law_3_c0 : E := (.lc (.call (.next) (.cons (.var 0) (.cons (.bin .add (.var 2) (.int 1)) .nil))) (.nm 7) (.rg1 (.var 1)))
def f_law_3_c1 : E := (.lc (.call (.law 2) (.cons (.var 0) (.cons (.var 4) (.cons (.var 5) .nil)))) (.nm 7) (.rg1 (.call (.next) (.cons (.var 0) (.cons (.bin .add (.var 3) (.int 1)) .nil)))))
def f_law_3 : Fn := ⟨["_law_h", "_law_cells", "_law_most", "_law_many", "_law_row", "_law_loose", "_law_facts", "_law_k"], 4, (.cons (.asg (.tp (.cons (.nm 1) (.cons (.nm 2) .nil))) (.tup (.cons (.bin .add (.int 1) (.call (.next) (.cons (.var 0) (.cons (.var 1) .nil)))) (.cons (.call (.next) (.cons (.var 0) (.cons (.bin .add (.var 2) (.int 1)) .nil))) .nil)))) (.cons (.asg (.nm 4) f_law_3_c0) (.cons (.asg (.nm 5) (.ix (.lst (.cons (.int 1) (.cons (.int 2) (.cons (.int 2) (.cons (.bin .add (.int 1) (.var 2)) .nil))))) (.call (.next) (.cons (.var 0) (.cons (.int 4) .nil))))) (.cons (.asg (.nm 6) f_law_3_c1) (.cons (.ret (.lst (.cons (.var 1) (.cons (.var 2) (.cons (.b1 .tuple (.var 6)) .nil))))) .nil))))), true⟩
/-! _law_book -/
def f_law_3v1_c0 : E := (.lc (.call (.next) (.cons (.var 0) (.cons (.bin .add (.var 2) (.int 1)) .nil))) (.nm 7) (.rg1 (.var 1)))
def f_law_3v1_c1 : E := (.lc (.call (.law 2) (.cons (.var 0) (.cons (.var 4) (.cons (.var 5) .nil)))) (.nm 7) (.rg1 (.call (.next) (.cons (.var 0) (.cons (.bin .add (.var 3) (.int 1)) .nil)))))
def f_law_3v1 : Fn := ⟨["_law_h", "_law_cells", "_law_most", "_law_many", "_law_row", "_law_loose_here", "_law_facts", "_law_k"], 4, (.cons (.asg (.tp (.cons (.nm 1) (.cons (.nm 2) .nil))) (.tup (.cons (.bin .add (.int 1) (.call (.next) (.cons (.var 0) (.cons (.var 1) .nil)))) (.cons (.call (.next) (.cons (.var 0) (.cons (.bin .add (.var 2) (.int 1)) .nil))) .nil)))) (.cons (.asg (.nm 4) f_law_3v1_c0) (.cons (.asg (.nm 5) (.ix (.lst (.cons (.int 1) (.cons (.int 2) (.cons (.int 2) (.cons (.bin .add (.int 1) (.var 2)) .nil))))) (.call (.next) (.cons (.var 0) (.cons (.int 4) .nil))))) (.cons (.asg (.nm 6) f_law_3v1_c1) (.cons (.ret (.lst (.cons (.var 1) (.cons (.var 2) (.cons (.b1 .tuple (.var 6)) .nil))))) .nil))))), true⟩
/-! _law_book -/
def f_law_3v2_c0 : E := (.lc (.call (.next) (.cons (.var 0) (.cons (.bin .add (.var 2) (.int 1)) .nil))) (.nm 7) (.rg1 (.var 1)))
def f_law_3v2_c1 : E := (.lc (.call (.law 2) (.cons (.var 0) (.cons (.var 4) (.cons (.var 5) .nil)))) (.nm 7) (.rg1 (.call (.next) (.cons (.var 0) (.cons (.bin .add (.var 3) (.int 1)) .nil)))))
def f_law_3v2 : Fn := ⟨["_law_h", "_law_cells", "_law_most", "_law_many", "_law_row_here", "_law_loose", "_law_facts", "_law_k"], 4, (.cons (.asg (.tp (.cons (.nm 1) (.cons (.nm 2) .nil))) (.tup (.cons (.bin .add (.int 1) (.call (.next) (.cons (.var 0) (.cons (.var 1) .nil)))) (.cons (.call (.next) (.cons (.var 0) (.cons (.bin .add (.var 2) (.int 1)) .nil))) .nil)))) (.cons (.asg (.nm 4) f_law_3v2_c0) (.cons (.asg (.nm 5) (.ix (.lst (.cons (.int 1) (.cons (.int 2) (.cons (.int 2) (.cons (.bin .add (.int 1) (.var 2)) .nil))))) (.call (.next) (.cons (.var 0) (.cons (.int 4) .nil))))) (.cons (.asg (.nm 6) f_law_3v2_c1) (.cons (.ret (.lst (.cons (.var 1) (.cons (.var 2) (.cons (.b1 .tuple (.var 6)) .nil))))) .nil))))), true⟩
/-! _law_holds -/
def f_law_4 : Fn := ⟨["_law_row", "_law_fact_here"], 2, (.cons (.ret (.chain .le .le (.ix (.var 1) (.int 2)) (.b1 .sum (.sl (.var 0) (.so (.ix (.var 1) (.int 0))) (.so (.ix (.var 1) (.int 1))))) (.ix (.var 1) (.int 3)))) .nil), false⟩
/-! _law_holds -/
def f_law_4v1 : Fn := ⟨["_law_row_here", "_law_fact_here"], 2, (.cons (.ret (.chain .le .le (.ix (.var 1) (.int 2)) (.b1 .sum (.sl (.var 0) (.so (.ix (.var 1) (.int 0))) (.so (.ix (.var 1) (.int 1))))) (.ix (.var 1) (.int 3)))) .nil), false⟩
/-! _law_all -/
def f_law_5_c0 : E := (.lc (.bin .add (.var 5) (.tup (.cons (.var 6) .nil))) (.nm 6) (.rg1 (.bin .add (.var 1) (.int 1))))
def f_law_5_b1 : Ss := (.cons (.asg (.nm 4) (.bin .add (.var 4) f_law_5_c0)) .nil)
def f_law_5_l2 : S := .for (.nm 5) (.of (.var 2)) f_law_5_b1
def f_law_5_b3 : Ss := (.cons (.asg (.nm 4) (.lst .nil)) (.cons f_law_5_l2 (.cons (.asg (.nm 2) (.var 4)) .nil)))
def f_law_5_l4 : S := .for (.nm 3) (.rg1 (.var 0)) f_law_5_b3
def f_law_5 : Fn := ⟨["_law_cells", "_law_most", "_law_found", "_law_k", "_law_longer", "_law_row", "_law_x"], 2, (.cons (.asg (.nm 2) (.lst (.cons (.tup .nil) .nil))) (.cons f_law_5_l4 (.cons (.ret (.var 2)) .nil))), false⟩
/-! _law_all -/
def f_law_5v1_c0 : E := (.lc (.bin .add (.var 5) (.tup (.cons (.var 6) .nil))) (.nm 6) (.rg1 (.bin .add (.var 1) (.int 1))))
def f_law_5v1_b1 : Ss := (.cons (.asg (.nm 4) (.bin .add (.var 4) f_law_5v1_c0)) .nil)
def f_law_5v1_l2 : S := .for (.nm 5) (.of (.var 2)) f_law_5v1_b1
def f_law_5v1_b3 : Ss := (.cons (.asg (.nm 4) (.lst .nil)) (.cons f_law_5v1_l2 (.cons (.asg (.nm 2) (.var 4)) .nil)))
def f_law_5v1_l4 : S := .for (.nm 3) (.rg1 (.var 0)) f_law_5v1_b3
def f_law_5v1 : Fn := ⟨["_law_cells", "_law_most", "_law_found", "_law_k", "_law_longer", "_law_row_here", "_law_x"], 2, (.cons (.asg (.nm 2) (.lst (.cons (.tup .nil) .nil))) (.cons f_law_5v1_l4 (.cons (.ret (.var 2)) .nil))), false⟩
/-! _law_fitting -/
def f_law_6_c0 : E := (.lci (.var 2) (.nm 2) (.of (.ix (.var 0) (.int 2))) (.nott (.call (.law 4) (.cons (.var 1) (.cons (.var 2) .nil)))))
def f_law_6_c1 : E := (.lci (.var 1) (.nm 1) (.of (.call (.law 5) (.cons (.ix (.var 0) (.int 0)) (.cons (.ix (.var 0) (.int 1)) .nil)))) (.cmp .eq f_law_6_c0 (.lst .nil)))
def f_law_6 : Fn := ⟨["_law_b", "_law_row", "_law_fact_here"], 1, (.cons (.ret f_law_6_c1) .nil), false⟩
/-! _law_fitting -/
def f_law_6v1_c0 : E := (.lci (.var 2) (.nm 2) (.of (.ix (.var 0) (.int 2))) (.nott (.call (.law 4) (.cons (.var 1) (.cons (.var 2) .nil)))))
def f_law_6v1_c1 : E := (.lci (.var 1) (.nm 1) (.of (.call (.law 5) (.cons (.ix (.var 0) (.int 0)) (.cons (.ix (.var 0) (.int 1)) .nil)))) (.cmp .eq f_law_6v1_c0 (.lst .nil)))
def f_law_6v1 : Fn := ⟨["_law_b", "_law_row_here", "_law_fact_here"], 1, (.cons (.ret f_law_6v1_c1) .nil), false⟩
/-! law -/
def f_law_0_c0 : E := (.lc (.call (.next) (.cons (.var 1) (.cons (.bin .add (.ix (.var 2) (.int 1)) (.int 1)) .nil))) (.nm 6) (.rg1 (.ix (.var 2) (.int 0))))
def f_law_0_c1 : E := (.lci (.var 6) (.nm 6) (.rg1 (.b1 .len (.ix (.var 2) (.int 2)))) (.nott (.call (.law 4) (.cons (.var 4) (.cons (.ix (.ix (.var 2) (.int 2)) (.var 6)) .nil)))))
def f_law_0 : Fn := ⟨["_law_script", "_law_h", "_law_b", "_law_told", "_law_row", "_law_own", "_law_k"], 1, (.cons (.asg (.nm 1) (.call (.mix) (.cons (.var 0) (.cons (.int 1) .nil)))) (.cons (.asg (.nm 2) (.call (.law 3) (.cons (.var 1) (.cons (.int 20) (.cons (.ix (.lst (.cons (.int 3) (.cons (.int 9) (.cons (.bin .pow (.int 10) (.int 30)) .nil)))) (.call (.next) (.cons (.var 1) (.cons (.int 3) .nil)))) (.cons (.int 12) .nil)))))) (.cons (.asg (.nm 3) (.make .book (.cons (.ix (.var 2) (.int 0)) (.cons (.ix (.var 2) (.int 1)) (.cons (.ix (.var 2) (.int 2)) .nil))))) (.cons (.ite (.or (.cmp .ne (.prop (.var 3) .book 0) (.ix (.var 2) (.int 0))) (.or (.cmp .ne (.prop (.var 3) .book 1) (.ix (.var 2) (.int 1))) (.or (.cmp .ne (.prop (.var 3) .book 2) (.ix (.var 2) (.int 2))) (.cmp .ne (.leno (.var 3) .book) (.b1 .len (.ix (.var 2) (.int 2))))))) (.cons (.ret (.bl false)) .nil) .nil) (.cons (.ite (.or (.nott (.eqo .book (.var 3) (.make .book (.cons (.ix (.var 2) (.int 0)) (.cons (.ix (.var 2) (.int 1)) (.cons (.ix (.var 2) (.int 2)) .nil)))))) (.eqo .book (.var 3) (.tup (.cons (.ix (.var 2) (.int 0)) (.cons (.ix (.var 2) (.int 1)) (.cons (.ix (.var 2) (.int 2)) .nil)))))) (.cons (.ret (.bl false)) .nil) .nil) (.cons (.ite (.or (.and (.cmp .ne (.ix (.var 2) (.int 2)) (.tup .nil)) (.eqo .book (.var 3) (.make .book (.cons (.ix (.var 2) (.int 0)) (.cons (.ix (.var 2) (.int 1)) (.cons (.sl (.ix (.var 2) (.int 2)) (.so (.int 1)) .no) .nil)))))) (.and (.cmp .lt (.ix (.var 2) (.int 1)) (.bin .pow (.int 10) (.int 30))) (.eqo .book (.var 3) (.make .book (.cons (.ix (.var 2) (.int 0)) (.cons (.bin .add (.ix (.var 2) (.int 1)) (.int 1)) (.cons (.ix (.var 2) (.int 2)) .nil))))))) (.cons (.ret (.bl false)) .nil) .nil) (.cons (.asg (.nm 4) (.b1 .tuple f_law_0_c0)) (.cons (.asg (.nm 5) (.call (.p 6) (.cons (.var 3) (.cons (.var 4) .nil)))) (.cons (.ret (.and (.cmp .eq (.var 5) f_law_0_c1) (.isa (.var 5) .list))) .nil))))))))), false⟩
/-! law -/
def f_law_0v1_c0 : E := (.lc (.b1 .sum (.sl (.var 14) (.so (.var 3)) (.so (.var 11)))) (.nm 14) (.of (.var 8)))
def f_law_0v1_b1 : Ss := (.cons (.asg (.nm 12) f_law_0v1_c0) (.cons (.ite (.cmp .ne (.call (.p 17) (.cons (.var 7) (.cons (.var 3) (.cons (.var 11) .nil)))) (.tup (.cons (.b1 .min (.var 12)) (.cons (.b1 .max (.var 12)) .nil)))) (.cons (.ret (.bl false)) .nil) .nil) .nil))
def f_law_0v1_l2 : S := .for (.nm 11) (.rg2 (.bin .add (.var 3) (.int 1)) (.bin .add (.ix (.var 2) (.int 0)) (.int 1))) f_law_0v1_b1
def f_law_0v1_b3 : Ss := (.cons f_law_0v1_l2 .nil)
def f_law_0v1_l4 : S := .for (.nm 3) (.rg1 (.ix (.var 2) (.int 0))) f_law_0v1_b3
def f_law_0v1_c5 : E := (.lci (.var 14) (.nm 14) (.of (.var 8)) (.cmp .ne (.ix (.var 14) (.var 13)) (.ix (.ix (.var 8) (.int 0)) (.var 13))))
def f_law_0v1_c6 : E := (.lci (.tup (.cons (.var 13) (.cons (.ix (.ix (.var 8) (.int 0)) (.var 13)) .nil))) (.nm 13) (.rg1 (.ix (.var 2) (.int 0))) (.cmp .eq f_law_0v1_c5 (.lst .nil)))
def f_law_0v1_c7 : E := (.lci (.var 14) (.nm 14) (.of (.var 8)) (.cmp .eq (.b1 .sum (.sl (.var 14) (.so (.var 9)) (.so (.var 10)))) (.var 5)))
def f_law_0v1 : Fn := ⟨["_law_script", "_law_h", "_law_b", "_law_one", "_law_sure_here", "_law_number", "_law_those", "_law_told", "_law_fine", "_law_begin", "_law_end", "_law_other", "_law_own", "_law_k", "_law_row"], 1, (.cons (.asg (.nm 1) (.call (.mix) (.cons (.var 0) (.cons (.int 2) .nil)))) (.cons (.ite (.cmp .eq (.call (.next) (.cons (.var 1) (.cons (.int 4) .nil))) (.int 0)) (.cons (.ret (.call (.law 15) (.cons (.var 1) .nil))) .nil) .nil) (.cons (.asg (.nm 2) (.call (.law 3) (.cons (.var 1) (.cons (.int 4) (.cons (.int 3) (.cons (.int 5) .nil)))))) (.cons (.asg (.tp (.cons (.nm 7) (.cons (.nm 8) .nil))) (.tup (.cons (.make .book (.cons (.ix (.var 2) (.int 0)) (.cons (.ix (.var 2) (.int 1)) (.cons (.ix (.var 2) (.int 2)) .nil)))) (.cons (.call (.law 6) (.cons (.var 2) .nil)) .nil)))) (.cons (.ite (.or (.cmp .ne (.call (.p 11) (.cons (.var 7) .nil)) (.cmp .ne (.var 8) (.lst .nil))) (.cmp .ne (.call (.law 11) (.cons (.var 7) .nil)) (.ifx (.cmp .ne (.var 8) (.lst .nil)) (.ix (.var 8) (.int 0)) .non))) (.cons (.ret (.bl false)) .nil) .nil) (.cons (.ite (.cmp .ne (.call (.p 21) (.cons (.var 7) .nil)) (.call (.law 13) (.cons (.var 2) (.cons (.var 8) .nil)))) (.cons (.ret (.bl false)) .nil) .nil) (.cons (.asg (.tp (.cons (.nm 9) (.cons (.nm 10) .nil))) (.call (.law 1) (.cons (.var 1) (.cons (.ix (.var 2) (.int 0)) .nil)))) (.cons (.ite (.cmp .eq (.var 8) (.lst .nil)) (.cons (.ret (.and (.cmp .isn (.call (.law 10) (.cons (.var 7) (.cons (.var 9) (.cons (.var 10) .nil)))) .non) (.cmp .isn (.call (.law 12) (.cons (.var 7) .nil)) .non))) .nil) .nil) (.cons f_law_0v1_l4 (.cons (.asg (.nm 4) f_law_0v1_c6) (.cons (.asg (.nm 5) (.bin .sub (.call (.next) (.cons (.var 1) (.cons (.int 9) .nil))) (.int 1))) (.cons (.asg (.nm 6) f_law_0v1_c7) (.cons (.ite (.cmp .ne (.call (.p 18) (.cons (.var 7) (.cons (.var 9) (.cons (.var 10) (.cons (.var 5) .nil))))) (.ifx (.cmp .ne (.var 6) (.lst .nil)) (.ix (.var 6) (.int 0)) .non)) (.cons (.ret (.bl false)) .nil) .nil) (.cons (.ret (.cmp .eq (.call (.law 12) (.cons (.var 7) .nil)) (.var 4))) .nil)))))))))))))), false⟩
/-! law -/
def f_law_0v2_b0 : Ss := (.cons (.asg (.tp (.cons (.nm 8) (.cons (.nm 9) .nil))) (.call (.law 1) (.cons (.var 1) (.cons (.ix (.var 2) (.int 0)) .nil)))) (.cons (.par [10, 11] (.cons (.neg (.ix (.var 7) (.tup (.cons (.var 9) (.cons (.var 8) .nil))))) (.cons (.ix (.var 7) (.tup (.cons (.var 8) (.cons (.var 9) .nil)))) .nil))) (.cons (.ite (.cmp .ne (.call (.p 17) (.cons (.var 6) (.cons (.var 8) (.cons (.var 9) .nil)))) (.tup (.cons (.var 10) (.cons (.var 11) .nil)))) (.cons (.ret (.bl false)) .nil) .nil) .nil)))
def f_law_0v2_l1 : S := .for (.nm 3) (.rg1 (.int 2)) f_law_0v2_b0
def f_law_0v2 : Fn := ⟨["_law_script", "_law_h", "_law_b", "_law_turn", "_law_number", "_law_row", "_law_told", "_law_far", "_law_begin", "_law_end", "_law_low", "_law_high"], 1, (.cons (.asg (.nm 1) (.call (.mix) (.cons (.var 0) (.cons (.int 3) .nil)))) (.cons (.asg (.nm 2) (.call (.law 3) (.cons (.var 1) (.cons (.ifx (.cmp .gt (.call (.next) (.cons (.var 1) (.cons (.int 4) .nil))) (.int 0)) (.int 12) (.int 20)) (.cons (.ix (.lst (.cons (.int 5) (.cons (.int 60) (.cons (.bin .pow (.int 10) (.int 30)) .nil)))) (.call (.next) (.cons (.var 1) (.cons (.int 3) .nil)))) (.cons (.int 12) .nil)))))) (.cons (.par [6, 7] (.cons (.make .book (.cons (.ix (.var 2) (.int 0)) (.cons (.ix (.var 2) (.int 1)) (.cons (.ix (.var 2) (.int 2)) .nil)))) (.cons (.call (.law 7) (.cons (.var 2) .nil)) .nil))) (.cons (.ite (.cmp .ne (.call (.p 11) (.cons (.var 6) .nil)) (.cmp .notn (.var 7) .non)) (.cons (.ret (.bl false)) .nil) .nil) (.cons (.ite (.cmp .isn (.var 7) .non) (.cons (.ret (.bl true)) .nil) .nil) (.cons f_law_0v2_l1 (.cons (.asg (.nm 4) (.bin .add (.var 10) (.call (.next) (.cons (.var 1) (.cons (.bin .add (.bin .sub (.var 11) (.var 10)) (.int 1)) .nil))))) (.cons (.ite (.or (.nott (.call (.law 16) (.cons (.var 6) (.cons (.var 2) (.cons (.var 8) (.cons (.var 9) (.cons (.var 10) .nil))))))) (.nott (.call (.law 16) (.cons (.var 6) (.cons (.var 2) (.cons (.var 8) (.cons (.var 9) (.cons (.var 11) .nil)))))))) (.cons (.ret (.bl false)) .nil) .nil) (.cons (.ite (.nott (.call (.law 16) (.cons (.var 6) (.cons (.var 2) (.cons (.var 8) (.cons (.var 9) (.cons (.var 4) .nil))))))) (.cons (.ret (.bl false)) .nil) .nil) (.cons (.ite (.or (.cmp .notn (.call (.p 18) (.cons (.var 6) (.cons (.var 8) (.cons (.var 9) (.cons (.bin .sub (.var 10) (.int 1)) .nil))))) .non) (.cmp .notn (.call (.p 18) (.cons (.var 6) (.cons (.var 8) (.cons (.var 9) (.cons (.bin .add (.var 11) (.int 1)) .nil))))) .non)) (.cons (.ret (.bl false)) .nil) .nil) (.cons (.asg (.nm 5) (.call (.p 15) (.cons (.var 6) .nil))) (.cons (.ret (.and (.cmp .eq (.call (.p 6) (.cons (.var 6) (.cons (.var 5) .nil))) (.lst .nil)) (.and (.cmp .eq (.ix (.var 5) (.int 0)) (.neg (.ix (.var 7) (.tup (.cons (.int 1) (.cons (.int 0) .nil)))))) (.cmp .eq (.b1 .len (.var 5)) (.ix (.var 2) (.int 0)))))) .nil)))))))))))), false⟩
/-! law -/
def f_law_0v3 : Fn := ⟨["_law_script", "_law_h", "_law_b", "_law_word", "_law_sign", "_law_value", "_law_told", "_law_far", "_law_begin", "_law_end", "_law_first", "_law_last", "_law_due", "_law_whole", "_law_more"], 1, (.cons (.asg (.nm 1) (.call (.mix) (.cons (.var 0) (.cons (.int 4) .nil)))) (.cons (.asg (.nm 2) (.call (.law 3) (.cons (.var 1) (.cons (.ix (.lst (.cons (.int 12) (.cons (.int 20) .nil))) (.call (.next) (.cons (.var 1) (.cons (.int 2) .nil)))) (.cons (.ix (.lst (.cons (.int 3) (.cons (.int 9) (.cons (.bin .pow (.int 10) (.int 30)) .nil)))) (.call (.next) (.cons (.var 1) (.cons (.int 3) .nil)))) (.cons (.int 9) .nil)))))) (.cons (.par [6, 7] (.cons (.make .book (.cons (.ix (.var 2) (.int 0)) (.cons (.ix (.var 2) (.int 1)) (.cons (.ix (.var 2) (.int 2)) .nil)))) (.cons (.call (.law 7) (.cons (.var 2) .nil)) .nil))) (.cons (.ite (.cmp .isn (.var 7) .non) (.cons (.ret (.bl true)) .nil) .nil) (.cons (.asg (.tp (.cons (.nm 8) (.cons (.nm 9) .nil))) (.call (.law 1) (.cons (.var 1) (.cons (.ix (.var 2) (.int 0)) .nil)))) (.cons (.asg (.nm 3) (.ix (.lst (.cons (.str ("greatest" : Str)) (.cons (.str ("least" : Str)) .nil))) (.call (.next) (.cons (.var 1) (.cons (.int 2) .nil))))) (.cons (.asg (.tp (.cons (.nm 10) (.cons (.nm 11) .nil))) (.ifx (.cmp .eq (.var 3) (.str ("greatest" : Str))) (.tup (.cons (.var 8) (.cons (.var 9) .nil))) (.tup (.cons (.var 9) (.cons (.var 8) .nil))))) (.cons (.par [5, 12] (.cons (.call (.p 26) (.cons (.var 6) (.cons (.var 8) (.cons (.var 9) (.cons (.var 3) .nil))))) (.cons (.ix (.var 7) (.tup (.cons (.var 10) (.cons (.var 11) .nil)))) .nil))) (.cons (.ite (.cmp .ne (.call (.law 18) (.cons (.var 2) (.cons (.var 5) (.cons (.var 10) (.cons (.var 11) .nil))))) (.var 12)) (.cons (.ret (.bl false)) .nil) .nil) (.cons (.asg (.nm 4) (.ifx (.cmp .eq (.var 3) (.str ("greatest" : Str))) (.int 1) (.neg (.int 1)))) (.cons (.ite (.or (.nott (.call (.p 29) (.cons (.var 6) (.cons (.var 8) (.cons (.var 9) (.cons (.var 3) (.cons (.bin .mul (.var 4) (.var 12)) (.cons (.var 5) .nil)))))))) (.call (.p 29) (.cons (.var 6) (.cons (.var 8) (.cons (.var 9) (.cons (.var 3) (.cons (.bin .mul (.var 4) (.bin .sub (.var 12) (.int 1))) (.cons (.var 5) .nil)))))))) (.cons (.ret (.bl false)) .nil) .nil) (.cons (.asg (.nm 5) (.call (.law 19) (.cons (.var 1) (.cons (.var 2) (.cons (.var 5) .nil))))) (.cons (.par [13, 14] (.cons (.call (.law 18) (.cons (.var 2) (.cons (.var 5) (.cons (.var 10) (.cons (.var 11) .nil))))) (.cons (.bin .add (.var 12) (.call (.next) (.cons (.var 1) (.cons (.int 5) .nil)))) .nil))) (.cons (.ret (.cmp .eq (.call (.p 29) (.cons (.var 6) (.cons (.var 8) (.cons (.var 9) (.cons (.var 3) (.cons (.bin .mul (.var 4) (.var 14)) (.cons (.var 5) .nil))))))) (.and (.cmp .notn (.var 13) .non) (.cmp .le (.var 13) (.var 14))))) .nil)))))))))))))), false⟩
/-! law -/
def f_law_0v4_b0 : Ss := (.cons (.asg (.nm 4) (.bin .add (.var 4) (.lst (.cons (.tup (.cons (.str ("cell" : Str)) (.cons (.var 5) (.cons (.int 1) .nil)))) (.cons (.tup (.cons (.str ("cell" : Str)) (.cons (.var 5) (.cons (.neg (.int 1)) .nil)))) .nil))))) .nil)
def f_law_0v4_l1 : S := .for (.nm 5) (.rg1 (.ix (.var 2) (.int 0))) f_law_0v4_b0
def f_law_0v4_b2 : Ss := (.cons (.asg (.nm 4) (.bin .add (.var 4) (.lst (.cons (.tup (.cons (.str ("fact" : Str)) (.cons (.var 5) (.cons (.int 1) .nil)))) (.cons (.tup (.cons (.str ("fact" : Str)) (.cons (.var 5) (.cons (.neg (.int 1)) .nil)))) .nil))))) .nil)
def f_law_0v4_l3 : S := .for (.nm 5) (.rg1 (.b1 .len (.ix (.var 2) (.int 2)))) f_law_0v4_b2
def f_law_0v4_c4 : E := (.lci (.var 11) (.nm 11) (.of (.var 3)) (.cmp .eq (.ix (.var 11) (.int 0)) (.str ("fact" : Str))))
def f_law_0v4_c5 : E := (.lc (.ix (.var 4) (.call (.next) (.cons (.var 1) (.cons (.b1 .len (.var 4)) .nil)))) (.nm 5) (.rg1 (.call (.next) (.cons (.var 1) (.cons (.int 4) .nil)))))
def f_law_0v4_c6 : E := (.lc (.tup (.cons (.ix (.var 11) (.int 0)) (.cons (.ix (.var 11) (.int 1)) (.cons (.cmp .eq (.ix (.var 11) (.int 2)) (.int 1)) .nil)))) (.nm 11) (.of (.var 3)))
def f_law_0v4 : Fn := ⟨["_law_script", "_law_h", "_law_b", "_law_value", "_law_links", "_law_k", "_law_weight_here", "_law_odd", "_law_told", "_law_due", "_law_spot", "_law_link"], 1, (.cons (.asg (.nm 1) (.call (.mix) (.cons (.var 0) (.cons (.int 5) .nil)))) (.cons (.asg (.nm 2) (.call (.law 20) (.cons (.var 1) .nil))) (.cons (.par [8, 9] (.cons (.make .book (.cons (.ix (.var 2) (.int 0)) (.cons (.ix (.var 2) (.int 1)) (.cons (.ix (.var 2) (.int 2)) .nil)))) (.cons .non .nil))) (.cons (.ite (.cmp .isn (.call (.law 7) (.cons (.var 2) .nil)) .non) (.cons (.asg (.nm 9) (.call (.law 21) (.cons (.var 2) .nil))) .nil) .nil) (.cons (.asg (.nm 3) (.call (.p 34) (.cons (.var 8) .nil))) (.cons (.ite (.or (.cmp .ne (.call (.p 36) (.cons (.var 8) .nil)) (.var 9)) (.cmp .ne (.cmp .isn (.var 3) .non) (.cmp .isn (.var 9) .non))) (.cons (.ret (.bl false)) .nil) .nil) (.cons (.asg (.nm 4) (.lst .nil)) (.cons f_law_0v4_l1 (.cons f_law_0v4_l3 (.cons (.ite (.cmp .notn (.var 9) .non) (.cons (.asg (.nm 6) (.call (.law 18) (.cons (.var 2) (.cons (.var 3) .nil)))) (.cons (.ite (.or (.cmp .isn (.var 6) .non) (.or (.cmp .ge (.var 6) (.int 0)) (.or (.nott (.call (.p 35) (.cons (.var 8) (.cons (.var 3) .nil)))) (.cmp .gt (.b1 .len (.var 3)) (.int 40))))) (.cons (.ret (.bl false)) .nil) .nil) (.cons (.ite (.cmp .ne (.b1 .len f_law_0v4_c4) (.var 9)) (.cons (.ret (.bl false)) .nil) .nil) (.cons (.asg (.nm 10) (.call (.next) (.cons (.var 1) (.cons (.b1 .len (.var 3)) .nil)))) (.cons (.asg (.nm 3) (.bin .add (.bin .add (.sl (.var 3) .no (.so (.var 10))) (.bin .mul (.tup (.cons (.ix (.var 4) (.call (.next) (.cons (.var 1) (.cons (.b1 .len (.var 4)) .nil)))) .nil)) (.call (.next) (.cons (.var 1) (.cons (.int 2) .nil))))) (.sl (.var 3) (.so (.bin .add (.var 10) (.int 1))) .no))) .nil))))) (.cons (.asg (.nm 3) (.b1 .tuple f_law_0v4_c5)) .nil)) (.cons (.asg (.nm 6) (.call (.law 18) (.cons (.var 2) (.cons (.var 3) .nil)))) (.cons (.asg (.nm 7) (.lst (.cons .non (.cons (.tup .nil) (.cons (.int 3) (.cons (.bin .add (.b1 .tuple f_law_0v4_c6) (.tup (.cons (.tup (.cons (.str ("cell" : Str)) (.cons (.int 0) (.cons (.bl true) .nil)))) .nil))) .nil)))))) (.cons (.ite (.call (.p 35) (.cons (.var 8) (.cons (.ix (.var 7) (.call (.next) (.cons (.var 1) (.cons (.int 4) .nil)))) .nil))) (.cons (.ret (.bl false)) .nil) .nil) (.cons (.ret (.cmp .eq (.call (.p 35) (.cons (.var 8) (.cons (.var 3) .nil))) (.and (.cmp .notn (.var 6) .non) (.cmp .lt (.var 6) (.int 0))))) .nil)))))))))))))), false⟩
/-! law -/
def f_law_0v5_c0 : E := (.lc (.call (.next) (.cons (.var 1) (.cons (.bin .add (.ix (.var 3) (.int 1)) (.int 1)) .nil))) (.nm 10) (.rg1 (.ix (.var 3) (.int 0))))
def f_law_0v5_c1 : E := (.lci (.var 11) (.nm 11) (.of (.var 9)) (.cmp .ne (.bin .mod (.b1 .sum (.sl (.var 6) (.so (.ix (.var 11) (.int 0))) (.so (.ix (.var 11) (.int 1))))) (.int 10)) (.ix (.var 11) (.int 2))))
def f_law_0v5_b2 : Ss := (.cons (.ite (.cmp .eq f_law_0v5_c1 (.lst .nil)) (.cons (.app 5 (.var 6)) .nil) .nil) .nil)
def f_law_0v5_l3 : S := .for (.nm 6) (.of (.call (.law 6) (.cons (.var 3) .nil))) f_law_0v5_b2
def f_law_0v5_c4 : E := (.lc (.b1 .abs (.bin .sub (.ix (.var 6) (.var 10)) (.ix (.var 4) (.var 10)))) (.nm 10) (.rg1 (.ix (.var 3) (.int 0))))
def f_law_0v5_c5 : E := (.lc (.b1 .sum f_law_0v5_c4) (.nm 6) (.of (.var 5)))
def f_law_0v5_c6 : E := (.lci (.ix (.var 5) (.var 12)) (.nm 12) (.rg1 (.b1 .len (.var 5))) (.cmp .eq (.ix (.var 7) (.var 12)) (.b1 .min (.var 7))))
def f_law_0v5 : Fn := ⟨["_law_script", "_law_h", "_law_kind", "_law_b", "_law_row", "_law_due", "_law_one", "_law_far", "_law_told_here", "_law_rests_here", "_law_k", "_law_rest", "_law_j"], 1, (.cons (.asg (.nm 1) (.call (.mix) (.cons (.var 0) (.cons (.int 7) .nil)))) (.cons (.asg (.nm 2) (.call (.next) (.cons (.var 1) (.cons (.int 5) .nil)))) (.cons (.ite (.cmp .eq (.var 2) (.int 0)) (.cons (.asg (.nm 3) (.call (.law 3) (.cons (.var 1) (.cons (.int 8) (.cons (.ix (.lst (.cons (.int 1) (.cons (.int 12) .nil))) (.call (.next) (.cons (.var 1) (.cons (.int 2) .nil)))) (.cons (.int 3) .nil)))))) (.cons (.ite (.or (.cmp .gt (.ix (.var 3) (.int 0)) (.int 6)) (.cmp .gt (.ix (.var 3) (.int 1)) (.int 9))) (.cons (.ret (.cmp .isn (.call (.law 28) (.cons (.make .book (.cons (.ix (.var 3) (.int 0)) (.cons (.ix (.var 3) (.int 1)) (.cons (.ix (.var 3) (.int 2)) .nil)))) (.cons (.tup .nil) .nil))) .non)) .nil) .nil) (.cons (.ite (.cmp .gt (.ix (.var 3) (.int 0)) (.int 4)) (.cons (.ret (.cmp .eq (.cmp .isn (.call (.law 28) (.cons (.make .book (.cons (.ix (.var 3) (.int 0)) (.cons (.ix (.var 3) (.int 1)) (.cons (.ix (.var 3) (.int 2)) .nil)))) (.cons (.tup .nil) .nil))) .non) (.or (.cmp .gt (.ix (.var 3) (.int 1)) (.int 4)) (.and (.cmp .eq (.ix (.var 3) (.int 0)) (.int 6)) (.cmp .gt (.ix (.var 3) (.int 1)) (.int 3)))))) .nil) .nil) .nil))) .nil) (.cons (.asg (.nm 3) (.ifx (.cmp .lt (.var 2) (.int 3)) (.call (.law 3) (.cons (.var 1) (.cons (.int 3) (.cons (.int 9) (.cons (.int 4) .nil))))) (.call (.law 3) (.cons (.var 1) (.cons (.int 4) (.cons (.int 4) (.cons (.int 4) .nil))))))) (.cons (.ite (.and (.cmp .eq (.var 2) (.int 3)) (.cmp .eq (.call (.next) (.cons (.var 1) (.cons (.int 3) .nil))) (.int 0))) (.cons (.asg (.nm 3) (.call (.law 3) (.cons (.var 1) (.cons (.int 6) (.cons (.int 2) (.cons (.int 9) .nil)))))) .nil) .nil) (.cons (.asg (.nm 4) (.b1 .tuple f_law_0v5_c0)) (.cons (.par [8, 9] (.cons (.make .book (.cons (.ix (.var 3) (.int 0)) (.cons (.ix (.var 3) (.int 1)) (.cons (.ix (.var 3) (.int 2)) .nil)))) (.cons (.call (.law 27) (.cons (.var 1) (.cons (.var 4) (.cons (.int 3) .nil)))) .nil))) (.cons (.own 5 (.lst .nil)) (.cons f_law_0v5_l3 (.cons (.ite (.or (.cmp .ne (.call (.law 28) (.cons (.var 8) (.cons (.var 9) .nil))) (.var 5)) (.nott (.isa (.call (.p 50) (.cons (.var 8) (.cons (.var 9) .nil))) .list))) (.cons (.ret (.bl false)) .nil) .nil) (.cons (.frz 5) (.cons (.asg (.nm 7) f_law_0v5_c5) (.cons (.ite (.cmp .eq (.var 5) (.lst .nil)) (.cons (.ret (.cmp .isn (.call (.law 29) (.cons (.var 8) (.cons (.var 9) (.cons (.var 4) .nil)))) .non)) .nil) .nil) (.cons (.ret (.cmp .eq (.call (.law 29) (.cons (.var 8) (.cons (.var 9) (.cons (.var 4) .nil)))) (.tup (.cons (.b1 .min (.var 7)) (.cons f_law_0v5_c6 .nil))))) .nil)))))))))))))), false⟩
/-! law -/
def f_law_0v6 : Fn := ⟨["_law_script", "_law_h"], 1, (.cons (.asg (.nm 1) (.call (.mix) (.cons (.var 0) (.cons (.int 16) .nil)))) (.cons (.ret (.callv [.law 10, .law 53, .law 54, .law 55, .law 56] (.call (.next) (.cons (.var 1) (.cons (.int 5) .nil))) .nil)) .nil)), false⟩
/-! law -/
def f_law_0v7_c0 : E := (.lci (.var 12) (.nm 12) (.of (.var 10)) (.cmp .notin (.var 12) (.var 11)))
def f_law_0v7_c1 : E := (.lci (.var 12) (.nm 12) (.of (.var 11)) (.cmp .notin (.var 12) (.var 10)))
def f_law_0v7_c2 : E := (.lci (.var 12) (.nm 12) (.of (.var 10)) (.cmp .notin (.var 12) (.var 11)))
def f_law_0v7_c3 : E := (.lci (.var 12) (.nm 12) (.of (.var 11)) (.cmp .notin (.var 12) (.var 10)))
def f_law_0v7 : Fn := ⟨["_law_script", "_law_h", "_law_a", "_law_b", "_law_inside", "_law_back", "_law_apart_here", "_law_due", "_law_one", "_law_other", "_law_first", "_law_second", "_law_row"], 1, (.cons (.asg (.nm 1) (.call (.mix) (.cons (.var 0) (.cons (.int 17) .nil)))) (.cons (.asg (.nm 2) (.call (.law 3) (.cons (.var 1) (.cons (.int 4) (.cons (.int 3) (.cons (.int 4) .nil)))))) (.cons (.asg (.nm 3) (.call (.law 57) (.cons (.var 1) (.cons (.var 2) .nil)))) (.cons (.par [8, 9] (.cons (.make .book (.cons (.ix (.var 2) (.int 0)) (.cons (.ix (.var 2) (.int 1)) (.cons (.ix (.var 2) (.int 2)) .nil)))) (.cons (.make .book (.cons (.ix (.var 3) (.int 0)) (.cons (.ix (.var 3) (.int 1)) (.cons (.ix (.var 3) (.int 2)) .nil)))) .nil))) (.cons (.asg (.tp (.cons (.nm 10) (.cons (.nm 11) .nil))) (.tup (.cons (.call (.law 6) (.cons (.var 2) .nil)) (.cons (.call (.law 6) (.cons (.var 3) .nil)) .nil)))) (.cons (.asg (.nm 4) (.cmp .eq f_law_0v7_c0 (.lst .nil))) (.cons (.asg (.nm 5) (.cmp .eq f_law_0v7_c1 (.lst .nil))) (.cons (.ite (.or (.cmp .ne (.call (.p 70) (.cons (.var 8) (.cons (.var 9) .nil))) (.var 4)) (.or (.cmp .ne (.call (.p 70) (.cons (.var 9) (.cons (.var 8) .nil))) (.var 5)) (.cmp .ne (.call (.p 71) (.cons (.var 8) (.cons (.var 9) .nil))) (.and (.var 4) (.var 5))))) (.cons (.ret (.bl false)) .nil) .nil) (.cons (.asg (.nm 6) (.bin .add f_law_0v7_c2 f_law_0v7_c3)) (.cons (.asg (.nm 7) (.ifx (.cmp .ne (.var 6) (.lst .nil)) (.b1 .min (.var 6)) .non)) (.cons (.ite (.or (.cmp .ne (.call (.p 74) (.cons (.var 8) (.cons (.var 9) .nil))) (.var 7)) (.or (.cmp .ne (.call (.p 74) (.cons (.var 9) (.cons (.var 8) .nil))) (.var 7)) (.cmp .notn (.call (.p 71) (.cons (.var 8) (.cons (.var 8) .nil))) (.bl true)))) (.cons (.ret (.bl false)) .nil) .nil) (.cons (.ret (.call (.law 58) (.cons (.var 8) (.cons (.make .book (.cons (.bin .add (.ix (.var 2) (.int 0)) (.int 1)) (.cons (.ix (.var 2) (.int 1)) (.cons (.tup .nil) .nil)))) .nil)))) .nil)))))))))))), false⟩
/-! law -/
def f_law_0v8_c0 : E := (.lci (.var 9) (.nm 9) (.rg1 (.b1 .len (.var 7))) (.or (.cmp .lt (.ix (.ix (.var 7) (.var 9)) (.int 2)) (.ix (.ix (.var 8) (.var 9)) (.int 2))) (.cmp .gt (.ix (.ix (.var 7) (.var 9)) (.int 3)) (.ix (.ix (.var 8) (.var 9)) (.int 3)))))
def f_law_0v8 : Fn := ⟨["_law_script", "_law_h", "_law_a", "_law_b", "_law_inside", "_law_one", "_law_other", "_law_first", "_law_second", "_law_k"], 1, (.cons (.asg (.nm 1) (.call (.mix) (.cons (.var 0) (.cons (.int 18) .nil)))) (.cons (.asg (.nm 2) (.call (.law 3) (.cons (.var 1) (.cons (.int 8) (.cons (.ix (.lst (.cons (.int 3) (.cons (.int 40) (.cons (.bin .pow (.int 10) (.int 29)) .nil)))) (.call (.next) (.cons (.var 1) (.cons (.int 3) .nil)))) (.cons (.int 7) .nil)))))) (.cons (.asg (.nm 3) (.call (.law 57) (.cons (.var 1) (.cons (.var 2) .nil)))) (.cons (.par [5, 6] (.cons (.make .book (.cons (.ix (.var 2) (.int 0)) (.cons (.ix (.var 2) (.int 1)) (.cons (.ix (.var 2) (.int 2)) .nil)))) (.cons (.make .book (.cons (.ix (.var 3) (.int 0)) (.cons (.ix (.var 3) (.int 1)) (.cons (.ix (.var 3) (.int 2)) .nil)))) .nil))) (.cons (.asg (.tp (.cons (.nm 7) (.cons (.nm 8) .nil))) (.tup (.cons (.call (.law 59) (.cons (.var 2) .nil)) (.cons (.call (.law 59) (.cons (.var 3) .nil)) .nil)))) (.cons (.ite (.or (.cmp .ne (.call (.law 28) (.cons (.var 5) .nil)) (.var 7)) (.cmp .ne (.call (.law 28) (.cons (.var 6) .nil)) (.var 8))) (.cons (.ret (.bl false)) .nil) .nil) (.cons (.ite (.cmp .ne (.call (.p 71) (.cons (.var 5) (.cons (.var 6) .nil))) (.cmp .eq (.var 7) (.var 8))) (.cons (.ret (.bl false)) .nil) .nil) (.cons (.ite (.or (.cmp .isn (.var 7) .non) (.cmp .isn (.var 8) .non)) (.cons (.ret (.cmp .eq (.call (.p 70) (.cons (.var 5) (.cons (.var 6) .nil))) (.cmp .isn (.var 7) .non))) .nil) .nil) (.cons (.asg (.nm 4) (.cmp .eq f_law_0v8_c0 (.lst .nil))) (.cons (.ret (.cmp .eq (.call (.p 70) (.cons (.var 5) (.cons (.var 6) .nil))) (.var 4))) .nil)))))))))), false⟩
/-! law -/
def f_law_0v9_c0 : E := (.lc (.neg (.ix (.var 7) (.tup (.cons (.var 12) (.cons (.int 0) .nil))))) (.nm 12) (.rg2 (.int 1) (.bin .add (.ix (.var 2) (.int 0)) (.int 1))))
def f_law_0v9_c1 : E := (.lc (.ix (.var 7) (.tup (.cons (.int 0) (.cons (.var 12) .nil)))) (.nm 12) (.rg2 (.int 1) (.bin .add (.ix (.var 2) (.int 0)) (.int 1))))
def f_law_0v9_c2 : E := (.lc (.tup (.cons (.ix (.call (.law 60) (.cons (.var 10) .nil)) (.var 12)) (.cons (.ix (.call (.law 60) (.cons (.var 11) .nil)) (.var 12)) .nil))) (.nm 12) (.rg1 (.ix (.var 2) (.int 0))))
def f_law_0v9_c3 : E := (.lc (.b1 .max (.var 13)) (.nm 13) (.of (.var 3)))
def f_law_0v9_c4 : E := (.lc (.b1 .min (.var 13)) (.nm 13) (.of (.var 3)))
def f_law_0v9_c5 : E := (.lc (.call (.next) (.cons (.var 1) (.cons (.bin .add (.ix (.var 2) (.int 1)) (.int 1)) .nil))) (.nm 12) (.rg1 (.ix (.var 2) (.int 0))))
def f_law_0v9 : Fn := ⟨["_law_script", "_law_h", "_law_b", "_law_pairs", "_law_due", "_law_bad", "_law_told", "_law_far", "_law_low", "_law_high", "_law_one", "_law_other", "_law_k", "_law_pair"], 1, (.cons (.asg (.nm 1) (.call (.mix) (.cons (.var 0) (.cons (.int 20) .nil)))) (.cons (.asg (.nm 2) (.call (.law 3) (.cons (.var 1) (.cons (.int 10) (.cons (.ix (.lst (.cons (.int 3) (.cons (.int 30) (.cons (.bin .pow (.int 10) (.int 30)) .nil)))) (.call (.next) (.cons (.var 1) (.cons (.int 3) .nil)))) (.cons (.int 8) .nil)))))) (.cons (.asg (.tp (.cons (.nm 6) (.cons (.nm 7) .nil))) (.tup (.cons (.make .book (.cons (.ix (.var 2) (.int 0)) (.cons (.ix (.var 2) (.int 1)) (.cons (.ix (.var 2) (.int 2)) .nil)))) (.cons (.call (.law 7) (.cons (.var 2) .nil)) .nil)))) (.cons (.ite (.cmp .isn (.var 7) .non) (.cons (.ret (.call (.law 64) (.cons (.var 6) .nil))) .nil) .nil) (.cons (.par [8, 9] (.cons (.call (.p 80) (.cons (.var 6) .nil)) (.cons (.call (.p 81) (.cons (.var 6) .nil)) .nil))) (.cons (.ite (.or (.cmp .ne (.call (.law 60) (.cons (.var 8) .nil)) f_law_0v9_c0) (.cmp .ne (.call (.p 6) (.cons (.var 6) (.cons (.var 8) .nil))) (.lst .nil))) (.cons (.ret (.bl false)) .nil) .nil) (.cons (.ite (.or (.cmp .ne (.call (.law 60) (.cons (.var 9) .nil)) f_law_0v9_c1) (.cmp .ne (.call (.p 6) (.cons (.var 6) (.cons (.var 9) .nil))) (.lst .nil))) (.cons (.ret (.bl false)) .nil) .nil) (.cons (.asg (.tp (.cons (.nm 10) (.cons (.nm 11) .nil))) (.tup (.cons (.call (.law 62) (.cons (.var 1) (.cons (.var 2) (.cons (.var 6) .nil)))) (.cons (.call (.law 62) (.cons (.var 1) (.cons (.var 2) (.cons (.var 6) .nil)))) .nil)))) (.cons (.asg (.nm 3) f_law_0v9_c2) (.cons (.asg (.nm 4) (.tup (.cons (.call (.law 61) (.cons f_law_0v9_c4 .nil)) (.cons (.call (.law 61) (.cons f_law_0v9_c3 .nil)) .nil)))) (.cons (.ite (.or (.cmp .ne (.call (.p 83) (.cons (.var 6) (.cons (.var 10) (.cons (.var 11) .nil)))) (.var 4)) (.or (.cmp .ne (.call (.p 6) (.cons (.var 6) (.cons (.ix (.var 4) (.int 0)) .nil))) (.lst .nil)) (.cmp .ne (.call (.p 6) (.cons (.var 6) (.cons (.ix (.var 4) (.int 1)) .nil))) (.lst .nil)))) (.cons (.ret (.bl false)) .nil) .nil) (.cons (.asg (.nm 5) (.b1 .tuple f_law_0v9_c5)) (.cons (.ite (.cmp .eq (.call (.p 6) (.cons (.var 6) (.cons (.var 5) .nil))) (.lst .nil)) (.cons (.ret (.cmp .eq (.call (.law 63) (.cons (.var 6) (.cons (.var 5) (.cons (.var 5) .nil)))) (.tup (.cons (.var 5) (.cons (.var 5) .nil))))) .nil) .nil) (.cons (.ret (.and (.cmp .isn (.call (.law 63) (.cons (.var 6) (.cons (.var 5) (.cons (.var 10) .nil)))) .non) (.cmp .isn (.call (.law 63) (.cons (.var 6) (.cons (.var 10) (.cons (.var 5) .nil)))) .non))) .nil)))))))))))))), false⟩
/-! law -/
def f_law_0v10_c0 : E := (.lc (.call (.next) (.cons (.var 1) (.cons (.bin .add (.ix (.var 2) (.int 1)) (.int 1)) .nil))) (.nm 7) (.rg1 (.ix (.var 2) (.int 0))))
def f_law_0v10_c1 : E := (.lc (.b1 .abs (.bin .sub (.ix (.var 4) (.var 7)) (.ix (.var 6) (.var 7)))) (.nm 7) (.rg1 (.ix (.var 2) (.int 0))))
def f_law_0v10_b2 : Ss := (.cons (.app 3 (.tup (.cons (.b1 .max f_law_0v10_c1) (.cons (.var 4) .nil)))) .nil)
def f_law_0v10_l3 : S := .for (.nm 4) (.of (.call (.law 6) (.cons (.var 2) .nil))) f_law_0v10_b2
def f_law_0v10 : Fn := ⟨["_law_script", "_law_h", "_law_b", "_law_every", "_law_one", "_law_told_here", "_law_row", "_law_k"], 1, (.cons (.asg (.nm 1) (.call (.mix) (.cons (.var 0) (.cons (.int 21) .nil)))) (.cons (.asg (.nm 2) (.call (.law 3) (.cons (.var 1) (.cons (.int 4) (.cons (.int 4) (.cons (.int 5) .nil)))))) (.cons (.asg (.tp (.cons (.nm 5) (.cons (.nm 6) .nil))) (.tup (.cons (.make .book (.cons (.ix (.var 2) (.int 0)) (.cons (.ix (.var 2) (.int 1)) (.cons (.ix (.var 2) (.int 2)) .nil)))) (.cons (.b1 .tuple f_law_0v10_c0) .nil)))) (.cons (.own 3 (.lst .nil)) (.cons f_law_0v10_l3 (.cons (.ite (.cmp .eq (.var 3) (.lst .nil)) (.cons (.ret (.and (.cmp .isn (.call (.law 28) (.cons (.var 5) (.cons (.var 6) .nil))) .non) (.cmp .eq (.call (.law 65) (.cons (.var 5) (.cons (.var 6) .nil))) (.str ("none" : Str))))) .nil) .nil) (.cons (.ret (.and (.cmp .eq (.call (.law 28) (.cons (.var 5) (.cons (.var 6) .nil))) (.b1 .min (.var 3))) (.cmp .eq (.cmp .isn (.call (.law 65) (.cons (.var 5) (.cons (.var 6) .nil))) .non) (.cmp .eq (.ix (.b1 .min (.var 3)) (.int 0)) (.int 0))))) .nil))))))), false⟩
/-! law -/
def f_law_0v11_c0 : E := (.lc (.call (.next) (.cons (.var 1) (.cons (.bin .add (.ix (.var 2) (.int 1)) (.int 1)) .nil))) (.nm 9) (.rg1 (.ix (.var 2) (.int 0))))
def f_law_0v11_c1 : E := (.lc (.b1 .abs (.bin .sub (.ix (.var 4) (.var 9)) (.ix (.var 7) (.var 9)))) (.nm 9) (.rg1 (.ix (.var 2) (.int 0))))
def f_law_0v11 : Fn := ⟨["_law_script", "_law_h", "_law_b", "_law_far", "_law_near", "_law_value", "_law_told_here", "_law_row", "_law_number", "_law_k"], 1, (.cons (.asg (.nm 1) (.call (.mix) (.cons (.var 0) (.cons (.int 22) .nil)))) (.cons (.asg (.nm 2) (.call (.law 3) (.cons (.var 1) (.cons (.ix (.lst (.cons (.int 8) (.cons (.int 20) .nil))) (.call (.next) (.cons (.var 1) (.cons (.int 2) .nil)))) (.cons (.ix (.lst (.cons (.int 9) (.cons (.int 60) (.cons (.int 1000) (.cons (.bin .pow (.int 10) (.int 9)) (.cons (.bin .pow (.int 10) (.int 30)) .nil)))))) (.call (.next) (.cons (.var 1) (.cons (.int 5) .nil)))) (.cons (.int 8) .nil)))))) (.cons (.asg (.tp (.cons (.nm 6) (.cons (.nm 7) .nil))) (.tup (.cons (.make .book (.cons (.ix (.var 2) (.int 0)) (.cons (.ix (.var 2) (.int 1)) (.cons (.ix (.var 2) (.int 2)) .nil)))) (.cons (.b1 .tuple f_law_0v11_c0) .nil)))) (.cons (.asg (.nm 3) (.call (.law 28) (.cons (.var 6) (.cons (.var 7) .nil)))) (.cons (.ite (.cmp .isn (.var 3) .non) (.cons (.ret (.bl true)) .nil) .nil) (.cons (.asg (.nm 4) (.call (.p 92) (.cons (.var 6) (.cons (.var 7) .nil)))) (.cons (.ite (.or (.cmp .ne (.call (.p 6) (.cons (.var 6) (.cons (.var 4) .nil))) (.lst .nil)) (.cmp .ne (.b1 .max f_law_0v11_c1) (.var 3))) (.cons (.ret (.bl false)) .nil) .nil) (.cons (.asg (.nm 5) (.call (.p 93) (.cons (.var 6) (.cons (.var 7) .nil)))) (.cons (.ite (.cmp .eq (.var 3) (.int 0)) (.cons (.ret (.and (.cmp .isn (.var 5) .non) (.nott (.call (.p 97) (.cons (.var 6) (.cons (.var 7) (.cons (.int 1) (.cons (.tup (.cons (.tup (.cons (.str ("row" : Str)) (.cons (.int 0) (.cons (.int 1) .nil)))) (.cons (.tup (.cons (.str ("row" : Str)) (.cons (.int 0) (.cons (.neg (.int 1)) .nil)))) .nil))) .nil)))))))) .nil) .nil) (.cons (.ite (.or (.nott (.call (.law 67) (.cons (.var 2) (.cons (.var 7) (.cons (.var 3) (.cons (.var 5) .nil)))))) (.nott (.call (.p 97) (.cons (.var 6) (.cons (.var 7) (.cons (.var 3) (.cons (.var 5) .nil))))))) (.cons (.ret (.bl false)) .nil) .nil) (.cons (.par [5, 8] (.cons (.call (.law 19) (.cons (.var 1) (.cons (.var 2) (.cons (.var 5) .nil)))) (.cons (.b2 .max (.int 1) (.bin .sub (.var 3) (.call (.next) (.cons (.var 1) (.cons (.int 3) .nil))))) .nil))) (.cons (.ret (.cmp .eq (.call (.p 97) (.cons (.var 6) (.cons (.var 7) (.cons (.var 8) (.cons (.var 5) .nil))))) (.call (.law 67) (.cons (.var 2) (.cons (.var 7) (.cons (.var 8) (.cons (.var 5) .nil))))))) .nil)))))))))))), false⟩
/-! law -/
def f_law_0v12_c0 : E := (.lc (.call (.next) (.cons (.var 1) (.cons (.bin .add (.ix (.var 3) (.int 1)) (.int 1)) .nil))) (.nm 15) (.rg1 (.ix (.var 3) (.int 0))))
def f_law_0v12_b1 : Ss := (.cons (.asg (.nm 8) f_law_0v12_c0) (.cons (.put 3 (.int 2) (.bin .add (.ix (.var 3) (.int 2)) (.tup (.cons (.call (.law 2) (.cons (.var 1) (.cons (.var 8) (.cons (.int 2) .nil)))) .nil)))) .nil))
def f_law_0v12_l2 : S := .for (.nm 4) (.rg1 (.call (.next) (.cons (.var 1) (.cons (.int 4) .nil)))) f_law_0v12_b1
def f_law_0v12 : Fn := ⟨["_law_script", "_law_h", "_law_small", "_law_b", "_law_k", "_law_told", "_law_link", "_law_value", "_law_row", "_law_s", "_law_spot", "_law_number", "_law_word", "_law_place", "_law_way", "_law_j"], 1, (.cons (.asg (.nm 1) (.call (.mix) (.cons (.var 0) (.cons (.int 23) .nil)))) (.cons (.asg (.nm 2) (.cmp .eq (.call (.next) (.cons (.var 1) (.cons (.int 2) .nil))) (.int 0))) (.cons (.own 3 (.call (.law 3) (.cons (.var 1) (.cons (.ifx (.var 2) (.int 3) (.ix (.lst (.cons (.int 8) (.cons (.int 20) .nil))) (.call (.next) (.cons (.var 1) (.cons (.int 2) .nil))))) (.cons (.ix (.lst (.cons (.int 3) (.cons (.int 60) (.cons (.bin .pow (.int 10) (.int 30)) .nil)))) (.ifx (.var 2) (.int 0) (.call (.next) (.cons (.var 1) (.cons (.int 3) .nil))))) (.cons (.int 4) .nil)))))) (.cons f_law_0v12_l2 (.cons (.asg (.nm 5) (.make .book (.cons (.ix (.var 3) (.int 0)) (.cons (.ix (.var 3) (.int 1)) (.cons (.ix (.var 3) (.int 2)) .nil))))) (.cons (.par [9, 8, 7] (.cons (.call (.p 98) (.cons (.var 5) .nil)) (.cons (.call (.p 99) (.cons (.var 5) .nil)) (.cons (.call (.p 100) (.cons (.var 5) .nil)) .nil)))) (.cons (.frz 3) (.cons (.ite (.and (.var 2) (.cmp .ne (.tup (.cons (.var 9) (.cons (.var 8) .nil))) (.call (.law 69) (.cons (.var 3) .nil)))) (.cons (.ret (.bl false)) .nil) .nil) (.cons (.ite (.cmp .ne (.call (.p 6) (.cons (.make .book (.cons (.ix (.var 3) (.int 0)) (.cons (.ix (.var 3) (.int 1)) (.cons (.call (.law 68) (.cons (.var 3) (.cons (.var 9) .nil))) .nil)))) (.cons (.var 8) .nil))) (.lst .nil)) (.cons (.ret (.bl false)) .nil) .nil) (.cons (.ite (.cmp .eq (.var 9) (.int 0)) (.cons (.ret (.and (.cmp .isn (.var 7) .non) (.nott (.call (.p 101) (.cons (.var 5) (.cons (.int 1) (.cons (.tup (.cons (.tup (.cons (.str ("cell" : Str)) (.cons (.int 0) (.cons (.int 1) .nil)))) (.cons (.tup (.cons (.str ("cell" : Str)) (.cons (.int 0) (.cons (.neg (.int 1)) .nil)))) .nil))) .nil))))))) .nil) .nil) (.cons (.ite (.or (.nott (.isa (.var 7) .tuple)) (.or (.nott (.call (.law 67) (.cons (.var 3) (.cons (.var 9) (.cons (.var 7) .nil))))) (.nott (.call (.p 101) (.cons (.var 5) (.cons (.var 9) (.cons (.var 7) .nil))))))) (.cons (.ret (.bl false)) .nil) .nil) (.cons (.par [10, 11] (.cons (.call (.next) (.cons (.var 1) (.cons (.b1 .len (.var 7)) .nil))) (.cons (.b2 .max (.int 1) (.bin .add (.bin .sub (.var 9) (.call (.next) (.cons (.var 1) (.cons (.int 3) .nil)))) (.call (.next) (.cons (.var 1) (.cons (.int 2) .nil))))) .nil))) (.cons (.asg (.tp (.cons (.nm 12) (.cons (.nm 13) (.cons (.nm 14) .nil)))) (.ix (.var 7) (.var 10))) (.cons (.asg (.nm 6) (.tup (.cons (.var 12) (.cons (.var 13) (.cons (.bin .mul (.var 14) (.ix (.lst (.cons (.int 1) (.cons (.neg (.int 1)) .nil))) (.call (.next) (.cons (.var 1) (.cons (.int 2) .nil))))) .nil))))) (.cons (.asg (.nm 7) (.bin .add (.bin .add (.sl (.var 7) .no (.so (.var 10))) (.bin .mul (.tup (.cons (.var 6) .nil)) (.call (.next) (.cons (.var 1) (.cons (.int 3) .nil))))) (.sl (.var 7) (.so (.bin .add (.var 10) (.int 1))) .no))) (.cons (.ite (.call (.p 101) (.cons (.var 5) (.cons (.var 11) (.cons (.ix (.lst (.cons .non (.cons (.tup .nil) (.cons (.int 3) (.cons (.tup (.cons .non .nil)) .nil))))) (.call (.next) (.cons (.var 1) (.cons (.int 4) .nil)))) .nil)))) (.cons (.ret (.bl false)) .nil) .nil) (.cons (.ret (.cmp .eq (.call (.p 101) (.cons (.var 5) (.cons (.var 11) (.cons (.var 7) .nil)))) (.call (.law 67) (.cons (.var 3) (.cons (.var 11) (.cons (.var 7) .nil)))))) .nil))))))))))))))))), false⟩
/-! law -/
def f_law_0v13_c0 : E := (.lc (.call (.next) (.cons (.var 1) (.cons (.bin .add (.var 14) (.int 1)) .nil))) (.nm 15) (.rg1 (.var 13)))
def f_law_0v13_c1 : E := (.lc (.call (.law 26) (.cons (.var 1) (.cons (.var 2) (.cons (.int 3) .nil)))) (.nm 15) (.rg1 (.call (.next) (.cons (.var 1) (.cons (.int 6) .nil)))))
def f_law_0v13_c2 : E := (.lci (.var 16) (.nm 16) (.of (.var 3)) (.nott (.chain .le .le (.ix (.var 16) (.int 2)) (.call (.law 25) (.cons (.var 6) (.cons (.ix (.var 16) (.int 0)) (.cons (.ix (.var 16) (.int 1)) .nil)))) (.ix (.var 16) (.int 3)))))
def f_law_0v13_b3 : Ss := (.cons (.ite (.cmp .eq f_law_0v13_c2 (.lst .nil)) (.cons (.app 5 (.var 6)) .nil) .nil) .nil)
def f_law_0v13_l4 : S := .for (.nm 6) (.of (.call (.law 5) (.cons (.var 13) (.cons (.var 14) .nil)))) f_law_0v13_b3
def f_law_0v13_c5 : E := (.lc (.b1 .sum (.var 6)) (.nm 6) (.of (.var 5)))
def f_law_0v13_c6 : E := (.lci (.var 6) (.nm 6) (.of (.var 5)) (.cmp .eq (.b1 .sum (.var 6)) (.var 8)))
def f_law_0v13_c7 : E := (.lc (.call (.law 25) (.cons (.var 6) (.cons (.var 10) (.cons (.var 11) .nil)))) (.nm 6) (.of (.var 5)))
def f_law_0v13 : Fn := ⟨["_law_script", "_law_h", "_law_row", "_law_facts", "_law_great", "_law_fine", "_law_one", "_law_totals_here", "_law_total", "_law_those", "_law_begin", "_law_end", "_law_own", "_law_cells", "_law_most", "_law_k", "_law_fact_here"], 1, (.cons (.asg (.nm 1) (.call (.mix) (.cons (.var 0) (.cons (.int 24) .nil)))) (.cons (.ite (.cmp .eq (.call (.next) (.cons (.var 1) (.cons (.int 6) .nil))) (.int 0)) (.cons (.ret (.call (.law 15) (.cons (.var 1) .nil))) .nil) .nil) (.cons (.asg (.tp (.cons (.nm 13) (.cons (.nm 14) .nil))) (.tup (.cons (.bin .add (.int 1) (.call (.next) (.cons (.var 1) (.cons (.int 4) .nil)))) (.cons (.call (.next) (.cons (.var 1) (.cons (.int 4) .nil))) .nil)))) (.cons (.asg (.nm 2) (.b1 .tuple f_law_0v13_c0)) (.cons (.asg (.nm 3) (.b1 .tuple f_law_0v13_c1)) (.cons (.asg (.nm 4) (.make .round (.cons (.var 13) (.cons (.var 14) (.cons (.var 3) .nil))))) (.cons (.ite (.or (.cmp .ne (.prop (.var 4) .round 0) (.var 13)) (.or (.cmp .ne (.prop (.var 4) .round 1) (.var 14)) (.or (.cmp .ne (.prop (.var 4) .round 2) (.var 3)) (.cmp .ne (.leno (.var 4) .round) (.b1 .len (.var 3)))))) (.cons (.ret (.bl false)) .nil) .nil) (.cons (.ite (.or (.nott (.eqo .round (.var 4) (.make .round (.cons (.var 13) (.cons (.var 14) (.cons (.var 3) .nil)))))) (.eqo .round (.var 4) (.make .ring (.cons (.var 13) (.cons (.var 14) (.cons (.var 3) .nil)))))) (.cons (.ret (.bl false)) .nil) .nil) (.cons (.own 5 (.lst .nil)) (.cons f_law_0v13_l4 (.cons (.frz 5) (.cons (.asg (.nm 7) f_law_0v13_c5) (.cons (.ite (.cmp .ne (.call (.law 70) (.cons (.var 4) .nil)) (.ifx (.cmp .ne (.var 5) (.lst .nil)) (.tup (.cons (.b1 .min (.var 7)) (.cons (.b1 .max (.var 7)) .nil))) .non)) (.cons (.ret (.bl false)) .nil) .nil) (.cons (.asg (.nm 8) (.bin .sub (.call (.next) (.cons (.var 1) (.cons (.bin .add (.bin .mul (.var 13) (.var 14)) (.int 3)) .nil))) (.int 1))) (.cons (.asg (.nm 9) f_law_0v13_c6) (.cons (.ite (.cmp .ne (.call (.p 110) (.cons (.var 4) (.cons (.var 8) .nil))) (.ifx (.cmp .ne (.var 9) (.lst .nil)) (.ix (.var 9) (.int 0)) .non)) (.cons (.ret (.bl false)) .nil) .nil) (.cons (.asg (.nm 10) (.call (.next) (.cons (.var 1) (.cons (.var 13) .nil)))) (.cons (.asg (.nm 11) (.bin .add (.bin .add (.var 10) (.int 1)) (.call (.next) (.cons (.var 1) (.cons (.var 13) .nil))))) (.cons (.asg (.nm 12) f_law_0v13_c7) (.cons (.ret (.cmp .eq (.call (.law 10) (.cons (.var 4) (.cons (.var 10) (.cons (.var 11) .nil)))) (.ifx (.cmp .ne (.var 12) (.lst .nil)) (.tup (.cons (.b1 .min (.var 12)) (.cons (.b1 .max (.var 12)) .nil))) .non))) .nil)))))))))))))))))))), false⟩
/-! law -/
def f_law_0v14_c0 : E := (.lc (.call (.next) (.cons (.var 1) (.cons (.bin .add (.var 11) (.int 1)) .nil))) (.nm 17) (.rg1 (.var 10)))
def f_law_0v14_c1 : E := (.lc (.call (.law 26) (.cons (.var 1) (.cons (.var 3) (.cons (.var 4) .nil)))) (.nm 17) (.rg1 (.call (.next) (.cons (.var 1) (.cons (.int 6) .nil)))))
def f_law_0v14_b2 : Ss := (.cons (.asg (.nm 14) (.call (.p 110) (.cons (.var 5) (.cons (.var 7) .nil)))) (.cons (.ite (.or (.nott (.call (.law 71) (.cons (.var 5) (.cons (.var 14) .nil)))) (.cmp .ne (.b1 .sum (.var 14)) (.var 7))) (.cons (.ret (.bl false)) .nil) .nil) .nil))
def f_law_0v14_l3 : S := .for (.nm 7) (.of (.lst (.cons (.var 12) (.cons (.var 13) (.cons (.bin .add (.var 12) (.call (.next) (.cons (.var 1) (.cons (.bin .add (.bin .sub (.var 13) (.var 12)) (.int 1)) .nil)))) .nil))))) f_law_0v14_b2
def f_law_0v14 : Fn := ⟨["_law_script", "_law_h", "_law_far", "_law_row", "_law_loose", "_law_great", "_law_totals_here", "_law_total", "_law_begin", "_law_end", "_law_cells", "_law_most", "_law_low", "_law_high", "_law_one", "_law_least", "_law_greatest", "_law_k"], 1, (.cons (.asg (.nm 1) (.call (.mix) (.cons (.var 0) (.cons (.int 25) .nil)))) (.cons (.asg (.nm 2) (.ix (.lst (.cons (.int 9) (.cons (.int 60) (.cons (.int 1000) (.cons (.bin .pow (.int 10) (.int 9)) .nil))))) (.call (.next) (.cons (.var 1) (.cons (.int 4) .nil))))) (.cons (.ite (.cmp .eq (.call (.next) (.cons (.var 1) (.cons (.int 12) .nil))) (.int 0)) (.cons (.asg (.nm 2) (.bin .pow (.int 10) (.int 30))) .nil) .nil) (.cons (.asg (.tp (.cons (.nm 10) (.cons (.nm 11) .nil))) (.tup (.cons (.bin .add (.int 1) (.call (.next) (.cons (.var 1) (.cons (.int 6) .nil)))) (.cons (.call (.next) (.cons (.var 1) (.cons (.bin .add (.var 2) (.int 1)) .nil))) .nil)))) (.cons (.asg (.nm 3) (.b1 .tuple f_law_0v14_c0)) (.cons (.asg (.nm 4) (.ix (.lst (.cons (.int 1) (.cons (.int 3) (.cons (.bin .add (.int 1) (.var 11)) .nil)))) (.call (.next) (.cons (.var 1) (.cons (.int 3) .nil))))) (.cons (.asg (.nm 5) (.make .round (.cons (.var 10) (.cons (.var 11) (.cons (.b1 .tuple f_law_0v14_c1) .nil))))) (.cons (.asg (.nm 6) (.call (.law 70) (.cons (.var 5) .nil))) (.cons (.ite (.cmp .isn (.var 6) .non) (.cons (.ret (.nott (.call (.law 71) (.cons (.var 5) (.cons (.var 3) .nil))))) .nil) .nil) (.cons (.asg (.tp (.cons (.nm 12) (.cons (.nm 13) .nil))) (.var 6)) (.cons (.ite (.and (.call (.law 71) (.cons (.var 5) (.cons (.var 3) .nil))) (.nott (.chain .le .le (.var 12) (.b1 .sum (.var 3)) (.var 13)))) (.cons (.ret (.bl false)) .nil) .nil) (.cons f_law_0v14_l3 (.cons (.ite (.or (.cmp .notn (.call (.p 110) (.cons (.var 5) (.cons (.bin .sub (.var 12) (.int 1)) .nil))) .non) (.cmp .notn (.call (.p 110) (.cons (.var 5) (.cons (.bin .add (.var 13) (.int 1)) .nil))) .non)) (.cons (.ret (.bl false)) .nil) .nil) (.cons (.asg (.nm 8) (.call (.next) (.cons (.var 1) (.cons (.var 10) .nil)))) (.cons (.asg (.nm 9) (.bin .add (.bin .add (.var 8) (.int 1)) (.call (.next) (.cons (.var 1) (.cons (.var 10) .nil))))) (.cons (.asg (.tp (.cons (.nm 15) (.cons (.nm 16) .nil))) (.call (.p 112) (.cons (.var 5) (.cons (.var 8) (.cons (.var 9) .nil))))) (.cons (.ite (.or (.nott (.call (.law 72) (.cons (.var 5) (.cons (.var 8) (.cons (.var 9) (.cons (.var 15) .nil)))))) (.nott (.call (.law 72) (.cons (.var 5) (.cons (.var 8) (.cons (.var 9) (.cons (.var 16) .nil))))))) (.cons (.ret (.bl false)) .nil) .nil) (.cons (.ret (.and (.nott (.call (.law 72) (.cons (.var 5) (.cons (.var 8) (.cons (.var 9) (.cons (.bin .sub (.var 15) (.int 1)) .nil)))))) (.nott (.call (.law 72) (.cons (.var 5) (.cons (.var 8) (.cons (.var 9) (.cons (.bin .add (.var 16) (.int 1)) .nil)))))))) .nil)))))))))))))))))), false⟩
/-! law -/
def f_law_0v15_c0 : E := (.lc (.call (.next) (.cons (.var 1) (.cons (.bin .add (.var 8) (.int 1)) .nil))) (.nm 2) (.rg1 (.var 7)))
def f_law_0v15_b1 : Ss := (.cons (.asg (.tp (.cons (.nm 14) (.cons (.nm 15) .nil))) (.call (.law 1) (.cons (.var 1) (.cons (.var 7) .nil)))) (.cons (.asg (.nm 11) (.b1 .sum (.sl (.var 9) (.so (.var 14)) (.so (.var 15))))) (.cons (.app 10 (.tup (.cons (.var 14) (.cons (.var 15) (.cons (.b2 .max (.int 0) (.bin .sub (.var 11) (.call (.next) (.cons (.var 1) (.cons (.int 2) .nil))))) (.cons (.bin .add (.var 11) (.call (.next) (.cons (.var 1) (.cons (.int 2) .nil)))) .nil)))))) .nil)))
def f_law_0v15_l2 : S := .for (.nm 2) (.rg1 (.call (.next) (.cons (.var 1) (.cons (.int 4) .nil)))) f_law_0v15_b1
def f_law_0v15_b3 : Ss := (.cons (.expr (.call (.law 52) (.cons (.var 6) .nil))) .nil)
def f_law_0v15_l4 : S := .for (.nm 6) (.of (.var 4)) f_law_0v15_b3
def f_law_0v15 : Fn := ⟨["_law_script", "_law_h", "_law_k", "_law_more", "_law_found", "_law_kept", "_law_thing", "_law_cells", "_law_most", "_law_row", "_law_facts", "_law_own", "_law_told", "_law_great", "_law_begin", "_law_end"], 1, (.cons (.asg (.nm 1) (.call (.mix) (.cons (.var 0) (.cons (.int 27) .nil)))) (.cons (.asg (.tp (.cons (.nm 7) (.cons (.nm 8) .nil))) (.tup (.cons (.bin .add (.int 1) (.call (.next) (.cons (.var 1) (.cons (.int 3) .nil)))) (.cons (.bin .add (.int 1) (.call (.next) (.cons (.var 1) (.cons (.int 3) .nil)))) .nil)))) (.cons (.par [9, 10] (.cons (.b1 .tuple f_law_0v15_c0) (.cons (.lst .nil) .nil))) (.cons f_law_0v15_l2 (.cons (.par [12, 13] (.cons (.make .book (.cons (.var 7) (.cons (.var 8) (.cons (.b1 .tuple (.var 10)) .nil)))) (.cons (.make .round (.cons (.var 7) (.cons (.var 8) (.cons (.b1 .tuple (.var 10)) .nil)))) .nil))) (.cons (.asg (.nm 3) (.make .book (.cons (.var 7) (.cons (.var 8) (.cons (.bin .add (.b1 .tuple (.var 10)) (.tup (.cons (.call (.law 2) (.cons (.var 1) (.cons (.var 9) (.cons (.int 2) .nil)))) .nil))) .nil))))) (.cons (.asg (.nm 4) (.call (.law 50) (.cons (.var 12) (.cons (.var 3) (.cons (.var 13) (.cons (.var 9) .nil)))))) (.cons (.asg (.nm 5) (.call (.law 51) (.cons (.call (.law 50) (.cons (.var 12) (.cons (.var 3) (.cons (.var 13) (.cons (.var 9) .nil))))) .nil))) (.cons (.ite (.cmp .ne (.var 4) (.var 5)) (.cons (.ret (.bl false)) .nil) .nil) (.cons f_law_0v15_l4 (.cons (.ret (.cmp .eq (.call (.law 50) (.cons (.var 12) (.cons (.var 3) (.cons (.var 13) (.cons (.var 9) .nil))))) (.var 5))) .nil))))))))))), false⟩
/-! law -/
def f_law_0v16 : Fn := ⟨["_law_script", "_law_h"], 1, (.cons (.asg (.nm 1) (.call (.mix) (.cons (.var 0) (.cons (.int 28) .nil)))) (.cons (.ret (.callv [.law 20, .law 74, .law 75, .law 76] (.call (.next) (.cons (.var 1) (.cons (.int 4) .nil))) .nil)) .nil)), false⟩
/-! check_stretch -/
def f_p_7 : Fn := ⟨["book", "begin", "end"], 3, (.cons (.ite (.or (.nott (.call (.p 1) (.cons (.var 1) (.cons (.int 0) (.cons (.bin .sub (.ix (.fld (.var 0) .book 0) (.int 0)) (.int 1)) .nil))))) (.nott (.call (.p 1) (.cons (.var 2) (.cons (.bin .add (.var 1) (.int 1)) (.cons (.ix (.fld (.var 0) .book 0) (.int 0)) .nil)))))) (.cons (.rais (.err 8) .nil) .nil) .nil) .nil), false⟩
/-! edges_of -/
def f_p_8_b0 : Ss := (.cons (.ext 1 (.lst (.cons (.tup (.cons (.var 2) (.cons (.bin .add (.var 2) (.int 1)) (.cons (.var 4) .nil)))) (.cons (.tup (.cons (.bin .add (.var 2) (.int 1)) (.cons (.var 2) (.cons (.int 0) .nil)))) .nil)))) .nil)
def f_p_8_l1 : S := .for (.nm 2) (.rg1 (.var 3)) f_p_8_b0
def f_p_8_b2 : Ss := (.cons (.ext 1 (.lst (.cons (.tup (.cons (.var 6) (.cons (.var 7) (.cons (.var 9) .nil)))) (.cons (.tup (.cons (.var 7) (.cons (.var 6) (.cons (.neg (.var 8)) .nil)))) .nil)))) .nil)
def f_p_8_l3 : S := .for (.tp (.cons (.nm 6) (.cons (.nm 7) (.cons (.nm 8) (.cons (.nm 9) .nil))))) (.of (.var 5)) f_p_8_b2
def f_p_8 : Fn := ⟨["book", "found", "cell", "cells", "most", "facts", "begin", "end", "low", "high"], 1, (.cons (.asg (.tp (.cons (.nm 3) (.cons (.nm 4) (.cons (.nm 5) .nil)))) (.fld (.var 0) .book 0)) (.cons (.own 1 (.lst .nil)) (.cons f_p_8_l1 (.cons f_p_8_l3 (.cons (.ret (.var 1)) .nil))))), true⟩
/-! distances -/
def f_p_9_b0 : Ss := (.cons (.ite (.and (.cmp .notn (.ix (.var 3) (.var 6)) .non) (.or (.cmp .isn (.ix (.var 3) (.var 7)) .non) (.cmp .lt (.bin .add (.ix (.var 3) (.var 6)) (.var 8)) (.ix (.var 3) (.var 7))))) (.cons (.put 3 (.var 7) (.bin .add (.ix (.var 3) (.var 6)) (.var 8))) (.cons (.asg (.nm 5) (.bl true)) .nil)) .nil) .nil)
def f_p_9_l1 : S := .for (.tp (.cons (.nm 6) (.cons (.nm 7) (.cons (.nm 8) .nil)))) (.of (.var 1)) f_p_9_b0
def f_p_9_b2 : Ss := (.cons (.asg (.nm 5) (.bl false)) (.cons f_p_9_l1 (.cons (.ite (.nott (.var 5)) (.cons (.ret (.var 3)) .nil) .nil) .nil)))
def f_p_9_l3 : S := .for (.nm 4) (.rg1 (.bin .add (.var 0) (.int 1))) f_p_9_b2
def f_p_9 : Fn := ⟨["many", "edges", "first", "found", "turn", "moved", "one", "other", "weight"], 3, (.cons (.asg (.nm 3) (.bin .mul (.lst (.cons .non .nil)) (.var 0))) (.cons (.put 3 (.var 2) (.int 0)) (.cons f_p_9_l3 (.cons (.ret .non) .nil)))), false⟩
/-! can_be -/
def f_p_10 : Fn := ⟨["book"], 1, (.cons (.ret (.cmp .notn (.call (.p 9) (.cons (.bin .add (.ix (.fld (.var 0) .book 0) (.int 0)) (.int 1)) (.cons (.call (.p 8) (.cons (.var 0) .nil)) (.cons (.int 0) .nil)))) .non)) .nil), false⟩
/-! is_possible -/
def f_p_11 : Fn := ⟨["book"], 1, (.cons (.expr (.call (.p 3) (.cons (.var 0) .nil))) (.cons (.ret (.call (.p 10) (.cons (.var 0) .nil))) .nil)), false⟩
/-! check_possible -/
def f_p_12 : Fn := ⟨["book"], 1, (.cons (.ite (.nott (.call (.p 10) (.cons (.var 0) .nil))) (.cons (.rais (.err 6) .nil) .nil) .nil) .nil), false⟩
/-! heights -/
def f_p_13_c0 : E := (.lc (.call (.p 9) (.cons (.var 0) (.cons (.var 1) (.cons (.var 4) .nil)))) (.nm 4) (.rg1 (.var 0)))
def f_p_13_c1 : E := (.lc (.bin .sub (.ix (.var 3) (.var 5)) (.ix (.ix (.var 2) (.var 4)) (.var 5))) (.nm 5) (.rg1 (.var 4)))
def f_p_13_b2 : Ss := (.cons (.app 3 (.b1 .max f_p_13_c1)) .nil)
def f_p_13_l3 : S := .for (.nm 4) (.rg2 (.int 1) (.var 0)) f_p_13_b2
def f_p_13 : Fn := ⟨["many", "edges", "tables", "found", "place", "other"], 2, (.cons (.asg (.nm 2) f_p_13_c0) (.cons (.own 3 (.lst (.cons (.int 0) .nil))) (.cons f_p_13_l3 (.cons (.frz 3) (.cons (.ret (.var 3)) .nil))))), false⟩
/-! row_of -/
def f_p_14_c0 : E := (.lc (.bin .sub (.ix (.var 1) (.bin .add (.var 2) (.int 1))) (.ix (.var 1) (.var 2))) (.nm 2) (.rg1 (.ix (.fld (.var 0) .book 0) (.int 0))))
def f_p_14 : Fn := ⟨["book", "found", "cell"], 1, (.cons (.asg (.nm 1) (.call (.p 13) (.cons (.bin .add (.ix (.fld (.var 0) .book 0) (.int 0)) (.int 1)) (.cons (.call (.p 8) (.cons (.var 0) .nil)) .nil)))) (.cons (.ret (.b1 .tuple f_p_14_c0)) .nil)), false⟩
/-! least_row -/
def f_p_15 : Fn := ⟨["book"], 1, (.cons (.expr (.call (.p 3) (.cons (.var 0) .nil))) (.cons (.expr (.call (.p 12) (.cons (.var 0) .nil))) (.cons (.ret (.call (.p 14) (.cons (.var 0) .nil))) .nil))), false⟩
/-! bounds_by -/
def f_p_16 : Fn := ⟨["book", "begin", "end", "edges", "many"], 3, (.cons (.asg (.nm 3) (.call (.p 8) (.cons (.var 0) .nil))) (.cons (.asg (.nm 4) (.bin .add (.ix (.fld (.var 0) .book 0) (.int 0)) (.int 1))) (.cons (.ret (.tup (.cons (.neg (.ix (.call (.p 9) (.cons (.var 4) (.cons (.var 3) (.cons (.var 2) .nil)))) (.var 1))) (.cons (.ix (.call (.p 9) (.cons (.var 4) (.cons (.var 3) (.cons (.var 1) .nil)))) (.var 2)) .nil)))) .nil))), false⟩
/-! bounds -/
def f_p_17 : Fn := ⟨["book", "begin", "end"], 3, (.cons (.expr (.call (.p 3) (.cons (.var 0) .nil))) (.cons (.expr (.call (.p 7) (.cons (.var 0) (.cons (.var 1) (.cons (.var 2) .nil))))) (.cons (.expr (.call (.p 12) (.cons (.var 0) .nil))) (.cons (.ret (.call (.p 16) (.cons (.var 0) (.cons (.var 1) (.cons (.var 2) .nil))))) .nil)))), false⟩
/-! row_with -/
def f_p_18_c0 : E := (.lc (.bin .sub (.ix (.var 6) (.bin .add (.var 7) (.int 1))) (.ix (.var 6) (.var 7))) (.nm 7) (.rg1 (.ix (.fld (.var 0) .book 0) (.int 0))))
def f_p_18 : Fn := ⟨["book", "begin", "end", "number", "edges", "many", "found", "cell"], 4, (.cons (.expr (.call (.p 3) (.cons (.var 0) .nil))) (.cons (.expr (.call (.p 7) (.cons (.var 0) (.cons (.var 1) (.cons (.var 2) .nil))))) (.cons (.ite (.nott (.call (.p 0) (.cons (.var 3) .nil))) (.cons (.rais (.err 7) .nil) .nil) .nil) (.cons (.expr (.call (.p 12) (.cons (.var 0) .nil))) (.cons (.asg (.nm 4) (.bin .add (.call (.p 8) (.cons (.var 0) .nil)) (.lst (.cons (.tup (.cons (.var 1) (.cons (.var 2) (.cons (.var 3) .nil)))) (.cons (.tup (.cons (.var 2) (.cons (.var 1) (.cons (.neg (.var 3)) .nil)))) .nil))))) (.cons (.asg (.nm 5) (.bin .add (.ix (.fld (.var 0) .book 0) (.int 0)) (.int 1))) (.cons (.ite (.cmp .isn (.call (.p 9) (.cons (.var 5) (.cons (.var 4) (.cons (.int 0) .nil)))) .non) (.cons (.ret .non) .nil) .nil) (.cons (.asg (.nm 6) (.call (.p 13) (.cons (.var 5) (.cons (.var 4) .nil)))) (.cons (.ret (.b1 .tuple f_p_18_c0)) .nil))))))))), false⟩
/-! sure_cells -/
def f_p_19_b0 : Ss := (.cons (.asg (.tp (.cons (.nm 3) (.cons (.nm 4) .nil))) (.call (.p 16) (.cons (.var 0) (.cons (.var 2) (.cons (.bin .add (.var 2) (.int 1)) .nil))))) (.cons (.ite (.cmp .eq (.var 3) (.var 4)) (.cons (.app 1 (.tup (.cons (.var 2) (.cons (.var 3) .nil)))) .nil) .nil) .nil))
def f_p_19_l1 : S := .for (.nm 2) (.rg1 (.ix (.fld (.var 0) .book 0) (.int 0))) f_p_19_b0
def f_p_19 : Fn := ⟨["book", "found", "cell", "low", "high"], 1, (.cons (.expr (.call (.p 3) (.cons (.var 0) .nil))) (.cons (.expr (.call (.p 12) (.cons (.var 0) .nil))) (.cons (.own 1 (.lst .nil)) (.cons f_p_19_l1 (.cons (.frz 1) (.cons (.ret (.var 1)) .nil)))))), false⟩
/-! is_needless -/
def f_p_20 : Fn := ⟨["book", "index", "other", "cells", "most", "facts", "begin", "end", "low", "high", "least", "greatest"], 2, (.cons (.asg (.tp (.cons (.nm 3) (.cons (.nm 4) (.cons (.nm 5) .nil)))) (.fld (.var 0) .book 0)) (.cons (.asg (.nm 2) (.make .book (.cons (.var 3) (.cons (.var 4) (.cons (.bin .add (.sl (.var 5) .no (.so (.var 1))) (.sl (.var 5) (.so (.bin .add (.var 1) (.int 1))) .no)) .nil))))) (.cons (.ite (.nott (.call (.p 10) (.cons (.var 2) .nil))) (.cons (.ret (.bl true)) .nil) .nil) (.cons (.asg (.tp (.cons (.nm 6) (.cons (.nm 7) (.cons (.nm 8) (.cons (.nm 9) .nil))))) (.ix (.var 5) (.var 1))) (.cons (.asg (.tp (.cons (.nm 10) (.cons (.nm 11) .nil))) (.call (.p 16) (.cons (.var 2) (.cons (.var 6) (.cons (.var 7) .nil))))) (.cons (.ret (.and (.cmp .le (.var 8) (.var 10)) (.cmp .le (.var 11) (.var 9)))) .nil)))))), false⟩
/-! needless -/
def f_p_21_c0 : E := (.lci (.var 1) (.nm 1) (.rg1 (.b1 .len (.ix (.fld (.var 0) .book 0) (.int 2)))) (.call (.p 20) (.cons (.var 0) (.cons (.var 1) .nil))))
def f_p_21 : Fn := ⟨["book", "index"], 1, (.cons (.expr (.call (.p 3) (.cons (.var 0) .nil))) (.cons (.ret f_p_21_c0) .nil)), false⟩
/-! _law_table -/
def f_law_7_b0 : Ss := (.cons (.put 1 (.tup (.cons (.var 2) (.cons (.var 2) .nil))) (.int 0)) .nil)
def f_law_7_l1 : S := .for (.nm 2) (.rg1 (.bin .add (.var 5) (.int 1))) f_law_7_b0
def f_law_7_c2 : E := (.lc (.tup (.cons (.var 2) (.cons (.bin .add (.var 2) (.int 1)) (.cons (.var 6) .nil)))) (.nm 2) (.rg1 (.var 5)))
def f_law_7_c3 : E := (.lc (.tup (.cons (.bin .add (.var 2) (.int 1)) (.cons (.var 2) (.cons (.int 0) .nil)))) (.nm 2) (.rg1 (.var 5)))
def f_law_7_b4 : Ss := (.cons (.asg (.nm 3) (.bin .add (.var 3) (.lst (.cons (.tup (.cons (.var 8) (.cons (.var 9) (.cons (.var 11) .nil)))) (.cons (.tup (.cons (.var 9) (.cons (.var 8) (.cons (.neg (.var 10)) .nil)))) .nil))))) .nil)
def f_law_7_l5 : S := .for (.tp (.cons (.nm 8) (.cons (.nm 9) (.cons (.nm 10) (.cons (.nm 11) .nil))))) (.of (.var 7)) f_law_7_b4
def f_law_7_b6 : Ss := (.cons (.put 1 (.tup (.cons (.var 12) (.cons (.var 13) .nil))) (.b2 .min (.var 14) (.get (.var 1) (.tup (.cons (.var 12) (.cons (.var 13) .nil))) (.var 14)))) .nil)
def f_law_7_l7 : S := .for (.tp (.cons (.nm 12) (.cons (.nm 13) (.cons (.nm 14) .nil)))) (.of (.var 3)) f_law_7_b6
def f_law_7_b8 : Ss := (.cons (.ite (.and (.cmp .isin (.tup (.cons (.var 12) (.cons (.var 4) .nil))) (.var 1)) (.cmp .isin (.tup (.cons (.var 4) (.cons (.var 13) .nil))) (.var 1))) (.cons (.asg (.nm 15) (.bin .add (.ix (.var 1) (.tup (.cons (.var 12) (.cons (.var 4) .nil)))) (.ix (.var 1) (.tup (.cons (.var 4) (.cons (.var 13) .nil)))))) (.cons (.put 1 (.tup (.cons (.var 12) (.cons (.var 13) .nil))) (.b2 .min (.var 15) (.get (.var 1) (.tup (.cons (.var 12) (.cons (.var 13) .nil))) (.var 15)))) .nil)) .nil) .nil)
def f_law_7_l9 : S := .for (.nm 13) (.rg1 (.bin .add (.var 5) (.int 1))) f_law_7_b8
def f_law_7_b10 : Ss := (.cons f_law_7_l9 .nil)
def f_law_7_l11 : S := .for (.nm 12) (.rg1 (.bin .add (.var 5) (.int 1))) f_law_7_b10
def f_law_7_b12 : Ss := (.cons f_law_7_l11 .nil)
def f_law_7_l13 : S := .for (.nm 4) (.rg1 (.bin .add (.var 5) (.int 1))) f_law_7_b12
def f_law_7_c14 : E := (.lci (.var 2) (.nm 2) (.rg1 (.bin .add (.var 5) (.int 1))) (.cmp .lt (.ix (.var 1) (.tup (.cons (.var 2) (.cons (.var 2) .nil)))) (.int 0)))
def f_law_7 : Fn := ⟨["_law_b", "_law_far_here", "_law_k", "_law_ways", "_law_mid", "_law_cells", "_law_most", "_law_facts", "_law_begin", "_law_end", "_law_low", "_law_high", "_law_one", "_law_other", "_law_weight", "_law_new"], 1, (.cons (.asg (.tp (.cons (.nm 5) (.cons (.nm 6) (.cons (.nm 7) .nil)))) (.var 0)) (.cons (.own 1 (.dnew false)) (.cons f_law_7_l1 (.cons (.asg (.nm 3) (.bin .add f_law_7_c2 f_law_7_c3)) (.cons f_law_7_l5 (.cons f_law_7_l7 (.cons f_law_7_l13 (.cons (.frz 1) (.cons (.ret (.ifx (.cmp .eq f_law_7_c14 (.lst .nil)) (.var 1) .non)) .nil))))))))), false⟩
/-! _law_table -/
def f_law_7v1_b0 : Ss := (.cons (.put 1 (.tup (.cons (.var 2) (.cons (.var 2) .nil))) (.int 0)) .nil)
def f_law_7v1_l1 : S := .for (.nm 2) (.rg1 (.bin .add (.var 5) (.int 1))) f_law_7v1_b0
def f_law_7v1_c2 : E := (.lc (.tup (.cons (.var 2) (.cons (.bin .add (.var 2) (.int 1)) (.cons (.var 6) .nil)))) (.nm 2) (.rg1 (.var 5)))
def f_law_7v1_c3 : E := (.lc (.tup (.cons (.bin .add (.var 2) (.int 1)) (.cons (.var 2) (.cons (.int 0) .nil)))) (.nm 2) (.rg1 (.var 5)))
def f_law_7v1_b4 : Ss := (.cons (.asg (.nm 3) (.bin .add (.var 3) (.lst (.cons (.tup (.cons (.var 8) (.cons (.var 9) (.cons (.var 11) .nil)))) (.cons (.tup (.cons (.var 9) (.cons (.var 8) (.cons (.neg (.var 10)) .nil)))) .nil))))) .nil)
def f_law_7v1_l5 : S := .for (.tp (.cons (.nm 8) (.cons (.nm 9) (.cons (.nm 10) (.cons (.nm 11) .nil))))) (.of (.var 7)) f_law_7v1_b4
def f_law_7v1_b6 : Ss := (.cons (.put 1 (.tup (.cons (.var 12) (.cons (.var 13) .nil))) (.b2 .min (.var 14) (.get (.var 1) (.tup (.cons (.var 12) (.cons (.var 13) .nil))) (.var 14)))) .nil)
def f_law_7v1_l7 : S := .for (.tp (.cons (.nm 12) (.cons (.nm 13) (.cons (.nm 14) .nil)))) (.of (.var 3)) f_law_7v1_b6
def f_law_7v1_b8 : Ss := (.cons (.ite (.and (.cmp .isin (.tup (.cons (.var 12) (.cons (.var 4) .nil))) (.var 1)) (.cmp .isin (.tup (.cons (.var 4) (.cons (.var 13) .nil))) (.var 1))) (.cons (.asg (.nm 15) (.bin .add (.ix (.var 1) (.tup (.cons (.var 12) (.cons (.var 4) .nil)))) (.ix (.var 1) (.tup (.cons (.var 4) (.cons (.var 13) .nil)))))) (.cons (.put 1 (.tup (.cons (.var 12) (.cons (.var 13) .nil))) (.b2 .min (.var 15) (.get (.var 1) (.tup (.cons (.var 12) (.cons (.var 13) .nil))) (.var 15)))) .nil)) .nil) .nil)
def f_law_7v1_l9 : S := .for (.nm 13) (.rg1 (.bin .add (.var 5) (.int 1))) f_law_7v1_b8
def f_law_7v1_b10 : Ss := (.cons f_law_7v1_l9 .nil)
def f_law_7v1_l11 : S := .for (.nm 12) (.rg1 (.bin .add (.var 5) (.int 1))) f_law_7v1_b10
def f_law_7v1_b12 : Ss := (.cons f_law_7v1_l11 .nil)
def f_law_7v1_l13 : S := .for (.nm 4) (.rg1 (.bin .add (.var 5) (.int 1))) f_law_7v1_b12
def f_law_7v1_c14 : E := (.lci (.var 2) (.nm 2) (.rg1 (.bin .add (.var 5) (.int 1))) (.cmp .lt (.ix (.var 1) (.tup (.cons (.var 2) (.cons (.var 2) .nil)))) (.int 0)))
def f_law_7v1 : Fn := ⟨["_law_b", "_law_far", "_law_k", "_law_ways", "_law_mid", "_law_cells", "_law_most", "_law_facts", "_law_begin", "_law_end", "_law_low", "_law_high", "_law_one", "_law_other", "_law_weight", "_law_new"], 1, (.cons (.asg (.tp (.cons (.nm 5) (.cons (.nm 6) (.cons (.nm 7) .nil)))) (.var 0)) (.cons (.own 1 (.dnew false)) (.cons f_law_7v1_l1 (.cons (.asg (.nm 3) (.bin .add f_law_7v1_c2 f_law_7v1_c3)) (.cons f_law_7v1_l5 (.cons f_law_7v1_l7 (.cons f_law_7v1_l13 (.cons (.frz 1) (.cons (.ret (.ifx (.cmp .eq f_law_7v1_c14 (.lst .nil)) (.var 1) .non)) .nil))))))))), false⟩
/-! _law_table -/
def f_law_7v2_b0 : Ss := (.cons (.put 1 (.tup (.cons (.var 2) (.cons (.var 2) .nil))) (.int 0)) .nil)
def f_law_7v2_l1 : S := .for (.nm 2) (.rg1 (.bin .add (.var 5) (.int 1))) f_law_7v2_b0
def f_law_7v2_c2 : E := (.lc (.tup (.cons (.var 2) (.cons (.bin .add (.var 2) (.int 1)) (.cons (.var 6) .nil)))) (.nm 2) (.rg1 (.var 5)))
def f_law_7v2_c3 : E := (.lc (.tup (.cons (.bin .add (.var 2) (.int 1)) (.cons (.var 2) (.cons (.int 0) .nil)))) (.nm 2) (.rg1 (.var 5)))
def f_law_7v2_b4 : Ss := (.cons (.asg (.nm 3) (.bin .add (.var 3) (.lst (.cons (.tup (.cons (.var 8) (.cons (.var 9) (.cons (.var 11) .nil)))) (.cons (.tup (.cons (.var 9) (.cons (.var 8) (.cons (.neg (.var 10)) .nil)))) .nil))))) .nil)
def f_law_7v2_l5 : S := .for (.tp (.cons (.nm 8) (.cons (.nm 9) (.cons (.nm 10) (.cons (.nm 11) .nil))))) (.of (.var 7)) f_law_7v2_b4
def f_law_7v2_b6 : Ss := (.cons (.put 1 (.tup (.cons (.var 12) (.cons (.var 13) .nil))) (.b2 .min (.var 14) (.get (.var 1) (.tup (.cons (.var 12) (.cons (.var 13) .nil))) (.var 14)))) .nil)
def f_law_7v2_l7 : S := .for (.tp (.cons (.nm 12) (.cons (.nm 13) (.cons (.nm 14) .nil)))) (.of (.var 3)) f_law_7v2_b6
def f_law_7v2_b8 : Ss := (.cons (.ite (.and (.cmp .isin (.tup (.cons (.var 12) (.cons (.var 4) .nil))) (.var 1)) (.cmp .isin (.tup (.cons (.var 4) (.cons (.var 13) .nil))) (.var 1))) (.cons (.asg (.nm 15) (.bin .add (.ix (.var 1) (.tup (.cons (.var 12) (.cons (.var 4) .nil)))) (.ix (.var 1) (.tup (.cons (.var 4) (.cons (.var 13) .nil)))))) (.cons (.put 1 (.tup (.cons (.var 12) (.cons (.var 13) .nil))) (.b2 .min (.var 15) (.get (.var 1) (.tup (.cons (.var 12) (.cons (.var 13) .nil))) (.var 15)))) .nil)) .nil) .nil)
def f_law_7v2_l9 : S := .for (.nm 13) (.rg1 (.bin .add (.var 5) (.int 1))) f_law_7v2_b8
def f_law_7v2_b10 : Ss := (.cons f_law_7v2_l9 .nil)
def f_law_7v2_l11 : S := .for (.nm 12) (.rg1 (.bin .add (.var 5) (.int 1))) f_law_7v2_b10
def f_law_7v2_b12 : Ss := (.cons f_law_7v2_l11 .nil)
def f_law_7v2_l13 : S := .for (.nm 4) (.rg1 (.bin .add (.var 5) (.int 1))) f_law_7v2_b12
def f_law_7v2_c14 : E := (.lci (.var 2) (.nm 2) (.rg1 (.bin .add (.var 5) (.int 1))) (.cmp .lt (.ix (.var 1) (.tup (.cons (.var 2) (.cons (.var 2) .nil)))) (.int 0)))
def f_law_7v2 : Fn := ⟨["_law_b", "_law_far", "_law_k", "_law_ways", "_law_mid", "_law_cells", "_law_most", "_law_facts", "_law_begin", "_law_end", "_law_low", "_law_high", "_law_one", "_law_other", "_law_weight_here", "_law_new"], 1, (.cons (.asg (.tp (.cons (.nm 5) (.cons (.nm 6) (.cons (.nm 7) .nil)))) (.var 0)) (.cons (.own 1 (.dnew false)) (.cons f_law_7v2_l1 (.cons (.asg (.nm 3) (.bin .add f_law_7v2_c2 f_law_7v2_c3)) (.cons f_law_7v2_l5 (.cons f_law_7v2_l7 (.cons f_law_7v2_l13 (.cons (.frz 1) (.cons (.ret (.ifx (.cmp .eq f_law_7v2_c14 (.lst .nil)) (.var 1) .non)) .nil))))))))), false⟩
/-! _law_within -/
def f_law_8 : Fn := ⟨["_law_far_here", "_law_begin", "_law_end"], 3, (.cons (.ret (.tup (.cons (.neg (.ix (.var 0) (.tup (.cons (.var 2) (.cons (.var 1) .nil))))) (.cons (.ix (.var 0) (.tup (.cons (.var 1) (.cons (.var 2) .nil)))) .nil)))) .nil), false⟩
/-! _law_least_row -/
def f_law_9_b0 : Ss := (.cons (.asg (.nm 4) (.ix (.call (.law 8) (.cons (.var 2) (.cons (.var 1) (.cons (.bin .add (.var 1) (.int 1)) .nil)))) (.int 0))) (.cons (.par [3, 0] (.cons (.bin .add (.var 3) (.tup (.cons (.var 4) .nil))) (.cons (.lst (.cons (.ix (.var 0) (.int 0)) (.cons (.ix (.var 0) (.int 1)) (.cons (.bin .add (.ix (.var 0) (.int 2)) (.tup (.cons (.tup (.cons (.var 1) (.cons (.bin .add (.var 1) (.int 1)) (.cons (.var 4) (.cons (.var 4) .nil))))) .nil))) .nil)))) .nil))) (.cons (.asg (.nm 2) (.call (.law 7) (.cons (.var 0) .nil))) .nil)))
def f_law_9_l1 : S := .for (.nm 1) (.rg1 (.ix (.var 0) (.int 0))) f_law_9_b0
def f_law_9 : Fn := ⟨["_law_b", "_law_k", "_law_far_here", "_law_row", "_law_x"], 1, (.cons (.par [2, 3, 0] (.cons (.call (.law 7) (.cons (.var 0) .nil)) (.cons (.tup .nil) (.cons (.lst (.cons (.ix (.var 0) (.int 0)) (.cons (.ix (.var 0) (.int 1)) (.cons (.b1 .tuple (.ix (.var 0) (.int 2))) .nil)))) .nil)))) (.cons (.ite (.cmp .isn (.var 2) .non) (.cons (.ret .non) .nil) .nil) (.cons f_law_9_l1 (.cons (.ret (.var 3)) .nil)))), false⟩
/-! _law_bounds -/
def f_law_10 : Fn := ⟨["_law_told", "_law_begin", "_law_end"], 3, (.cons (.tri (.cons (.ret (.call (.p 17) (.cons (.var 0) (.cons (.var 1) (.cons (.var 2) .nil))))) .nil) (.cons (.err 6) none (.cons (.ret .non) .nil) .nil)) .nil), false⟩
/-! _law_bounds -/
def f_law_10v1 : Fn := ⟨["_law_ring", "_law_begin", "_law_end"], 3, (.cons (.tri (.cons (.ret (.call (.p 43) (.cons (.var 0) (.cons (.var 1) (.cons (.var 2) .nil))))) .nil) (.cons (.err 6) none (.cons (.ret .non) .nil) .nil)) .nil), false⟩
/-! _law_bounds -/
def f_law_10v2 : Fn := ⟨["_law_told"], 0, (.cons (.asg (.nm 0) (.make .book (.cons (.int 4) (.cons (.int 3) (.cons (.tup (.cons (.tup (.cons (.int 0) (.cons (.int 2) (.cons (.int 4) (.cons (.int 4) .nil))))) (.cons (.tup (.cons (.int 1) (.cons (.int 3) (.cons (.int 0) (.cons (.int 2) .nil))))) .nil))) .nil))))) (.cons (.ite (.cmp .ne (.lst (.cons (.call (.p 6) (.cons (.var 0) (.cons (.tup (.cons (.int 1) (.cons (.int 3) (.cons (.int 0) (.cons (.int 0) .nil))))) .nil))) (.cons (.call (.p 6) (.cons (.var 0) (.cons (.tup (.cons (.int 2) (.cons (.int 2) (.cons (.int 1) (.cons (.int 0) .nil))))) .nil))) (.cons (.call (.p 6) (.cons (.var 0) (.cons (.tup (.cons (.int 0) (.cons (.int 0) (.cons (.int 3) (.cons (.int 0) .nil))))) .nil))) .nil)))) (.lst (.cons (.lst (.cons (.int 1) .nil)) (.cons (.lst (.cons (.int 1) .nil)) (.cons (.lst (.cons (.int 0) (.cons (.int 1) .nil))) .nil))))) (.cons (.ret (.bl false)) .nil) .nil) (.cons (.ite (.or (.cmp .ne (.call (.p 17) (.cons (.var 0) (.cons (.int 0) (.cons (.int 1) .nil)))) (.tup (.cons (.int 2) (.cons (.int 3) .nil)))) (.or (.cmp .ne (.call (.p 17) (.cons (.var 0) (.cons (.int 1) (.cons (.int 2) .nil)))) (.tup (.cons (.int 1) (.cons (.int 2) .nil)))) (.cmp .ne (.call (.p 17) (.cons (.var 0) (.cons (.int 2) (.cons (.int 3) .nil)))) (.tup (.cons (.int 0) (.cons (.int 1) .nil)))))) (.cons (.ret (.bl false)) .nil) .nil) (.cons (.ite (.cmp .ne (.call (.p 17) (.cons (.var 0) (.cons (.int 0) (.cons (.int 4) .nil)))) (.tup (.cons (.int 4) (.cons (.int 8) .nil)))) (.cons (.ret (.bl false)) .nil) .nil) (.cons (.ite (.or (.cmp .ne (.call (.p 15) (.cons (.var 0) .nil)) (.tup (.cons (.int 2) (.cons (.int 2) (.cons (.int 0) (.cons (.int 0) .nil)))))) (.cmp .ne (.call (.p 18) (.cons (.var 0) (.cons (.int 2) (.cons (.int 3) (.cons (.int 1) .nil))))) (.tup (.cons (.int 3) (.cons (.int 1) (.cons (.int 1) (.cons (.int 0) .nil))))))) (.cons (.ret (.bl false)) .nil) .nil) (.cons (.ite (.or (.cmp .ne (.call (.p 19) (.cons (.make .book (.cons (.int 2) (.cons (.int 3) (.cons (.tup (.cons (.tup (.cons (.int 0) (.cons (.int 2) (.cons (.int 6) (.cons (.int 9) .nil))))) .nil)) .nil)))) .nil)) (.lst (.cons (.tup (.cons (.int 0) (.cons (.int 3) .nil))) (.cons (.tup (.cons (.int 1) (.cons (.int 3) .nil))) .nil)))) (.call (.p 11) (.cons (.make .book (.cons (.int 2) (.cons (.int 3) (.cons (.tup (.cons (.tup (.cons (.int 0) (.cons (.int 2) (.cons (.int 7) (.cons (.int 9) .nil))))) .nil)) .nil)))) .nil))) (.cons (.ret (.bl false)) .nil) .nil) (.cons (.ret (.cmp .eq (.call (.p 21) (.cons (.make .book (.cons (.int 3) (.cons (.int 1) (.cons (.tup (.cons (.tup (.cons (.int 0) (.cons (.int 3) (.cons (.int 3) (.cons (.int 3) .nil))))) (.cons (.tup (.cons (.int 0) (.cons (.int 1) (.cons (.int 0) (.cons (.int 1) .nil))))) .nil))) .nil)))) .nil)) (.lst (.cons (.int 1) .nil)))) .nil))))))), false⟩
/-! _law_bounds -/
def f_law_10v3 : Fn := ⟨["_law_great", "_law_begin", "_law_end"], 3, (.cons (.tri (.cons (.ret (.call (.p 112) (.cons (.var 0) (.cons (.var 1) (.cons (.var 2) .nil))))) .nil) (.cons (.err 6) none (.cons (.ret .non) .nil) .nil)) .nil), false⟩
/-! _law_least -/
def f_law_11 : Fn := ⟨["_law_told"], 1, (.cons (.tri (.cons (.ret (.call (.p 15) (.cons (.var 0) .nil))) .nil) (.cons (.err 6) none (.cons (.ret .non) .nil) .nil)) .nil), false⟩
/-! _law_least -/
def f_law_11v1 : Fn := ⟨["_law_ring"], 1, (.cons (.tri (.cons (.ret (.call (.p 44) (.cons (.var 0) .nil))) .nil) (.cons (.err 6) none (.cons (.ret .non) .nil) .nil)) .nil), false⟩
/-! _law_sure -/
def f_law_12 : Fn := ⟨["_law_told"], 1, (.cons (.tri (.cons (.ret (.call (.p 19) (.cons (.var 0) .nil))) .nil) (.cons (.err 6) none (.cons (.ret .non) .nil) .nil)) .nil), false⟩
/-! _law_needless -/
def f_law_13_b0 : Ss := (.cons (.ite (.cmp .eq (.call (.law 6) (.cons (.lst (.cons (.ix (.var 0) (.int 0)) (.cons (.ix (.var 0) (.int 1)) (.cons (.bin .add (.sl (.ix (.var 0) (.int 2)) .no (.so (.var 3))) (.sl (.ix (.var 0) (.int 2)) (.so (.bin .add (.var 3) (.int 1))) .no)) .nil)))) .nil)) (.var 1)) (.cons (.app 2 (.var 3)) .nil) .nil) .nil)
def f_law_13_l1 : S := .for (.nm 3) (.rg1 (.b1 .len (.ix (.var 0) (.int 2)))) f_law_13_b0
def f_law_13 : Fn := ⟨["_law_b", "_law_fine", "_law_found", "_law_k"], 2, (.cons (.own 2 (.lst .nil)) (.cons f_law_13_l1 (.cons (.frz 2) (.cons (.ret (.var 2)) .nil)))), false⟩
/-! _law_far_needless -/
def f_law_14_b0 : Ss := (.cons (.ite (.cmp .eq (.call (.law 7) (.cons (.lst (.cons (.ix (.var 0) (.int 0)) (.cons (.ix (.var 0) (.int 1)) (.cons (.bin .add (.sl (.ix (.var 0) (.int 2)) .no (.so (.var 3))) (.sl (.ix (.var 0) (.int 2)) (.so (.bin .add (.var 3) (.int 1))) .no)) .nil)))) .nil)) (.var 1)) (.cons (.app 2 (.var 3)) .nil) .nil) .nil)
def f_law_14_l1 : S := .for (.nm 3) (.rg1 (.b1 .len (.ix (.var 0) (.int 2)))) f_law_14_b0
def f_law_14 : Fn := ⟨["_law_b", "_law_far_here", "_law_found", "_law_k"], 2, (.cons (.own 2 (.lst .nil)) (.cons f_law_14_l1 (.cons (.frz 2) (.cons (.ret (.var 2)) .nil)))), false⟩
/-! _law_far -/
def f_law_15_b0 : Ss := (.cons (.asg (.tp (.cons (.nm 12) (.cons (.nm 13) .nil))) (.call (.law 8) (.cons (.var 7) (.cons (.var 3) (.cons (.bin .add (.var 3) (.int 1)) .nil))))) (.cons (.asg (.nm 2) (.bin .add (.var 2) (.ifx (.cmp .eq (.var 12) (.var 13)) (.lst (.cons (.tup (.cons (.var 3) (.cons (.var 12) .nil))) .nil)) (.lst .nil)))) .nil))
def f_law_15_l1 : S := .for (.nm 3) (.rg1 (.ix (.var 1) (.int 0))) f_law_15_b0
def f_law_15 : Fn := ⟨["_law_h", "_law_b", "_law_sure_here", "_law_k", "_law_number", "_law_more", "_law_told", "_law_far_here", "_law_begin", "_law_end", "_law_low", "_law_high", "_law_least_here", "_law_greatest"], 1, (.cons (.asg (.nm 1) (.call (.law 3) (.cons (.var 0) (.cons (.int 12) (.cons (.ix (.lst (.cons (.int 9) (.cons (.int 60) (.cons (.bin .pow (.int 10) (.int 30)) .nil)))) (.call (.next) (.cons (.var 0) (.cons (.int 3) .nil)))) (.cons (.int 12) .nil)))))) (.cons (.par [6, 7] (.cons (.make .book (.cons (.ix (.var 1) (.int 0)) (.cons (.ix (.var 1) (.int 1)) (.cons (.ix (.var 1) (.int 2)) .nil)))) (.cons (.call (.law 7) (.cons (.var 1) .nil)) .nil))) (.cons (.ite (.or (.cmp .ne (.call (.p 11) (.cons (.var 6) .nil)) (.cmp .notn (.var 7) .non)) (.cmp .ne (.call (.law 11) (.cons (.var 6) .nil)) (.call (.law 9) (.cons (.var 1) .nil)))) (.cons (.ret (.bl false)) .nil) .nil) (.cons (.ite (.cmp .ne (.call (.p 21) (.cons (.var 6) .nil)) (.call (.law 14) (.cons (.var 1) (.cons (.var 7) .nil)))) (.cons (.ret (.bl false)) .nil) .nil) (.cons (.asg (.tp (.cons (.nm 8) (.cons (.nm 9) .nil))) (.call (.law 1) (.cons (.var 0) (.cons (.ix (.var 1) (.int 0)) .nil)))) (.cons (.ite (.cmp .isn (.var 7) .non) (.cons (.ret (.and (.cmp .isn (.call (.law 10) (.cons (.var 6) (.cons (.var 8) (.cons (.var 9) .nil)))) .non) (.cmp .isn (.call (.law 12) (.cons (.var 6) .nil)) .non))) .nil) .nil) (.cons (.asg (.tp (.cons (.nm 10) (.cons (.nm 11) .nil))) (.call (.law 8) (.cons (.var 7) (.cons (.var 8) (.cons (.var 9) .nil))))) (.cons (.ite (.cmp .ne (.call (.p 17) (.cons (.var 6) (.cons (.var 8) (.cons (.var 9) .nil)))) (.tup (.cons (.var 10) (.cons (.var 11) .nil)))) (.cons (.ret (.bl false)) .nil) .nil) (.cons (.asg (.nm 2) (.lst .nil)) (.cons f_law_15_l1 (.cons (.asg (.nm 4) (.bin .add (.b2 .max (.int 0) (.bin .sub (.var 10) (.int 1))) (.call (.next) (.cons (.var 0) (.cons (.bin .add (.bin .sub (.var 11) (.var 10)) (.int 3)) .nil))))) (.cons (.asg (.nm 5) (.lst (.cons (.ix (.var 1) (.int 0)) (.cons (.ix (.var 1) (.int 1)) (.cons (.bin .add (.ix (.var 1) (.int 2)) (.tup (.cons (.tup (.cons (.var 8) (.cons (.var 9) (.cons (.var 4) (.cons (.var 4) .nil))))) .nil))) .nil))))) (.cons (.ite (.cmp .ne (.call (.p 18) (.cons (.var 6) (.cons (.var 8) (.cons (.var 9) (.cons (.var 4) .nil))))) (.call (.law 9) (.cons (.var 5) .nil))) (.cons (.ret (.bl false)) .nil) .nil) (.cons (.ret (.cmp .eq (.call (.law 12) (.cons (.var 6) .nil)) (.var 2))) .nil)))))))))))))), false⟩
/-! _law_far -/
def f_law_15v1_c0 : E := (.lc (.call (.next) (.cons (.var 0) (.cons (.bin .add (.var 8) (.int 1)) .nil))) (.nm 11) (.rg1 (.var 7)))
def f_law_15v1_c1 : E := (.lc (.call (.law 26) (.cons (.var 0) (.cons (.var 1) (.cons (.int 3) .nil)))) (.nm 11) (.rg1 (.call (.next) (.cons (.var 0) (.cons (.int 9) .nil)))))
def f_law_15v1 : Fn := ⟨["_law_h", "_law_row", "_law_facts", "_law_due", "_law_begin", "_law_end", "_law_total", "_law_cells", "_law_most", "_law_great", "_law_tables_here", "_law_k"], 1, (.cons (.asg (.tp (.cons (.nm 7) (.cons (.nm 8) .nil))) (.tup (.cons (.bin .add (.int 5) (.call (.next) (.cons (.var 0) (.cons (.int 6) .nil)))) (.cons (.bin .add (.int 1) (.call (.next) (.cons (.var 0) (.cons (.int 6) .nil)))) .nil)))) (.cons (.asg (.nm 1) (.b1 .tuple f_law_15v1_c0)) (.cons (.asg (.nm 2) (.b1 .tuple f_law_15v1_c1)) (.cons (.par [9, 10] (.cons (.make .round (.cons (.var 7) (.cons (.var 8) (.cons (.var 2) .nil)))) (.cons (.call (.law 23) (.cons (.var 7) (.cons (.var 8) (.cons (.var 2) .nil)))) .nil))) (.cons (.asg (.nm 3) (.ifx (.cmp .ne (.var 10) (.dnew false)) (.tup (.cons (.b1 .min (.var 10)) (.cons (.b1 .max (.var 10)) .nil))) .non)) (.cons (.ite (.cmp .ne (.call (.law 70) (.cons (.var 9) .nil)) (.var 3)) (.cons (.ret (.bl false)) .nil) .nil) (.cons (.asg (.nm 4) (.call (.next) (.cons (.var 0) (.cons (.var 7) .nil)))) (.cons (.asg (.nm 5) (.bin .add (.bin .add (.var 4) (.int 1)) (.call (.next) (.cons (.var 0) (.cons (.var 7) .nil))))) (.cons (.ite (.cmp .isn (.var 3) .non) (.cons (.ret (.cmp .isn (.call (.law 10) (.cons (.var 9) (.cons (.var 4) (.cons (.var 5) .nil)))) .non)) .nil) .nil) (.cons (.asg (.nm 6) (.bin .add (.ix (.var 3) (.int 0)) (.call (.next) (.cons (.var 0) (.cons (.bin .add (.bin .sub (.ix (.var 3) (.int 1)) (.ix (.var 3) (.int 0))) (.int 1)) .nil))))) (.cons (.ite (.cmp .ne (.call (.p 110) (.cons (.var 9) (.cons (.var 6) .nil))) (.call (.law 9) (.cons (.call (.law 22) (.cons (.var 7) (.cons (.var 8) (.cons (.var 2) (.cons (.var 6) .nil))))) .nil))) (.cons (.ret (.bl false)) .nil) .nil) (.cons (.ret (.cmp .eq (.call (.law 10) (.cons (.var 9) (.cons (.var 4) (.cons (.var 5) .nil)))) (.call (.law 24) (.cons (.var 7) (.cons (.var 10) (.cons (.var 4) (.cons (.var 5) .nil))))))) .nil)))))))))))), false⟩
/-! _law_reaches -/
def f_law_16_c0 : E := (.lci (.var 6) (.nm 6) (.of (.var 5)) (.nott (.chain .le .le (.int 0) (.var 6) (.ix (.var 1) (.int 1)))))
def f_law_16 : Fn := ⟨["_law_told", "_law_b", "_law_begin", "_law_end", "_law_number", "_law_row", "_law_x"], 5, (.cons (.asg (.nm 5) (.call (.p 18) (.cons (.var 0) (.cons (.var 2) (.cons (.var 3) (.cons (.var 4) .nil)))))) (.cons (.ite (.or (.nott (.isa (.var 5) .tuple)) (.or (.cmp .ne (.b1 .len (.var 5)) (.ix (.var 1) (.int 0))) (.cmp .ne f_law_16_c0 (.lst .nil)))) (.cons (.ret (.bl false)) .nil) .nil) (.cons (.ret (.and (.cmp .eq (.call (.p 6) (.cons (.var 0) (.cons (.var 5) .nil))) (.lst .nil)) (.cmp .eq (.b1 .sum (.sl (.var 5) (.so (.var 2)) (.so (.var 3)))) (.var 4)))) .nil))), false⟩
/-! link_edge -/
def f_p_22 : Fn := ⟨["book", "link", "word", "index", "way", "cells", "most", "facts", "begin", "end", "low", "high"], 2, (.cons (.asg (.tp (.cons (.nm 2) (.cons (.nm 3) (.cons (.nm 4) .nil)))) (.var 1)) (.cons (.asg (.tp (.cons (.nm 5) (.cons (.nm 6) (.cons (.nm 7) .nil)))) (.fld (.var 0) .book 0)) (.cons (.asg (.tp (.cons (.nm 8) (.cons (.nm 9) (.cons (.nm 10) (.cons (.nm 11) .nil))))) (.tup (.cons (.var 3) (.cons (.bin .add (.var 3) (.int 1)) (.cons (.int 0) (.cons (.var 6) .nil)))))) (.cons (.ite (.cmp .eq (.var 2) (.str ("fact" : Str))) (.cons (.asg (.tp (.cons (.nm 8) (.cons (.nm 9) (.cons (.nm 10) (.cons (.nm 11) .nil))))) (.ix (.var 7) (.var 3))) .nil) .nil) (.cons (.ite (.cmp .eq (.var 4) (.int 1)) (.cons (.ret (.tup (.cons (.var 8) (.cons (.var 9) (.cons (.var 11) .nil))))) .nil) .nil) (.cons (.ret (.tup (.cons (.var 9) (.cons (.var 8) (.cons (.neg (.var 10)) .nil))))) .nil)))))), false⟩
/-! all_links -/
def f_p_23_b0 : Ss := (.cons (.ext 1 (.lst (.cons (.tup (.cons (.str ("cell" : Str)) (.cons (.var 2) (.cons (.int 1) .nil)))) (.cons (.tup (.cons (.str ("cell" : Str)) (.cons (.var 2) (.cons (.neg (.int 1)) .nil)))) .nil)))) .nil)
def f_p_23_l1 : S := .for (.nm 2) (.rg1 (.ix (.fld (.var 0) .book 0) (.int 0))) f_p_23_b0
def f_p_23_b2 : Ss := (.cons (.ext 1 (.lst (.cons (.tup (.cons (.str ("fact" : Str)) (.cons (.var 3) (.cons (.int 1) .nil)))) (.cons (.tup (.cons (.str ("fact" : Str)) (.cons (.var 3) (.cons (.neg (.int 1)) .nil)))) .nil)))) .nil)
def f_p_23_l3 : S := .for (.nm 3) (.rg1 (.b1 .len (.ix (.fld (.var 0) .book 0) (.int 2)))) f_p_23_b2
def f_p_23 : Fn := ⟨["book", "found", "cell", "index"], 1, (.cons (.own 1 (.lst .nil)) (.cons f_p_23_l1 (.cons f_p_23_l3 (.cons (.ret (.var 1)) .nil)))), true⟩
/-! chain_to -/
def f_p_24_c0 : E := (.lc (.tup (.cons (.var 6) (.cons (.call (.p 22) (.cons (.var 0) (.cons (.var 6) .nil))) .nil))) (.nm 6) (.of (.call (.p 23) (.cons (.var 0) .nil))))
def f_p_24_b1 : Ss := (.cons (.asg (.tp (.cons (.nm 8) (.cons (.nm 9) (.cons (.nm 10) .nil)))) (.var 7)) (.cons (.ite (.cmp .isin (.var 8) (.var 4)) (.cons (.asg (.nm 11) (.bin .add (.ix (.ix (.var 4) (.var 8)) (.int 0)) (.var 10))) (.cons (.ite (.or (.cmp .notin (.var 9) (.var 4)) (.cmp .lt (.var 11) (.ix (.ix (.var 4) (.var 9)) (.int 0)))) (.cons (.put 4 (.var 9) (.tup (.cons (.var 11) (.cons (.bin .add (.ix (.ix (.var 4) (.var 8)) (.int 1)) (.tup (.cons (.var 6) .nil))) .nil)))) .nil) .nil) .nil)) .nil) .nil))
def f_p_24_l2 : S := .for (.tp (.cons (.nm 6) (.cons (.nm 7) .nil))) (.of (.var 3)) f_p_24_b1
def f_p_24_b3 : Ss := (.cons f_p_24_l2 .nil)
def f_p_24_l4 : S := .for (.nm 5) (.rg1 (.bin .add (.ix (.fld (.var 0) .book 0) (.int 0)) (.int 1))) f_p_24_b3
def f_p_24 : Fn := ⟨["book", "first", "last", "links", "found", "turn", "link", "edge", "one", "other", "weight", "new"], 3, (.cons (.asg (.nm 3) f_p_24_c0) (.cons (.own 4 (.ddis (.cons (.var 1) .nil) (.cons (.tup (.cons (.int 0) (.cons (.tup .nil) .nil))) .nil))) (.cons f_p_24_l4 (.cons (.ret (.ix (.ix (.var 4) (.var 2)) (.int 1))) .nil)))), false⟩
/-! check_word -/
def f_p_25 : Fn := ⟨["value"], 1, (.cons (.ite (.or (.nott (.isa (.var 0) .str)) (.cmp .notin (.var 0) (.tup (.cons (.str ("greatest" : Str)) (.cons (.str ("least" : Str)) .nil))))) (.cons (.rais (.err 9) .nil) .nil) .nil) .nil), false⟩
/-! paper -/
def f_p_26 : Fn := ⟨["book", "begin", "end", "word"], 4, (.cons (.expr (.call (.p 3) (.cons (.var 0) .nil))) (.cons (.expr (.call (.p 7) (.cons (.var 0) (.cons (.var 1) (.cons (.var 2) .nil))))) (.cons (.expr (.call (.p 25) (.cons (.var 3) .nil))) (.cons (.expr (.call (.p 12) (.cons (.var 0) .nil))) (.cons (.ite (.cmp .eq (.var 3) (.str ("greatest" : Str))) (.cons (.ret (.call (.p 24) (.cons (.var 0) (.cons (.var 1) (.cons (.var 2) .nil))))) .nil) .nil) (.cons (.ret (.call (.p 24) (.cons (.var 0) (.cons (.var 2) (.cons (.var 1) .nil))))) .nil)))))), false⟩
/-! is_link -/
def f_p_27 : Fn := ⟨["book", "value"], 2, (.cons (.ite (.or (.nott (.isa (.var 1) .tuple)) (.or (.cmp .ne (.b1 .len (.var 1)) (.int 3)) (.nott (.isa (.ix (.var 1) (.int 0)) .str)))) (.cons (.ret (.bl false)) .nil) .nil) (.cons (.ite (.or (.nott (.call (.p 0) (.cons (.ix (.var 1) (.int 2)) .nil))) (.cmp .notin (.ix (.var 1) (.int 2)) (.tup (.cons (.int 1) (.cons (.neg (.int 1)) .nil))))) (.cons (.ret (.bl false)) .nil) .nil) (.cons (.ite (.cmp .eq (.ix (.var 1) (.int 0)) (.str ("fact" : Str))) (.cons (.ret (.call (.p 1) (.cons (.ix (.var 1) (.int 1)) (.cons (.int 0) (.cons (.bin .sub (.b1 .len (.ix (.fld (.var 0) .book 0) (.int 2))) (.int 1)) .nil))))) .nil) .nil) (.cons (.ret (.and (.cmp .eq (.ix (.var 1) (.int 0)) (.str ("cell" : Str))) (.call (.p 1) (.cons (.ix (.var 1) (.int 1)) (.cons (.int 0) (.cons (.bin .sub (.ix (.fld (.var 0) .book 0) (.int 0)) (.int 1)) .nil)))))) .nil)))), false⟩
/-! chain_edge -/
def f_p_28_b0 : Ss := (.cons (.ite (.nott (.call (.p 27) (.cons (.var 0) (.cons (.var 2) .nil)))) (.cons (.ret .non) .nil) .nil) .nil)
def f_p_28_l1 : S := .for (.nm 2) (.of (.var 1)) f_p_28_b0
def f_p_28_c2 : E := (.lc (.call (.p 22) (.cons (.var 0) (.cons (.var 2) .nil))) (.nm 2) (.of (.var 1)))
def f_p_28_b3 : Ss := (.cons (.ite (.cmp .ne (.ix (.ix (.var 3) (.var 4)) (.int 0)) (.ix (.ix (.var 3) (.bin .sub (.var 4) (.int 1))) (.int 1))) (.cons (.ret .non) .nil) .nil) .nil)
def f_p_28_l4 : S := .for (.nm 4) (.rg2 (.int 1) (.b1 .len (.var 3))) f_p_28_b3
def f_p_28_c5 : E := (.lc (.ix (.var 5) (.int 2)) (.nm 5) (.of (.var 3)))
def f_p_28 : Fn := ⟨["book", "value", "link", "edges", "place", "edge"], 2, (.cons (.ite (.or (.nott (.isa (.var 1) .tuple)) (.nott (.chain .le .le (.int 1) (.b1 .len (.var 1)) (.int 40)))) (.cons (.ret .non) .nil) .nil) (.cons f_p_28_l1 (.cons (.asg (.nm 3) f_p_28_c2) (.cons f_p_28_l4 (.cons (.ret (.tup (.cons (.ix (.ix (.var 3) (.int 0)) (.int 0)) (.cons (.ix (.ix (.var 3) (.neg (.int 1))) (.int 1)) (.cons (.b1 .sum f_p_28_c5) .nil))))) .nil))))), false⟩
/-! shows -/
def f_p_29 : Fn := ⟨["book", "begin", "end", "word", "number", "value", "found"], 6, (.cons (.expr (.call (.p 3) (.cons (.var 0) .nil))) (.cons (.expr (.call (.p 7) (.cons (.var 0) (.cons (.var 1) (.cons (.var 2) .nil))))) (.cons (.expr (.call (.p 25) (.cons (.var 3) .nil))) (.cons (.ite (.nott (.call (.p 0) (.cons (.var 4) .nil))) (.cons (.rais (.err 7) .nil) .nil) .nil) (.cons (.asg (.nm 6) (.call (.p 28) (.cons (.var 0) (.cons (.var 5) .nil)))) (.cons (.ite (.cmp .isn (.var 6) .non) (.cons (.ret (.bl false)) .nil) .nil) (.cons (.ite (.cmp .eq (.var 3) (.str ("greatest" : Str))) (.cons (.ret (.and (.cmp .eq (.sl (.var 6) .no (.so (.int 2))) (.tup (.cons (.var 1) (.cons (.var 2) .nil)))) (.cmp .le (.ix (.var 6) (.int 2)) (.var 4)))) .nil) .nil) (.cons (.ret (.and (.cmp .eq (.sl (.var 6) .no (.so (.int 2))) (.tup (.cons (.var 2) (.cons (.var 1) .nil)))) (.cmp .le (.ix (.var 6) (.int 2)) (.neg (.var 4))))) .nil)))))))), false⟩
/-! _law_edge -/
def f_law_17 : Fn := ⟨["_law_b", "_law_link", "_law_most", "_law_begin", "_law_end", "_law_low", "_law_high"], 2, (.cons (.ite (.or (.nott (.isa (.var 1) .tuple)) (.or (.cmp .ne (.b1 .len (.var 1)) (.int 3)) (.or (.cmp .notin (.ix (.var 1) (.int 0)) (.lst (.cons (.str ("fact" : Str)) (.cons (.str ("cell" : Str)) .nil)))) (.cmp .notin (.ix (.var 1) (.int 2)) (.lst (.cons (.int 1) (.cons (.neg (.int 1)) .nil))))))) (.cons (.ret .non) .nil) .nil) (.cons (.ite (.isa (.ix (.var 1) (.int 2)) .bool) (.cons (.ret .non) .nil) .nil) (.cons (.asg (.nm 2) (.ifx (.cmp .eq (.ix (.var 1) (.int 0)) (.str ("fact" : Str))) (.b1 .len (.ix (.var 0) (.int 2))) (.ix (.var 0) (.int 0)))) (.cons (.ite (.or (.isa (.ix (.var 1) (.int 1)) .bool) (.or (.nott (.isa (.ix (.var 1) (.int 1)) .int)) (.nott (.chain .le .lt (.int 0) (.ix (.var 1) (.int 1)) (.var 2))))) (.cons (.ret .non) .nil) .nil) (.cons (.asg (.tp (.cons (.nm 3) (.cons (.nm 4) (.cons (.nm 5) (.cons (.nm 6) .nil))))) (.ifx (.cmp .eq (.ix (.var 1) (.int 0)) (.str ("fact" : Str))) (.ix (.ix (.var 0) (.int 2)) (.ix (.var 1) (.int 1))) (.tup (.cons (.ix (.var 1) (.int 1)) (.cons (.bin .add (.ix (.var 1) (.int 1)) (.int 1)) (.cons (.int 0) (.cons (.ix (.var 0) (.int 1)) .nil))))))) (.cons (.ret (.ifx (.cmp .eq (.ix (.var 1) (.int 2)) (.int 1)) (.tup (.cons (.var 3) (.cons (.var 4) (.cons (.var 6) .nil)))) (.tup (.cons (.var 4) (.cons (.var 3) (.cons (.neg (.var 5)) .nil)))))) .nil)))))), false⟩
/-! _law_edge -/
def f_law_17v1 : Fn := ⟨["_law_b", "_law_link", "_law_begin", "_law_end", "_law_low", "_law_high"], 2, (.cons (.asg (.tp (.cons (.nm 2) (.cons (.nm 3) (.cons (.nm 4) (.cons (.nm 5) .nil))))) (.ifx (.cmp .eq (.ix (.var 1) (.int 0)) (.str ("fact" : Str))) (.ix (.ix (.var 0) (.int 2)) (.ix (.var 1) (.int 1))) (.tup (.cons (.ix (.var 1) (.int 1)) (.cons (.bin .add (.ix (.var 1) (.int 1)) (.int 1)) (.cons (.int 0) (.cons (.ix (.var 0) (.int 1)) .nil))))))) (.cons (.ret (.ifx (.cmp .eq (.ix (.var 1) (.int 2)) (.int 1)) (.tup (.cons (.var 2) (.cons (.var 3) (.cons (.var 5) .nil)))) (.tup (.cons (.var 3) (.cons (.var 2) (.cons (.neg (.var 4)) .nil)))))) .nil)), false⟩
/-! _law_edge -/
def f_law_17v2 : Fn := ⟨["_law_b", "_law_row", "_law_link", "_law_most", "_law_k", "_law_ends", "_law_own", "_law_begin", "_law_end", "_law_low", "_law_high"], 3, (.cons (.ite (.or (.nott (.isa (.var 2) .tuple)) (.cmp .ne (.b1 .len (.var 2)) (.int 3))) (.cons (.ret .non) .nil) .nil) (.cons (.ite (.or (.cmp .notin (.ix (.var 2) (.int 0)) (.lst (.cons (.str ("fact" : Str)) (.cons (.str ("cell" : Str)) (.cons (.str ("row" : Str)) .nil))))) (.cmp .notin (.ix (.var 2) (.int 2)) (.lst (.cons (.int 1) (.cons (.neg (.int 1)) .nil))))) (.cons (.ret .non) .nil) .nil) (.cons (.asg (.nm 3) (.ifx (.cmp .eq (.ix (.var 2) (.int 0)) (.str ("fact" : Str))) (.b1 .len (.ix (.var 0) (.int 2))) (.ix (.var 0) (.int 0)))) (.cons (.asg (.nm 4) (.ix (.var 2) (.int 1))) (.cons (.ite (.or (.isa (.var 4) .bool) (.or (.nott (.isa (.var 4) .int)) (.or (.nott (.chain .le .lt (.int 0) (.var 4) (.var 3))) (.isa (.ix (.var 2) (.int 2)) .bool)))) (.cons (.ret .non) .nil) .nil) (.cons (.asg (.nm 5) (.tup (.cons (.var 4) (.cons (.bin .add (.var 4) (.int 1)) (.cons (.int 0) (.cons (.ix (.var 0) (.int 1)) .nil)))))) (.cons (.ite (.cmp .eq (.ix (.var 2) (.int 0)) (.str ("fact" : Str))) (.cons (.asg (.nm 5) (.ix (.ix (.var 0) (.int 2)) (.var 4))) .nil) .nil) (.cons (.ite (.cmp .eq (.ix (.var 2) (.int 0)) (.str ("row" : Str))) (.cons (.asg (.nm 5) (.tup (.cons (.var 4) (.cons (.bin .add (.var 4) (.int 1)) (.cons (.ix (.var 1) (.var 4)) (.cons (.ix (.var 1) (.var 4)) .nil)))))) .nil) .nil) (.cons (.asg (.tp (.cons (.nm 7) (.cons (.nm 8) (.cons (.nm 9) (.cons (.nm 10) .nil))))) (.var 5)) (.cons (.asg (.nm 6) (.b1 .int (.cmp .eq (.ix (.var 2) (.int 0)) (.str ("row" : Str))))) (.cons (.ret (.ifx (.cmp .eq (.ix (.var 2) (.int 2)) (.int 1)) (.tup (.cons (.var 7) (.cons (.var 8) (.cons (.var 10) (.cons (.var 6) .nil))))) (.tup (.cons (.var 8) (.cons (.var 7) (.cons (.neg (.var 9)) (.cons (.var 6) .nil))))))) .nil))))))))))), false⟩
/-! _law_weight -/
def f_law_18_b0 : Ss := (.cons (.asg (.nm 6) (.call (.law 17) (.cons (.var 0) (.cons (.var 5) .nil)))) (.cons (.ite (.or (.cmp .isn (.var 6) .non) (.cmp .ne (.ix (.var 6) (.int 0)) (.var 2))) (.cons (.ret .non) .nil) .nil) (.cons (.par [2, 4] (.cons (.ix (.var 6) (.int 1)) (.cons (.bin .add (.var 4) (.ix (.var 6) (.int 2))) .nil))) .nil)))
def f_law_18_l1 : S := .for (.nm 5) (.of (.var 1)) f_law_18_b0
def f_law_18 : Fn := ⟨["_law_b", "_law_value", "_law_first", "_law_last", "_law_whole", "_law_link", "_law_edge_here"], 4, (.cons (.ite (.or (.nott (.isa (.var 1) .tuple)) (.nott (.chain .le .le (.int 1) (.b1 .len (.var 1)) (.int 40)))) (.cons (.ret .non) .nil) .nil) (.cons (.asg (.nm 4) (.int 0)) (.cons f_law_18_l1 (.cons (.ret (.ifx (.cmp .eq (.var 2) (.var 3)) (.var 4) .non)) .nil)))), false⟩
/-! _law_weight -/
def f_law_18v1_c0 : E := (.lc (.call (.law 17) (.cons (.var 0) (.cons (.var 4) .nil))) (.nm 4) (.of (.var 1)))
def f_law_18v1_b1 : Ss := (.cons (.ite (.cmp .ne (.ix (.ix (.var 2) (.bin .sub (.var 3) (.int 1))) (.int 1)) (.ix (.ix (.var 2) (.var 3)) (.int 0))) (.cons (.ret .non) .nil) .nil) .nil)
def f_law_18v1_l2 : S := .for (.nm 3) (.rg1 (.b1 .len (.var 2))) f_law_18v1_b1
def f_law_18v1_c3 : E := (.lc (.ix (.var 5) (.int 2)) (.nm 5) (.of (.var 2)))
def f_law_18v1 : Fn := ⟨["_law_b", "_law_value", "_law_edges", "_law_k", "_law_link", "_law_edge_here"], 2, (.cons (.asg (.nm 2) f_law_18v1_c0) (.cons (.ite (.cmp .eq (.var 2) (.lst .nil)) (.cons (.ret .non) .nil) .nil) (.cons f_law_18v1_l2 (.cons (.ret (.b1 .sum f_law_18v1_c3)) .nil)))), false⟩
/-! _law_spoilt -/
def f_law_19 : Fn := ⟨["_law_h", "_law_b", "_law_value", "_law_kind", "_law_spot", "_law_link", "_law_back", "_law_last"], 3, (.cons (.asg (.nm 3) (.call (.next) (.cons (.var 0) (.cons (.int 6) .nil)))) (.cons (.asg (.nm 4) (.call (.next) (.cons (.var 0) (.cons (.b1 .len (.var 2)) .nil)))) (.cons (.asg (.nm 5) (.tup (.cons (.ix (.lst (.cons (.str ("fact" : Str)) (.cons (.str ("cell" : Str)) .nil))) (.call (.next) (.cons (.var 0) (.cons (.int 2) .nil)))) (.cons (.call (.next) (.cons (.var 0) (.cons (.b2 .max (.ix (.var 1) (.int 0)) (.b1 .len (.ix (.var 1) (.int 2)))) .nil))) (.cons (.ix (.lst (.cons (.int 1) (.cons (.neg (.int 1)) .nil))) (.call (.next) (.cons (.var 0) (.cons (.int 2) .nil)))) .nil))))) (.cons (.ite (.cmp .eq (.var 3) (.int 0)) (.cons (.ret (.bin .add (.bin .add (.sl (.var 2) .no (.so (.var 4))) (.tup (.cons (.var 5) .nil))) (.sl (.var 2) (.so (.bin .add (.var 4) (.int 1))) .no))) .nil) .nil) (.cons (.ite (.cmp .eq (.var 3) (.int 1)) (.cons (.ret (.bin .add (.sl (.var 2) .no (.so (.var 4))) (.sl (.var 2) (.so (.bin .add (.var 4) (.int 1))) .no))) .nil) .nil) (.cons (.ite (.cmp .eq (.var 3) (.int 2)) (.cons (.asg (.nm 6) (.tup (.cons (.ix (.ix (.var 2) (.var 4)) (.int 0)) (.cons (.ix (.ix (.var 2) (.var 4)) (.int 1)) (.cons (.neg (.ix (.ix (.var 2) (.var 4)) (.int 2))) .nil))))) (.cons (.ret (.bin .add (.bin .add (.sl (.var 2) .no (.so (.var 4))) (.tup (.cons (.ix (.var 2) (.var 4)) (.cons (.var 6) .nil)))) (.sl (.var 2) (.so (.var 4)) .no))) .nil)) .nil) (.cons (.ite (.cmp .eq (.var 3) (.int 3)) (.cons (.asg (.nm 7) (.tup (.cons (.ix (.ix (.var 2) (.neg (.int 1))) (.int 0)) (.cons (.ix (.ix (.var 2) (.neg (.int 1))) (.int 1)) (.cons (.bl true) .nil))))) (.cons (.ret (.ix (.lst (.cons .non (.cons (.b1 .list (.var 2)) (.cons (.tup .nil) (.cons (.bin .add (.var 2) (.tup (.cons .non .nil))) (.cons (.bin .add (.sl (.var 2) .no (.so (.neg (.int 1)))) (.tup (.cons (.var 7) .nil))) .nil)))))) (.call (.next) (.cons (.var 0) (.cons (.int 5) .nil))))) .nil)) .nil) (.cons (.ite (.cmp .eq (.var 3) (.int 4)) (.cons (.ret (.bin .add (.bin .mul (.tup (.cons (.tup (.cons (.str ("cell" : Str)) (.cons (.int 0) (.cons (.int 1) .nil)))) (.cons (.tup (.cons (.str ("cell" : Str)) (.cons (.int 0) (.cons (.neg (.int 1)) .nil)))) .nil))) (.int 20)) (.var 2))) .nil) .nil) (.cons (.ret (.var 2)) .nil))))))))), false⟩
/-! _law_spoilt -/
def f_law_19v1 : Fn := ⟨["_law_h", "_law_b", "_law_value", "_law_spot", "_law_kind", "_law_word", "_law_place", "_law_way"], 3, (.cons (.par [3, 4] (.cons (.call (.next) (.cons (.var 0) (.cons (.b1 .len (.var 2)) .nil))) (.cons (.call (.next) (.cons (.var 0) (.cons (.int 5) .nil))) .nil))) (.cons (.asg (.tp (.cons (.nm 5) (.cons (.nm 6) (.cons (.nm 7) .nil)))) (.ix (.var 2) (.var 3))) (.cons (.ite (.cmp .eq (.var 4) (.int 0)) (.cons (.ret (.bin .add (.bin .add (.sl (.var 2) .no (.so (.var 3))) (.tup (.cons (.tup (.cons (.ix (.lst (.cons (.str ("fact" : Str)) (.cons (.str ("cell" : Str)) (.cons (.str ("row" : Str)) .nil)))) (.call (.next) (.cons (.var 0) (.cons (.int 3) .nil)))) (.cons (.var 6) (.cons (.var 7) .nil)))) .nil))) (.sl (.var 2) (.so (.bin .add (.var 3) (.int 1))) .no))) .nil) .nil) (.cons (.ite (.cmp .eq (.var 4) (.int 1)) (.cons (.ret (.bin .add (.bin .add (.sl (.var 2) .no (.so (.var 3))) (.tup (.cons (.tup (.cons (.var 5) (.cons (.var 6) (.cons (.neg (.var 7)) .nil)))) .nil))) (.sl (.var 2) (.so (.bin .add (.var 3) (.int 1))) .no))) .nil) .nil) (.cons (.ite (.cmp .eq (.var 4) (.int 2)) (.cons (.ret (.bin .add (.sl (.var 2) .no (.so (.var 3))) (.sl (.var 2) (.so (.bin .add (.var 3) (.int 1))) .no))) .nil) .nil) (.cons (.ite (.cmp .eq (.var 4) (.int 3)) (.cons (.ret (.bin .add (.bin .add (.sl (.var 2) .no (.so (.var 3))) (.bin .mul (.tup (.cons (.tup (.cons (.str ("row" : Str)) (.cons (.int 0) (.cons (.int 1) .nil)))) (.cons (.tup (.cons (.str ("row" : Str)) (.cons (.int 0) (.cons (.neg (.int 1)) .nil)))) .nil))) (.call (.next) (.cons (.var 0) (.cons (.int 20) .nil))))) (.sl (.var 2) (.so (.var 3)) .no))) .nil) .nil) (.cons (.ret (.ix (.lst (.cons .non (.cons (.tup .nil) (.cons (.b1 .list (.var 2)) (.cons (.bin .add (.var 2) (.tup (.cons .non .nil))) (.cons (.tup (.cons (.tup (.cons (.str ("row" : Str)) (.cons (.bl true) (.cons (.int 1) .nil)))) .nil)) .nil)))))) (.call (.next) (.cons (.var 0) (.cons (.int 5) .nil))))) .nil))))))), false⟩
/-! better_walks -/
def f_p_30_b0 : Ss := (.cons (.asg (.tp (.cons (.nm 8) (.cons (.nm 9) (.cons (.nm 10) .nil)))) (.var 7)) (.cons (.ite (.cmp .isin (.var 8) (.var 5)) (.cons (.asg (.nm 11) (.bin .add (.ix (.ix (.var 5) (.var 8)) (.int 0)) (.var 10))) (.cons (.ite (.or (.cmp .notin (.var 9) (.var 5)) (.cmp .lt (.var 11) (.ix (.ix (.var 5) (.var 9)) (.int 0)))) (.cons (.put 5 (.var 9) (.tup (.cons (.var 11) (.cons (.bin .add (.ix (.ix (.var 5) (.var 8)) (.int 1)) (.tup (.cons (.var 6) .nil))) .nil)))) .nil) .nil) .nil)) .nil) .nil))
def f_p_30_l1 : S := .for (.tp (.cons (.nm 6) (.cons (.nm 7) .nil))) (.of (.var 2)) f_p_30_b0
def f_p_30_b2 : Ss := (.cons (.own 5 (.b1 .dict (.var 3))) (.cons f_p_30_l1 (.cons (.frz 5) (.cons (.asg (.nm 3) (.var 5)) .nil))))
def f_p_30_l3 : S := .for (.nm 4) (.rg1 (.bin .add (.ix (.fld (.var 0) .book 0) (.int 0)) (.int 1))) f_p_30_b2
def f_p_30 : Fn := ⟨["book", "walks", "links", "found", "turn", "later", "link", "edge", "one", "other", "weight", "new"], 3, (.cons (.asg (.nm 3) (.var 1)) (.cons f_p_30_l3 (.cons (.ret (.var 3)) .nil))), false⟩
/-! with_fact -/
def f_p_31_b0 : Ss := (.cons (.asg (.tp (.cons (.nm 5) (.cons (.nm 6) (.cons (.nm 7) .nil)))) (.var 4)) (.cons (.ite (.cmp .isin (.var 5) (.var 0)) (.cons (.asg (.nm 8) (.bin .add (.ix (.ix (.var 0) (.var 5)) (.int 0)) (.var 7))) (.cons (.ite (.or (.cmp .notin (.var 6) (.var 2)) (.cmp .lt (.var 8) (.ix (.ix (.var 2) (.var 6)) (.int 0)))) (.cons (.put 2 (.var 6) (.tup (.cons (.var 8) (.cons (.bin .add (.ix (.ix (.var 0) (.var 5)) (.int 1)) (.tup (.cons (.var 3) .nil))) .nil)))) .nil) .nil) .nil)) .nil) .nil))
def f_p_31_l1 : S := .for (.tp (.cons (.nm 3) (.cons (.nm 4) .nil))) (.of (.var 1)) f_p_31_b0
def f_p_31 : Fn := ⟨["walks", "links", "found", "link", "edge", "one", "other", "weight", "new"], 2, (.cons (.own 2 (.b1 .dict (.var 0))) (.cons f_p_31_l1 (.cons (.frz 2) (.cons (.ret (.var 2)) .nil)))), false⟩
/-! bad_walk -/
def f_p_32_c0 : E := (.lci (.tup (.cons (.var 6) (.cons (.call (.p 22) (.cons (.var 0) (.cons (.var 6) .nil))) .nil))) (.nm 6) (.of (.call (.p 23) (.cons (.var 0) .nil))) (.cmp .eq (.ix (.var 6) (.int 0)) (.str ("cell" : Str))))
def f_p_32_c1 : E := (.lci (.tup (.cons (.var 6) (.cons (.call (.p 22) (.cons (.var 0) (.cons (.var 6) .nil))) .nil))) (.nm 6) (.of (.call (.p 23) (.cons (.var 0) .nil))) (.cmp .eq (.ix (.var 6) (.int 0)) (.str ("fact" : Str))))
def f_p_32_b2 : Ss := (.cons (.put 3 (.var 4) (.call (.p 30) (.cons (.var 0) (.cons (.ddis (.cons (.var 4) .nil) (.cons (.tup (.cons (.int 0) (.cons (.tup .nil) .nil))) .nil)) (.cons (.var 1) .nil))))) .nil)
def f_p_32_l3 : S := .for (.nm 4) (.rg1 (.bin .add (.ix (.fld (.var 0) .book 0) (.int 0)) (.int 1))) f_p_32_b2
def f_p_32_b4 : Ss := (.cons (.put 3 (.var 4) (.call (.p 30) (.cons (.var 0) (.cons (.call (.p 31) (.cons (.ix (.var 3) (.var 4)) (.cons (.var 2) .nil))) (.cons (.var 1) .nil))))) (.cons (.ite (.cmp .lt (.ix (.ix (.ix (.var 3) (.var 4)) (.var 4)) (.int 0)) (.int 0)) (.cons (.ret (.tup (.cons (.ix (.ix (.ix (.var 3) (.var 4)) (.var 4)) (.int 1)) (.cons (.var 5) .nil)))) .nil) .nil) .nil))
def f_p_32_l5 : S := .for (.nm 4) (.of (.b1 .list (.var 3))) f_p_32_b4
def f_p_32_b6 : Ss := (.cons (.aug 5 .add (.int 1)) (.cons f_p_32_l5 .nil))
def f_p_32_l7 : S := .whl (.bl true) f_p_32_b6
def f_p_32 : Fn := ⟨["book", "cells", "facts", "tables", "place", "many", "link"], 1, (.cons (.asg (.nm 1) f_p_32_c0) (.cons (.asg (.nm 2) f_p_32_c1) (.cons (.own 3 (.dnew false)) (.cons f_p_32_l3 (.cons (.asg (.nm 5) (.int 0)) (.cons f_p_32_l7 .nil)))))), false⟩
/-! clash -/
def f_p_34 : Fn := ⟨["book"], 1, (.cons (.expr (.call (.p 3) (.cons (.var 0) .nil))) (.cons (.ite (.call (.p 10) (.cons (.var 0) .nil)) (.cons (.ret .non) .nil) .nil) (.cons (.ret (.call (.p 33) (.cons (.var 0) (.cons (.ix (.call (.p 32) (.cons (.var 0) .nil)) (.int 0)) .nil)))) .nil))), false⟩
/-! is_clash -/
def f_p_35 : Fn := ⟨["book", "value", "found"], 2, (.cons (.expr (.call (.p 3) (.cons (.var 0) .nil))) (.cons (.asg (.nm 2) (.call (.p 28) (.cons (.var 0) (.cons (.var 1) .nil)))) (.cons (.ret (.and (.cmp .notn (.var 2) .non) (.and (.cmp .eq (.ix (.var 2) (.int 0)) (.ix (.var 2) (.int 1))) (.cmp .lt (.ix (.var 2) (.int 2)) (.int 0))))) .nil))), false⟩
/-! fewest -/
def f_p_36 : Fn := ⟨["book"], 1, (.cons (.expr (.call (.p 3) (.cons (.var 0) .nil))) (.cons (.ite (.call (.p 10) (.cons (.var 0) .nil)) (.cons (.ret .non) .nil) .nil) (.cons (.ret (.ix (.call (.p 32) (.cons (.var 0) .nil)) (.int 1))) .nil))), false⟩
/-! _law_two -/
def f_law_20_c0 : E := (.lc (.call (.next) (.cons (.var 0) (.cons (.bin .add (.ix (.var 1) (.int 1)) (.int 1)) .nil))) (.nm 3) (.rg1 (.ix (.var 1) (.int 0))))
def f_law_20_c1 : E := (.lc (.call (.law 2) (.cons (.var 0) (.cons (.var 2) (.cons (.int 2) .nil)))) (.nm 3) (.rg1 (.call (.next) (.cons (.var 0) (.cons (.int 3) .nil)))))
def f_law_20 : Fn := ⟨["_law_h", "_law_b", "_law_row", "_law_k"], 1, (.cons (.own 1 (.call (.law 3) (.cons (.var 0) (.cons (.int 6) (.cons (.ix (.lst (.cons (.int 2) (.cons (.int 9) .nil))) (.call (.next) (.cons (.var 0) (.cons (.int 2) .nil)))) (.cons (.int 5) .nil)))))) (.cons (.ite (.cmp .eq (.call (.next) (.cons (.var 0) (.cons (.int 4) .nil))) (.int 0)) (.cons (.frz 1) (.cons (.own 1 (.call (.law 3) (.cons (.var 0) (.cons (.int 10) (.cons (.ix (.lst (.cons (.int 60) (.cons (.bin .pow (.int 10) (.int 30)) .nil))) (.call (.next) (.cons (.var 0) (.cons (.int 2) .nil)))) (.cons (.int 4) .nil)))))) .nil)) (.cons (.ite (.cmp .eq (.call (.next) (.cons (.var 0) (.cons (.int 6) .nil))) (.int 0)) (.cons (.frz 1) (.cons (.own 1 (.call (.law 3) (.cons (.var 0) (.cons (.int 3) (.cons (.int 9) (.cons (.int 8) .nil)))))) .nil)) .nil) .nil)) (.cons (.asg (.nm 2) f_law_20_c0) (.cons (.ite (.cmp .gt (.call (.next) (.cons (.var 0) (.cons (.int 3) .nil))) (.int 0)) (.cons (.put 1 (.int 2) (.bin .add (.ix (.var 1) (.int 2)) (.b1 .tuple f_law_20_c1))) .nil) .nil) (.cons (.frz 1) (.cons (.ret (.var 1)) .nil)))))), false⟩
/-! _law_two -/
def f_law_20v1 : Fn := ⟨["_law_told", "_law_less"], 0, (.cons (.par [0, 1] (.cons (.make .book (.cons (.int 2) (.cons (.int 3) (.cons (.tup (.cons (.tup (.cons (.int 0) (.cons (.int 2) (.cons (.int 4) (.cons (.int 4) .nil))))) .nil)) .nil)))) (.cons (.make .book (.cons (.int 2) (.cons (.int 3) (.cons (.tup (.cons (.tup (.cons (.int 0) (.cons (.int 2) (.cons (.int 4) (.cons (.int 4) .nil))))) (.cons (.tup (.cons (.int 0) (.cons (.int 1) (.cons (.int 2) (.cons (.int 9) .nil))))) .nil))) .nil)))) .nil))) (.cons (.ite (.or (.nott (.call (.p 70) (.cons (.var 1) (.cons (.var 0) .nil)))) (.or (.call (.p 70) (.cons (.var 0) (.cons (.var 1) .nil))) (.cmp .ne (.call (.p 74) (.cons (.var 0) (.cons (.var 1) .nil))) (.tup (.cons (.int 1) (.cons (.int 3) .nil)))))) (.cons (.ret (.bl false)) .nil) .nil) (.cons (.ite (.nott (.call (.p 71) (.cons (.var 0) (.cons (.make .book (.cons (.int 2) (.cons (.int 3) (.cons (.tup (.cons (.tup (.cons (.int 0) (.cons (.int 2) (.cons (.int 4) (.cons (.int 4) .nil))))) (.cons (.tup (.cons (.int 0) (.cons (.int 1) (.cons (.int 1) (.cons (.int 3) .nil))))) .nil))) .nil)))) .nil)))) (.cons (.ret (.bl false)) .nil) .nil) (.cons (.ite (.cmp .ne (.call (.p 75) (.cons (.var 1) .nil)) (.lst (.cons (.tup (.cons (.int 0) (.cons (.int 1) (.cons (.int 2) (.cons (.int 3) .nil))))) (.cons (.tup (.cons (.int 0) (.cons (.int 2) (.cons (.int 4) (.cons (.int 4) .nil))))) (.cons (.tup (.cons (.int 1) (.cons (.int 2) (.cons (.int 1) (.cons (.int 2) .nil))))) .nil))))) (.cons (.ret (.bl false)) .nil) .nil) (.cons (.ret (.cmp .eq (.call (.p 77) (.cons (.make .book (.cons (.int 3) (.cons (.int 1) (.cons (.tup (.cons (.tup (.cons (.int 0) (.cons (.int 3) (.cons (.int 3) (.cons (.int 3) .nil))))) (.cons (.tup (.cons (.int 0) (.cons (.int 1) (.cons (.int 1) (.cons (.int 1) .nil))))) (.cons (.tup (.cons (.int 1) (.cons (.int 2) (.cons (.int 1) (.cons (.int 1) .nil))))) (.cons (.tup (.cons (.int 2) (.cons (.int 3) (.cons (.int 1) (.cons (.int 1) .nil))))) .nil))))) .nil)))) .nil)) (.lst (.cons (.tup (.cons (.int 0) .nil)) .nil)))) .nil))))), false⟩
/-! _law_fewest -/
def f_law_21_c0 : E := (.lc (.bin .add (.var 4) (.tup (.cons (.var 2) .nil))) (.nm 4) (.of (.var 1)))
def f_law_21_b1 : Ss := (.cons (.asg (.nm 1) (.bin .add (.var 1) f_law_21_c0)) .nil)
def f_law_21_l2 : S := .for (.nm 2) (.of (.ix (.var 0) (.int 2))) f_law_21_b1
def f_law_21_c3 : E := (.lci (.b1 .len (.var 4)) (.nm 4) (.of (.var 1)) (.cmp .isn (.call (.law 7) (.cons (.lst (.cons (.ix (.var 0) (.int 0)) (.cons (.ix (.var 0) (.int 1)) (.cons (.var 4) .nil)))) .nil)) .non))
def f_law_21 : Fn := ⟨["_law_b", "_law_lots", "_law_fact_here", "_law_sizes", "_law_some"], 1, (.cons (.asg (.nm 1) (.lst (.cons (.tup .nil) .nil))) (.cons f_law_21_l2 (.cons (.asg (.nm 3) f_law_21_c3) (.cons (.ret (.ifx (.cmp .ne (.var 3) (.lst .nil)) (.b1 .min (.var 3)) .non)) .nil)))), false⟩
/-! is_ring_fact -/
def f_p_37 : Fn := ⟨["value", "cells"], 2, (.cons (.ite (.or (.nott (.isa (.var 0) .tuple)) (.cmp .ne (.b1 .len (.var 0)) (.int 4))) (.cons (.ret (.bl false)) .nil) .nil) (.cons (.ite (.or (.nott (.call (.p 1) (.cons (.ix (.var 0) (.int 0)) (.cons (.int 0) (.cons (.bin .sub (.var 1) (.int 1)) .nil))))) (.nott (.call (.p 1) (.cons (.ix (.var 0) (.int 1)) (.cons (.bin .add (.ix (.var 0) (.int 0)) (.int 1)) (.cons (.bin .add (.ix (.var 0) (.int 0)) (.var 1)) .nil)))))) (.cons (.ret (.bl false)) .nil) .nil) (.cons (.ret (.and (.call (.p 1) (.cons (.ix (.var 0) (.int 2)) (.cons (.int 0) (.cons (.int 100000000000000000000000000000000) .nil)))) (.call (.p 1) (.cons (.ix (.var 0) (.int 3)) (.cons (.ix (.var 0) (.int 2)) (.cons (.int 100000000000000000000000000000000) .nil)))))) .nil))), false⟩
/-! Ring.__init__ -/
def f_ini_ring_b0 : Ss := (.cons (.ite (.nott (.call (.p 37) (.cons (.var 5) (.cons (.var 1) .nil)))) (.cons (.rais (.err 3) (.cons (.var 4) .nil)) .nil) .nil) .nil)
def f_ini_ring_l1 : S := .for (.tp (.cons (.nm 4) (.cons (.nm 5) .nil))) (.en (.var 3)) f_ini_ring_b0
def f_ini_ring : Fn := ⟨["self", "cells", "most", "facts", "index", "fact"], 4, (.cons (.ite (.nott (.call (.p 1) (.cons (.var 1) (.cons (.int 1) (.cons (.int 8) .nil))))) (.cons (.rais (.err 1) .nil) .nil) .nil) (.cons (.ite (.nott (.call (.p 1) (.cons (.var 2) (.cons (.int 0) (.cons (.int 9) .nil))))) (.cons (.rais (.err 2) .nil) .nil) .nil) (.cons (.ite (.or (.nott (.isa (.var 3) .tuple)) (.cmp .gt (.b1 .len (.var 3)) (.int 12))) (.cons (.rais (.err 3) (.cons .non .nil)) .nil) .nil) (.cons f_ini_ring_l1 (.cons (.seta 0 .ring (.tup (.cons (.var 1) (.cons (.var 2) (.cons (.var 3) .nil))))) .nil))))), false⟩
/-! Ring.cells -/
def f_pr_ring_0 : Fn := ⟨["self"], 1, (.cons (.ret (.ix (.fld (.var 0) .ring 0) (.int 0))) .nil), false⟩
/-! Ring.most -/
def f_pr_ring_1 : Fn := ⟨["self"], 1, (.cons (.ret (.ix (.fld (.var 0) .ring 0) (.int 1))) .nil), false⟩
/-! Ring.facts -/
def f_pr_ring_2 : Fn := ⟨["self"], 1, (.cons (.ret (.ix (.fld (.var 0) .ring 0) (.int 2))) .nil), false⟩
/-! Ring.__len__ -/
def f_len_ring : Fn := ⟨["self"], 1, (.cons (.ret (.b1 .len (.ix (.fld (.var 0) .ring 0) (.int 2)))) .nil), false⟩
/-! Ring.__eq__ -/
def f_eq_ring : Fn := ⟨["self", "other"], 2, (.cons (.ret (.and (.isa (.var 1) (.cls .ring)) (.cmp .eq (.fld (.var 0) .ring 0) (.fld (.var 1) .ring 0)))) .nil), false⟩
/-! edges_with -/
def f_p_38_b0 : Ss := (.cons (.ext 2 (.lst (.cons (.tup (.cons (.var 3) (.cons (.bin .add (.var 3) (.int 1)) (.cons (.var 5) .nil)))) (.cons (.tup (.cons (.bin .add (.var 3) (.int 1)) (.cons (.var 3) (.cons (.int 0) .nil)))) .nil)))) .nil)
def f_p_38_l1 : S := .for (.nm 3) (.rg1 (.var 4)) f_p_38_b0
def f_p_38_b2 : Ss := (.cons (.ite (.cmp .gt (.var 8) (.var 4)) (.cons (.par [8, 9, 10] (.cons (.bin .sub (.var 8) (.var 4)) (.cons (.bin .sub (.var 9) (.var 1)) (.cons (.bin .sub (.var 10) (.var 1)) .nil)))) .nil) .nil) (.cons (.ext 2 (.lst (.cons (.tup (.cons (.var 7) (.cons (.var 8) (.cons (.var 10) .nil)))) (.cons (.tup (.cons (.var 8) (.cons (.var 7) (.cons (.neg (.var 9)) .nil)))) .nil)))) .nil))
def f_p_38_l3 : S := .for (.tp (.cons (.nm 7) (.cons (.nm 8) (.cons (.nm 9) (.cons (.nm 10) .nil))))) (.of (.var 6)) f_p_38_b2
def f_p_38 : Fn := ⟨["ring", "total", "found", "cell", "cells", "most", "facts", "begin", "end", "low", "high"], 2, (.cons (.asg (.tp (.cons (.nm 4) (.cons (.nm 5) (.cons (.nm 6) .nil)))) (.fld (.var 0) .ring 0)) (.cons (.own 2 (.lst (.cons (.tup (.cons (.int 0) (.cons (.var 4) (.cons (.var 1) .nil)))) (.cons (.tup (.cons (.var 4) (.cons (.int 0) (.cons (.neg (.var 1)) .nil)))) .nil)))) (.cons f_p_38_l1 (.cons f_p_38_l3 (.cons (.frz 2) (.cons (.ret (.var 2)) .nil)))))), false⟩
/-! check_ring -/
def f_p_39 : Fn := ⟨["value"], 1, (.cons (.ite (.nott (.isa (.var 0) (.cls .ring))) (.cons (.rais (.err 10) .nil) .nil) .nil) .nil), false⟩
/-! totals_of -/
def f_p_40_b0 : Ss := (.cons (.ite (.cmp .notn (.call (.p 9) (.cons (.bin .add (.ix (.fld (.var 0) .ring 0) (.int 0)) (.int 1)) (.cons (.call (.p 38) (.cons (.var 0) (.cons (.var 2) .nil))) (.cons (.int 0) .nil)))) .non) (.cons (.app 1 (.var 2)) .nil) .nil) .nil)
def f_p_40_l1 : S := .for (.nm 2) (.rg1 (.bin .add (.bin .mul (.ix (.fld (.var 0) .ring 0) (.int 0)) (.ix (.fld (.var 0) .ring 0) (.int 1))) (.int 1))) f_p_40_b0
def f_p_40 : Fn := ⟨["ring", "found", "total"], 1, (.cons (.own 1 (.lst .nil)) (.cons f_p_40_l1 (.cons (.frz 1) (.cons (.ret (.var 1)) .nil)))), false⟩
/-! ring_totals -/
def f_p_41 : Fn := ⟨["ring"], 1, (.cons (.expr (.call (.p 39) (.cons (.var 0) .nil))) (.cons (.ret (.call (.p 40) (.cons (.var 0) .nil))) .nil)), false⟩
/-! bounds_with -/
def f_p_42 : Fn := ⟨["ring", "total", "begin", "end", "cells", "edges", "more", "low", "high"], 4, (.cons (.asg (.nm 4) (.ix (.fld (.var 0) .ring 0) (.int 0))) (.cons (.asg (.nm 5) (.call (.p 38) (.cons (.var 0) (.cons (.var 1) .nil)))) (.cons (.asg (.nm 6) (.int 0)) (.cons (.ite (.cmp .gt (.var 3) (.var 4)) (.cons (.par [3, 6] (.cons (.bin .sub (.var 3) (.var 4)) (.cons (.var 1) .nil))) .nil) .nil) (.cons (.par [7, 8] (.cons (.neg (.ix (.call (.p 9) (.cons (.bin .add (.var 4) (.int 1)) (.cons (.var 5) (.cons (.var 3) .nil)))) (.var 2))) (.cons (.ix (.call (.p 9) (.cons (.bin .add (.var 4) (.int 1)) (.cons (.var 5) (.cons (.var 2) .nil)))) (.var 3)) .nil))) (.cons (.ret (.tup (.cons (.bin .add (.var 7) (.var 6)) (.cons (.bin .add (.var 8) (.var 6)) .nil)))) .nil)))))), false⟩
/-! ring_bounds -/
def f_p_43_c0 : E := (.lc (.call (.p 42) (.cons (.var 0) (.cons (.var 5) (.cons (.var 1) (.cons (.var 2) .nil))))) (.nm 5) (.of (.var 3)))
def f_p_43_c1 : E := (.lc (.var 7) (.tp (.cons (.nm 6) (.cons (.nm 7) .nil))) (.of (.var 4)))
def f_p_43_c2 : E := (.lc (.var 6) (.tp (.cons (.nm 6) (.cons (.nm 7) .nil))) (.of (.var 4)))
def f_p_43 : Fn := ⟨["ring", "begin", "end", "totals", "found", "total", "low", "high"], 3, (.cons (.expr (.call (.p 39) (.cons (.var 0) .nil))) (.cons (.ite (.or (.nott (.call (.p 1) (.cons (.var 1) (.cons (.int 0) (.cons (.bin .sub (.ix (.fld (.var 0) .ring 0) (.int 0)) (.int 1)) .nil))))) (.nott (.call (.p 1) (.cons (.var 2) (.cons (.bin .add (.var 1) (.int 1)) (.cons (.bin .add (.var 1) (.ix (.fld (.var 0) .ring 0) (.int 0))) .nil)))))) (.cons (.rais (.err 8) .nil) .nil) .nil) (.cons (.asg (.nm 3) (.call (.p 40) (.cons (.var 0) .nil))) (.cons (.ite (.nott (.var 3)) (.cons (.rais (.err 6) .nil) .nil) .nil) (.cons (.asg (.nm 4) f_p_43_c0) (.cons (.ret (.tup (.cons (.b1 .min f_p_43_c2) (.cons (.b1 .max f_p_43_c1) .nil)))) .nil)))))), false⟩
/-! ring_row -/
def f_p_44_c0 : E := (.lc (.bin .sub (.ix (.var 3) (.bin .add (.var 4) (.int 1))) (.ix (.var 3) (.var 4))) (.nm 4) (.rg1 (.ix (.fld (.var 0) .ring 0) (.int 0))))
def f_p_44_b1 : Ss := (.cons (.asg (.nm 3) (.call (.p 13) (.cons (.bin .add (.ix (.fld (.var 0) .ring 0) (.int 0)) (.int 1)) (.cons (.call (.p 38) (.cons (.var 0) (.cons (.var 2) .nil))) .nil)))) (.cons (.app 1 (.b1 .tuple f_p_44_c0)) .nil))
def f_p_44_l2 : S := .for (.nm 2) (.of (.call (.p 40) (.cons (.var 0) .nil))) f_p_44_b1
def f_p_44 : Fn := ⟨["ring", "found", "total", "tops", "cell"], 1, (.cons (.expr (.call (.p 39) (.cons (.var 0) .nil))) (.cons (.own 1 (.lst .nil)) (.cons f_p_44_l2 (.cons (.ite (.nott (.var 1)) (.cons (.rais (.err 6) .nil) .nil) .nil) (.cons (.ret (.b1 .min (.var 1))) .nil))))), false⟩
/-! _law_line -/
def f_law_22_b0 : Ss := (.cons (.ite (.cmp .le (.var 6) (.var 0)) (.cons (.app 4 (.tup (.cons (.var 5) (.cons (.var 6) (.cons (.var 7) (.cons (.var 8) .nil)))))) .nil) (.cons (.ite (.or (.cmp .lt (.var 3) (.var 7)) (.and (.cmp .eq (.bin .sub (.var 6) (.var 5)) (.var 0)) (.cmp .gt (.var 3) (.var 8)))) (.cons (.ret .non) .nil) (.cons (.ite (.cmp .lt (.bin .sub (.var 6) (.var 5)) (.var 0)) (.cons (.app 4 (.tup (.cons (.bin .sub (.var 6) (.var 0)) (.cons (.var 5) (.cons (.b2 .max (.int 0) (.bin .sub (.var 3) (.var 8))) (.cons (.bin .sub (.var 3) (.var 7)) .nil)))))) .nil) .nil) .nil)) .nil)) .nil)
def f_law_22_l1 : S := .for (.tp (.cons (.nm 5) (.cons (.nm 6) (.cons (.nm 7) (.cons (.nm 8) .nil))))) (.of (.var 2)) f_law_22_b0
def f_law_22 : Fn := ⟨["_law_cells", "_law_most", "_law_facts", "_law_total", "_law_found", "_law_begin", "_law_end", "_law_low", "_law_high"], 4, (.cons (.own 4 (.lst (.cons (.tup (.cons (.int 0) (.cons (.var 0) (.cons (.var 3) (.cons (.var 3) .nil))))) .nil))) (.cons f_law_22_l1 (.cons (.frz 4) (.cons (.ret (.lst (.cons (.var 0) (.cons (.var 1) (.cons (.b1 .tuple (.var 4)) .nil))))) .nil)))), false⟩
/-! _law_tables -/
def f_law_23_b0 : Ss := (.cons (.asg (.nm 5) (.call (.law 22) (.cons (.var 0) (.cons (.var 1) (.cons (.var 2) (.cons (.var 4) .nil)))))) (.cons (.asg (.nm 6) (.ifx (.cmp .isn (.var 5) .non) .non (.call (.law 7) (.cons (.var 5) .nil)))) (.cons (.ite (.cmp .notn (.var 6) .non) (.cons (.put 3 (.var 4) (.var 6)) .nil) .nil) .nil)))
def f_law_23_l1 : S := .for (.nm 4) (.rg1 (.bin .add (.bin .mul (.var 0) (.var 1)) (.int 1))) f_law_23_b0
def f_law_23 : Fn := ⟨["_law_cells", "_law_most", "_law_facts", "_law_found", "_law_total", "_law_b", "_law_far_here"], 3, (.cons (.own 3 (.dnew false)) (.cons f_law_23_l1 (.cons (.frz 3) (.cons (.ret (.var 3)) .nil)))), false⟩
/-! _law_turned -/
def f_law_24_b0 : Ss := (.cons (.par [7, 8] (.cons (.var 4) (.cons (.var 4) .nil))) (.cons (.ite (.cmp .le (.var 3) (.var 0)) (.cons (.asg (.tp (.cons (.nm 7) (.cons (.nm 8) .nil))) (.call (.law 8) (.cons (.ix (.var 1) (.var 4)) (.cons (.var 2) (.cons (.var 3) .nil))))) .nil) (.cons (.ite (.cmp .lt (.bin .sub (.var 3) (.var 2)) (.var 0)) (.cons (.asg (.tp (.cons (.nm 7) (.cons (.nm 8) .nil))) (.call (.law 8) (.cons (.ix (.var 1) (.var 4)) (.cons (.bin .sub (.var 3) (.var 0)) (.cons (.var 2) .nil))))) (.cons (.par [7, 8] (.cons (.bin .sub (.var 4) (.var 8)) (.cons (.bin .sub (.var 4) (.var 7)) .nil))) .nil)) .nil) .nil)) (.cons (.app 5 (.var 7)) (.cons (.app 6 (.var 8)) .nil))))
def f_law_24_l1 : S := .for (.nm 4) (.of (.var 1)) f_law_24_b0
def f_law_24 : Fn := ⟨["_law_cells", "_law_tables_here", "_law_begin", "_law_end", "_law_total", "_law_lows", "_law_highs", "_law_low", "_law_high"], 4, (.cons (.par [5, 6] (.cons (.lst .nil) (.cons (.lst .nil) .nil))) (.cons f_law_24_l1 (.cons (.ret (.tup (.cons (.b1 .min (.var 5)) (.cons (.b1 .max (.var 6)) .nil)))) .nil))), false⟩
/-! _law_sum -/
def f_law_25 : Fn := ⟨["_law_row", "_law_begin", "_law_end"], 3, (.cons (.ret (.b1 .sum (.sl (.bin .add (.var 0) (.var 0)) (.so (.var 1)) (.so (.var 2))))) .nil), false⟩
/-! _law_ring_fact -/
def f_law_26 : Fn := ⟨["_law_h", "_law_row", "_law_begin", "_law_end", "_law_own", "_law_low", "_law_high"], 2, (.cons (.asg (.nm 2) (.call (.next) (.cons (.var 0) (.cons (.b1 .len (.var 1)) .nil)))) (.cons (.asg (.nm 3) (.bin .add (.bin .add (.var 2) (.int 1)) (.call (.next) (.cons (.var 0) (.cons (.b1 .len (.var 1)) .nil))))) (.cons (.asg (.nm 4) (.call (.law 25) (.cons (.var 1) (.cons (.var 2) (.cons (.var 3) .nil))))) (.cons (.par [5, 6] (.cons (.b2 .max (.int 0) (.bin .sub (.var 4) (.call (.next) (.cons (.var 0) (.cons (.int 3) .nil))))) (.cons (.bin .add (.var 4) (.call (.next) (.cons (.var 0) (.cons (.int 3) .nil)))) .nil))) (.cons (.ite (.cmp .eq (.call (.next) (.cons (.var 0) (.cons (.int 9) .nil))) (.int 0)) (.cons (.par [5, 6] (.cons (.var 6) (.cons (.bin .add (.var 6) (.int 1)) .nil))) .nil) .nil) (.cons (.ret (.tup (.cons (.var 2) (.cons (.var 3) (.cons (.var 5) (.cons (.var 6) .nil)))))) .nil)))))), false⟩
/-! _law_ring_fact -/
def f_law_26v1 : Fn := ⟨["_law_h", "_law_row", "_law_loose", "_law_begin", "_law_end", "_law_own", "_law_low", "_law_high"], 3, (.cons (.asg (.nm 3) (.call (.next) (.cons (.var 0) (.cons (.b1 .len (.var 1)) .nil)))) (.cons (.asg (.nm 4) (.bin .add (.bin .add (.var 3) (.int 1)) (.call (.next) (.cons (.var 0) (.cons (.b1 .len (.var 1)) .nil))))) (.cons (.asg (.nm 5) (.call (.law 25) (.cons (.var 1) (.cons (.var 3) (.cons (.var 4) .nil))))) (.cons (.par [6, 7] (.cons (.b2 .max (.int 0) (.bin .sub (.var 5) (.call (.next) (.cons (.var 0) (.cons (.var 2) .nil))))) (.cons (.bin .add (.var 5) (.call (.next) (.cons (.var 0) (.cons (.var 2) .nil)))) .nil))) (.cons (.ite (.cmp .eq (.call (.next) (.cons (.var 0) (.cons (.int 12) .nil))) (.int 0)) (.cons (.par [6, 7] (.cons (.var 7) (.cons (.bin .add (.var 7) (.int 1)) .nil))) .nil) .nil) (.cons (.ret (.tup (.cons (.var 3) (.cons (.var 4) (.cons (.var 6) (.cons (.var 7) .nil)))))) .nil)))))), false⟩
/-! is_rest -/
def f_p_45 : Fn := ⟨["value", "cells"], 2, (.cons (.ite (.or (.nott (.isa (.var 0) .tuple)) (.cmp .ne (.b1 .len (.var 0)) (.int 3))) (.cons (.ret (.bl false)) .nil) .nil) (.cons (.ite (.or (.nott (.call (.p 1) (.cons (.ix (.var 0) (.int 0)) (.cons (.int 0) (.cons (.bin .sub (.var 1) (.int 1)) .nil))))) (.nott (.call (.p 1) (.cons (.ix (.var 0) (.int 1)) (.cons (.bin .add (.ix (.var 0) (.int 0)) (.int 1)) (.cons (.var 1) .nil)))))) (.cons (.ret (.bl false)) .nil) .nil) (.cons (.ret (.call (.p 1) (.cons (.ix (.var 0) (.int 2)) (.cons (.int 0) (.cons (.bin .sub (.int 10) (.int 1)) .nil))))) .nil))), false⟩
/-! check_rests -/
def f_p_46_b0 : Ss := (.cons (.ite (.nott (.call (.p 45) (.cons (.var 3) (.cons (.ix (.fld (.var 0) .book 0) (.int 0)) .nil)))) (.cons (.rais (.err 12) (.cons (.var 2) .nil)) .nil) .nil) .nil)
def f_p_46_l1 : S := .for (.tp (.cons (.nm 2) (.cons (.nm 3) .nil))) (.en (.var 1)) f_p_46_b0
def f_p_46 : Fn := ⟨["book", "value", "index", "rest"], 2, (.cons (.ite (.or (.nott (.isa (.var 1) .tuple)) (.cmp .gt (.b1 .len (.var 1)) (.int 12))) (.cons (.rais (.err 12) (.cons .non .nil)) .nil) .nil) (.cons f_p_46_l1 .nil)), false⟩
/-! check_small -/
def f_p_47_b0 : Ss := (.cons (.asg (.nm 2) (.bin .mul (.var 2) (.bin .add (.ix (.fld (.var 0) .book 0) (.int 1)) (.int 1)))) .nil)
def f_p_47_l1 : S := .for (.nm 3) (.rg1 (.ix (.fld (.var 0) .book 0) (.int 0))) f_p_47_b0
def f_p_47 : Fn := ⟨["book", "cells", "many", "cell"], 2, (.cons (.ite (.or (.cmp .gt (.ix (.fld (.var 0) .book 0) (.int 0)) (.var 1)) (.cmp .gt (.ix (.fld (.var 0) .book 0) (.int 1)) (.int 9))) (.cons (.rais (.err 11) .nil) .nil) .nil) (.cons (.asg (.nm 2) (.int 1)) (.cons f_p_47_l1 (.cons (.ite (.cmp .gt (.var 2) (.int 5000)) (.cons (.rais (.err 11) .nil) .nil) .nil) .nil)))), false⟩
/-! agrees -/
def f_p_48_b0 : Ss := (.cons (.ite (.cmp .ne (.bin .mod (.b1 .sum (.sl (.var 0) (.so (.var 2)) (.so (.var 3)))) (.int 10)) (.var 4)) (.cons (.ret (.bl false)) .nil) .nil) .nil)
def f_p_48_l1 : S := .for (.tp (.cons (.nm 2) (.cons (.nm 3) (.cons (.nm 4) .nil)))) (.of (.var 1)) f_p_48_b0
def f_p_48 : Fn := ⟨["row", "rests", "begin", "end", "figure"], 2, (.cons f_p_48_l1 (.cons (.ret (.bl true)) .nil)), false⟩
/-! rows_by -/
def f_p_49_c0 : E := (.lc2 (.bin .add (.var 4) (.tup (.cons (.var 5) .nil))) 4 (.of (.var 2)) 5 (.rg1 (.bin .add (.ix (.fld (.var 0) .book 0) (.int 1)) (.int 1))))
def f_p_49_b1 : Ss := (.cons (.asg (.nm 2) f_p_49_c0) .nil)
def f_p_49_l2 : S := .for (.nm 3) (.rg1 (.ix (.fld (.var 0) .book 0) (.int 0))) f_p_49_b1
def f_p_49_c3 : E := (.lci (.var 4) (.nm 4) (.of (.var 2)) (.and (.nott (.call (.p 5) (.cons (.var 0) (.cons (.var 4) .nil)))) (.call (.p 48) (.cons (.var 4) (.cons (.var 1) .nil)))))
def f_p_49 : Fn := ⟨["book", "rests", "found", "cell", "row", "number"], 2, (.cons (.asg (.nm 2) (.lst (.cons (.tup .nil) .nil))) (.cons f_p_49_l2 (.cons (.ret f_p_49_c3) .nil))), false⟩
/-! rows -/
def f_p_50 : Fn := ⟨["book", "rests"], 2, (.cons (.expr (.call (.p 3) (.cons (.var 0) .nil))) (.cons (.expr (.call (.p 46) (.cons (.var 0) (.cons (.var 1) .nil)))) (.cons (.expr (.call (.p 47) (.cons (.var 0) (.cons (.int 6) .nil)))) (.cons (.ret (.call (.p 49) (.cons (.var 0) (.cons (.var 1) .nil)))) .nil)))), false⟩
/-! nearest -/
def f_p_51_c0 : E := (.lc (.b1 .abs (.bin .sub (.var 7) (.var 8))) (.tp (.cons (.nm 7) (.cons (.nm 8) .nil))) (.zp (.var 2) (.var 4)))
def f_p_51_b1 : Ss := (.cons (.app 3 (.tup (.cons (.b1 .sum f_p_51_c0) (.cons (.var 4) .nil)))) .nil)
def f_p_51_l2 : S := .for (.nm 4) (.of (.call (.p 49) (.cons (.var 0) (.cons (.var 1) .nil)))) f_p_51_b1
def f_p_51_c3 : E := (.lci (.var 4) (.tp (.cons (.nm 6) (.cons (.nm 4) .nil))) (.of (.var 3)) (.cmp .eq (.var 6) (.var 5)))
def f_p_51 : Fn := ⟨["book", "rests", "row", "found", "other", "least", "far", "one", "two"], 3, (.cons (.expr (.call (.p 3) (.cons (.var 0) .nil))) (.cons (.expr (.call (.p 46) (.cons (.var 0) (.cons (.var 1) .nil)))) (.cons (.expr (.call (.p 4) (.cons (.var 0) (.cons (.var 2) .nil)))) (.cons (.expr (.call (.p 47) (.cons (.var 0) (.cons (.int 6) .nil)))) (.cons (.own 3 (.lst .nil)) (.cons f_p_51_l2 (.cons (.ite (.nott (.var 3)) (.cons (.rais (.err 6) .nil) .nil) .nil) (.cons (.asg (.nm 5) (.ix (.b1 .min (.var 3)) (.int 0))) (.cons (.frz 3) (.cons (.ret (.tup (.cons (.var 5) (.cons f_p_51_c3 .nil)))) .nil)))))))))), false⟩
/-! _law_rests -/
def f_law_27_b0 : Ss := (.cons (.asg (.tp (.cons (.nm 6) (.cons (.nm 7) .nil))) (.call (.law 1) (.cons (.var 0) (.cons (.b1 .len (.var 1)) .nil)))) (.cons (.asg (.nm 5) (.ifx (.cmp .gt (.call (.next) (.cons (.var 0) (.cons (.int 6) .nil))) (.int 0)) (.bin .mod (.b1 .sum (.sl (.var 1) (.so (.var 6)) (.so (.var 7)))) (.int 10)) (.call (.next) (.cons (.var 0) (.cons (.int 10) .nil))))) (.cons (.app 3 (.tup (.cons (.var 6) (.cons (.var 7) (.cons (.var 5) .nil))))) .nil)))
def f_law_27_l1 : S := .for (.nm 4) (.rg1 (.call (.next) (.cons (.var 0) (.cons (.bin .add (.var 2) (.int 1)) .nil)))) f_law_27_b0
def f_law_27 : Fn := ⟨["_law_h", "_law_row", "_law_many", "_law_found", "_law_k", "_law_figure", "_law_begin", "_law_end"], 3, (.cons (.own 3 (.lst .nil)) (.cons f_law_27_l1 (.cons (.frz 3) (.cons (.ret (.b1 .tuple (.var 3))) .nil)))), false⟩
/-! _law_told -/
def f_law_28 : Fn := ⟨["_law_told_here", "_law_rests_here"], 2, (.cons (.tri (.cons (.ret (.call (.p 50) (.cons (.var 0) (.cons (.var 1) .nil)))) .nil) (.cons (.err 11) none (.cons (.ret .non) .nil) .nil)) .nil), false⟩
/-! _law_told -/
def f_law_28v1 : Fn := ⟨["_law_book_here"], 1, (.cons (.tri (.cons (.ret (.call (.p 75) (.cons (.var 0) .nil))) .nil) (.cons (.err 6) none (.cons (.ret .non) .nil) .nil)) .nil), false⟩
/-! _law_told -/
def f_law_28v2 : Fn := ⟨["_law_told_here", "_law_row"], 2, (.cons (.tri (.cons (.ret (.tup (.cons (.call (.p 91) (.cons (.var 0) (.cons (.var 1) .nil))) (.cons (.call (.p 92) (.cons (.var 0) (.cons (.var 1) .nil))) .nil)))) .nil) (.cons (.err 6) none (.cons (.ret .non) .nil) .nil)) .nil), false⟩
/-! _law_told -/
def f_law_28v3 : Fn := ⟨["_law_told_here", "_law_row"], 2, (.cons (.tri (.cons (.ret (.call (.p 91) (.cons (.var 0) (.cons (.var 1) .nil)))) .nil) (.cons (.err 6) none (.cons (.ret .non) .nil) .nil)) .nil), false⟩
/-! _law_nearest -/
def f_law_29 : Fn := ⟨["_law_told_here", "_law_rests_here", "_law_row"], 3, (.cons (.tri (.cons (.ret (.call (.p 51) (.cons (.var 0) (.cons (.var 1) (.cons (.var 2) .nil))))) .nil) (.cons (.err 6) none (.cons (.ret .non) .nil) .nil)) .nil), false⟩
/-! all_stretches -/
def f_p_52_c0 : E := (.lc (.tup (.cons (.var 2) (.cons (.var 3) .nil))) (.nm 3) (.rg2 (.bin .add (.var 2) (.int 1)) (.bin .add (.ix (.fld (.var 0) .book 0) (.int 0)) (.int 1))))
def f_p_52_b1 : Ss := (.cons (.ext 1 f_p_52_c0) .nil)
def f_p_52_l2 : S := .for (.nm 2) (.rg1 (.ix (.fld (.var 0) .book 0) (.int 0))) f_p_52_b1
def f_p_52 : Fn := ⟨["book", "found", "begin", "end"], 1, (.cons (.own 1 (.lst .nil)) (.cons f_p_52_l2 (.cons (.frz 1) (.cons (.ret (.var 1)) .nil)))), false⟩
/-! most_left -/
def f_p_53_b0 : Ss := (.cons (.asg (.nm 6) (.b1 .sum (.sl (.var 3) (.so (.var 4)) (.so (.var 5))))) (.cons (.put 2 (.var 6) (.bin .add (.get (.var 2) (.var 6) (.int 0)) (.int 1))) .nil))
def f_p_53_l1 : S := .for (.nm 3) (.of (.var 0)) f_p_53_b0
def f_p_53_c2 : E := (.lc (.ix (.var 2) (.var 6)) (.nm 6) (.of (.var 2)))
def f_p_53 : Fn := ⟨["every", "stretch", "counts", "row", "begin", "end", "own"], 2, (.cons (.asg (.tp (.cons (.nm 4) (.cons (.nm 5) .nil))) (.var 1)) (.cons (.own 2 (.dnew false)) (.cons f_p_53_l1 (.cons (.frz 2) (.cons (.ret (.b1 .max f_p_53_c2)) .nil))))), false⟩
/-! next_stretch -/
def f_p_54_c0 : E := (.lc (.tup (.cons (.call (.p 53) (.cons (.var 2) (.cons (.var 4) .nil))) (.cons (.var 4) .nil))) (.nm 4) (.of (.call (.p 52) (.cons (.var 0) .nil))))
def f_p_54 : Fn := ⟨["book", "rests", "every", "best", "stretch"], 2, (.cons (.expr (.call (.p 3) (.cons (.var 0) .nil))) (.cons (.expr (.call (.p 46) (.cons (.var 0) (.cons (.var 1) .nil)))) (.cons (.expr (.call (.p 47) (.cons (.var 0) (.cons (.int 6) .nil)))) (.cons (.asg (.nm 2) (.call (.p 49) (.cons (.var 0) (.cons (.var 1) .nil)))) (.cons (.ite (.nott (.var 2)) (.cons (.rais (.err 6) .nil) .nil) .nil) (.cons (.asg (.nm 3) (.b1 .min f_p_54_c0)) (.cons (.ret (.bin .add (.ix (.var 3) (.int 1)) (.tup (.cons (.ix (.var 3) (.int 0)) .nil)))) .nil))))))), false⟩
/-! subsets -/
def f_p_55_c0 : E := (.lc2i (.bin .add (.var 4) (.tup (.cons (.var 5) .nil))) 4 (.of (.var 2)) 5 (.of (.var 0)) (.or (.nott (.var 4)) (.cmp .gt (.var 5) (.ix (.var 4) (.neg (.int 1))))))
def f_p_55_b1 : Ss := (.cons (.asg (.nm 2) f_p_55_c0) .nil)
def f_p_55_l2 : S := .for (.nm 3) (.rg1 (.var 1)) f_p_55_b1
def f_p_55 : Fn := ⟨["things", "size", "found", "turn", "some", "thing"], 2, (.cons (.asg (.nm 2) (.lst (.cons (.tup .nil) .nil))) (.cons f_p_55_l2 (.cons (.ret (.var 2)) .nil))), false⟩
/-! subsets -/
def f_p_55v1_c0 : E := (.lc2i (.bin .add (.var 4) (.tup (.cons (.var 5) .nil))) 4 (.of (.var 2)) 5 (.rg1 (.var 0)) (.or (.nott (.var 4)) (.cmp .gt (.var 5) (.ix (.var 4) (.neg (.int 1))))))
def f_p_55v1_b1 : Ss := (.cons (.asg (.nm 2) f_p_55v1_c0) .nil)
def f_p_55v1_l2 : S := .for (.nm 3) (.rg1 (.var 1)) f_p_55v1_b1
def f_p_55v1 : Fn := ⟨["many", "size", "found", "turn", "some", "index"], 2, (.cons (.asg (.nm 2) (.lst (.cons (.tup .nil) .nil))) (.cons f_p_55v1_l2 (.cons (.ret (.var 2)) .nil))), false⟩
/-! tell_apart -/
def f_p_56_c0 : E := (.lc (.b1 .sum (.sl (.var 3) (.so (.var 4)) (.so (.var 5)))) (.tp (.cons (.nm 4) (.cons (.nm 5) .nil))) (.of (.var 1)))
def f_p_56_b1 : Ss := (.cons (.put 2 (.b1 .tuple f_p_56_c0) (.bl true)) .nil)
def f_p_56_l2 : S := .for (.nm 3) (.of (.var 0)) f_p_56_b1
def f_p_56 : Fn := ⟨["every", "some", "known", "row", "begin", "end"], 2, (.cons (.own 2 (.dnew false)) (.cons f_p_56_l2 (.cons (.ret (.cmp .eq (.b1 .len (.var 2)) (.b1 .len (.var 0)))) .nil))), false⟩
/-! fewest_stretches -/
def f_p_57_b0 : Ss := (.cons (.ite (.call (.p 56) (.cons (.var 2) (.cons (.var 4) .nil))) (.cons (.ret (.var 4)) .nil) .nil) .nil)
def f_p_57_l1 : S := .for (.nm 4) (.of (.call (.p 55) (.cons (.call (.p 52) (.cons (.var 0) .nil)) (.cons (.var 3) .nil)))) f_p_57_b0
def f_p_57_b2 : Ss := (.cons f_p_57_l1 (.cons (.aug 3 .add (.int 1)) .nil))
def f_p_57_l3 : S := .whl (.bl true) f_p_57_b2
def f_p_57 : Fn := ⟨["book", "rests", "every", "size", "some"], 2, (.cons (.expr (.call (.p 3) (.cons (.var 0) .nil))) (.cons (.expr (.call (.p 46) (.cons (.var 0) (.cons (.var 1) .nil)))) (.cons (.expr (.call (.p 47) (.cons (.var 0) (.cons (.int 4) .nil)))) (.cons (.asg (.nm 2) (.call (.p 49) (.cons (.var 0) (.cons (.var 1) .nil)))) (.cons (.asg (.nm 3) (.int 0)) (.cons f_p_57_l3 .nil)))))), false⟩
/-! _law_stretches -/
def f_law_30_c0 : E := (.lc (.tup (.cons (.var 2) (.cons (.var 3) .nil))) (.nm 3) (.rg2 (.bin .add (.var 2) (.int 1)) (.bin .add (.var 0) (.int 1))))
def f_law_30_b1 : Ss := (.cons (.asg (.nm 1) (.bin .add (.var 1) f_law_30_c0)) .nil)
def f_law_30_l2 : S := .for (.nm 2) (.rg1 (.var 0)) f_law_30_b1
def f_law_30 : Fn := ⟨["_law_cells", "_law_found", "_law_begin", "_law_end"], 1, (.cons (.asg (.nm 1) (.lst .nil)) (.cons f_law_30_l2 (.cons (.ret (.var 1)) .nil))), false⟩
/-! _law_worst -/
def f_law_31_c0 : E := (.lc (.b1 .sum (.sl (.var 4) (.so (.var 1)) (.so (.var 2)))) (.nm 4) (.of (.var 0)))
def f_law_31_c1 : E := (.lci (.var 6) (.nm 6) (.of (.var 3)) (.cmp .eq (.var 6) (.var 5)))
def f_law_31_c2 : E := (.lc (.b1 .len f_law_31_c1) (.nm 5) (.of (.var 3)))
def f_law_31 : Fn := ⟨["_law_fine", "_law_begin", "_law_end", "_law_own", "_law_row", "_law_number", "_law_x"], 3, (.cons (.asg (.nm 3) f_law_31_c0) (.cons (.ret (.b1 .max f_law_31_c2)) .nil)), false⟩
/-! _law_next_one -/
def f_law_32 : Fn := ⟨["_law_told", "_law_rests"], 2, (.cons (.tri (.cons (.ret (.call (.p 54) (.cons (.var 0) (.cons (.var 1) .nil)))) .nil) (.cons (.err 6) none (.cons (.ret .non) .nil) .nil)) .nil), false⟩
/-! _law_few -/
def f_law_33 : Fn := ⟨["_law_told"], 1, (.cons (.tri (.cons (.ret (.call (.p 57) (.cons (.var 0) (.cons (.tup .nil) .nil)))) .nil) (.cons (.err 11) none (.cons (.ret .non) .nil) .nil)) .nil), false⟩
/-! fits_with -/
def f_p_58_b0 : Ss := (.cons (.asg (.tp (.cons (.nm 5) (.cons (.nm 6) (.cons (.nm 7) (.cons (.nm 8) .nil))))) (.ix (.ix (.fld (.var 0) .book 0) (.int 2)) (.var 3))) (.cons (.asg (.nm 4) (.bin .add (.bin .mul (.int 2) (.ix (.fld (.var 0) .book 0) (.int 0))) (.bin .mul (.int 2) (.var 3)))) (.cons (.put 2 (.var 4) (.tup (.cons (.var 5) (.cons (.var 6) (.cons (.bin .add (.var 8) (.int 1)) .nil))))) (.cons (.put 2 (.bin .add (.var 4) (.int 1)) (.tup (.cons (.var 6) (.cons (.var 5) (.cons (.bin .sub (.int 1) (.var 7)) .nil))))) .nil))))
def f_p_58_l1 : S := .for (.nm 3) (.of (.var 1)) f_p_58_b0
def f_p_58 : Fn := ⟨["book", "some", "edges", "index", "place", "begin", "end", "low", "high"], 2, (.cons (.own 2 (.call (.p 8) (.cons (.var 0) .nil))) (.cons f_p_58_l1 (.cons (.frz 2) (.cons (.ret (.cmp .notn (.call (.p 9) (.cons (.bin .add (.ix (.fld (.var 0) .book 0) (.int 0)) (.int 1)) (.cons (.var 2) (.cons (.int 0) .nil)))) .non)) .nil)))), false⟩
/-! fewest_off -/
def f_p_59_c0 : E := (.lci (.var 4) (.nm 4) (.of (.call (.p 55) (.cons (.var 1) (.cons (.var 2) .nil)))) (.call (.p 58) (.cons (.var 0) (.cons (.var 4) .nil))))
def f_p_59_b1 : Ss := (.cons (.asg (.nm 3) f_p_59_c0) (.cons (.ite (.var 3) (.cons (.ret (.var 3)) .nil) .nil) .nil))
def f_p_59_l2 : S := .for (.nm 2) (.rg1 (.bin .add (.b1 .len (.var 1)) (.int 1))) f_p_59_b1
def f_p_59 : Fn := ⟨["book", "every", "size", "found", "some"], 1, (.cons (.expr (.call (.p 3) (.cons (.var 0) .nil))) (.cons (.asg (.nm 1) (.lrg (.b1 .len (.ix (.fld (.var 0) .book 0) (.int 2))))) (.cons f_p_59_l2 (.cons (.ret (.lst .nil)) .nil)))), false⟩
/-! Desk.__init__ -/
def f_ini_desk : Fn := ⟨["self", "cells", "most"], 3, (.cons (.seta 0 .desk (.tup (.cons (.make .book (.cons (.var 1) (.cons (.var 2) (.cons (.tup .nil) .nil)))) .nil))) .nil), false⟩
/-! Desk.book -/
def f_pr_desk_0 : Fn := ⟨["self"], 1, (.cons (.ret (.ix (.fld (.var 0) .desk 0) (.neg (.int 1)))) .nil), false⟩
/-! Desk.undo -/
def f_me_desk_4 : Fn := ⟨["self"], 1, (.cons (.ite (.cmp .eq (.b1 .len (.fld (.var 0) .desk 0)) (.int 1)) (.cons (.ret (.bl false)) .nil) .nil) (.cons (.seta 0 .desk (.sl (.fld (.var 0) .desk 0) .no (.so (.neg (.int 1))))) (.cons (.ret (.bl true)) .nil))), false⟩
/-! Desk.undo -/
def f_me_desk_4v1 : Fn := ⟨["self"], 1, (.cons (.expr (.call (.p 66) (.cons (.int 0) .nil))) .nil), false⟩
/-! _law_due -/
def f_law_34 : Fn := ⟨["_law_b", "_law_fact_here", "_law_far", "_law_begin", "_law_end"], 2, (.cons (.asg (.nm 2) (.call (.law 7) (.cons (.var 0) .nil))) (.cons (.ite (.cmp .isn (.var 2) .non) (.cons (.ret (.str ("none" : Str))) .nil) .nil) (.cons (.par [3, 4] (.cons (.ix (.var 1) (.int 0)) (.cons (.ix (.var 1) (.int 1)) .nil))) (.cons (.ret (.tup (.cons (.neg (.ix (.var 2) (.tup (.cons (.var 4) (.cons (.var 3) .nil))))) (.cons (.ix (.var 2) (.tup (.cons (.var 3) (.cons (.var 4) .nil)))) .nil)))) .nil)))), false⟩
/-! number_at -/
def f_p_61_b0 : Ss := (.cons (.ite (.cmp .notin (.var 7) (.str ("0123456789" : Str))) (.cons (.asg (.nm 6) (.bl false)) .nil) .nil) .nil)
def f_p_61_l1 : S := .for (.nm 7) (.of (.var 5)) f_p_61_b0
def f_p_61 : Fn := ⟨["words", "line", "place", "low", "high", "word", "fine", "sign"], 5, (.cons (.ite (.cmp .ge (.var 2) (.b1 .len (.var 0))) (.cons (.rais (.err 17) (.cons (.var 1) (.cons (.bin .add (.var 2) (.int 1)) .nil))) .nil) .nil) (.cons (.asg (.nm 5) (.ix (.var 0) (.var 2))) (.cons (.asg (.nm 6) (.and (.cmp .le (.b1 .len (.var 5)) (.int 33)) (.or (.cmp .ne (.ix (.var 5) (.int 0)) (.str ("0" : Str))) (.cmp .eq (.var 5) (.str ("0" : Str)))))) (.cons f_p_61_l1 (.cons (.ite (.or (.nott (.var 6)) (.nott (.chain .le .le (.var 3) (.b1 .int (.var 5)) (.var 4)))) (.cons (.rais (.err 17) (.cons (.var 1) (.cons (.bin .add (.var 2) (.int 1)) .nil))) .nil) .nil) (.cons (.ret (.b1 .int (.var 5))) .nil)))))), false⟩
/-! check_line -/
def f_p_62 : Fn := ⟨["words", "line", "head"], 3, (.cons (.ite (.cmp .ne (.sl (.var 0) .no (.so (.int 1))) (.lst (.cons (.var 2) .nil))) (.cons (.rais (.err 17) (.cons (.var 1) (.cons (.int 1) .nil))) .nil) .nil) .nil), false⟩
/-! check_length -/
def f_p_63 : Fn := ⟨["words", "line", "many"], 3, (.cons (.ite (.cmp .gt (.b1 .len (.var 0)) (.var 2)) (.cons (.rais (.err 17) (.cons (.var 1) (.cons (.bin .add (.var 2) (.int 1)) .nil))) .nil) .nil) .nil), false⟩
/-! read_fact -/
def f_p_64 : Fn := ⟨["words", "line", "cells", "begin", "end", "low", "high"], 3, (.cons (.expr (.call (.p 62) (.cons (.var 0) (.cons (.var 1) (.cons (.str ("fact" : Str)) .nil))))) (.cons (.asg (.nm 3) (.call (.p 61) (.cons (.var 0) (.cons (.var 1) (.cons (.int 1) (.cons (.int 0) (.cons (.bin .sub (.var 2) (.int 1)) .nil))))))) (.cons (.asg (.nm 4) (.call (.p 61) (.cons (.var 0) (.cons (.var 1) (.cons (.int 2) (.cons (.bin .add (.var 3) (.int 1)) (.cons (.var 2) .nil))))))) (.cons (.asg (.nm 5) (.call (.p 61) (.cons (.var 0) (.cons (.var 1) (.cons (.int 3) (.cons (.int 0) (.cons (.int 100000000000000000000000000000000) .nil))))))) (.cons (.asg (.nm 6) (.call (.p 61) (.cons (.var 0) (.cons (.var 1) (.cons (.int 4) (.cons (.var 5) (.cons (.int 100000000000000000000000000000000) .nil))))))) (.cons (.expr (.call (.p 63) (.cons (.var 0) (.cons (.var 1) (.cons (.int 5) .nil))))) (.cons (.ret (.tup (.cons (.var 3) (.cons (.var 4) (.cons (.var 5) (.cons (.var 6) .nil)))))) .nil))))))), false⟩
/-! _law_head -/
def f_law_39 : Fn := ⟨["_law_h", "_law_b", "_law_bad", "_law_heads"], 3, (.cons (.asg (.nm 3) (.lst (.cons (.lst (.cons (.str ("cell 1 1" : Str)) (.cons (.int 1) .nil))) (.cons (.lst (.cons (.str ("cells" : Str)) (.cons (.int 2) .nil))) (.cons (.lst (.cons (.str ("cells 1" : Str)) (.cons (.int 3) .nil))) (.cons (.lst (.cons (.str ("" : Str)) (.cons (.int 1) .nil))) (.cons (.lst (.cons (.str ("cells 0 1" : Str)) (.cons (.int 2) .nil))) (.cons (.lst (.cons (.str ("cells 21 1" : Str)) (.cons (.int 2) .nil))) (.cons (.lst (.cons (.str ("1 1" : Str)) (.cons (.int 1) .nil))) .nil))))))))) (.cons (.asg (.nm 3) (.bin .add (.var 3) (.lst (.cons (.lst (.cons (.bin .add (.bin .add (.str ("cells " : Str)) (.var 2)) (.str (" 1" : Str))) (.cons (.int 2) .nil))) (.cons (.lst (.cons (.bin .add (.str ("cells 20 " : Str)) (.var 2)) (.cons (.int 3) .nil))) (.cons (.lst (.cons (.str ("cells 20 1 1" : Str)) (.cons (.int 4) .nil))) .nil)))))) (.cons (.ret (.ix (.var 3) (.call (.next) (.cons (.var 0) (.cons (.b1 .len (.var 3)) .nil))))) .nil))), false⟩
/-! _law_fact_fault -/
def f_law_40 : Fn := ⟨["_law_h", "_law_cells", "_law_bad", "_law_great", "_law_faults"], 3, (.cons (.asg (.nm 3) (.b1 .str (.bin .add (.bin .pow (.int 10) (.int 32)) (.int 1)))) (.cons (.own 4 (.lst (.cons (.lst (.cons (.str ("fact" : Str)) (.cons (.int 2) .nil))) (.cons (.lst (.cons (.str ("fact 0" : Str)) (.cons (.int 3) .nil))) (.cons (.lst (.cons (.str ("fact 0 1" : Str)) (.cons (.int 4) .nil))) (.cons (.lst (.cons (.str ("fact 0 1 2" : Str)) (.cons (.int 5) .nil))) (.cons (.lst (.cons (.str ("fact 0 1 2 3 4" : Str)) (.cons (.int 6) .nil))) .nil))))))) (.cons (.app 4 (.lst (.cons (.str ("facts 0 1 2 3" : Str)) (.cons (.int 1) .nil)))) (.cons (.frz 4) (.cons (.asg (.nm 4) (.bin .add (.var 4) (.lst (.cons (.lst (.cons (.bin .add (.bin .add (.str ("fact " : Str)) (.var 2)) (.str (" 1 2 3" : Str))) (.cons (.int 2) .nil))) (.cons (.lst (.cons (.bin .add (.bin .add (.str ("fact 0 " : Str)) (.var 2)) (.str (" 2 3" : Str))) (.cons (.int 3) .nil))) (.cons (.lst (.cons (.bin .add (.bin .add (.str ("fact 0 1 " : Str)) (.var 2)) (.str (" 3" : Str))) (.cons (.int 4) .nil))) .nil)))))) (.cons (.asg (.nm 4) (.bin .add (.var 4) (.lst (.cons (.lst (.cons (.bin .add (.str ("fact 0 1 2 " : Str)) (.var 2)) (.cons (.int 5) .nil))) (.cons (.lst (.cons (.str ("fact 0 0 2 3" : Str)) (.cons (.int 3) .nil))) (.cons (.lst (.cons (.str ("fact 0 1 3 2" : Str)) (.cons (.int 5) .nil))) (.cons (.lst (.cons (.bin .add (.str ("fact 0 1 0 " : Str)) (.var 3)) (.cons (.int 5) .nil))) .nil))))))) (.cons (.asg (.nm 4) (.bin .add (.var 4) (.lst (.cons (.lst (.cons (.bin .add (.bin .add (.str ("fact 0 " : Str)) (.b1 .str (.bin .add (.var 1) (.int 1)))) (.str (" 2 3" : Str))) (.cons (.int 3) .nil))) (.cons (.lst (.cons (.bin .add (.bin .add (.str ("fact " : Str)) (.b1 .str (.var 1))) (.str (" 1 2 3" : Str))) (.cons (.int 2) .nil))) (.cons (.lst (.cons (.str ("0 1 2 3" : Str)) (.cons (.int 1) .nil))) .nil)))))) (.cons (.ret (.ix (.var 4) (.call (.next) (.cons (.var 0) (.cons (.b1 .len (.var 4)) .nil))))) .nil)))))))), false⟩
/-! _law_fault -/
def f_law_41 : Fn := ⟨["_law_h", "_law_lines", "_law_b", "_law_bad", "_law_kind", "_law_spot", "_law_one", "_law_more"], 3, (.cons (.asg (.nm 3) (.ix (.lst (.cons (.str ("x" : Str)) (.cons (.str ("-1" : Str)) (.cons (.str ("01" : Str)) (.cons (.str ("+1" : Str)) (.cons (.str ("1.0" : Str)) (.cons (.str ("00" : Str)) .nil))))))) (.call (.next) (.cons (.var 0) (.cons (.int 6) .nil))))) (.cons (.asg (.nm 4) (.call (.next) (.cons (.var 0) (.cons (.int 5) .nil)))) (.cons (.ite (.cmp .eq (.var 4) (.int 0)) (.cons (.asg (.nm 6) (.call (.law 39) (.cons (.var 0) (.cons (.var 2) (.cons (.var 3) .nil))))) (.cons (.ret (.lst (.cons (.bin .add (.lst (.cons (.ix (.var 6) (.int 0)) .nil)) (.sl (.var 1) (.so (.int 1)) .no)) (.cons (.int 1) (.cons (.ix (.var 6) (.int 1)) .nil))))) .nil)) .nil) (.cons (.asg (.nm 5) (.bin .add (.int 1) (.call (.next) (.cons (.var 0) (.cons (.b1 .len (.var 1)) .nil))))) (.cons (.ite (.cmp .eq (.var 4) (.int 1)) (.cons (.ret (.lst (.cons (.bin .add (.bin .add (.sl (.var 1) .no (.so (.var 5))) (.lst (.cons (.ix (.lst (.cons (.str ("" : Str)) (.cons (.str ("  " : Str)) .nil))) (.call (.next) (.cons (.var 0) (.cons (.int 2) .nil)))) .nil))) (.sl (.var 1) (.so (.var 5)) .no)) (.cons (.bin .add (.var 5) (.int 1)) (.cons (.int 1) .nil))))) .nil) .nil) (.cons (.ite (.cmp .eq (.var 4) (.int 2)) (.cons (.asg (.nm 7) (.bin .mul (.lst (.cons (.str ("fact 0 1 0 1" : Str)) .nil)) (.bin .sub (.int 13) (.b1 .len (.var 1))))) (.cons (.ret (.lst (.cons (.bin .add (.bin .add (.var 1) (.var 7)) (.lst (.cons (.ix (.lst (.cons (.str ("fact 0 1 0 1" : Str)) (.cons (.str ("x" : Str)) .nil))) (.call (.next) (.cons (.var 0) (.cons (.int 2) .nil)))) .nil))) (.cons (.int 14) (.cons (.int 1) .nil))))) .nil)) .nil) (.cons (.asg (.nm 6) (.call (.law 40) (.cons (.var 0) (.cons (.ix (.var 2) (.int 0)) (.cons (.var 3) .nil))))) (.cons (.ret (.lst (.cons (.bin .add (.bin .add (.sl (.var 1) .no (.so (.var 5))) (.lst (.cons (.ix (.var 6) (.int 0)) .nil))) (.sl (.var 1) (.so (.var 5)) .no)) (.cons (.bin .add (.var 5) (.int 1)) (.cons (.ix (.var 6) (.int 1)) .nil))))) .nil)))))))), false⟩
/-! _law_first -/
def f_law_42 : Fn := ⟨["_law_kind", "_law_t", "_law_turn"], 3, (.cons (.ite (.cmp .eq (.var 0) (.int 0)) (.cons (.ret (.make .book (.cons (.ix (.var 1) (.int 0)) (.cons (.ix (.var 1) (.int 1)) (.cons (.ix (.var 1) (.int 2)) .nil))))) .nil) .nil) (.cons (.ite (.cmp .eq (.var 0) (.int 1)) (.cons (.ret (.make .ring (.cons (.ix (.var 1) (.int 0)) (.cons (.ix (.var 1) (.int 1)) (.cons (.ix (.var 1) (.int 2)) .nil))))) .nil) .nil) (.cons (.ite (.cmp .eq (.var 0) (.int 2)) (.cons (.ite (.cmp .eq (.bin .mod (.var 2) (.int 7)) (.int 6)) (.cons (.ret (.call (.p 35) (.cons (.ix (.var 1) (.int 0)) (.cons (.int 3) .nil)))) .nil) .nil) (.cons (.ret (.callv [.p 11, .p 21, .p 34, .p 36, .p 59, .p 60] (.bin .mod (.var 2) (.int 7)) (.cons (.ix (.var 1) (.int 0)) .nil))) .nil)) .nil) (.cons (.ite (.cmp .eq (.var 0) (.int 3)) (.cons (.ret (.callv [.p 15, .p 19] (.bin .mod (.var 2) (.int 2)) (.cons (.ix (.var 1) (.int 0)) .nil))) .nil) .nil) (.cons (.ite (.cmp .eq (.var 0) (.int 4)) (.cons (.ret (.call (.p 6) (.cons (.ix (.var 1) (.int 0)) (.cons (.ix (.var 1) (.int 1)) .nil)))) .nil) .nil) (.cons (.ret (.call (.p 17) (.cons (.ix (.var 1) (.int 0)) (.cons (.ix (.var 1) (.int 1)) (.cons (.ix (.var 1) (.int 2)) .nil))))) .nil)))))), false⟩
/-! _law_first -/
def f_law_42v1 : Fn := ⟨["_law_kind", "_law_t", "_law_turn"], 3, (.cons (.ite (.cmp .eq (.var 0) (.int 0)) (.cons (.ret (.callv [.p 70, .p 71, .p 74] (.bin .mod (.var 2) (.int 3)) (.cons (.ix (.var 1) (.int 0)) (.cons (.ix (.var 1) (.int 1)) .nil)))) .nil) .nil) (.cons (.ite (.cmp .eq (.var 0) (.int 1)) (.cons (.ret (.callv [.p 77, .p 98, .p 99, .p 100] (.bin .mod (.var 2) (.int 4)) (.cons (.ix (.var 1) (.int 0)) .nil))) .nil) .nil) (.cons (.ite (.cmp .eq (.var 0) (.int 2)) (.cons (.ret (.callv [.p 75, .p 80, .p 81] (.bin .mod (.var 2) (.int 3)) (.cons (.ix (.var 1) (.int 0)) .nil))) .nil) .nil) (.cons (.ite (.cmp .eq (.var 0) (.int 3)) (.cons (.ret (.call (.p 83) (.cons (.ix (.var 1) (.int 0)) (.cons (.ix (.var 1) (.int 1)) (.cons (.ix (.var 1) (.int 2)) .nil))))) .nil) .nil) (.cons (.ite (.cmp .eq (.var 0) (.int 4)) (.cons (.ret (.callv [.p 91, .p 92, .p 93] (.bin .mod (.var 2) (.int 3)) (.cons (.ix (.var 1) (.int 0)) (.cons (.ix (.var 1) (.int 1)) .nil)))) .nil) .nil) (.cons (.ret (.call (.p 97) (.cons (.ix (.var 1) (.int 0)) (.cons (.ix (.var 1) (.int 1)) (.cons (.ix (.var 1) (.int 2)) (.cons (.tup .nil) .nil)))))) .nil)))))), false⟩
/-! _law_ask -/
def f_law_43 : Fn := ⟨["_law_kind", "_law_t", "_law_turn"], 3, (.cons (.ite (.cmp .lt (.var 0) (.int 6)) (.cons (.ret (.call (.law 42) (.cons (.var 0) (.cons (.var 1) (.cons (.var 2) .nil))))) .nil) .nil) (.cons (.ite (.cmp .eq (.var 0) (.int 6)) (.cons (.ret (.call (.p 18) (.cons (.ix (.var 1) (.int 0)) (.cons (.ix (.var 1) (.int 1)) (.cons (.ix (.var 1) (.int 2)) (.cons (.ix (.var 1) (.int 3)) .nil)))))) .nil) .nil) (.cons (.ite (.cmp .eq (.var 0) (.int 7)) (.cons (.ret (.call (.p 26) (.cons (.ix (.var 1) (.int 0)) (.cons (.ix (.var 1) (.int 1)) (.cons (.ix (.var 1) (.int 2)) (.cons (.ix (.var 1) (.int 3)) .nil)))))) .nil) .nil) (.cons (.ite (.cmp .eq (.var 0) (.int 8)) (.cons (.ret (.call (.p 29) (.cons (.ix (.var 1) (.int 0)) (.cons (.ix (.var 1) (.int 1)) (.cons (.ix (.var 1) (.int 2)) (.cons (.ix (.var 1) (.int 3)) (.cons (.ix (.var 1) (.int 4)) (.cons (.tup .nil) .nil)))))))) .nil) .nil) (.cons (.ite (.cmp .eq (.var 0) (.int 9)) (.cons (.ret (.callv [.p 41, .p 44] (.bin .mod (.var 2) (.int 2)) (.cons (.ix (.var 1) (.int 0)) .nil))) .nil) .nil) (.cons (.ite (.cmp .eq (.var 0) (.int 10)) (.cons (.ret (.call (.p 43) (.cons (.ix (.var 1) (.int 0)) (.cons (.ix (.var 1) (.int 1)) (.cons (.ix (.var 1) (.int 2)) .nil))))) .nil) .nil) (.cons (.ite (.cmp .eq (.var 0) (.int 11)) (.cons (.ret (.callv [.p 50, .p 57] (.bin .mod (.var 2) (.int 2)) (.cons (.ix (.var 1) (.int 0)) (.cons (.ix (.var 1) (.int 1)) .nil)))) .nil) .nil) (.cons (.ite (.cmp .eq (.var 0) (.int 12)) (.cons (.ret (.call (.p 54) (.cons (.ix (.var 1) (.int 0)) (.cons (.ix (.var 1) (.int 1)) .nil)))) .nil) .nil) (.cons (.ret (.call (.p 51) (.cons (.ix (.var 1) (.int 0)) (.cons (.ix (.var 1) (.int 1)) (.cons (.ix (.var 1) (.int 2)) .nil))))) .nil))))))))), false⟩
/-! _law_ask -/
def f_law_43v1 : Fn := ⟨["_law_kind", "_law_t", "_law_turn"], 3, (.cons (.ite (.cmp .lt (.var 0) (.int 6)) (.cons (.ret (.call (.law 42) (.cons (.var 0) (.cons (.var 1) (.cons (.var 2) .nil))))) .nil) .nil) (.cons (.ite (.cmp .eq (.var 0) (.int 6)) (.cons (.ret (.call (.p 101) (.cons (.ix (.var 1) (.int 0)) (.cons (.ix (.var 1) (.int 1)) (.cons (.tup .nil) .nil))))) .nil) .nil) (.cons (.ite (.cmp .eq (.var 0) (.int 7)) (.cons (.ret (.make .round (.cons (.ix (.var 1) (.int 0)) (.cons (.ix (.var 1) (.int 1)) (.cons (.ix (.var 1) (.int 2)) .nil))))) .nil) .nil) (.cons (.ite (.cmp .eq (.var 0) (.int 8)) (.cons (.ret (.call (.p 109) (.cons (.ix (.var 1) (.int 0)) .nil))) .nil) .nil) (.cons (.ite (.cmp .eq (.var 0) (.int 9)) (.cons (.ret (.call (.p 110) (.cons (.ix (.var 1) (.int 0)) (.cons (.ix (.var 1) (.int 1)) .nil)))) .nil) .nil) (.cons (.ret (.call (.p 112) (.cons (.ix (.var 1) (.int 0)) (.cons (.ix (.var 1) (.int 1)) (.cons (.ix (.var 1) (.int 2)) .nil))))) .nil)))))), false⟩
/-! _law_good_one -/
def f_law_45 : Fn := ⟨["_law_name", "_law_told_here", "_law_good", "_law_more"], 1, (.cons (.asg (.nm 1) (.make .book (.cons (.int 3) (.cons (.int 2) (.cons (.tup (.cons (.tup (.cons (.int 0) (.cons (.int 2) (.cons (.int 1) (.cons (.int 3) .nil))))) .nil)) .nil))))) (.cons (.asg (.nm 2) (.ddis (.cons (.str ("cells" : Str)) (.cons (.str ("most" : Str)) (.cons (.str ("facts" : Str)) (.cons (.str ("book" : Str)) (.cons (.str ("row" : Str)) .nil))))) (.cons (.int 8) (.cons (.int 9) (.cons (.tup (.cons (.tup (.cons (.int 0) (.cons (.int 2) (.cons (.int 1) (.cons (.bin .pow (.int 10) (.int 32)) .nil))))) (.cons (.tup (.cons (.int 6) (.cons (.int 8) (.cons (.int 0) (.cons (.int 0) .nil))))) .nil))) (.cons (.var 1) (.cons (.tup (.cons (.int 0) (.cons (.int 2) (.cons (.int 1) .nil)))) .nil))))))) (.cons (.own 3 (.ddis (.cons (.str ("begin" : Str)) (.cons (.str ("end" : Str)) (.cons (.str ("number" : Str)) (.cons (.str ("word" : Str)) (.cons (.str ("ring" : Str)) .nil))))) (.cons (.int 1) (.cons (.int 3) (.cons (.neg (.bin .pow (.int 10) (.int 40))) (.cons (.str ("least" : Str)) (.cons (.make .ring (.cons (.int 3) (.cons (.int 2) (.cons (.tup (.cons (.tup (.cons (.int 2) (.cons (.int 5) (.cons (.int 1) (.cons (.int 3) .nil))))) .nil)) .nil)))) .nil))))))) (.cons (.put 3 (.str ("rests" : Str)) (.tup (.cons (.tup (.cons (.int 0) (.cons (.int 3) (.cons (.int 4) .nil)))) (.cons (.tup (.cons (.int 1) (.cons (.int 2) (.cons (.int 0) .nil)))) .nil)))) (.cons (.ret (.ifx (.cmp .isin (.var 0) (.var 2)) (.ix (.var 2) (.var 0)) (.ix (.var 3) (.var 0)))) .nil))))), false⟩
/-! _law_good_one -/
def f_law_45v1 : Fn := ⟨["_law_name", "_law_told_here", "_law_good", "_law_more"], 1, (.cons (.asg (.nm 1) (.make .book (.cons (.int 3) (.cons (.int 2) (.cons (.tup (.cons (.tup (.cons (.int 0) (.cons (.int 2) (.cons (.int 1) (.cons (.int 3) .nil))))) .nil)) .nil))))) (.cons (.asg (.nm 2) (.ddis (.cons (.str ("book" : Str)) (.cons (.str ("row" : Str)) (.cons (.str ("number" : Str)) (.cons (.str ("total" : Str)) (.cons (.str ("cells" : Str)) (.cons (.str ("most" : Str)) (.cons (.str ("end" : Str)) .nil))))))) (.cons (.var 1) (.cons (.tup (.cons (.int 0) (.cons (.int 2) (.cons (.int 1) .nil)))) (.cons (.bin .pow (.int 10) (.int 40)) (.cons (.neg (.int 5)) (.cons (.int 10) (.cons (.bin .pow (.int 10) (.int 30)) (.cons (.int 5) .nil))))))))) (.cons (.asg (.nm 3) (.ddis (.cons (.str ("great" : Str)) (.cons (.str ("begin" : Str)) (.cons (.str ("facts" : Str)) .nil))) (.cons (.make .round (.cons (.int 3) (.cons (.int 2) (.cons (.tup (.cons (.tup (.cons (.int 2) (.cons (.int 5) (.cons (.int 1) (.cons (.int 3) .nil))))) .nil)) .nil)))) (.cons (.int 2) (.cons (.tup (.cons (.tup (.cons (.int 0) (.cons (.int 2) (.cons (.int 1) (.cons (.bin .pow (.int 10) (.int 32)) .nil))))) (.cons (.tup (.cons (.int 9) (.cons (.int 19) (.cons (.int 0) (.cons (.int 0) .nil))))) .nil))) .nil))))) (.cons (.ret (.ifx (.cmp .isin (.var 0) (.var 2)) (.ix (.var 2) (.var 0)) (.ix (.var 3) (.var 0)))) .nil)))), false⟩
/-! _law_bad_one -/
def f_law_46 : Fn := ⟨["_law_h", "_law_name", "_law_bad", "_law_one"], 2, (.cons (.asg (.nm 2) (.lst (.cons .non (.cons (.bl true) (.cons (.str ("1" : Str)) (.cons (.tup (.cons (.int 1) .nil)) (.cons (.lst (.cons (.int 1) .nil)) .nil))))))) (.cons (.asg (.nm 3) (.tup (.cons (.int 0) (.cons (.int 2) (.cons (.int 1) (.cons (.int 3) .nil)))))) (.cons (.ite (.cmp .isin (.var 1) (.lst (.cons (.str ("cells" : Str)) (.cons (.str ("begin" : Str)) (.cons (.str ("end" : Str)) .nil))))) (.cons (.asg (.nm 2) (.bin .add (.var 2) (.lst (.cons (.neg (.int 1)) (.cons (.int 21) (.cons (.ifx (.cmp .ne (.var 1) (.str ("cells" : Str))) (.int 9) (.int 0)) .nil)))))) .nil) .nil) (.cons (.ite (.cmp .eq (.var 1) (.str ("most" : Str))) (.cons (.asg (.nm 2) (.bin .add (.var 2) (.lst (.cons (.neg (.int 1)) (.cons (.bin .add (.bin .pow (.int 10) (.int 30)) (.int 1)) .nil))))) .nil) .nil) (.cons (.ite (.cmp .eq (.var 1) (.str ("facts" : Str))) (.cons (.asg (.nm 2) (.lst (.cons .non (.cons (.lst .nil) (.cons (.bin .mul (.tup (.cons (.var 3) .nil)) (.int 13)) (.cons (.tup (.cons (.var 3) (.cons (.tup (.cons (.int 0) (.cons (.int 0) (.cons (.int 1) (.cons (.int 3) .nil))))) .nil))) (.cons (.tup (.cons (.var 3) (.cons (.tup (.cons (.int 0) (.cons (.int 2) (.cons (.int 3) (.cons (.int 1) .nil))))) .nil))) (.cons (.tup (.cons (.var 3) (.cons (.tup (.cons (.int 0) (.cons (.int 2) (.cons (.neg (.int 1)) (.cons (.int 1) .nil))))) .nil))) (.cons (.tup (.cons (.var 3) (.cons .non .nil))) (.cons (.int 3) .nil)))))))))) (.cons (.asg (.nm 2) (.bin .add (.var 2) (.lst (.cons (.tup (.cons (.var 3) (.cons (.tup (.cons (.int 8) (.cons (.int 9) (.cons (.int 0) (.cons (.int 0) .nil))))) .nil))) (.cons (.tup (.cons (.var 3) (.cons (.tup (.cons (.int 0) (.cons (.int 2) (.cons (.int 1) .nil)))) .nil))) (.cons (.tup (.cons (.var 3) (.cons (.tup (.cons (.int 0) (.cons (.int 2) (.cons (.int 1) (.cons (.bin .add (.bin .pow (.int 10) (.int 32)) (.int 1)) .nil))))) .nil))) (.cons (.tup (.cons (.var 3) (.cons (.tup (.cons (.int 0) (.cons (.bl true) (.cons (.int 1) (.cons (.int 3) .nil))))) .nil))) .nil))))))) .nil)) .nil) (.cons (.ite (.cmp .isin (.var 1) (.lst (.cons (.str ("book" : Str)) (.cons (.str ("ring" : Str)) .nil)))) (.cons (.asg (.nm 2) (.lst (.cons .non (.cons (.tup (.cons (.int 3) (.cons (.int 2) (.cons (.tup .nil) .nil)))) (.cons (.int 3) (.cons (.str ("a" : Str)) (.cons (.ifx (.cmp .eq (.var 1) (.str ("book" : Str))) (.make .ring (.cons (.int 1) (.cons (.int 0) (.cons (.tup .nil) .nil)))) (.make .book (.cons (.int 1) (.cons (.int 0) (.cons (.tup .nil) .nil))))) .nil))))))) .nil) .nil) (.cons (.ite (.cmp .eq (.var 1) (.str ("row" : Str))) (.cons (.asg (.nm 2) (.lst (.cons .non (.cons (.lst (.cons (.int 0) (.cons (.int 0) (.cons (.int 0) .nil)))) (.cons (.tup (.cons (.int 0) (.cons (.int 0) .nil))) (.cons (.tup (.cons (.int 0) (.cons (.int 0) (.cons (.int 3) .nil)))) (.cons (.tup (.cons (.int 0) (.cons (.neg (.int 1)) (.cons (.int 0) .nil)))) (.cons (.tup (.cons (.int 0) (.cons (.bl true) (.cons (.int 0) .nil)))) (.cons (.tup (.cons (.str ("0" : Str)) (.cons (.int 0) (.cons (.int 0) .nil)))) (.cons (.int 3) .nil)))))))))) .nil) .nil) (.cons (.ite (.cmp .eq (.var 1) (.str ("word" : Str))) (.cons (.asg (.nm 2) (.lst (.cons .non (.cons (.bl true) (.cons (.str ("most" : Str)) (.cons (.int 3) (.cons (.tup (.cons (.str ("least" : Str)) .nil)) (.cons (.str ("" : Str)) .nil)))))))) .nil) .nil) (.cons (.ite (.cmp .eq (.var 1) (.str ("rests" : Str))) (.cons (.asg (.nm 3) (.tup (.cons (.int 0) (.cons (.int 3) (.cons (.int 4) .nil))))) (.cons (.asg (.nm 2) (.lst (.cons .non (.cons (.lst .nil) (.cons (.bin .mul (.tup (.cons (.var 3) .nil)) (.int 13)) (.cons (.tup (.cons (.var 3) (.cons (.tup (.cons (.int 0) (.cons (.int 0) (.cons (.int 1) .nil)))) .nil))) (.cons (.tup (.cons (.var 3) (.cons (.tup (.cons (.int 0) (.cons (.int 3) (.cons (.int 10) .nil)))) .nil))) (.cons (.tup (.cons (.var 3) (.cons (.tup (.cons (.int 0) (.cons (.int 3) (.cons (.neg (.int 1)) .nil)))) .nil))) (.cons (.tup (.cons (.var 3) (.cons (.tup (.cons (.int 0) (.cons (.int 4) (.cons (.int 1) .nil)))) .nil))) (.cons (.int 3) .nil)))))))))) (.cons (.asg (.nm 2) (.bin .add (.var 2) (.lst (.cons (.tup (.cons (.var 3) (.cons .non .nil))) (.cons (.tup (.cons (.var 3) (.cons (.tup (.cons (.int 0) (.cons (.int 3) .nil))) .nil))) (.cons (.tup (.cons (.var 3) (.cons (.tup (.cons (.int 0) (.cons (.int 3) (.cons (.bl true) .nil)))) .nil))) .nil)))))) .nil))) .nil) (.cons (.ret (.ix (.var 2) (.call (.next) (.cons (.var 0) (.cons (.b1 .len (.var 2)) .nil))))) .nil)))))))))), false⟩
/-! _law_bad_one -/
def f_law_46v1 : Fn := ⟨["_law_h", "_law_name", "_law_bad", "_law_one"], 2, (.cons (.asg (.nm 2) (.lst (.cons .non (.cons (.bl true) (.cons (.str ("1" : Str)) (.cons (.tup (.cons (.int 1) .nil)) (.cons (.lst (.cons (.int 1) .nil)) .nil))))))) (.cons (.ite (.cmp .isin (.var 1) (.lst (.cons (.str ("cells" : Str)) (.cons (.str ("begin" : Str)) (.cons (.str ("end" : Str)) .nil))))) (.cons (.asg (.nm 2) (.bin .add (.var 2) (.lst (.cons (.neg (.int 1)) (.cons (.int 11) (.cons (.ifx (.cmp .ne (.var 1) (.str ("cells" : Str))) (.int 6) (.int 0)) .nil)))))) .nil) .nil) (.cons (.ite (.cmp .eq (.var 1) (.str ("most" : Str))) (.cons (.asg (.nm 2) (.bin .add (.var 2) (.lst (.cons (.neg (.int 1)) (.cons (.bin .add (.bin .pow (.int 10) (.int 30)) (.int 1)) .nil))))) .nil) .nil) (.cons (.ite (.cmp .eq (.var 1) (.str ("facts" : Str))) (.cons (.asg (.nm 3) (.tup (.cons (.int 0) (.cons (.int 2) (.cons (.int 1) (.cons (.int 3) .nil)))))) (.cons (.asg (.nm 2) (.lst (.cons .non (.cons (.lst .nil) (.cons (.bin .mul (.tup (.cons (.var 3) .nil)) (.int 9)) (.cons (.tup (.cons (.var 3) (.cons (.tup (.cons (.int 0) (.cons (.int 0) (.cons (.int 1) (.cons (.int 3) .nil))))) .nil))) (.cons (.tup (.cons (.var 3) (.cons (.tup (.cons (.int 0) (.cons (.int 2) (.cons (.int 3) (.cons (.int 1) .nil))))) .nil))) (.cons (.tup (.cons (.var 3) (.cons (.tup (.cons (.int 0) (.cons (.int 11) (.cons (.int 1) (.cons (.int 1) .nil))))) .nil))) (.cons (.tup (.cons (.var 3) (.cons .non .nil))) (.cons (.int 3) .nil)))))))))) (.cons (.asg (.nm 2) (.bin .add (.var 2) (.lst (.cons (.tup (.cons (.var 3) (.cons (.tup (.cons (.int 10) (.cons (.int 11) (.cons (.int 0) (.cons (.int 0) .nil))))) .nil))) (.cons (.tup (.cons (.var 3) (.cons (.tup (.cons (.int 0) (.cons (.int 2) (.cons (.int 1) .nil)))) .nil))) (.cons (.tup (.cons (.var 3) (.cons (.tup (.cons (.int 0) (.cons (.bl true) (.cons (.int 1) (.cons (.int 3) .nil))))) .nil))) .nil)))))) .nil))) .nil) (.cons (.ite (.cmp .isin (.var 1) (.lst (.cons (.str ("book" : Str)) (.cons (.str ("great" : Str)) .nil)))) (.cons (.asg (.nm 2) (.lst (.cons .non (.cons (.tup (.cons (.int 3) (.cons (.int 2) (.cons (.tup .nil) .nil)))) (.cons (.int 3) (.cons (.str ("a" : Str)) (.cons (.make .ring (.cons (.int 3) (.cons (.int 0) (.cons (.tup .nil) .nil)))) (.cons (.ifx (.cmp .eq (.var 1) (.str ("book" : Str))) (.make .round (.cons (.int 3) (.cons (.int 0) (.cons (.tup .nil) .nil)))) (.make .book (.cons (.int 3) (.cons (.int 0) (.cons (.tup .nil) .nil))))) .nil)))))))) .nil) .nil) (.cons (.ite (.cmp .eq (.var 1) (.str ("row" : Str))) (.cons (.asg (.nm 2) (.lst (.cons .non (.cons (.lst (.cons (.int 0) (.cons (.int 0) (.cons (.int 0) .nil)))) (.cons (.tup (.cons (.int 0) (.cons (.int 0) .nil))) (.cons (.tup (.cons (.int 0) (.cons (.int 0) (.cons (.int 3) .nil)))) (.cons (.tup (.cons (.int 0) (.cons (.neg (.int 1)) (.cons (.int 0) .nil)))) (.cons (.tup (.cons (.int 0) (.cons (.bl true) (.cons (.int 0) .nil)))) (.cons (.tup (.cons (.str ("0" : Str)) (.cons (.int 0) (.cons (.int 0) .nil)))) (.cons (.int 3) .nil)))))))))) .nil) .nil) (.cons (.ite (.cmp .eq (.var 1) (.str ("number" : Str))) (.cons (.asg (.nm 2) (.bin .add (.var 2) (.lst (.cons (.int 0) (.cons (.neg (.int 1)) .nil))))) .nil) .nil) (.cons (.ret (.ix (.var 2) (.call (.next) (.cons (.var 0) (.cons (.b1 .len (.var 2)) .nil))))) .nil)))))))), false⟩
/-! _wall -/
def f_p_66_b0 : Ss := (.cons .pass .nil)
def f_p_66_l1 : S := .whl (.bl true) f_p_66_b0
def f_p_66 : Fn := ⟨["k"], 1, (.cons f_p_66_l1 .nil), false⟩
/-! Desk.copy -/
def f_me_desk_5 : Fn := ⟨["self"], 1, (.cons (.expr (.call (.p 66) (.cons (.int 1) .nil))) .nil), false⟩
/-! Desk.copy -/
def f_me_desk_5v1 : Fn := ⟨["self"], 1, (.cons (.expr (.call (.p 66) (.cons (.int 0) .nil))) .nil), false⟩
/-! _law_early -/
def f_law_48 : Fn := ⟨["_law_kind", "_law_n", "_law_told"], 3, (.cons (.ite (.cmp .eq (.var 0) (.int 0)) (.cons (.expr (.make .book (.cons (.int 0) (.cons (.var 1) (.cons (.tup .nil) .nil))))) .nil) .nil) (.cons (.ite (.cmp .eq (.var 0) (.int 1)) (.cons (.expr (.make .book (.cons (.var 1) (.cons (.neg (.var 1)) (.cons (.tup .nil) .nil))))) .nil) .nil) (.cons (.ite (.cmp .eq (.var 0) (.int 2)) (.cons (.expr (.make .book (.cons (.var 1) (.cons (.var 1) (.cons (.tup (.cons (.tup (.cons (.int 0) (.cons (.var 1) (.cons (.var 1) (.cons (.var 1) .nil))))) (.cons (.tup (.cons (.int 0) (.cons (.var 1) (.cons (.var 1) (.cons (.int 0) .nil))))) .nil))) .nil))))) .nil) .nil) (.cons (.ite (.cmp .eq (.var 0) (.int 3)) (.cons (.expr (.call (.p 11) (.cons (.tup (.cons (.var 1) (.cons (.var 1) (.cons (.tup .nil) .nil)))) .nil))) .nil) .nil) (.cons (.ite (.cmp .eq (.var 0) (.int 4)) (.cons (.expr (.call (.p 6) (.cons (.var 2) (.cons (.bin .mul (.tup (.cons (.bin .add (.var 1) (.int 1)) .nil)) (.var 1)) .nil)))) .nil) .nil) (.cons (.ite (.cmp .eq (.var 0) (.int 5)) (.cons (.expr (.call (.p 15) (.cons (.make .book (.cons (.var 1) (.cons (.var 1) (.cons (.tup (.cons (.tup (.cons (.int 0) (.cons (.var 1) (.cons (.bin .add (.bin .mul (.var 1) (.var 1)) (.int 1)) (.cons (.bin .add (.bin .mul (.var 1) (.var 1)) (.int 1)) .nil))))) .nil)) .nil)))) .nil))) .nil) .nil) (.cons (.ite (.cmp .eq (.var 0) (.int 6)) (.cons (.expr (.call (.p 18) (.cons (.var 2) (.cons (.int 0) (.cons (.var 1) (.cons (.b1 .str (.var 1)) .nil)))))) .nil) .nil) (.cons (.ite (.cmp .eq (.var 0) (.int 7)) (.cons (.expr (.call (.p 17) (.cons (.var 2) (.cons (.var 1) (.cons (.var 1) .nil))))) .nil) .nil) .nil)))))))), false⟩
/-! Desk.take -/
def f_me_desk_3 : Fn := ⟨["self", "index"], 2, (.cons (.expr (.call (.p 66) (.cons (.int 0) .nil))) .nil), false⟩
/-! _law_copied -/
def f_law_51_c0 : E := (.lc (.call (.law 51) (.cons (.var 1) .nil)) (.nm 1) (.of (.var 0)))
def f_law_51_c1 : E := (.lc (.call (.law 51) (.cons (.var 1) .nil)) (.nm 1) (.of (.var 0)))
def f_law_51 : Fn := ⟨["_law_thing", "_law_one"], 1, (.cons (.ite (.isa (.var 0) .list) (.cons (.ret f_law_51_c0) .nil) .nil) (.cons (.ite (.isa (.var 0) .tuple) (.cons (.ret (.b1 .tuple f_law_51_c1)) .nil) .nil) (.cons (.ret (.var 0)) .nil))), false⟩
/-! _law_copied -/
def f_law_51v1_c0 : E := (.lc (.call (.law 51) (.cons (.var 1) .nil)) (.nm 1) (.of (.var 0)))
def f_law_51v1 : Fn := ⟨["_law_thing", "_law_one"], 1, (.cons (.ite (.isa (.var 0) .list) (.cons (.ret f_law_51v1_c0) .nil) .nil) (.cons (.ret (.var 0)) .nil)), false⟩
/-! _law_chains -/
def f_law_53 : Fn := ⟨["_law_told", "_law_chain", "_law_off"], 0, (.cons (.asg (.nm 0) (.make .book (.cons (.int 4) (.cons (.int 3) (.cons (.tup (.cons (.tup (.cons (.int 0) (.cons (.int 2) (.cons (.int 4) (.cons (.int 4) .nil))))) (.cons (.tup (.cons (.int 1) (.cons (.int 3) (.cons (.int 0) (.cons (.int 2) .nil))))) .nil))) .nil))))) (.cons (.asg (.nm 1) (.tup (.cons (.tup (.cons (.str ("fact" : Str)) (.cons (.int 0) (.cons (.neg (.int 1)) .nil)))) (.cons (.tup (.cons (.str ("cell" : Str)) (.cons (.int 0) (.cons (.int 1) .nil)))) (.cons (.tup (.cons (.str ("fact" : Str)) (.cons (.int 1) (.cons (.int 1) .nil)))) .nil))))) (.cons (.ite (.or (.nott (.call (.p 29) (.cons (.var 0) (.cons (.int 2) (.cons (.int 3) (.cons (.str ("greatest" : Str)) (.cons (.int 1) (.cons (.var 1) .nil)))))))) (.call (.p 29) (.cons (.var 0) (.cons (.int 2) (.cons (.int 3) (.cons (.str ("greatest" : Str)) (.cons (.int 0) (.cons (.var 1) .nil)))))))) (.cons (.ret (.bl false)) .nil) .nil) (.cons (.ite (.cmp .notn (.call (.p 34) (.cons (.var 0) .nil)) .non) (.cons (.ret (.bl false)) .nil) .nil) (.cons (.ite (.or (.nott (.call (.p 29) (.cons (.var 0) (.cons (.int 0) (.cons (.int 4) (.cons (.str ("greatest" : Str)) (.cons (.int 8) (.cons (.call (.p 26) (.cons (.var 0) (.cons (.int 0) (.cons (.int 4) (.cons (.str ("greatest" : Str)) .nil))))) .nil)))))))) (.cmp .notn (.call (.p 36) (.cons (.var 0) .nil)) .non)) (.cons (.ret (.bl false)) .nil) .nil) (.cons (.asg (.nm 2) (.make .book (.cons (.int 2) (.cons (.int 3) (.cons (.tup (.cons (.tup (.cons (.int 0) (.cons (.int 2) (.cons (.int 7) (.cons (.int 9) .nil))))) (.cons (.tup (.cons (.int 0) (.cons (.int 1) (.cons (.int 0) (.cons (.int 2) .nil))))) .nil))) .nil))))) (.cons (.ite (.or (.cmp .ne (.call (.p 36) (.cons (.var 2) .nil)) (.int 1)) (.nott (.call (.p 35) (.cons (.var 2) (.cons (.call (.p 34) (.cons (.var 2) .nil)) .nil))))) (.cons (.ret (.bl false)) .nil) .nil) (.cons (.ret (.call (.p 35) (.cons (.var 2) (.cons (.tup (.cons (.tup (.cons (.str ("fact" : Str)) (.cons (.int 0) (.cons (.neg (.int 1)) .nil)))) (.cons (.tup (.cons (.str ("cell" : Str)) (.cons (.int 0) (.cons (.int 1) .nil)))) (.cons (.tup (.cons (.str ("cell" : Str)) (.cons (.int 1) (.cons (.int 1) .nil)))) .nil)))) .nil)))) .nil)))))))), false⟩
/-! _law_rings -/
def f_law_54 : Fn := ⟨["_law_told"], 0, (.cons (.asg (.nm 0) (.make .ring (.cons (.int 3) (.cons (.int 2) (.cons (.tup (.cons (.tup (.cons (.int 2) (.cons (.int 4) (.cons (.int 4) (.cons (.int 4) .nil))))) (.cons (.tup (.cons (.int 0) (.cons (.int 2) (.cons (.int 0) (.cons (.int 2) .nil))))) .nil))) .nil))))) (.cons (.ite (.or (.cmp .ne (.call (.p 41) (.cons (.var 0) .nil)) (.lst (.cons (.int 4) .nil))) (.or (.cmp .ne (.call (.p 43) (.cons (.var 0) (.cons (.int 0) (.cons (.int 1) .nil)))) (.tup (.cons (.int 2) (.cons (.int 2) .nil)))) (.cmp .ne (.call (.p 43) (.cons (.var 0) (.cons (.int 1) (.cons (.int 4) .nil)))) (.tup (.cons (.int 4) (.cons (.int 4) .nil)))))) (.cons (.ret (.bl false)) .nil) .nil) (.cons (.ret (.cmp .eq (.call (.p 44) (.cons (.var 0) .nil)) (.tup (.cons (.int 2) (.cons (.int 0) (.cons (.int 2) .nil)))))) .nil))), false⟩
/-! _law_smalls -/
def f_law_55 : Fn := ⟨["_law_told"], 0, (.cons (.asg (.nm 0) (.make .book (.cons (.int 3) (.cons (.int 1) (.cons (.tup (.cons (.tup (.cons (.int 0) (.cons (.int 3) (.cons (.int 1) (.cons (.int 2) .nil))))) .nil)) .nil))))) (.cons (.ite (.or (.cmp .ne (.call (.p 50) (.cons (.var 0) (.cons (.tup (.cons (.tup (.cons (.int 0) (.cons (.int 2) (.cons (.int 0) .nil)))) .nil)) .nil))) (.lst (.cons (.tup (.cons (.int 0) (.cons (.int 0) (.cons (.int 1) .nil)))) .nil))) (.cmp .ne (.call (.p 54) (.cons (.var 0) (.cons (.tup .nil) .nil))) (.tup (.cons (.int 0) (.cons (.int 1) (.cons (.int 3) .nil)))))) (.cons (.ret (.bl false)) .nil) .nil) (.cons (.ite (.cmp .ne (.call (.p 51) (.cons (.var 0) (.cons (.tup .nil) (.cons (.tup (.cons (.int 1) (.cons (.int 1) (.cons (.int 1) .nil)))) .nil)))) (.tup (.cons (.int 1) (.cons (.lst (.cons (.tup (.cons (.int 0) (.cons (.int 1) (.cons (.int 1) .nil)))) (.cons (.tup (.cons (.int 1) (.cons (.int 0) (.cons (.int 1) .nil)))) (.cons (.tup (.cons (.int 1) (.cons (.int 1) (.cons (.int 0) .nil)))) .nil)))) .nil)))) (.cons (.ret (.bl false)) .nil) .nil) (.cons (.ite (.or (.cmp .ne (.call (.p 57) (.cons (.var 0) (.cons (.tup (.cons (.tup (.cons (.int 0) (.cons (.int 2) (.cons (.int 1) .nil)))) .nil)) .nil))) (.tup (.cons (.tup (.cons (.int 0) (.cons (.int 1) .nil))) (.cons (.tup (.cons (.int 0) (.cons (.int 3) .nil))) .nil)))) (.cmp .ne (.call (.p 59) (.cons (.var 0) .nil)) (.lst (.cons (.tup .nil) .nil)))) (.cons (.ret (.bl false)) .nil) .nil) (.cons (.ite (.cmp .ne (.call (.p 59) (.cons (.make .book (.cons (.int 2) (.cons (.int 1) (.cons (.tup (.cons (.tup (.cons (.int 0) (.cons (.int 2) (.cons (.int 3) (.cons (.int 3) .nil))))) .nil)) .nil)))) .nil)) (.lst (.cons (.tup (.cons (.int 0) .nil)) .nil))) (.cons (.ret (.bl false)) .nil) .nil) (.cons (.ret (.cmp .eq (.call (.p 59) (.cons (.make .book (.cons (.int 1) (.cons (.int 9) (.cons (.tup (.cons (.tup (.cons (.int 0) (.cons (.int 1) (.cons (.int 1) (.cons (.int 1) .nil))))) (.cons (.tup (.cons (.int 0) (.cons (.int 1) (.cons (.int 3) (.cons (.int 3) .nil))))) (.cons (.tup (.cons (.int 0) (.cons (.int 1) (.cons (.int 4) (.cons (.int 4) .nil))))) .nil)))) .nil)))) .nil)) (.lst .nil))) .nil)))))), false⟩
/-! check_two -/
def f_p_67 : Fn := ⟨["one", "other"], 2, (.cons (.expr (.call (.p 3) (.cons (.var 0) .nil))) (.cons (.expr (.call (.p 3) (.cons (.var 1) .nil))) (.cons (.ite (.cmp .ne (.ix (.fld (.var 0) .book 0) (.int 0)) (.ix (.fld (.var 1) .book 0) (.int 0))) (.cons (.rais (.err 15) .nil) .nil) .nil) .nil))), false⟩
/-! asked_of -/
def f_p_68_c0 : E := (.lc (.tup (.cons (.var 5) (.cons (.bin .add (.var 5) (.int 1)) (.cons (.int 0) (.cons (.var 3) .nil))))) (.nm 5) (.rg1 (.var 2)))
def f_p_68_c1 : E := (.lc (.var 6) (.nm 6) (.of (.var 4)))
def f_p_68 : Fn := ⟨["book", "found", "cells", "most", "facts", "cell", "fact"], 1, (.cons (.asg (.tp (.cons (.nm 2) (.cons (.nm 3) (.cons (.nm 4) .nil)))) (.fld (.var 0) .book 0)) (.cons (.asg (.nm 1) f_p_68_c0) (.cons (.ret (.bin .add (.var 1) f_p_68_c1)) .nil))), false⟩
/-! is_within -/
def f_p_69_b0 : Ss := (.cons (.asg (.tp (.cons (.nm 6) (.cons (.nm 7) .nil))) (.call (.p 16) (.cons (.var 0) (.cons (.var 2) (.cons (.var 3) .nil))))) (.cons (.ite (.or (.cmp .lt (.var 6) (.var 4)) (.cmp .gt (.var 7) (.var 5))) (.cons (.ret (.bl false)) .nil) .nil) .nil))
def f_p_69_l1 : S := .for (.tp (.cons (.nm 2) (.cons (.nm 3) (.cons (.nm 4) (.cons (.nm 5) .nil))))) (.of (.call (.p 68) (.cons (.var 1) .nil))) f_p_69_b0
def f_p_69 : Fn := ⟨["one", "other", "begin", "end", "low", "high", "least", "greatest"], 2, (.cons (.ite (.nott (.call (.p 10) (.cons (.var 0) .nil))) (.cons (.ret (.bl true)) .nil) .nil) (.cons f_p_69_l1 (.cons (.ret (.bl true)) .nil))), false⟩
/-! within -/
def f_p_70 : Fn := ⟨["one", "other"], 2, (.cons (.expr (.call (.p 67) (.cons (.var 0) (.cons (.var 1) .nil)))) (.cons (.ret (.call (.p 69) (.cons (.var 0) (.cons (.var 1) .nil)))) .nil)), false⟩
/-! alike -/
def f_p_71 : Fn := ⟨["one", "other"], 2, (.cons (.expr (.call (.p 67) (.cons (.var 0) (.cons (.var 1) .nil)))) (.cons (.ret (.and (.call (.p 69) (.cons (.var 0) (.cons (.var 1) .nil))) (.call (.p 69) (.cons (.var 1) (.cons (.var 0) .nil))))) .nil)), false⟩
/-! row_by_edges -/
def f_p_72_c0 : E := (.lc (.bin .sub (.ix (.var 2) (.bin .add (.var 3) (.int 1))) (.ix (.var 2) (.var 3))) (.nm 3) (.rg1 (.var 0)))
def f_p_72 : Fn := ⟨["cells", "edges", "found", "cell"], 2, (.cons (.ite (.cmp .isn (.call (.p 9) (.cons (.bin .add (.var 0) (.int 1)) (.cons (.var 1) (.cons (.int 0) .nil)))) .non) (.cons (.ret .non) .nil) .nil) (.cons (.asg (.nm 2) (.call (.p 13) (.cons (.bin .add (.var 0) (.int 1)) (.cons (.var 1) .nil)))) (.cons (.ret (.b1 .tuple f_p_72_c0)) .nil))), false⟩
/-! rows_outside -/
def f_p_73_b0 : Ss := (.cons (.asg (.nm 10) (.call (.p 72) (.cons (.var 2) (.cons (.bin .add (.var 3) (.lst (.cons (.var 9) .nil))) .nil)))) (.cons (.ite (.cmp .notn (.var 10) .non) (.cons (.app 4 (.var 10)) .nil) .nil) .nil))
def f_p_73_l1 : S := .for (.nm 9) (.of (.tup (.cons (.tup (.cons (.var 5) (.cons (.var 6) (.cons (.bin .sub (.var 7) (.int 1)) .nil)))) (.cons (.tup (.cons (.var 6) (.cons (.var 5) (.cons (.bin .sub (.neg (.var 8)) (.int 1)) .nil)))) .nil)))) f_p_73_b0
def f_p_73_b2 : Ss := (.cons f_p_73_l1 .nil)
def f_p_73_l3 : S := .for (.tp (.cons (.nm 5) (.cons (.nm 6) (.cons (.nm 7) (.cons (.nm 8) .nil))))) (.of (.call (.p 68) (.cons (.var 1) .nil))) f_p_73_b2
def f_p_73 : Fn := ⟨["one", "other", "cells", "edges", "found", "begin", "end", "low", "high", "more", "row"], 2, (.cons (.asg (.nm 2) (.ix (.fld (.var 0) .book 0) (.int 0))) (.cons (.asg (.nm 3) (.call (.p 8) (.cons (.var 0) .nil))) (.cons (.own 4 (.lst .nil)) (.cons f_p_73_l3 (.cons (.frz 4) (.cons (.ret (.var 4)) .nil)))))), false⟩
/-! first_unlike -/
def f_p_74 : Fn := ⟨["one", "other"], 2, (.cons (.expr (.call (.p 67) (.cons (.var 0) (.cons (.var 1) .nil)))) (.cons (.ret (.b1 .mind (.bin .add (.call (.p 73) (.cons (.var 0) (.cons (.var 1) .nil))) (.call (.p 73) (.cons (.var 1) (.cons (.var 0) .nil)))))) .nil)), false⟩
/-! closed -/
def f_p_75_b0 : Ss := (.cons (.app 1 (.bin .add (.tup (.cons (.var 2) (.cons (.var 3) .nil))) (.call (.p 16) (.cons (.var 0) (.cons (.var 2) (.cons (.var 3) .nil)))))) .nil)
def f_p_75_l1 : S := .for (.nm 3) (.rg2 (.bin .add (.var 2) (.int 1)) (.bin .add (.ix (.fld (.var 0) .book 0) (.int 0)) (.int 1))) f_p_75_b0
def f_p_75_b2 : Ss := (.cons f_p_75_l1 .nil)
def f_p_75_l3 : S := .for (.nm 2) (.rg1 (.ix (.fld (.var 0) .book 0) (.int 0))) f_p_75_b2
def f_p_75 : Fn := ⟨["book", "found", "begin", "end"], 1, (.cons (.expr (.call (.p 3) (.cons (.var 0) .nil))) (.cons (.expr (.call (.p 12) (.cons (.var 0) .nil))) (.cons (.own 1 (.lst .nil)) (.cons f_p_75_l3 (.cons (.frz 1) (.cons (.ret (.var 1)) .nil)))))), false⟩
/-! _law_closed -/
def f_law_59_b0 : Ss := (.cons (.app 3 (.tup (.cons (.var 1) (.cons (.var 4) (.cons (.neg (.ix (.var 2) (.tup (.cons (.var 4) (.cons (.var 1) .nil))))) (.cons (.ix (.var 2) (.tup (.cons (.var 1) (.cons (.var 4) .nil)))) .nil)))))) .nil)
def f_law_59_l1 : S := .for (.nm 4) (.rg2 (.bin .add (.var 1) (.int 1)) (.bin .add (.ix (.var 0) (.int 0)) (.int 1))) f_law_59_b0
def f_law_59_b2 : Ss := (.cons f_law_59_l1 .nil)
def f_law_59_l3 : S := .for (.nm 1) (.rg1 (.ix (.var 0) (.int 0))) f_law_59_b2
def f_law_59 : Fn := ⟨["_law_b", "_law_begin", "_law_far", "_law_found", "_law_end"], 1, (.cons (.par [2, 3] (.cons (.call (.law 7) (.cons (.var 0) .nil)) (.cons (.lst .nil) .nil))) (.cons (.ite (.cmp .isn (.var 2) .non) (.cons (.ret .non) .nil) .nil) (.cons f_law_59_l3 (.cons (.ret (.var 3)) .nil)))), false⟩
/-! says_same -/
def f_p_76_c0 : E := (.lc (.ix (.var 4) (.var 5)) (.nm 5) (.of (.var 1)))
def f_p_76 : Fn := ⟨["book", "some", "cells", "most", "facts", "index"], 2, (.cons (.asg (.tp (.cons (.nm 2) (.cons (.nm 3) (.cons (.nm 4) .nil)))) (.fld (.var 0) .book 0)) (.cons (.ret (.call (.p 69) (.cons (.make .book (.cons (.var 2) (.cons (.var 3) (.cons (.b1 .tuple f_p_76_c0) .nil)))) (.cons (.var 0) .nil)))) .nil)), false⟩
/-! smallest_kept -/
def f_p_77_c0 : E := (.lci (.var 4) (.nm 4) (.of (.call (.p 55) (.cons (.var 1) (.cons (.var 2) .nil)))) (.call (.p 76) (.cons (.var 0) (.cons (.var 4) .nil))))
def f_p_77_b1 : Ss := (.cons (.asg (.nm 3) f_p_77_c0) (.cons (.ite (.var 3) (.cons (.ret (.var 3)) .nil) .nil) (.cons (.aug 2 .add (.int 1)) .nil)))
def f_p_77_l2 : S := .whl (.bl true) f_p_77_b1
def f_p_77 : Fn := ⟨["book", "many", "size", "found", "some"], 1, (.cons (.expr (.call (.p 3) (.cons (.var 0) .nil))) (.cons (.asg (.nm 1) (.b1 .len (.ix (.fld (.var 0) .book 0) (.int 2)))) (.cons (.asg (.nm 2) (.int 0)) (.cons f_p_77_l2 .nil)))), false⟩
/-! row_of_tops -/
def f_p_78_b0 : Ss := (.cons (.app 2 (.bin .sub (.var 3) (.var 1))) (.cons (.asg (.nm 1) (.var 3)) .nil))
def f_p_78_l1 : S := .for (.nm 3) (.of (.var 0)) f_p_78_b0
def f_p_78 : Fn := ⟨["tops", "before", "found", "top"], 1, (.cons (.asg (.nm 1) (.int 0)) (.cons (.own 2 (.lst .nil)) (.cons f_p_78_l1 (.cons (.frz 2) (.cons (.ret (.b1 .tuple (.var 2))) .nil))))), false⟩
/-! tops_of -/
def f_p_79_b0 : Ss := (.cons (.aug 2 .add (.var 3)) (.cons (.app 1 (.var 2)) .nil))
def f_p_79_l1 : S := .for (.nm 3) (.of (.var 0)) f_p_79_b0
def f_p_79 : Fn := ⟨["row", "found", "whole", "number"], 1, (.cons (.own 1 (.lst .nil)) (.cons (.asg (.nm 2) (.int 0)) (.cons f_p_79_l1 (.cons (.frz 1) (.cons (.ret (.var 1)) .nil))))), false⟩
/-! fewest_ahead -/
def f_p_80_c0 : E := (.lc (.ix (.call (.p 16) (.cons (.var 0) (.cons (.int 0) (.cons (.var 1) .nil)))) (.int 0)) (.nm 1) (.rg2 (.int 1) (.bin .add (.ix (.fld (.var 0) .book 0) (.int 0)) (.int 1))))
def f_p_80 : Fn := ⟨["book", "end"], 1, (.cons (.expr (.call (.p 3) (.cons (.var 0) .nil))) (.cons (.expr (.call (.p 12) (.cons (.var 0) .nil))) (.cons (.ret (.call (.p 78) (.cons f_p_80_c0 .nil))) .nil))), false⟩
/-! most_ahead -/
def f_p_81_c0 : E := (.lc (.ix (.call (.p 16) (.cons (.var 0) (.cons (.int 0) (.cons (.var 1) .nil)))) (.int 1)) (.nm 1) (.rg2 (.int 1) (.bin .add (.ix (.fld (.var 0) .book 0) (.int 0)) (.int 1))))
def f_p_81 : Fn := ⟨["book", "end"], 1, (.cons (.expr (.call (.p 3) (.cons (.var 0) .nil))) (.cons (.expr (.call (.p 12) (.cons (.var 0) .nil))) (.cons (.ret (.call (.p 78) (.cons f_p_81_c0 .nil))) .nil))), false⟩
/-! check_fitting -/
def f_p_82 : Fn := ⟨["book", "value"], 2, (.cons (.expr (.call (.p 4) (.cons (.var 0) (.cons (.var 1) .nil)))) (.cons (.ite (.call (.p 5) (.cons (.var 0) (.cons (.var 1) .nil))) (.cons (.rais (.err 5) .nil) .nil) .nil) .nil)), false⟩
/-! _law_tops -/
def f_law_60_c0 : E := (.lc (.b1 .sum (.sl (.var 0) .no (.so (.bin .add (.var 1) (.int 1))))) (.nm 1) (.rg1 (.b1 .len (.var 0))))
def f_law_60 : Fn := ⟨["_law_row_here", "_law_k"], 1, (.cons (.ret f_law_60_c0) .nil), false⟩
/-! _law_row -/
def f_law_61_c0 : E := (.lc (.bin .sub (.ix (.var 0) (.var 1)) (.ifx (.cmp .gt (.var 1) (.int 0)) (.ix (.var 0) (.bin .sub (.var 1) (.int 1))) (.int 0))) (.nm 1) (.rg1 (.b1 .len (.var 0))))
def f_law_61 : Fn := ⟨["_law_tops_here", "_law_k"], 1, (.cons (.ret (.b1 .tuple f_law_61_c0)) .nil), false⟩
/-! _law_any -/
def f_law_62 : Fn := ⟨["_law_h", "_law_b", "_law_told", "_law_begin", "_law_end", "_law_low", "_law_high"], 3, (.cons (.asg (.tp (.cons (.nm 3) (.cons (.nm 4) .nil))) (.call (.law 1) (.cons (.var 0) (.cons (.ix (.var 1) (.int 0)) .nil)))) (.cons (.asg (.tp (.cons (.nm 5) (.cons (.nm 6) .nil))) (.call (.p 17) (.cons (.var 2) (.cons (.var 3) (.cons (.var 4) .nil))))) (.cons (.ret (.call (.p 18) (.cons (.var 2) (.cons (.var 3) (.cons (.var 4) (.cons (.bin .add (.var 5) (.call (.next) (.cons (.var 0) (.cons (.bin .add (.bin .sub (.var 6) (.var 5)) (.int 1)) .nil)))) .nil)))))) .nil))), false⟩
/-! _law_mixed -/
def f_law_63 : Fn := ⟨["_law_told", "_law_one", "_law_other"], 3, (.cons (.tri (.cons (.ret (.call (.p 83) (.cons (.var 0) (.cons (.var 1) (.cons (.var 2) .nil))))) .nil) (.cons (.err 5) none (.cons (.ret .non) .nil) .nil)) .nil), false⟩
/-! far_edge -/
def f_p_84 : Fn := ⟨["book", "row", "link", "word", "place", "way"], 3, (.cons (.asg (.tp (.cons (.nm 3) (.cons (.nm 4) (.cons (.nm 5) .nil)))) (.var 2)) (.cons (.ite (.cmp .ne (.var 3) (.str ("row" : Str))) (.cons (.ret (.call (.p 22) (.cons (.var 0) (.cons (.var 2) .nil)))) .nil) .nil) (.cons (.ite (.cmp .eq (.var 5) (.int 1)) (.cons (.ret (.tup (.cons (.var 4) (.cons (.bin .add (.var 4) (.int 1)) (.cons (.ix (.var 1) (.var 4)) .nil))))) .nil) .nil) (.cons (.ret (.tup (.cons (.bin .add (.var 4) (.int 1)) (.cons (.var 4) (.cons (.neg (.ix (.var 1) (.var 4))) .nil))))) .nil)))), false⟩
/-! widened -/
def f_p_85_b0 : Ss := (.cons (.ext 4 (.lst (.cons (.tup (.cons (.str ("row" : Str)) (.cons (.var 7) (.cons (.int 1) .nil)))) (.cons (.tup (.cons (.str ("row" : Str)) (.cons (.var 7) (.cons (.neg (.int 1)) .nil)))) .nil)))) .nil)
def f_p_85_l1 : S := .for (.nm 7) (.rg1 (.ix (.fld (.var 0) .book 0) (.int 0))) f_p_85_b0
def f_p_85_b2 : Ss := (.cons (.asg (.tp (.cons (.nm 8) (.cons (.nm 9) (.cons (.nm 10) .nil)))) (.call (.p 84) (.cons (.var 0) (.cons (.var 1) (.cons (.var 6) .nil))))) (.cons (.ite (.cmp .eq (.ix (.var 6) (.int 0)) (.var 3)) (.cons (.aug 10 .add (.var 2)) .nil) .nil) (.cons (.app 5 (.tup (.cons (.var 6) (.cons (.tup (.cons (.var 8) (.cons (.var 9) (.cons (.var 10) .nil)))) .nil)))) .nil)))
def f_p_85_l3 : S := .for (.nm 6) (.of (.var 4)) f_p_85_b2
def f_p_85 : Fn := ⟨["book", "row", "slack", "word", "links", "found", "link", "place", "begin", "end", "weight"], 3, (.cons (.asg (.nm 3) (.str ("fact" : Str))) (.cons (.own 4 (.call (.p 23) (.cons (.var 0) .nil))) (.cons (.ite (.cmp .notn (.var 1) .non) (.cons (.asg (.nm 3) (.str ("row" : Str))) (.cons f_p_85_l1 .nil)) .nil) (.cons (.own 5 (.lst .nil)) (.cons (.frz 4) (.cons f_p_85_l3 (.cons (.frz 5) (.cons (.ret (.var 5)) .nil)))))))), false⟩
/-! can_with -/
def f_p_86_c0 : E := (.lc (.var 4) (.tp (.cons (.nm 3) (.cons (.nm 4) .nil))) (.of (.call (.p 85) (.cons (.var 0) (.cons (.var 1) (.cons (.var 2) .nil))))))
def f_p_86 : Fn := ⟨["book", "row", "slack", "link", "edge"], 3, (.cons (.ret (.cmp .notn (.call (.p 9) (.cons (.bin .add (.ix (.fld (.var 0) .book 0) (.int 0)) (.int 1)) (.cons f_p_86_c0 (.cons (.int 0) .nil)))) .non)) .nil), false⟩
/-! least_slack -/
def f_p_87_b0 : Ss := (.cons (.aug 2 .mul (.int 2)) .nil)
def f_p_87_l1 : S := .whl (.nott (.call (.p 86) (.cons (.var 0) (.cons (.var 1) (.cons (.var 2) .nil))))) f_p_87_b0
def f_p_87_b2 : Ss := (.cons (.asg (.nm 4) (.bin .fdiv (.bin .add (.var 3) (.var 2)) (.int 2))) (.cons (.ite (.call (.p 86) (.cons (.var 0) (.cons (.var 1) (.cons (.var 4) .nil)))) (.cons (.asg (.nm 2) (.var 4)) .nil) (.cons (.asg (.nm 3) (.var 4)) .nil)) .nil))
def f_p_87_l3 : S := .whl (.cmp .gt (.bin .sub (.var 2) (.var 3)) (.int 1)) f_p_87_b2
def f_p_87 : Fn := ⟨["book", "row", "high", "low", "middle"], 2, (.cons (.asg (.nm 2) (.int 1)) (.cons (.ite (.call (.p 86) (.cons (.var 0) (.cons (.var 1) (.cons (.int 0) .nil)))) (.cons (.ret (.int 0)) .nil) .nil) (.cons f_p_87_l1 (.cons (.asg (.nm 3) (.bin .fdiv (.var 2) (.int 2))) (.cons f_p_87_l3 (.cons (.ret (.var 2)) .nil)))))), false⟩
/-! bad_ring -/
def f_p_88_c0 : E := (.dcm (.var 6) (.tup (.cons (.int 0) (.cons (.tup .nil) .nil))) 6 (.rg1 (.bin .add (.ix (.fld (.var 0) .book 0) (.int 0)) (.int 1))))
def f_p_88_b1 : Ss := (.cons (.asg (.tp (.cons (.nm 11) (.cons (.nm 12) (.cons (.nm 13) .nil)))) (.var 8)) (.cons (.asg (.nm 9) (.bin .add (.ix (.ix (.var 4) (.var 11)) (.int 0)) (.var 13))) (.cons (.ite (.cmp .lt (.var 9) (.ix (.ix (.var 5) (.var 12)) (.int 0))) (.cons (.put 5 (.var 12) (.tup (.cons (.var 9) (.cons (.bin .add (.ix (.ix (.var 4) (.var 11)) (.int 1)) (.tup (.cons (.tup (.cons (.var 7) (.cons (.var 8) .nil))) .nil))) .nil)))) .nil) .nil) .nil)))
def f_p_88_l2 : S := .for (.tp (.cons (.nm 7) (.cons (.nm 8) .nil))) (.of (.var 3)) f_p_88_b1
def f_p_88_b3 : Ss := (.cons (.asg (.nm 10) (.call (.p 89) (.cons (.ix (.ix (.var 4) (.var 6)) (.int 1)) .nil))) (.cons (.ite (.cmp .notn (.var 10) .non) (.cons (.ret (.var 10)) .nil) .nil) .nil))
def f_p_88_l4 : S := .for (.nm 6) (.of (.var 4)) f_p_88_b3
def f_p_88_b5 : Ss := (.cons (.own 5 (.b1 .dict (.var 4))) (.cons f_p_88_l2 (.cons (.frz 5) (.cons (.asg (.nm 4) (.var 5)) (.cons f_p_88_l4 .nil)))))
def f_p_88_l6 : S := .whl (.bl true) f_p_88_b5
def f_p_88 : Fn := ⟨["book", "row", "slack", "links", "ways", "later", "place", "link", "edge", "new", "found", "one", "other", "weight"], 3, (.cons (.asg (.nm 3) (.call (.p 85) (.cons (.var 0) (.cons (.var 1) (.cons (.var 2) .nil))))) (.cons (.asg (.nm 4) f_p_88_c0) (.cons f_p_88_l6 .nil))), false⟩
/-! ring_in -/
def f_p_89_c0 : E := (.lc (.var 6) (.tp (.cons (.nm 6) (.cons (.nm 7) .nil))) (.of (.var 5)))
def f_p_89_c1 : E := (.lc (.ix (.var 7) (.int 2)) (.tp (.cons (.nm 6) (.cons (.nm 7) .nil))) (.of (.var 5)))
def f_p_89_b2 : Ss := (.cons (.put 1 (.ix (.var 4) (.int 0)) (.var 2)) (.cons (.ite (.cmp .isin (.ix (.var 4) (.int 1)) (.var 1)) (.cons (.asg (.nm 5) (.sl (.var 0) (.so (.ix (.var 1) (.ix (.var 4) (.int 1)))) (.so (.bin .add (.var 2) (.int 1))))) (.cons (.ite (.cmp .lt (.b1 .sum f_p_89_c1) (.int 0)) (.cons (.ret (.b1 .tuple f_p_89_c0)) .nil) .nil) .nil)) .nil) .nil))
def f_p_89_l3 : S := .for (.tp (.cons (.nm 2) (.cons (.tp (.cons (.nm 3) (.cons (.nm 4) .nil))) .nil))) (.en (.var 0)) f_p_89_b2
def f_p_89 : Fn := ⟨["way", "seen", "index", "link", "edge", "inner", "name", "own"], 1, (.cons (.own 1 (.dnew false)) (.cons f_p_89_l3 (.cons (.ret .non) .nil))), false⟩
/-! check_question -/
def f_p_90 : Fn := ⟨["book", "row"], 2, (.cons (.expr (.call (.p 3) (.cons (.var 0) .nil))) (.cons (.expr (.call (.p 4) (.cons (.var 0) (.cons (.var 1) .nil)))) (.cons (.expr (.call (.p 12) (.cons (.var 0) .nil))) .nil))), false⟩
/-! least_distance -/
def f_p_91 : Fn := ⟨["book", "row"], 2, (.cons (.expr (.call (.p 90) (.cons (.var 0) (.cons (.var 1) .nil)))) (.cons (.ret (.call (.p 87) (.cons (.var 0) (.cons (.var 1) .nil)))) .nil)), false⟩
/-! near_row -/
def f_p_92_c0 : E := (.lc (.var 4) (.tp (.cons (.nm 3) (.cons (.nm 4) .nil))) (.of (.var 2)))
def f_p_92 : Fn := ⟨["book", "row", "links", "link", "edge"], 2, (.cons (.expr (.call (.p 90) (.cons (.var 0) (.cons (.var 1) .nil)))) (.cons (.asg (.nm 2) (.call (.p 85) (.cons (.var 0) (.cons (.var 1) (.cons (.call (.p 87) (.cons (.var 0) (.cons (.var 1) .nil))) .nil))))) (.cons (.ret (.call (.p 72) (.cons (.ix (.fld (.var 0) .book 0) (.int 0)) (.cons f_p_92_c0 .nil)))) .nil))), false⟩
/-! far_paper -/
def f_p_93 : Fn := ⟨["book", "row", "least"], 2, (.cons (.expr (.call (.p 90) (.cons (.var 0) (.cons (.var 1) .nil)))) (.cons (.asg (.nm 2) (.call (.p 87) (.cons (.var 0) (.cons (.var 1) .nil)))) (.cons (.ite (.cmp .eq (.var 2) (.int 0)) (.cons (.ret .non) .nil) .nil) (.cons (.ret (.call (.p 88) (.cons (.var 0) (.cons (.var 1) (.cons (.bin .sub (.var 2) (.int 1)) .nil))))) .nil)))), false⟩
/-! _law_paper -/
def f_law_65 : Fn := ⟨["_law_told_here", "_law_row"], 2, (.cons (.tri (.cons (.ret (.call (.p 93) (.cons (.var 0) (.cons (.var 1) .nil)))) .nil) (.cons (.err 6) none (.cons (.ret (.str ("none" : Str))) .nil) .nil)) .nil), false⟩
/-! is_far_link -/
def f_p_94 : Fn := ⟨["book", "value"], 2, (.cons (.ite (.and (.isa (.var 1) .tuple) (.and (.cmp .eq (.b1 .len (.var 1)) (.int 3)) (.and (.isa (.ix (.var 1) (.int 0)) .str) (.cmp .eq (.ix (.var 1) (.int 0)) (.str ("row" : Str)))))) (.cons (.ret (.and (.call (.p 1) (.cons (.ix (.var 1) (.int 1)) (.cons (.int 0) (.cons (.bin .sub (.ix (.fld (.var 0) .book 0) (.int 0)) (.int 1)) .nil)))) (.and (.call (.p 0) (.cons (.ix (.var 1) (.int 2)) .nil)) (.cmp .isin (.ix (.var 1) (.int 2)) (.tup (.cons (.int 1) (.cons (.neg (.int 1)) .nil))))))) .nil) .nil) (.cons (.ret (.call (.p 27) (.cons (.var 0) (.cons (.var 1) .nil)))) .nil)), false⟩
/-! far_chain -/
def f_p_95_b0 : Ss := (.cons (.ite (.nott (.call (.p 94) (.cons (.var 0) (.cons (.var 3) .nil)))) (.cons (.ret .non) .nil) .nil) .nil)
def f_p_95_l1 : S := .for (.nm 3) (.of (.var 2)) f_p_95_b0
def f_p_95_c2 : E := (.lc (.call (.p 84) (.cons (.var 0) (.cons (.var 1) (.cons (.var 3) .nil)))) (.nm 3) (.of (.var 2)))
def f_p_95_b3 : Ss := (.cons (.ite (.cmp .ne (.ix (.var 6) (.int 0)) (.ix (.ix (.var 4) (.bin .sub (.var 5) (.int 1))) (.int 1))) (.cons (.ret .non) .nil) .nil) .nil)
def f_p_95_l4 : S := .for (.tp (.cons (.nm 5) (.cons (.nm 6) .nil))) (.en (.var 4)) f_p_95_b3
def f_p_95_c5 : E := (.lci (.var 3) (.nm 3) (.of (.var 2)) (.cmp .eq (.ix (.var 3) (.int 0)) (.str ("row" : Str))))
def f_p_95_c6 : E := (.lc (.ix (.var 6) (.int 2)) (.nm 6) (.of (.var 4)))
def f_p_95 : Fn := ⟨["book", "row", "value", "link", "edges", "place", "edge"], 3, (.cons (.ite (.or (.nott (.isa (.var 2) .tuple)) (.nott (.chain .le .le (.int 1) (.b1 .len (.var 2)) (.int 40)))) (.cons (.ret .non) .nil) .nil) (.cons f_p_95_l1 (.cons (.asg (.nm 4) f_p_95_c2) (.cons f_p_95_l4 (.cons (.ret (.tup (.cons (.b1 .sum f_p_95_c6) (.cons (.b1 .len f_p_95_c5) .nil)))) .nil))))), false⟩
/-! check_number -/
def f_p_96 : Fn := ⟨["value"], 1, (.cons (.ite (.or (.nott (.call (.p 0) (.cons (.var 0) .nil))) (.cmp .lt (.var 0) (.int 1))) (.cons (.rais (.err 7) .nil) .nil) .nil) .nil), false⟩
/-! shows_far -/
def f_p_97 : Fn := ⟨["book", "row", "number", "value", "found"], 4, (.cons (.expr (.call (.p 3) (.cons (.var 0) .nil))) (.cons (.expr (.call (.p 4) (.cons (.var 0) (.cons (.var 1) .nil)))) (.cons (.expr (.call (.p 96) (.cons (.var 2) .nil))) (.cons (.asg (.nm 4) (.call (.p 95) (.cons (.var 0) (.cons (.var 1) (.cons (.var 3) .nil))))) (.cons (.ret (.and (.cmp .notn (.var 4) .non) (.cmp .lt (.bin .add (.ix (.var 4) (.int 0)) (.bin .mul (.ix (.var 4) (.int 1)) (.bin .sub (.var 2) (.int 1)))) (.int 0)))) .nil))))), false⟩
/-! _law_sums -/
def f_law_66_c0 : E := (.lc (.call (.law 17) (.cons (.var 0) (.cons (.var 1) (.cons (.var 5) .nil)))) (.nm 5) (.of (.var 2)))
def f_law_66_b1 : Ss := (.cons (.ite (.cmp .ne (.ix (.ix (.var 3) (.bin .sub (.var 4) (.int 1))) (.int 1)) (.ix (.ix (.var 3) (.var 4)) (.int 0))) (.cons (.ret .non) .nil) .nil) .nil)
def f_law_66_l2 : S := .for (.nm 4) (.rg1 (.b1 .len (.var 3))) f_law_66_b1
def f_law_66_c3 : E := (.lc (.ix (.var 6) (.int 3)) (.nm 6) (.of (.var 3)))
def f_law_66_c4 : E := (.lc (.ix (.var 6) (.int 2)) (.nm 6) (.of (.var 3)))
def f_law_66 : Fn := ⟨["_law_b", "_law_row", "_law_value", "_law_edges", "_law_k", "_law_link", "_law_edge_here"], 3, (.cons (.ite (.or (.nott (.isa (.var 2) .tuple)) (.nott (.chain .le .le (.int 1) (.b1 .len (.var 2)) (.int 40)))) (.cons (.ret .non) .nil) .nil) (.cons (.asg (.nm 3) f_law_66_c0) (.cons (.ite (.cmp .isin .non (.var 3)) (.cons (.ret .non) .nil) .nil) (.cons f_law_66_l2 (.cons (.ret (.tup (.cons (.b1 .sum f_law_66_c4) (.cons (.b1 .sum f_law_66_c3) .nil)))) .nil))))), false⟩
/-! _law_shows -/
def f_law_67 : Fn := ⟨["_law_b", "_law_row", "_law_number", "_law_value", "_law_own"], 4, (.cons (.asg (.nm 4) (.call (.law 66) (.cons (.var 0) (.cons (.var 1) (.cons (.var 3) .nil))))) (.cons (.ret (.and (.cmp .notn (.var 4) .non) (.cmp .lt (.bin .add (.ix (.var 4) (.int 0)) (.bin .mul (.ix (.var 4) (.int 1)) (.bin .sub (.var 2) (.int 1)))) (.int 0)))) .nil)), false⟩
/-! _law_shows -/
def f_law_67v1_c0 : E := (.lc (.call (.law 17) (.cons (.var 0) (.cons (.var 6) .nil))) (.nm 6) (.of (.var 2)))
def f_law_67v1_b1 : Ss := (.cons (.ite (.cmp .ne (.ix (.ix (.var 3) (.bin .sub (.var 4) (.int 1))) (.int 1)) (.ix (.ix (.var 3) (.var 4)) (.int 0))) (.cons (.ret (.bl false)) .nil) .nil) .nil)
def f_law_67v1_l2 : S := .for (.nm 4) (.rg1 (.b1 .len (.var 3))) f_law_67v1_b1
def f_law_67v1_c3 : E := (.lci (.var 6) (.nm 6) (.of (.var 2)) (.cmp .eq (.ix (.var 6) (.int 0)) (.str ("fact" : Str))))
def f_law_67v1_c4 : E := (.lc (.ix (.var 7) (.int 2)) (.nm 7) (.of (.var 3)))
def f_law_67v1 : Fn := ⟨["_law_b", "_law_number", "_law_value", "_law_edges", "_law_k", "_law_facts", "_law_link", "_law_edge_here"], 3, (.cons (.asg (.nm 3) f_law_67v1_c0) (.cons f_law_67v1_l2 (.cons (.asg (.nm 5) (.b1 .len f_law_67v1_c3)) (.cons (.ret (.and (.cmp .ne (.var 3) (.lst .nil)) (.cmp .lt (.bin .add (.b1 .sum f_law_67v1_c4) (.bin .mul (.var 5) (.bin .sub (.var 1) (.int 1)))) (.int 0)))) .nil)))), false⟩
/-! least_off -/
def f_p_98 : Fn := ⟨["book"], 1, (.cons (.expr (.call (.p 3) (.cons (.var 0) .nil))) (.cons (.ret (.call (.p 87) (.cons (.var 0) (.cons .non .nil)))) .nil)), false⟩
/-! off_row -/
def f_p_99_c0 : E := (.lc (.var 3) (.tp (.cons (.nm 2) (.cons (.nm 3) .nil))) (.of (.var 1)))
def f_p_99 : Fn := ⟨["book", "links", "link", "edge"], 1, (.cons (.expr (.call (.p 3) (.cons (.var 0) .nil))) (.cons (.asg (.nm 1) (.call (.p 85) (.cons (.var 0) (.cons .non (.cons (.call (.p 87) (.cons (.var 0) (.cons .non .nil))) .nil))))) (.cons (.ret (.call (.p 72) (.cons (.ix (.fld (.var 0) .book 0) (.int 0)) (.cons f_p_99_c0 .nil)))) .nil))), false⟩
/-! off_paper -/
def f_p_100 : Fn := ⟨["book", "least"], 1, (.cons (.expr (.call (.p 3) (.cons (.var 0) .nil))) (.cons (.asg (.nm 1) (.call (.p 87) (.cons (.var 0) (.cons .non .nil)))) (.cons (.ite (.cmp .eq (.var 1) (.int 0)) (.cons (.ret .non) .nil) .nil) (.cons (.ret (.call (.p 88) (.cons (.var 0) (.cons .non (.cons (.bin .sub (.var 1) (.int 1)) .nil))))) .nil)))), false⟩
/-! shows_off -/
def f_p_101_c0 : E := (.lci (.var 5) (.nm 5) (.of (.var 2)) (.cmp .eq (.ix (.var 5) (.int 0)) (.str ("fact" : Str))))
def f_p_101 : Fn := ⟨["book", "number", "value", "found", "facts", "link"], 3, (.cons (.expr (.call (.p 3) (.cons (.var 0) .nil))) (.cons (.expr (.call (.p 96) (.cons (.var 1) .nil))) (.cons (.asg (.nm 3) (.call (.p 28) (.cons (.var 0) (.cons (.var 2) .nil)))) (.cons (.ite (.or (.cmp .isn (.var 3) .non) (.cmp .ne (.ix (.var 3) (.int 0)) (.ix (.var 3) (.int 1)))) (.cons (.ret (.bl false)) .nil) .nil) (.cons (.asg (.nm 4) (.b1 .len f_p_101_c0)) (.cons (.ret (.cmp .lt (.bin .add (.ix (.var 3) (.int 2)) (.bin .mul (.var 4) (.bin .sub (.var 1) (.int 1)))) (.int 0))) .nil)))))), false⟩
/-! _law_wide -/
def f_law_68_c0 : E := (.lc (.tup (.cons (.var 2) (.cons (.var 3) (.cons (.b2 .max (.int 0) (.bin .sub (.var 4) (.var 1))) (.cons (.bin .add (.var 5) (.var 1)) .nil))))) (.tp (.cons (.nm 2) (.cons (.nm 3) (.cons (.nm 4) (.cons (.nm 5) .nil))))) (.of (.ix (.var 0) (.int 2))))
def f_law_68 : Fn := ⟨["_law_b", "_law_s", "_law_begin", "_law_end", "_law_low", "_law_high"], 2, (.cons (.ret (.b1 .tuple f_law_68_c0)) .nil), false⟩
/-! _law_all_off -/
def f_law_69_b0 : Ss := (.cons (.asg (.nm 8) (.b1 .sum (.sl (.var 2) (.so (.var 4)) (.so (.var 5))))) (.cons (.app 3 (.max3 (.int 0) (.bin .sub (.var 6) (.var 8)) (.bin .sub (.var 8) (.var 7)))) .nil))
def f_law_69_l1 : S := .for (.tp (.cons (.nm 4) (.cons (.nm 5) (.cons (.nm 6) (.cons (.nm 7) .nil))))) (.of (.ix (.var 0) (.int 2))) f_law_69_b0
def f_law_69_b2 : Ss := (.cons (.own 3 (.lst (.cons (.int 0) .nil))) (.cons f_law_69_l1 (.cons (.app 1 (.tup (.cons (.b1 .max (.var 3)) (.cons (.var 2) .nil)))) (.cons (.frz 3) .nil))))
def f_law_69_l3 : S := .for (.nm 2) (.of (.call (.law 5) (.cons (.ix (.var 0) (.int 0)) (.cons (.ix (.var 0) (.int 1)) .nil)))) f_law_69_b2
def f_law_69 : Fn := ⟨["_law_b", "_law_found", "_law_row", "_law_off", "_law_begin", "_law_end", "_law_low", "_law_high", "_law_own"], 1, (.cons (.own 1 (.lst .nil)) (.cons f_law_69_l3 (.cons (.ret (.b1 .min (.var 1))) .nil))), false⟩
/-! Round.__init__ -/
def f_ini_round_b0 : Ss := (.cons (.ite (.nott (.call (.p 37) (.cons (.var 5) (.cons (.var 1) .nil)))) (.cons (.rais (.err 3) (.cons (.var 4) .nil)) .nil) .nil) .nil)
def f_ini_round_l1 : S := .for (.tp (.cons (.nm 4) (.cons (.nm 5) .nil))) (.en (.var 3)) f_ini_round_b0
def f_ini_round : Fn := ⟨["self", "cells", "most", "facts", "index", "fact"], 4, (.cons (.ite (.nott (.call (.p 1) (.cons (.var 1) (.cons (.int 1) (.cons (.int 10) .nil))))) (.cons (.rais (.err 1) .nil) .nil) .nil) (.cons (.ite (.nott (.call (.p 1) (.cons (.var 2) (.cons (.int 0) (.cons (.int 1000000000000000000000000000000) .nil))))) (.cons (.rais (.err 2) .nil) .nil) .nil) (.cons (.ite (.or (.nott (.isa (.var 3) .tuple)) (.cmp .gt (.b1 .len (.var 3)) (.int 8))) (.cons (.rais (.err 3) (.cons .non .nil)) .nil) .nil) (.cons f_ini_round_l1 (.cons (.seta 0 .round (.tup (.cons (.var 1) (.cons (.var 2) (.cons (.var 3) .nil))))) .nil))))), false⟩
/-! Round.cells -/
def f_pr_round_0 : Fn := ⟨["self"], 1, (.cons (.ret (.ix (.fld (.var 0) .round 0) (.int 0))) .nil), false⟩
/-! Round.most -/
def f_pr_round_1 : Fn := ⟨["self"], 1, (.cons (.ret (.ix (.fld (.var 0) .round 0) (.int 1))) .nil), false⟩
/-! Round.facts -/
def f_pr_round_2 : Fn := ⟨["self"], 1, (.cons (.ret (.ix (.fld (.var 0) .round 0) (.int 2))) .nil), false⟩
/-! Round.__len__ -/
def f_len_round : Fn := ⟨["self"], 1, (.cons (.ret (.b1 .len (.ix (.fld (.var 0) .round 0) (.int 2)))) .nil), false⟩
/-! Round.__eq__ -/
def f_eq_round : Fn := ⟨["self", "other"], 2, (.cons (.ret (.and (.isa (.var 1) (.cls .round)) (.cmp .eq (.fld (.var 0) .round 0) (.fld (.var 1) .round 0)))) .nil), false⟩
/-! check_round -/
def f_p_102 : Fn := ⟨["value"], 1, (.cons (.ite (.nott (.isa (.var 0) (.cls .round))) (.cons (.rais (.err 16) .nil) .nil) .nil) .nil), false⟩
/-! sloped_edges -/
def f_p_103_b0 : Ss := (.cons (.ext 1 (.lst (.cons (.tup (.cons (.var 2) (.cons (.bin .add (.var 2) (.int 1)) (.cons (.var 4) (.cons (.int 0) .nil))))) (.cons (.tup (.cons (.bin .add (.var 2) (.int 1)) (.cons (.var 2) (.cons (.int 0) (.cons (.int 0) .nil))))) .nil)))) .nil)
def f_p_103_l1 : S := .for (.nm 2) (.rg1 (.var 3)) f_p_103_b0
def f_p_103_b2 : Ss := (.cons (.ite (.cmp .gt (.var 7) (.var 3)) (.cons (.ext 1 (.lst (.cons (.tup (.cons (.var 6) (.cons (.bin .sub (.var 7) (.var 3)) (.cons (.var 9) (.cons (.neg (.int 1)) .nil))))) (.cons (.tup (.cons (.bin .sub (.var 7) (.var 3)) (.cons (.var 6) (.cons (.neg (.var 8)) (.cons (.int 1) .nil))))) .nil)))) .nil) (.cons (.ext 1 (.lst (.cons (.tup (.cons (.var 6) (.cons (.var 7) (.cons (.var 9) (.cons (.int 0) .nil))))) (.cons (.tup (.cons (.var 7) (.cons (.var 6) (.cons (.neg (.var 8)) (.cons (.int 0) .nil))))) .nil)))) .nil)) .nil)
def f_p_103_l3 : S := .for (.tp (.cons (.nm 6) (.cons (.nm 7) (.cons (.nm 8) (.cons (.nm 9) .nil))))) (.of (.var 5)) f_p_103_b2
def f_p_103 : Fn := ⟨["ring", "found", "cell", "cells", "most", "facts", "begin", "end", "low", "high"], 1, (.cons (.asg (.tp (.cons (.nm 3) (.cons (.nm 4) (.cons (.nm 5) .nil)))) (.fld (.var 0) .ring 0)) (.cons (.own 1 (.lst (.cons (.tup (.cons (.int 0) (.cons (.var 3) (.cons (.int 0) (.cons (.int 1) .nil))))) (.cons (.tup (.cons (.var 3) (.cons (.int 0) (.cons (.int 0) (.cons (.neg (.int 1)) .nil))))) .nil)))) (.cons f_p_103_l1 (.cons f_p_103_l3 (.cons (.frz 1) (.cons (.ret (.var 1)) .nil)))))), false⟩
/-! side_of -/
def f_p_104_c0 : E := (.dcm (.var 5) (.tup (.cons (.int 0) (.cons (.int 0) (.cons (.tup (.cons (.tup (.cons (.var 5) (.cons (.int 0) (.cons (.int 0) .nil)))) .nil)) .nil)))) 5 (.rg1 (.var 2)))
def f_p_104_b1 : Ss := (.cons (.asg (.nm 10) (.bin .add (.bin .add (.ix (.ix (.var 3) (.var 6)) (.int 0)) (.var 8)) (.bin .mul (.var 9) (.var 1)))) (.cons (.ite (.cmp .lt (.var 10) (.ix (.ix (.var 4) (.var 7)) (.int 0))) (.cons (.asg (.nm 12) (.bin .add (.ix (.ix (.var 3) (.var 6)) (.int 1)) (.var 9))) (.cons (.put 4 (.var 7) (.tup (.cons (.var 10) (.cons (.var 12) (.cons (.bin .add (.ix (.ix (.var 3) (.var 6)) (.int 2)) (.tup (.cons (.tup (.cons (.var 7) (.cons (.var 10) (.cons (.var 12) .nil)))) .nil))) .nil))))) .nil)) .nil) .nil))
def f_p_104_l2 : S := .for (.tp (.cons (.nm 6) (.cons (.nm 7) (.cons (.nm 8) (.cons (.nm 9) .nil))))) (.of (.call (.p 103) (.cons (.var 0) .nil))) f_p_104_b1
def f_p_104_b3 : Ss := (.cons (.asg (.nm 11) (.call (.p 105) (.cons (.ix (.ix (.var 3) (.var 5)) (.int 2)) .nil))) (.cons (.ite (.cmp .notn (.var 11) .non) (.cons (.ret (.ix (.var 11) (.int 0))) .nil) .nil) .nil))
def f_p_104_l4 : S := .for (.nm 5) (.of (.var 3)) f_p_104_b3
def f_p_104_b5 : Ss := (.cons (.own 4 (.b1 .dict (.var 3))) (.cons f_p_104_l2 (.cons (.frz 4) (.cons (.asg (.nm 3) (.var 4)) (.cons f_p_104_l4 .nil)))))
def f_p_104_l6 : S := .whl (.bl true) f_p_104_b5
def f_p_104 : Fn := ⟨["ring", "total", "many", "ways", "later", "place", "one", "other", "weight", "slope", "new", "found", "sloped"], 2, (.cons (.asg (.nm 2) (.bin .add (.ix (.fld (.var 0) .ring 0) (.int 0)) (.int 1))) (.cons (.ite (.cmp .notn (.call (.p 9) (.cons (.var 2) (.cons (.call (.p 38) (.cons (.var 0) (.cons (.var 1) .nil))) (.cons (.int 0) .nil)))) .non) (.cons (.ret (.int 0)) .nil) .nil) (.cons (.asg (.nm 3) f_p_104_c0) (.cons f_p_104_l6 .nil)))), false⟩
/-! turn_in -/
def f_p_105_b0 : Ss := (.cons (.ite (.and (.cmp .eq (.ix (.ix (.var 0) (.var 2)) (.int 0)) (.ix (.ix (.var 0) (.var 1)) (.int 0))) (.cmp .lt (.ix (.ix (.var 0) (.var 1)) (.int 1)) (.ix (.ix (.var 0) (.var 2)) (.int 1)))) (.cons (.asg (.nm 3) (.bin .sub (.ix (.ix (.var 0) (.var 1)) (.int 2)) (.ix (.ix (.var 0) (.var 2)) (.int 2)))) (.cons (.ite (.cmp .eq (.var 3) (.int 0)) (.cons (.ret (.tup (.cons .non .nil))) .nil) .nil) (.cons (.ret (.tup (.cons (.bin .fdiv (.var 3) (.b1 .abs (.var 3))) .nil))) .nil))) .nil) .nil)
def f_p_105_l1 : S := .for (.nm 2) (.rg1 (.var 1)) f_p_105_b0
def f_p_105_b2 : Ss := (.cons f_p_105_l1 .nil)
def f_p_105_l3 : S := .for (.nm 1) (.rg1 (.b1 .len (.var 0))) f_p_105_b2
def f_p_105 : Fn := ⟨["steps", "last", "first", "slope"], 1, (.cons f_p_105_l3 (.cons (.ret .non) .nil)), false⟩
/-! some_total -/
def f_p_106_b0 : Ss := (.cons (.asg (.nm 3) (.bin .fdiv (.bin .add (.var 1) (.var 2)) (.int 2))) (.cons (.asg (.nm 4) (.call (.p 104) (.cons (.var 0) (.cons (.var 3) .nil)))) (.cons (.ite (.cmp .eq (.var 4) (.int 0)) (.cons (.ret (.var 3)) .nil) .nil) (.cons (.ite (.cmp .isn (.var 4) .non) (.cons (.ret .non) .nil) .nil) (.cons (.ite (.cmp .gt (.var 4) (.int 0)) (.cons (.asg (.nm 1) (.bin .add (.var 3) (.int 1))) .nil) (.cons (.asg (.nm 2) (.bin .sub (.var 3) (.int 1))) .nil)) .nil)))))
def f_p_106_l1 : S := .whl (.cmp .le (.var 1) (.var 2)) f_p_106_b0
def f_p_106 : Fn := ⟨["ring", "low", "high", "middle", "side"], 1, (.cons (.par [1, 2] (.cons (.int 0) (.cons (.bin .mul (.ix (.fld (.var 0) .ring 0) (.int 0)) (.ix (.fld (.var 0) .ring 0) (.int 1))) .nil))) (.cons f_p_106_l1 (.cons (.ret .non) .nil))), false⟩
/-! totals_by -/
def f_p_107_b0 : Ss := (.cons (.asg (.nm 5) (.bin .fdiv (.bin .add (.var 4) (.var 3)) (.int 2))) (.cons (.ite (.cmp .gt (.var 3) (.var 4)) (.cons (.asg (.nm 5) (.bin .fdiv (.bin .add (.bin .add (.var 4) (.var 3)) (.int 1)) (.int 2))) .nil) .nil) (.cons (.ite (.cmp .eq (.call (.p 104) (.cons (.var 0) (.cons (.var 5) .nil))) (.int 0)) (.cons (.asg (.nm 4) (.var 5)) .nil) (.cons (.ite (.cmp .gt (.var 3) (.var 4)) (.cons (.asg (.nm 3) (.bin .sub (.var 5) (.int 1))) .nil) (.cons (.asg (.nm 3) (.bin .add (.var 5) (.int 1))) .nil)) .nil)) .nil)))
def f_p_107_l1 : S := .whl (.cmp .ne (.var 4) (.var 3)) f_p_107_b0
def f_p_107_b2 : Ss := (.cons (.asg (.nm 4) (.var 1)) (.cons f_p_107_l1 (.cons (.app 2 (.var 4)) .nil)))
def f_p_107_l3 : S := .for (.nm 3) (.of (.tup (.cons (.int 0) (.cons (.bin .mul (.ix (.fld (.var 0) .ring 0) (.int 0)) (.ix (.fld (.var 0) .ring 0) (.int 1))) .nil)))) f_p_107_b2
def f_p_107 : Fn := ⟨["ring", "middle", "ends", "far", "near", "half"], 1, (.cons (.asg (.nm 1) (.call (.p 106) (.cons (.var 0) .nil))) (.cons (.ite (.cmp .isn (.var 1) .non) (.cons (.ret .non) .nil) .nil) (.cons (.own 2 (.lst .nil)) (.cons f_p_107_l3 (.cons (.frz 2) (.cons (.ret (.b1 .tuple (.var 2))) .nil)))))), false⟩
/-! totals_or_none -/
def f_p_108 : Fn := ⟨["ring", "found"], 1, (.cons (.expr (.call (.p 102) (.cons (.var 0) .nil))) (.cons (.asg (.nm 1) (.call (.p 107) (.cons (.var 0) .nil))) (.cons (.ite (.cmp .isn (.var 1) .non) (.cons (.rais (.err 6) .nil) .nil) .nil) (.cons (.ret (.var 1)) .nil)))), false⟩
/-! round_totals -/
def f_p_109 : Fn := ⟨["great"], 1, (.cons (.ret (.call (.p 108) (.cons (.var 0) .nil))) .nil), false⟩
/-! round_with -/
def f_p_110_c0 : E := (.lc (.bin .sub (.ix (.var 3) (.bin .add (.var 4) (.int 1))) (.ix (.var 3) (.var 4))) (.nm 4) (.rg1 (.var 2)))
def f_p_110 : Fn := ⟨["great", "total", "cells", "tops", "cell"], 2, (.cons (.expr (.call (.p 102) (.cons (.var 0) .nil))) (.cons (.ite (.nott (.call (.p 0) (.cons (.var 1) .nil))) (.cons (.rais (.err 7) .nil) .nil) .nil) (.cons (.asg (.nm 2) (.ix (.fld (.var 0) .round 0) (.int 0))) (.cons (.ite (.cmp .isn (.call (.p 9) (.cons (.bin .add (.var 2) (.int 1)) (.cons (.call (.p 38) (.cons (.var 0) (.cons (.var 1) .nil))) (.cons (.int 0) .nil)))) .non) (.cons (.ret .non) .nil) .nil) (.cons (.asg (.nm 3) (.call (.p 13) (.cons (.bin .add (.var 2) (.int 1)) (.cons (.call (.p 38) (.cons (.var 0) (.cons (.var 1) .nil))) .nil)))) (.cons (.ret (.b1 .tuple f_p_110_c0)) .nil)))))), false⟩
/-! extreme -/
def f_p_111_b0 : Ss := (.cons (.asg (.nm 8) (.bin .fdiv (.bin .add (.var 6) (.var 7)) (.int 2))) (.cons (.asg (.nm 9) (.bin .mul (.var 5) (.ix (.call (.p 42) (.cons (.var 0) (.cons (.var 8) (.cons (.var 1) (.cons (.var 2) .nil))))) (.var 3)))) (.cons (.ite (.cmp .gt (.bin .mul (.var 5) (.ix (.call (.p 42) (.cons (.var 0) (.cons (.bin .add (.var 8) (.int 1)) (.cons (.var 1) (.cons (.var 2) .nil))))) (.var 3))) (.var 9)) (.cons (.asg (.nm 6) (.bin .add (.var 8) (.int 1))) .nil) (.cons (.asg (.nm 7) (.var 8)) .nil)) .nil)))
def f_p_111_l1 : S := .whl (.cmp .lt (.var 6) (.var 7)) f_p_111_b0
def f_p_111 : Fn := ⟨["ring", "begin", "end", "which", "totals", "sign", "low", "high", "middle", "here"], 5, (.cons (.asg (.nm 5) (.int 1)) (.cons (.ite (.cmp .eq (.var 3) (.int 0)) (.cons (.asg (.nm 5) (.neg (.int 1))) .nil) .nil) (.cons (.asg (.tp (.cons (.nm 6) (.cons (.nm 7) .nil))) (.var 4)) (.cons f_p_111_l1 (.cons (.ret (.ix (.call (.p 42) (.cons (.var 0) (.cons (.var 6) (.cons (.var 1) (.cons (.var 2) .nil))))) (.var 3))) .nil))))), false⟩
/-! round_bounds -/
def f_p_112 : Fn := ⟨["great", "begin", "end", "totals"], 3, (.cons (.expr (.call (.p 102) (.cons (.var 0) .nil))) (.cons (.ite (.or (.nott (.call (.p 1) (.cons (.var 1) (.cons (.int 0) (.cons (.bin .sub (.ix (.fld (.var 0) .round 0) (.int 0)) (.int 1)) .nil))))) (.nott (.call (.p 1) (.cons (.var 2) (.cons (.bin .add (.var 1) (.int 1)) (.cons (.bin .add (.var 1) (.ix (.fld (.var 0) .round 0) (.int 0))) .nil)))))) (.cons (.rais (.err 8) .nil) .nil) .nil) (.cons (.asg (.nm 3) (.call (.p 108) (.cons (.var 0) .nil))) (.cons (.ret (.tup (.cons (.call (.p 111) (.cons (.var 0) (.cons (.var 1) (.cons (.var 2) (.cons (.int 0) (.cons (.var 3) .nil)))))) (.cons (.call (.p 111) (.cons (.var 0) (.cons (.var 1) (.cons (.var 2) (.cons (.int 1) (.cons (.var 3) .nil)))))) .nil)))) .nil)))), false⟩
/-! _law_totals -/
def f_law_70 : Fn := ⟨["_law_great"], 1, (.cons (.tri (.cons (.ret (.call (.p 109) (.cons (.var 0) .nil))) .nil) (.cons (.err 6) none (.cons (.ret .non) .nil) .nil)) .nil), false⟩
/-! _law_kind_of -/
def f_law_73 : Fn := ⟨["_law_name"], 1, (.cons (.ret (.get (.ddis (.cons (.str ("total" : Str)) (.cons (.str ("begin" : Str)) .nil)) (.cons (.str ("number" : Str)) (.cons (.str ("end" : Str)) .nil))) (.var 0) (.var 0))) .nil), false⟩
/-! _law_ahead -/
def f_law_74 : Fn := ⟨["_law_told"], 0, (.cons (.asg (.nm 0) (.make .book (.cons (.int 3) (.cons (.int 2) (.cons (.tup (.cons (.tup (.cons (.int 0) (.cons (.int 2) (.cons (.int 1) (.cons (.int 3) .nil))))) (.cons (.tup (.cons (.int 1) (.cons (.int 3) (.cons (.int 2) (.cons (.int 3) .nil))))) .nil))) .nil))))) (.cons (.ite (.or (.cmp .ne (.call (.p 80) (.cons (.var 0) .nil)) (.tup (.cons (.int 0) (.cons (.int 1) (.cons (.int 1) .nil))))) (.cmp .ne (.call (.p 81) (.cons (.var 0) .nil)) (.tup (.cons (.int 2) (.cons (.int 1) (.cons (.int 2) .nil)))))) (.cons (.ret (.bl false)) .nil) .nil) (.cons (.ret (.cmp .eq (.call (.p 83) (.cons (.var 0) (.cons (.tup (.cons (.int 0) (.cons (.int 2) (.cons (.int 0) .nil)))) (.cons (.tup (.cons (.int 2) (.cons (.int 0) (.cons (.int 2) .nil)))) .nil)))) (.tup (.cons (.tup (.cons (.int 0) (.cons (.int 2) (.cons (.int 0) .nil)))) (.cons (.tup (.cons (.int 2) (.cons (.int 0) (.cons (.int 2) .nil)))) .nil))))) .nil))), false⟩
/-! _law_near -/
def f_law_75 : Fn := ⟨["_law_chain", "_law_off", "_law_told", "_law_row"], 0, (.cons (.par [2, 3] (.cons (.make .book (.cons (.int 3) (.cons (.int 9) (.cons (.tup (.cons (.tup (.cons (.int 0) (.cons (.int 3) (.cons (.int 20) (.cons (.int 20) .nil))))) .nil)) .nil)))) (.cons (.tup (.cons (.int 1) (.cons (.int 2) (.cons (.int 3) .nil)))) .nil))) (.cons (.ite (.or (.cmp .ne (.call (.p 91) (.cons (.var 2) (.cons (.var 3) .nil))) (.int 5)) (.or (.cmp .ne (.call (.p 92) (.cons (.var 2) (.cons (.var 3) .nil))) (.tup (.cons (.int 5) (.cons (.int 7) (.cons (.int 8) .nil))))) (.cmp .notn (.call (.p 93) (.cons (.var 2) (.cons (.tup (.cons (.int 9) (.cons (.int 9) (.cons (.int 2) .nil)))) .nil))) .non))) (.cons (.ret (.bl false)) .nil) .nil) (.cons (.ite (.nott (.call (.p 97) (.cons (.var 2) (.cons (.var 3) (.cons (.int 5) (.cons (.call (.p 93) (.cons (.var 2) (.cons (.var 3) .nil))) .nil)))))) (.cons (.ret (.bl false)) .nil) .nil) (.cons (.asg (.nm 0) (.tup (.cons (.tup (.cons (.str ("fact" : Str)) (.cons (.int 0) (.cons (.neg (.int 1)) .nil)))) (.cons (.tup (.cons (.str ("row" : Str)) (.cons (.int 0) (.cons (.int 1) .nil)))) (.cons (.tup (.cons (.str ("row" : Str)) (.cons (.int 1) (.cons (.int 1) .nil)))) (.cons (.tup (.cons (.str ("row" : Str)) (.cons (.int 2) (.cons (.int 1) .nil)))) .nil)))))) (.cons (.ite (.or (.nott (.call (.p 97) (.cons (.var 2) (.cons (.var 3) (.cons (.int 5) (.cons (.var 0) .nil)))))) (.call (.p 97) (.cons (.var 2) (.cons (.var 3) (.cons (.int 6) (.cons (.var 0) .nil)))))) (.cons (.ret (.bl false)) .nil) .nil) (.cons (.asg (.nm 1) (.make .book (.cons (.int 2) (.cons (.int 9) (.cons (.tup (.cons (.tup (.cons (.int 0) (.cons (.int 1) (.cons (.int 2) (.cons (.int 2) .nil))))) (.cons (.tup (.cons (.int 1) (.cons (.int 2) (.cons (.int 3) (.cons (.int 3) .nil))))) (.cons (.tup (.cons (.int 0) (.cons (.int 2) (.cons (.int 10) (.cons (.int 10) .nil))))) .nil)))) .nil))))) (.cons (.ite (.or (.cmp .ne (.call (.p 98) (.cons (.var 1) .nil)) (.int 2)) (.or (.cmp .ne (.call (.p 99) (.cons (.var 1) .nil)) (.tup (.cons (.int 3) (.cons (.int 5) .nil)))) (.nott (.call (.p 101) (.cons (.var 1) (.cons (.int 2) (.cons (.call (.p 100) (.cons (.var 1) .nil)) .nil))))))) (.cons (.ret (.bl false)) .nil) .nil) (.cons (.ret (.call (.p 101) (.cons (.var 1) (.cons (.int 2) (.cons (.tup (.cons (.tup (.cons (.str ("fact" : Str)) (.cons (.int 2) (.cons (.neg (.int 1)) .nil)))) (.cons (.tup (.cons (.str ("fact" : Str)) (.cons (.int 0) (.cons (.int 1) .nil)))) (.cons (.tup (.cons (.str ("fact" : Str)) (.cons (.int 1) (.cons (.int 1) .nil)))) .nil)))) .nil))))) .nil)))))))), false⟩
/-! _law_rounds -/
def f_law_76 : Fn := ⟨["_law_told", "_law_great"], 0, (.cons (.asg (.nm 0) (.make .round (.cons (.int 3) (.cons (.int 2) (.cons (.tup (.cons (.tup (.cons (.int 2) (.cons (.int 4) (.cons (.int 4) (.cons (.int 4) .nil))))) (.cons (.tup (.cons (.int 0) (.cons (.int 2) (.cons (.int 0) (.cons (.int 2) .nil))))) .nil))) .nil))))) (.cons (.ite (.or (.cmp .ne (.call (.p 109) (.cons (.var 0) .nil)) (.tup (.cons (.int 4) (.cons (.int 4) .nil)))) (.or (.cmp .ne (.call (.p 112) (.cons (.var 0) (.cons (.int 0) (.cons (.int 1) .nil)))) (.tup (.cons (.int 2) (.cons (.int 2) .nil)))) (.cmp .ne (.call (.p 112) (.cons (.var 0) (.cons (.int 1) (.cons (.int 4) .nil)))) (.tup (.cons (.int 4) (.cons (.int 4) .nil)))))) (.cons (.ret (.bl false)) .nil) .nil) (.cons (.ite (.or (.cmp .ne (.call (.p 110) (.cons (.var 0) (.cons (.int 4) .nil))) (.tup (.cons (.int 2) (.cons (.int 0) (.cons (.int 2) .nil))))) (.cmp .notn (.call (.p 110) (.cons (.var 0) (.cons (.int 5) .nil))) .non)) (.cons (.ret (.bl false)) .nil) .nil) (.cons (.asg (.nm 1) (.make .round (.cons (.int 4) (.cons (.bin .pow (.int 10) (.int 30)) (.cons (.tup (.cons (.tup (.cons (.int 3) (.cons (.int 5) (.cons (.bin .pow (.int 10) (.int 30)) (.cons (.bin .pow (.int 10) (.int 31)) .nil))))) (.cons (.tup (.cons (.int 1) (.cons (.int 3) (.cons (.int 0) (.cons (.int 5) .nil))))) .nil))) .nil))))) (.cons (.ite (.or (.cmp .ne (.call (.p 109) (.cons (.var 1) .nil)) (.tup (.cons (.bin .pow (.int 10) (.int 30)) (.cons (.bin .add (.bin .mul (.int 2) (.bin .pow (.int 10) (.int 30))) (.int 5)) .nil)))) (.cmp .ne (.call (.p 112) (.cons (.var 1) (.cons (.int 3) (.cons (.int 4) .nil)))) (.tup (.cons (.int 0) (.cons (.bin .pow (.int 10) (.int 30)) .nil))))) (.cons (.ret (.bl false)) .nil) .nil) (.cons (.ret (.cmp .eq (.ix (.call (.p 112) (.cons (.var 1) (.cons (.int 0) (.cons (.int 2) .nil)))) (.int 1)) (.bin .add (.bin .pow (.int 10) (.int 30)) (.int 5)))) .nil)))))), false⟩
end MP

end
section
set_option Elab.async false
set_option linter.all false
set_option maxRecDepth 100000
set_option maxHeartbeats 1000000
/-! The small Python's runs, in plain Lean. -/
namespace MP
open PySem

section
variable {T : F → Option Fn} {N n : Nat} {s : Sto} {fn : Fn} {ds : List D}
theorem callp {i : Nat} (h : T (.p i) = some fn) : callN T N (n + 1) (.p i) ds s = runFn ⟨callN T N n, N⟩ fn ds s := by
  show (match T (.p i) with | some fn => runFn ⟨callN T N n, N⟩ fn ds s | none => .st) = _
  rw [h]
theorem calll {i : Nat} (h : T (.law i) = some fn) : callN T N (n + 1) (.law i) ds s = runFn ⟨callN T N n, N⟩ fn ds s := by
  show (match T (.law i) with | some fn => runFn ⟨callN T N n, N⟩ fn ds s | none => .st) = _
  rw [h]
theorem callpr {k : Cl} {i : Nat} (h : T (.pr k i) = some fn) : callN T N (n + 1) (.pr k i) ds s = runFn ⟨callN T N n, N⟩ fn ds s := by
  show (match T (.pr k i) with | some fn => runFn ⟨callN T N n, N⟩ fn ds s | none => .st) = _
  rw [h]
theorem calllen {k : Cl} (h : T (.len k) = some fn) : callN T N (n + 1) (.len k) ds s = runFn ⟨callN T N n, N⟩ fn ds s := by
  show (match T (.len k) with | some fn => runFn ⟨callN T N n, N⟩ fn ds s | none => .st) = _
  rw [h]
theorem calleq {k : Cl} (h : T (.eq k) = some fn) : callN T N (n + 1) (.eq k) ds s = runFn ⟨callN T N n, N⟩ fn ds s := by
  show (match T (.eq k) with | some fn => runFn ⟨callN T N n, N⟩ fn ds s | none => .st) = _
  rw [h]
theorem callini {k : Cl} (h : T (.ini k) = some fn) : callN T N (n + 1) (.ini k) ds s = runIni ⟨callN T N n, N⟩ k fn ds s := by
  show (match T (.ini k) with | some fn => runIni ⟨callN T N n, N⟩ k fn ds s | none => .st) = _
  rw [h]
end
section
variable {c : Cfg} {ρ : Env} {s : Sto}
@[simp] theorem ev_var {i : Nat} {d : D} (h : ρ[i]? = some (some d)) : ev c (.var i) ρ s = .ok d s := by unfold ev; rw [h]
end
@[simp] theorem go_ite {α : Type} {p : Prop} [Decidable p] {a b : Rs α} {ρ : Env} {f : α → Sto → R} : (if p then a else b).go ρ f = if p then a.go ρ f else b.go ρ f := by split <;> rfl
theorem pow30 : binD .pow (.int 10) (.int 30) = some (.int 1000000000000000000000000000000) := rfl
theorem bT_nm {i : Nat} {d : D} {ρ : Env} : bindT (.nm i) d ρ = some (ρ.set i (some d)) := rfl
theorem bT_tup {ts : Tgs} {ds : List D} {ρ : Env} : bindT (.tp ts) (.tup ds) ρ = bindTs ts ds ρ := rfl
theorem bT_lst {ts : Tgs} {ds : List D} {ρ : Env} : bindT (.tp ts) (.lst ds) ρ = bindTs ts ds ρ := rfl
theorem bTs_nil {ρ : Env} : bindTs .nil [] ρ = some ρ := rfl
theorem bTs_cons {t : Tg} {ts : Tgs} {d : D} {ds : List D} {ρ : Env} : bindTs (.cons t ts) (d :: ds) ρ = (match bindT t d ρ with
    | some ρ' => bindTs ts ds ρ'
    | none => none) := rfl
/-! ### loops -/
theorem forL_keep {f : D → Env → Sto → R} {P : Env → Prop} {s : Sto} : ∀ {xs : List D} {ρ : Env}, (∀ x ∈ xs, ∀ ρ, P ρ → ∃ ρ', f x ρ s = .nx ρ' s ∧ P ρ') → P ρ → ∃ ρ', forL f xs ρ s = .nx ρ' s ∧ P ρ'
  | [], ρ, _, hp => ⟨ρ, rfl, hp⟩
  | x :: xs, ρ, h, hp => by
    obtain ⟨ρ1, e1, p1⟩ := h x (List.mem_cons_self ..) ρ hp
    obtain ⟨ρ2, e2, p2⟩ := forL_keep (fun y hy => h y (List.mem_cons_of_mem _ hy)) p1
    refine ⟨ρ2, ?_, p2⟩
    unfold forL
    rw [e1]
    exact e2
theorem lciL_pure {f : D → Sto → Rs (Option D)} {g : D → Option D} {s : Sto} : ∀ {xs acc : List D}, (∀ x ∈ xs, f x s = .ok (g x) s) → acc.length + xs.length ≤ lim → lciL f acc xs s = .ok (.lst (acc ++ xs.filterMap g)) s
  | [], acc, _, _ => by simp [lciL]
  | x :: xs, acc, h, hl => by
    unfold lciL
    rw [h x (List.mem_cons_self ..)]
    simp only [Rs.nox_ok, Rs.bind_ok]
    have h' : ∀ y ∈ xs, f y s = .ok (g y) s := fun y hy => h y (List.mem_cons_of_mem _ hy)
    rw [List.length_cons] at hl
    cases e : g x with
    | none =>
      simp only
      rw [lciL_pure h' (by omega), List.filterMap_cons, e]
    | some d =>
      simp only
      rw [if_pos (by omega), lciL_pure h' (by simp; omega), List.filterMap_cons, e]
      simp
theorem lcL_inv {f : D → Sto → Rs D} {P : Sto → Prop} {Q : D → Prop} : ∀ {xs acc : List D} {s : Sto}, (∀ x ∈ xs, ∀ s, P s → ∃ d s', f x s = .ok d s' ∧ P s' ∧ Q d) → P s → acc.length + xs.length ≤ lim →
    ∃ ds s', lcL f acc xs s = .ok (.lst (acc ++ ds)) s' ∧ P s' ∧ ds.length = xs.length ∧ ∀ d ∈ ds, Q d
  | [], acc, s, _, hp, _ => ⟨[], s, by simp [lcL], hp, rfl, fun d h => by cases h⟩
  | x :: xs, acc, s, h, hp, hl => by
    rw [List.length_cons] at hl
    obtain ⟨d, s1, e1, p1, q1⟩ := h x (List.mem_cons_self ..) s hp
    obtain ⟨ds, s2, e2, p2, l2, q2⟩ := lcL_inv (acc := acc ++ [d]) (fun y hy => h y (List.mem_cons_of_mem _ hy)) p1 (by simp; omega)
    refine ⟨d :: ds, s2, ?_, p2, by simp [l2], fun z hz => ?_⟩
    · unfold lcL
      rw [e1]
      simp only [Rs.nox_ok, Rs.bind_ok]
      rw [if_pos (by omega), e2]
      simp
    · rcases List.mem_cons.mp hz with rfl | hz
      · exact q1
      · exact q2 z hz
theorem enL_mem : ∀ {l : List D} {k : Nat} {x : D}, x ∈ enL k l → ∃ i d, x = .tup [.int i, d] ∧ d ∈ l
  | [], k, x, h => by cases h
  | y :: l, k, x, h => by
    unfold enL at h
    rcases List.mem_cons.mp h with rfl | h
    · exact ⟨_, y, rfl, List.mem_cons_self ..⟩
    · obtain ⟨i, d, e, hd⟩ := enL_mem h
      exact ⟨i, d, e, List.mem_cons_of_mem _ hd⟩
theorem cutL_map {α β : Type} {f : α → β} {l : List α} {lo hi : Option Int} : cutL (l.map f) lo hi = (cutL l lo hi).map f := by
  unfold cutL
  simp [List.map_drop, List.map_take]
theorem intsOf_map : ∀ {l : List Int}, intsOf (l.map D.int) = some l
  | [] => rfl
  | x :: l => by
    simp only [List.map_cons, intsOf]
    rw [intsOf_map]
/-! ### draws -/
structure Dr (s : Sto) : Prop where
  ex : ∃ st cells ix, s = [.dr st cells ix] ∧ 0 ≤ ix ∧ cells.length ≤ 63
theorem drawn_ok {st : Int} {cells : List Int} {ix b : Int} (h0 : 0 < b) (hi : 0 ≤ ix) : 0 ≤ (drawn st cells ix b).1 ∧ (drawn st cells ix b).1 < b ∧ ∃ st' cells' ix', (drawn st cells ix b).2 = .dr st' cells' ix' ∧ 0 ≤ ix' ∧ cells'.length = cells.length := by
  unfold drawn
  simp only
  generalize (cells ++ [0]).getD _ 0 = c
  by_cases hc : 1000000000000000000 ≤ c
  · simp only [if_pos hc]
    exact ⟨Int.emod_nonneg _ (by omega), Int.emod_lt_of_pos _ h0, _, _, _, rfl, hi, by rw [List.length_set]⟩
  · simp only [if_neg hc]
    exact ⟨Int.emod_nonneg _ (by omega), Int.emod_lt_of_pos _ h0, _, _, _, rfl, by omega, rfl⟩
theorem prim_next {s : Sto} (h : Dr s) {b : Int} (h0 : 0 < b) (h1 : b < 2 ^ 2000) : ∃ r s', primNext [.hnd 0, .int b] s = .ok (.int r) s' ∧ Dr s' ∧ 0 ≤ r ∧ r < b := by
  obtain ⟨st, cells, ix, rfl, hi, hl⟩ := h.ex
  have hc : 0 < b ∧ b < 2 ^ 2000 ∧ 0 ≤ ix ∧ cells.length < 1000 := ⟨h0, h1, hi, by omega⟩
  obtain ⟨d1, d2, st', cells', ix', d3, d4, d5⟩ := drawn_ok (st := st) (cells := cells) h0 hi
  refine ⟨(drawn st cells ix b).1, [(drawn st cells ix b).2], ?_, ?_, d1, d2⟩
  · show (if 0 < b ∧ b < 2 ^ 2000 ∧ 0 ≤ ix ∧ cells.length < 1000 then _ else _) = _
    rw [if_pos hc]
    rfl
  · rw [d3]
    exact ⟨⟨_, _, _, rfl, d4, by omega⟩⟩
theorem big_lt {b : Int} (h : b < 10 ^ 40) : b < 2 ^ 2000 := Int.lt_trans h (by decide +kernel)
theorem r_next {T : F → Option Fn} {N : Nat} (m : Nat) {s : Sto} (h : Dr s) {b : Int} (h0 : 0 < b) (h1 : b < 10 ^ 40) (hm : 1 ≤ m := by omega) : ∃ r s', callN T N m .next [.hnd 0, .int b] s = .ok (.int r) s' ∧ Dr s' ∧ 0 ≤ r ∧ r < b := by
  cases m with
  | zero => omega
  | succ m => exact prim_next h h0 (big_lt h1)
theorem b1_len {x : D} : b1D .len x = (lenD x).map D.int := by cases x <;> rfl
theorem r_mix {T : F → Option Fn} {N n : Nat} {ns : List Int} {seed : Int} (h : ns.length ≤ 63) : ∃ s', callN T N (n + 1) .mix [.scr ns, .int seed] [] = .ok (.hnd 0) s' ∧ Dr s' :=
  ⟨_, rfl, ⟨⟨_, _, _, rfl, by omega, h⟩⟩⟩
/-! ### books -/
abbrev F4 := Int × Int × Int × Int
def fD (f : F4) : D := .tup [.int f.1, .int f.2.1, .int f.2.2.1, .int f.2.2.2]
def okF (cells : Int) (f : F4) : Prop := 0 ≤ f.1 ∧ f.1 < f.2.1 ∧ f.2.1 ≤ cells ∧ 0 ≤ f.2.2.1 ∧ f.2.2.1 ≤ f.2.2.2 ∧ f.2.2.2 ≤ 100000000000000000000000000000000
def bookD (cells most : Int) (fs : List F4) : D := .ins .book [.tup [.int cells, .int most, .tup (fs.map fD)]]
structure Bk (T : F → Option Fn) : Prop where
  p0 : T (.p 0) = some f_p_0
  p1 : T (.p 1) = some f_p_1
  p2 : T (.p 2) = some f_p_2
  ini : T (.ini .book) = some f_ini_book
section
variable {T : F → Option Fn} {N n : Nat} {s : Sto}
theorem r_integer (h : Bk T) {i : Int} : callN T N (n + 1) (.p 0) [.int i] s = .ok (.bl true) s := by
  rw [callp h.p0]; rfl
theorem r_from (h : Bk T) {v lo hi : Int} : callN T N (n + 2) (.p 1) [.int v, .int lo, .int hi] s = .ok (.bl (decide (lo ≤ v) && decide (v ≤ hi))) s := by
  rw [callp h.p1]
  simp [runFn, runIni, start, exs, exe, ev, evs, evo, evr, cmpD, binD, ixD, slD, b1D, b2D, isaD, truD, lenD, itD, bT_nm, bT_tup, bT_lst, bTs_nil, bTs_cons, parE, at', isFresh, negD, isNon, L2.atI, L2.ixN, slotsT, slotsTs, wipeE, Rs.nox, lim, f_p_1, r_integer h]
  by_cases h1 : lo ≤ v <;> simp [h1]
theorem r_fact (h : Bk T) {f : F4} {cells : Int} (hf : okF cells f) : callN T N (n + 3) (.p 2) [fD f, .int cells] s = .ok (.bl true) s := by
  obtain ⟨h1, h2, h3, h4, h5, h6⟩ := hf
  rw [callp h.p2]
  have a1 : f.1 ≤ cells - 1 := by omega
  have a2 : f.1 + 1 ≤ f.2.1 := by omega
  have a3 : f.2.2.1 ≤ 100000000000000000000000000000000 := by omega
  simp [runFn, runIni, start, exs, exe, ev, evs, evo, evr, cmpD, binD, ixD, slD, b1D, b2D, isaD, truD, lenD, itD, bT_nm, bT_tup, bT_lst, bTs_nil, bTs_cons, parE, at', isFresh, negD, isNon, L2.atI, L2.ixN, slotsT, slotsTs, wipeE, Rs.nox, lim, f_p_2, fD, r_from h, eqD, isP, eqF, h1, h2, h3, h4, h5, h6, a1, a2, a3]
theorem r_book_l {c : Cfg} {a b : Option D} {cells most : Int} {fs : List F4} (hc : ∀ f ∈ fs, c.call (.p 2) [fD f, .int cells] s = .ok (.bl true) s) :
    ∃ a' b', exe c f_ini_book_l1 [some (.ins .book []), some (.int cells), some (.int most), some (.tup (fs.map fD)), a, b] s = .nx [some (.ins .book []), some (.int cells), some (.int most), some (.tup (fs.map fD)), a', b'] s := by
  unfold f_ini_book_l1
  simp [runFn, runIni, start, exs, exe, ev, evs, evo, evr, cmpD, binD, ixD, slD, b1D, b2D, isaD, truD, lenD, itD, bT_nm, bT_tup, bT_lst, bTs_nil, bTs_cons, parE, at', isFresh, negD, isNon, L2.atI, L2.ixN, slotsT, slotsTs, wipeE, Rs.nox, lim]
  have := forL_keep (s := s) (P := fun ρ => ∃ a b, ρ = [some (.ins .book []), some (.int cells), some (.int most), some (.tup (fs.map fD)), a, b]) (xs := enL 0 (fs.map fD)) (ρ := [some (.ins .book []), some (.int cells), some (.int most), some (.tup (fs.map fD)), a, b])
    (f := fun x ρ s => match bindT (.tp (.cons (.nm 4) (.cons (.nm 5) .nil))) x ρ with
      | some ρ' => exs c f_ini_book_b0 ρ' s
      | none => .st) (fun x hx ρ ⟨a, b, e⟩ => by
    subst e
    obtain ⟨i, d, rfl, hd⟩ := enL_mem hx
    obtain ⟨f, hf, rfl⟩ := List.mem_map.mp hd
    refine ⟨_, ?_, some (.int i), some (fD f), rfl⟩
    simp [runFn, runIni, start, exs, exe, ev, evs, evo, evr, cmpD, binD, ixD, slD, b1D, b2D, isaD, truD, lenD, itD, bT_nm, bT_tup, bT_lst, bTs_nil, bTs_cons, parE, at', isFresh, negD, isNon, L2.atI, L2.ixN, slotsT, slotsTs, wipeE, Rs.nox, lim, f_ini_book_b0, hc f hf]) ⟨a, b, rfl⟩
  obtain ⟨ρ', e1, a', b', e2⟩ := this
  subst e2
  exact ⟨a', b', e1⟩
theorem r_book (h : Bk T) {cells most : Int} {fs : List F4} (c1 : 1 ≤ cells) (c2 : cells ≤ 20) (m1 : 0 ≤ most) (m2 : most ≤ 1000000000000000000000000000000) (hl : fs.length ≤ 12) (hf : ∀ f ∈ fs, okF cells f) :
    callN T N (n + 4) (.ini .book) [.int cells, .int most, .tup (fs.map fD)] s = .ok (bookD cells most fs) s := by
  rw [callini h.ini]
  have hl' : ¬ (12 : Int) < (fs.length : Int) := by omega
  obtain ⟨a', b', e⟩ := r_book_l (s := s) (c := ⟨callN T N (n + 3), N⟩) (a := none) (b := none) (cells := cells) (most := most) (fs := fs) (fun f hx => r_fact h (hf f hx))
  simp [runFn, runIni, start, exs, exe, ev, evs, evo, evr, cmpD, binD, ixD, slD, b1D, b2D, isaD, truD, lenD, itD, bT_nm, bT_tup, bT_lst, bTs_nil, bTs_cons, parE, at', isFresh, negD, isNon, L2.atI, L2.ixN, slotsT, slotsTs, wipeE, Rs.nox, lim, f_ini_book, r_from h, c1, c2, m1, m2, hl', e]
  simp [bookD]
/-! ### properties, == -/
theorem eqL_refl {f : D → D → Bool} : ∀ {l : List D}, (∀ x ∈ l, f x x = true) → eqL f l l = true
  | [], _ => rfl
  | x :: l, h => by
    unfold eqL
    rw [h x (List.mem_cons_self ..), eqL_refl fun y hy => h y (List.mem_cons_of_mem _ hy)]
    rfl
/-- plain data of ints in tuples and lists -/
theorem eqF_refl : ∀ (n : Nat) (d : D), isP n d = true → eqF n d d = true
  | 0, d, h => by
    cases d <;> first | (simp [isP] at h; done) | (simp [eqF]; done)
  | n + 1, d, h => by
    cases d with
    | tup ds =>
      unfold isP at h
      unfold eqF
      exact eqL_refl fun x hx => eqF_refl n x (List.all_eq_true.mp h x hx)
    | lst ds =>
      unfold isP at h
      unfold eqF
      exact eqL_refl fun x hx => eqF_refl n x (List.all_eq_true.mp h x hx)
    | _ => first | (simp [isP] at h; done) | (simp [eqF]; done)
theorem eqD_refl {d : D} (h : isP 8 d = true) : eqD d d = some true := by
  unfold eqD
  rw [h, eqF_refl 8 d h]
  rfl
theorem isP_fD {k : Nat} {f : F4} : isP (k + 1) (fD f) = true := by simp [isP, fD]
theorem isP_fs {k : Nat} {fs : List F4} : isP (k + 2) (.tup (fs.map fD)) = true := by
  unfold isP
  rw [List.all_eq_true]
  intro x hx
  obtain ⟨f, _, rfl⟩ := List.mem_map.mp hx
  exact isP_fD
theorem isP_ints {k : Nat} {l : List Int} : (l.map D.int).all (isP k) = true := by
  rw [List.all_eq_true]
  intro x hx
  obtain ⟨f, _, rfl⟩ := List.mem_map.mp hx
  cases k <;> rfl
def heldD (cells most : Int) (fs : List F4) : D := .tup [.int cells, .int most, .tup (fs.map fD)]
theorem isP_held {cells most : Int} {fs : List F4} : isP 8 (heldD cells most fs) = true := by
  unfold heldD isP
  simp only [List.all_cons, List.all_nil, Bool.and_true]
  rw [show isP 7 (.tup (fs.map fD)) = true from isP_fs]
  rfl
theorem eqL_len {f : D → D → Bool} : ∀ {a b : List D}, a.length ≠ b.length → eqL f a b = false
  | [], [], h => absurd rfl h
  | [], _ :: _, _ => rfl
  | _ :: _, [], _ => rfl
  | x :: a, y :: b, h => by
    unfold eqL
    rw [eqL_len (fun e => h (by simp [e]))]
    simp
structure Bq (T : F → Option Fn) : Prop where
  c : T (.pr .book 0) = some f_pr_book_0
  m : T (.pr .book 1) = some f_pr_book_1
  f : T (.pr .book 2) = some f_pr_book_2
  l : T (.len .book) = some f_len_book
  e : T (.eq .book) = some f_eq_book
theorem r_cells (h : Bq T) {cells most : Int} {fs : List F4} : callN T N (n + 1) (.pr .book 0) [bookD cells most fs] s = .ok (.int cells) s := by
  rw [callpr h.c]; rfl
theorem r_most (h : Bq T) {cells most : Int} {fs : List F4} : callN T N (n + 1) (.pr .book 1) [bookD cells most fs] s = .ok (.int most) s := by
  rw [callpr h.m]; rfl
theorem r_facts (h : Bq T) {cells most : Int} {fs : List F4} : callN T N (n + 1) (.pr .book 2) [bookD cells most fs] s = .ok (.tup (fs.map fD)) s := by
  rw [callpr h.f]; rfl
theorem r_len (h : Bq T) {cells most : Int} {fs : List F4} : callN T N (n + 1) (.len .book) [bookD cells most fs] s = .ok (.int fs.length) s := by
  rw [calllen h.l]
  simp [runFn, runIni, start, exs, exe, ev, evs, evo, evr, cmpD, binD, ixD, slD, b1D, b2D, isaD, truD, lenD, itD, bT_nm, bT_tup, bT_lst, bTs_nil, bTs_cons, parE, at', isFresh, negD, isNon, L2.atI, L2.ixN, slotsT, slotsTs, wipeE, Rs.nox, lim, f_len_book, bookD]
theorem r_eqB (h : Bq T) {cells most cells' most' : Int} {fs fs' : List F4} : callN T N (n + 1) (.eq .book) [bookD cells most fs, bookD cells' most' fs'] s = .ok (.bl (eqF 8 (heldD cells most fs) (heldD cells' most' fs'))) s := by
  rw [calleq h.e]
  have e : eqD (heldD cells most fs) (heldD cells' most' fs') = some (eqF 8 (heldD cells most fs) (heldD cells' most' fs')) := by
    unfold eqD
    rw [isP_held, isP_held]
    rfl
  unfold heldD at e ⊢
  simp [runFn, runIni, start, exs, exe, ev, evs, evo, evr, cmpD, binD, ixD, slD, b1D, b2D, isaD, truD, lenD, itD, bT_nm, bT_tup, bT_lst, bTs_nil, bTs_cons, parE, at', isFresh, negD, isNon, L2.atI, L2.ixN, slotsT, slotsTs, wipeE, Rs.nox, lim, f_eq_book, bookD, e]
theorem r_eqT (h : Bq T) {cells most : Int} {fs : List F4} {ds : List D} : callN T N (n + 1) (.eq .book) [bookD cells most fs, .tup ds] s = .ok (.bl false) s := by
  rw [calleq h.e]
  simp [runFn, runIni, start, exs, exe, ev, evs, evo, evr, cmpD, binD, ixD, slD, b1D, b2D, isaD, truD, lenD, itD, bT_nm, bT_tup, bT_lst, bTs_nil, bTs_cons, parE, at', isFresh, negD, isNon, L2.atI, L2.ixN, slotsT, slotsTs, wipeE, Rs.nox, lim, f_eq_book, bookD]
/-! ### rows -/
def rowD (r : List Int) : D := .tup (r.map D.int)
def seg (r : List Int) (f : F4) : Int := (cutL r (some f.1) (some f.2.1)).sum
def fits (r : List Int) (f : F4) : Bool := decide (f.2.2.1 ≤ seg r f) && decide (seg r f ≤ f.2.2.2)
structure Bw (T : F → Option Fn) : Prop where
  p3 : T (.p 3) = some f_p_3
  p4 : T (.p 4) = some f_p_4
  p5 : T (.p 5) = some f_p_5
  p6 : T (.p 6) = some f_p_6
theorem r_check_book (h : Bw T) {cells most : Int} {fs : List F4} : callN T N (n + 1) (.p 3) [bookD cells most fs] s = .ok .non s := by
  rw [callp h.p3]; rfl
theorem r_check_row (h : Bw T) (hb : Bk T) {cells most : Int} {fs : List F4} {r : List Int} (hl : (r.length : Int) = cells) (hr : ∀ x ∈ r, 0 ≤ x ∧ x ≤ most) : callN T N (n + 3) (.p 4) [bookD cells most fs, rowD r] s = .ok .non s := by
  rw [callp h.p4]
  have loop : ∀ a, ∃ a', exe ⟨callN T N (n + 2), N⟩ f_p_4_l1 [some (bookD cells most fs), some (rowD r), a] s = .nx [some (bookD cells most fs), some (rowD r), a'] s := fun a => by
    unfold f_p_4_l1
    simp [runFn, runIni, start, exs, exe, ev, evs, evo, evr, cmpD, binD, ixD, slD, b1D, b2D, isaD, truD, lenD, itD, bT_nm, bT_tup, bT_lst, bTs_nil, bTs_cons, parE, at', isFresh, negD, isNon, L2.atI, L2.ixN, slotsT, slotsTs, wipeE, Rs.nox, lim, rowD]
    have := forL_keep (s := s) (P := fun ρ => ∃ a, ρ = [some (bookD cells most fs), some (rowD r), a]) (xs := r.map D.int) (ρ := [some (bookD cells most fs), some (rowD r), a])
      (f := fun x ρ s => match bindT (.nm 2) x ρ with
        | some ρ' => exs ⟨callN T N (n + 2), N⟩ f_p_4_b0 ρ' s
        | none => .st) (fun x hx ρ ⟨a, e⟩ => by
      subst e
      obtain ⟨i, hi, rfl⟩ := List.mem_map.mp hx
      obtain ⟨h1, h2⟩ := hr i hi
      refine ⟨_, ?_, some (.int i), rfl⟩
      simp [runFn, runIni, start, exs, exe, ev, evs, evo, evr, cmpD, binD, ixD, slD, b1D, b2D, isaD, truD, lenD, itD, bT_nm, bT_tup, bT_lst, bTs_nil, bTs_cons, parE, at', isFresh, negD, isNon, L2.atI, L2.ixN, slotsT, slotsTs, wipeE, Rs.nox, lim, f_p_4_b0, bookD, r_from hb, h1, h2]) ⟨a, rfl⟩
    obtain ⟨ρ', e1, a', e2⟩ := this
    subst e2
    exact ⟨a', e1⟩
  obtain ⟨a', e⟩ := loop none
  have e0 : eqD (.int cells) (.int cells) = some true := eqD_refl rfl
  simp [runFn, runIni, start, exs, exe, ev, evs, evo, evr, cmpD, binD, ixD, slD, b1D, b2D, isaD, truD, lenD, itD, bT_nm, bT_tup, bT_lst, bTs_nil, bTs_cons, parE, at', isFresh, negD, isNon, L2.atI, L2.ixN, slotsT, slotsTs, wipeE, Rs.nox, lim, f_p_4, e]
  simp [bookD, rowD, hl, e0] at e ⊢
  simp [e]
def brk (r : List Int) : Nat → List F4 → List D
  | _, [] => []
  | k, f :: fs => (if fits r f then [] else [.int k]) ++ brk r (k + 1) fs
theorem brk_len {r : List Int} : ∀ {k : Nat} {fs : List F4}, (brk r k fs).length ≤ fs.length
  | _, [] => Nat.le_refl _
  | k, f :: fs => by
    have := brk_len (r := r) (k := k + 1) (fs := fs)
    unfold brk
    split <;> simp <;> omega
theorem r_broken_l {c : Cfg} {cells most : Int} {fs0 : List F4} {r : List Int} : ∀ {fs : List F4} {k : Nat} {acc : List D} {a b e f g h : Option D}, acc.length + fs.length ≤ 1000 →
    ∃ a' b' e' f' g' h', forL (fun x ρ s => match bindT (.tp (.cons (.nm 3) (.cons (.nm 4) .nil))) x ρ with
      | some ρ' => exs c f_p_5_b0 ρ' s
      | none => .st) (enL k (fs.map fD)) [some (bookD cells most fs0), some (rowD r), some (.lst acc), a, b, e, f, g, h] s = .nx [some (bookD cells most fs0), some (rowD r), some (.lst (acc ++ brk r k fs)), a', b', e', f', g', h'] s
  | [], k, acc, a, b, e, f, g, h, _ => ⟨a, b, e, f, g, h, by simp [enL, forL, brk]⟩
  | x :: fs, k, acc, a, b, e, f, g, h, hl => by
    rw [List.length_cons] at hl
    have hs : b1D .sum (.tup (cutL (r.map D.int) (some x.1) (some x.2.1))) = some (.int (seg r x)) := by
      show (intsOf (cutL (r.map D.int) (some x.1) (some x.2.1))).map _ = _
      rw [cutL_map, intsOf_map]
      rfl
    have step : exs c f_p_5_b0 [some (bookD cells most fs0), some (rowD r), some (.lst acc), some (.int k), some (fD x), e, f, g, h] s = .nx [some (bookD cells most fs0), some (rowD r), some (.lst (acc ++ (if fits r x then [] else [.int k]))), some (.int k), some (fD x), some (.int x.1), some (.int x.2.1), some (.int x.2.2.1), some (.int x.2.2.2)] s := by
      unfold fits
      have hla : acc.length < 16777216 := by omega
      by_cases h1 : x.2.2.1 ≤ seg r x
      · by_cases h2 : seg r x ≤ x.2.2.2
        · simp [f_p_5_b0, exs, exe, ev, evo, slD, bT_nm, bT_tup, bT_lst, bTs_nil, bTs_cons, fD, rowD, hs, cmpD, truD, h1, h2]
        · simp [f_p_5_b0, exs, exe, ev, evo, slD, bT_nm, bT_tup, bT_lst, bTs_nil, bTs_cons, fD, rowD, hs, cmpD, truD, h1, h2, at', hla, lim]
      · simp [f_p_5_b0, exs, exe, ev, evo, slD, bT_nm, bT_tup, bT_lst, bTs_nil, bTs_cons, fD, rowD, hs, cmpD, truD, h1, at', hla, lim]
    obtain ⟨a', b', e', f', g', h', ih⟩ := r_broken_l (c := c) (cells := cells) (most := most) (fs0 := fs0) (r := r) (fs := fs) (k := k + 1) (acc := acc ++ (if fits r x then [] else [.int k])) (a := some (.int k)) (b := some (fD x)) (e := some (.int x.1)) (f := some (.int x.2.1)) (g := some (.int x.2.2.1)) (h := some (.int x.2.2.2)) (by split <;> simp <;> omega)
    refine ⟨a', b', e', f', g', h', ?_⟩
    rw [List.map_cons]
    unfold enL forL
    have hb : bindT (.tp (.cons (.nm 3) (.cons (.nm 4) .nil))) (.tup [.int (k : Int), fD x]) [some (bookD cells most fs0), some (rowD r), some (.lst acc), a, b, e, f, g, h] = some [some (bookD cells most fs0), some (rowD r), some (.lst acc), some (.int k), some (fD x), e, f, g, h] := rfl
    simp only [hb, step, R.bind_nx]
    rw [ih, List.append_assoc]
    rfl
theorem r_broken (h : Bw T) (hb : Bk T) {cells most : Int} {fs : List F4} {r : List Int} (hl : (r.length : Int) = cells) (hr : ∀ x ∈ r, 0 ≤ x ∧ x ≤ most) (hf : fs.length ≤ 1000) : callN T N (n + 4) (.p 6) [bookD cells most fs, rowD r] s = .ok (.lst (brk r 0 fs)) s := by
  have e5 : callN T N (n + 3) (.p 5) [bookD cells most fs, rowD r] s = .ok (.lst (brk r 0 fs)) s := by
    rw [callp h.p5]
    obtain ⟨a', b', e', f', g', h', e⟩ := r_broken_l (s := s) (c := ⟨callN T N (n + 2), N⟩) (cells := cells) (most := most) (fs0 := fs) (r := r) (fs := fs) (k := 0) (acc := []) (a := none) (b := none) (e := none) (f := none) (g := none) (h := none) (by simpa using hf)
    have el : exe ⟨callN T N (n + 2), N⟩ f_p_5_l1 [some (bookD cells most fs), some (rowD r), some (.lst []), none, none, none, none, none, none] s = .nx [some (bookD cells most fs), some (rowD r), some (.lst (brk r 0 fs)), a', b', e', f', g', h'] s := by
      unfold f_p_5_l1
      rw [exe]
      have : evr ⟨callN T N (n + 2), N⟩ (.en (.ix (.fld (.var 0) .book 0) (.int 2))) [some (bookD cells most fs), some (rowD r), some (.lst []), none, none, none, none, none, none] s = .ok (enL 0 (fs.map fD)) s := rfl
      rw [this]
      exact e
    simp [runFn, runIni, start, exs, exe, ev, evs, evo, evr, cmpD, binD, ixD, slD, b1D, b2D, isaD, truD, lenD, itD, bT_nm, bT_tup, bT_lst, bTs_nil, bTs_cons, parE, at', isFresh, negD, isNon, L2.atI, L2.ixN, slotsT, slotsTs, wipeE, Rs.nox, lim, f_p_5, el]
  rw [callp h.p6]
  simp [runFn, runIni, start, exs, exe, ev, evs, evo, evr, cmpD, binD, ixD, slD, b1D, b2D, isaD, truD, lenD, itD, bT_nm, bT_tup, bT_lst, bTs_nil, bTs_cons, parE, at', isFresh, negD, isNon, L2.atI, L2.ixN, slotsT, slotsTs, wipeE, Rs.nox, lim, f_p_6, r_check_book h, r_check_row h hb hl hr, e5]
end
end MP

end
section
set_option Elab.async false
set_option linter.all false
set_option maxRecDepth 100000
set_option maxHeartbeats 1000000
/-! Drawn books: what the laws' own helpers draw. -/
namespace MP
open PySem

theorem sum_bounds {M : Int} : ∀ {l : List Int}, (∀ x ∈ l, 0 ≤ x ∧ x ≤ M) → 0 ≤ l.sum ∧ l.sum ≤ l.length * M
  | [], _ => by simp
  | x :: l, h => by
    obtain ⟨h1, h2⟩ := sum_bounds (M := M) (l := l) fun y hy => h y (List.mem_cons_of_mem _ hy)
    obtain ⟨h3, h4⟩ := h x (List.mem_cons_self ..)
    rw [List.sum_cons, List.length_cons]
    refine ⟨by omega, ?_⟩
    have : ((l.length + 1 : Nat) : Int) * M = l.length * M + M := by rw [Int.natCast_add, Int.add_mul]; simp
    omega
theorem cutL_mem {α : Type} {l : List α} {lo hi : Option Int} {x : α} (h : x ∈ cutL l lo hi) : x ∈ l := List.mem_of_mem_drop (List.mem_of_mem_take h)
theorem cutL_len {α : Type} {l : List α} {lo hi : Option Int} : (cutL l lo hi).length ≤ l.length := by
  unfold cutL
  rw [List.length_take, List.length_drop]
  omega
theorem seg_bounds {r : List Int} {f : F4} {M : Int} (hM : 0 ≤ M) (h : ∀ x ∈ r, 0 ≤ x ∧ x ≤ M) (hl : r.length ≤ 20) : 0 ≤ seg r f ∧ seg r f ≤ 20 * M := by
  unfold seg
  obtain ⟨h1, h2⟩ := sum_bounds (M := M) (l := cutL r (some f.1) (some f.2.1)) fun x hx => h x (cutL_mem hx)
  have h3 : (cutL r (some f.1) (some f.2.1)).length ≤ 20 := Nat.le_trans cutL_len hl
  refine ⟨h1, Int.le_trans h2 (Int.mul_le_mul_of_nonneg_right (by omega) hM)⟩
theorem ex_map {α : Type} {g : α → D} {P : α → Prop} : ∀ {ds : List D}, (∀ d ∈ ds, ∃ a, d = g a ∧ P a) → ∃ l : List α, ds = l.map g ∧ ∀ a ∈ l, P a
  | [], _ => ⟨[], rfl, fun a h => by cases h⟩
  | d :: ds, h => by
    obtain ⟨a, rfl, pa⟩ := h d (List.mem_cons_self ..)
    obtain ⟨l, rfl, pl⟩ := ex_map (g := g) (P := P) fun d hd => h d (List.mem_cons_of_mem _ hd)
    exact ⟨a :: l, rfl, fun b hb => (List.mem_cons.mp hb).elim (fun e => e ▸ pa) (pl b)⟩
theorem rgD_nat {n : Int} (h0 : 0 ≤ n) (h : n < 1000000) : rgD 0 n = some ((List.range n.toNat).map fun i => .int (0 + (i : Nat))) := by
  unfold rgD
  rw [if_pos]
  · simp
  · simp; omega
section
variable {T : F → Option Fn} {N n : Nat} {s : Sto}
theorem r_stretch (h1 : T (.law 1) = some f_law_1) (hd : Dr s) {k : Int} (k1 : 1 ≤ k) (k2 : k ≤ 1000) : ∃ b e s', callN T N (n + 2) (.law 1) [.hnd 0, .int k] s = .ok (.tup [.int b, .int e]) s' ∧ Dr s' ∧ 0 ≤ b ∧ b < e ∧ e ≤ k := by
  obtain ⟨b, s1, e1, d1, b1, b2⟩ := r_next (T := T) (N := N) (n + 1) hd (b := k) (by omega) (by omega)
  obtain ⟨x, s2, e2, d2, x1, x2⟩ := r_next (T := T) (N := N) (n + 1) d1 (b := k - b) (by omega) (by omega)
  refine ⟨b, b + 1 + x, s2, ?_, d2, b1, by omega, by omega⟩
  rw [calll h1]
  simp [runFn, runIni, start, exs, exe, ev, evs, evo, evr, cmpD, binD, ixD, slD, b1D, b2D, isaD, truD, lenD, itD, bT_nm, bT_tup, bT_lst, bTs_nil, bTs_cons, parE, at', isFresh, negD, isNon, L2.atI, L2.ixN, slotsT, slotsTs, wipeE, Rs.nox, lim, f_law_1, e1, e2]
theorem r_drawfact (h1 : T (.law 1) = some f_law_1) (h2 : T (.law 2) = some f_law_2) (hd : Dr s) {r : List Int} {M loose : Int} (hM : 0 ≤ M) (hM2 : M ≤ 1000000000000000000000000000000) (hr : ∀ x ∈ r, 0 ≤ x ∧ x ≤ M) (l1 : 1 ≤ r.length) (l2 : r.length ≤ 20) (o1 : 1 ≤ loose) (o2 : loose ≤ 1000000000000000000000000000001) :
    ∃ f s', callN T N (n + 3) (.law 2) [.hnd 0, .lst (r.map D.int), .int loose] s = .ok (fD f) s' ∧ Dr s' ∧ okF r.length f := by
  obtain ⟨b, e, s1, c1, d1, b1, b2, b3⟩ := r_stretch (T := T) (N := N) (n := n) h1 hd (k := r.length) (by omega) (by omega)
  obtain ⟨x1, s2, c2, d2, y1, y2⟩ := r_next (T := T) (N := N) (n + 2) d1 (b := loose) (by omega) (by omega)
  obtain ⟨x2, s3, c3, d3, y3, y4⟩ := r_next (T := T) (N := N) (n + 2) d2 (b := loose) (by omega) (by omega)
  obtain ⟨x3, s4, c4, d4, y5, y6⟩ := r_next (T := T) (N := N) (n + 2) d3 (b := 12) (by omega) (by omega)
  obtain ⟨x4, s5, c5, d5, y7, y8⟩ := r_next (T := T) (N := N) (n + 2) d4 (b := loose) (by omega) (by omega)
  obtain ⟨g1, g2⟩ := seg_bounds (f := (b, e, 0, 0)) hM hr l2
  have hs : b1D .sum (.lst (cutL (r.map D.int) (some b) (some e))) = some (.int (seg r (b, e, 0, 0))) := by
    show (intsOf (cutL (r.map D.int) (some b) (some e))).map _ = _
    rw [cutL_map, intsOf_map]
    rfl
  obtain ⟨low, hlow⟩ : ∃ low, b2D .max (.int 0) (.int (seg r (b, e, 0, 0) - x1)) = some (.int low) ∧ 0 ≤ low ∧ low ≤ seg r (b, e, 0, 0) := by
    refine ⟨_, rfl, ?_, ?_⟩ <;> split <;> omega
  obtain ⟨hlow, hl0, hl1⟩ := hlow
  by_cases h0 : x3 = 0
  · refine ⟨(b, e, seg r (b, e, 0, 0) + x2, seg r (b, e, 0, 0) + x2 + x4), s5, ?_, d5, b1, b2, b3, ?_, ?_, ?_⟩
    · rw [calll h2]
      subst h0
      have e0 : eqD (.int 0) (.int 0) = some true := rfl
      simp [f_law_2, runFn, start, exs, exe, ev, evs, evo, slD, lenD, bT_nm, bT_tup, bT_lst, bTs_nil, bTs_cons, parE, binD, b1_len, hs, c1, c2, c3, c4, c5, hlow, cmpD, truD, e0, fD, lim]
    all_goals simp only; omega
  · refine ⟨(b, e, low, seg r (b, e, 0, 0) + x2), s4, ?_, d4, b1, b2, b3, ?_, ?_, ?_⟩
    · rw [calll h2]
      have e0 : eqD (.int x3) (.int 0) = some false := by
        unfold eqD
        simp [isP, eqF, h0]
      simp [f_law_2, runFn, start, exs, exe, ev, evs, evo, slD, lenD, bT_nm, bT_tup, bT_lst, bTs_nil, bTs_cons, parE, binD, b1_len, hs, c1, c2, c3, c4, c5, hlow, cmpD, truD, e0, fD, lim]
    all_goals simp only; omega
theorem rows_of {c : Cfg} {e : E} {ρ : Env} {i : Nat} {k : Int} {P : D → Prop} (hd : Dr s) (k0 : 0 ≤ k) (k1 : k < 1000000) (h : ∀ x s, Dr s → ∃ d s', ev c e ((wipeE ρ [i]).set i (some x)) s = .ok d s' ∧ Dr s' ∧ P d) {r : Sr} (hr : evr c r ρ s = .ok ((List.range k.toNat).map fun i => .int (0 + (i : Nat))) s) :
    ∃ ds s', ev c (.lc e (.nm i) r) ρ s = .ok (.lst ds) s' ∧ Dr s' ∧ (ds.length : Int) = k ∧ ∀ d ∈ ds, P d := by
  obtain ⟨ds, s', e1, d1, l1, p1⟩ := lcL_inv (f := fun x s => match bindT (.nm i) x (wipeE ρ (slotsT (.nm i))) with
    | some ρ' => ev c e ρ' s
    | none => .st) (P := Dr) (Q := P) (xs := (List.range k.toNat).map fun i => .int (0 + (i : Nat))) (acc := []) (s := s) (fun x _ s hs => h x s hs) hd (by simp [lim]; omega)
  refine ⟨ds, s', ?_, d1, by rw [l1]; simp; omega, p1⟩
  rw [ev, hr]
  exact e1
structure Ld (T : F → Option Fn) : Prop where
  l1 : T (.law 1) = some f_law_1
  l2 : T (.law 2) = some f_law_2
  l3 : T (.law 3) = some f_law_3
/-- a drawn book -/
theorem r_drawbook (h : Ld T) (hd : Dr s) {c0 m0 w0 : Int} (c1 : 1 ≤ c0) (c2 : c0 ≤ 20) (m1 : 0 ≤ m0) (m2 : m0 ≤ 1000000000000000000000000000000) (w1 : 0 ≤ w0) (w2 : w0 ≤ 12) :
    ∃ (cells most : Int) (fs : List F4) (s' : Sto), callN T N (n + 4) (.law 3) [.hnd 0, .int c0, .int m0, .int w0] s = .ok (.lst [.int cells, .int most, .tup (fs.map fD)]) s' ∧ Dr s' ∧ 1 ≤ cells ∧ cells ≤ c0 ∧ 0 ≤ most ∧ most ≤ m0 ∧ (fs.length : Int) ≤ w0 ∧ ∀ f ∈ fs, okF cells f := by
  obtain ⟨x1, s1, e1, d1, y1, y2⟩ := r_next (T := T) (N := N) (n + 3) hd (b := c0) (by omega) (by omega)
  obtain ⟨x2, s2, e2, d2, y3, y4⟩ := r_next (T := T) (N := N) (n + 3) d1 (b := m0 + 1) (by omega) (by omega)
  obtain ⟨rows, s3, e3, d3, l3, p3⟩ := rows_of (c := ⟨callN T N (n + 3), N⟩) (e := .call .next (.cons (.var 0) (.cons (.bin .add (.var 2) (.int 1)) .nil))) (ρ := [some (.hnd 0), some (.int (1 + x1)), some (.int x2), some (.int w0), none, none, none, none]) (i := 7) (k := 1 + x1) (P := fun d => ∃ a, d = D.int a ∧ 0 ≤ a ∧ a ≤ x2) d2 (by omega) (by omega)
    (fun x s hs => by
      obtain ⟨a, s', e, d', a1, a2⟩ := r_next (T := T) (N := N) (n + 3) hs (b := x2 + 1) (by omega) (by omega)
      refine ⟨.int a, s', ?_, d', a, rfl, a1, by omega⟩
      simp [runFn, runIni, start, exs, exe, ev, evs, evo, evr, cmpD, binD, ixD, slD, b1D, b2D, isaD, truD, lenD, itD, bT_nm, bT_tup, bT_lst, bTs_nil, bTs_cons, parE, at', isFresh, negD, isNon, L2.atI, L2.ixN, slotsT, slotsTs, wipeE, Rs.nox, lim, e]) (r := .rg1 (.var 1)) (by
      simp [runFn, runIni, start, exs, exe, ev, evs, evo, evr, cmpD, binD, ixD, slD, b1D, b2D, isaD, truD, lenD, itD, bT_nm, bT_tup, bT_lst, bTs_nil, bTs_cons, parE, at', isFresh, negD, isNon, L2.atI, L2.ixN, slotsT, slotsTs, wipeE, Rs.nox, lim, rgD_nat (n := 1 + x1) (by omega) (by omega)])
  obtain ⟨r, rfl, hr⟩ := ex_map (g := D.int) p3
  rw [List.length_map] at l3
  obtain ⟨x4, s4, e4, d4, y5, y6⟩ := r_next (T := T) (N := N) (n + 3) d3 (b := 4) (by omega) (by omega)
  obtain ⟨loose, hlo⟩ : ∃ loose : Int, ixD (.lst [.int 1, .int 2, .int 2, .int (1 + x2)]) (.int x4) = some (.int loose) ∧ 1 ≤ loose ∧ loose ≤ 1000000000000000000000000000001 := by
    have : x4 = 0 ∨ x4 = 1 ∨ x4 = 2 ∨ x4 = 3 := by omega
    rcases this with rfl | rfl | rfl | rfl
    · exact ⟨1, rfl, by omega, by omega⟩
    · exact ⟨2, rfl, by omega, by omega⟩
    · exact ⟨2, rfl, by omega, by omega⟩
    · exact ⟨1 + x2, rfl, by omega, by omega⟩
  obtain ⟨hlo, lo1, lo2⟩ := hlo
  obtain ⟨x5, s5, e5, d5, y7, y8⟩ := r_next (T := T) (N := N) (n + 3) d4 (b := w0 + 1) (by omega) (by omega)
  obtain ⟨fds, s6, e6, d6, l6, p6⟩ := rows_of (s := s5) (c := ⟨callN T N (n + 3), N⟩) (e := .call (.law 2) (.cons (.var 0) (.cons (.var 4) (.cons (.var 5) .nil)))) (ρ := [some (.hnd 0), some (.int (1 + x1)), some (.int x2), some (.int w0), some (.lst (r.map D.int)), some (.int loose), none, none]) (i := 7) (k := x5) (P := fun d => ∃ f, d = fD f ∧ okF (1 + x1) f) d5 (by omega) (by omega)
    (fun x s hs => by
      obtain ⟨f, s', e, d', hf⟩ := r_drawfact (T := T) (N := N) (n := n) h.l1 h.l2 hs (r := r) (M := x2) (loose := loose) (by omega) (by omega) hr (by omega) (by omega) lo1 lo2
      refine ⟨fD f, s', ?_, d', f, rfl, by rw [← l3]; exact hf⟩
      simp [runFn, runIni, start, exs, exe, ev, evs, evo, evr, cmpD, binD, ixD, slD, b1D, b2D, isaD, truD, lenD, itD, bT_nm, bT_tup, bT_lst, bTs_nil, bTs_cons, parE, at', isFresh, negD, isNon, L2.atI, L2.ixN, slotsT, slotsTs, wipeE, Rs.nox, lim, e]) (r := .rg1 (.int x5)) (by
      simp [runFn, runIni, start, exs, exe, ev, evs, evo, evr, cmpD, binD, ixD, slD, b1D, b2D, isaD, truD, lenD, itD, bT_nm, bT_tup, bT_lst, bTs_nil, bTs_cons, parE, at', isFresh, negD, isNon, L2.atI, L2.ixN, slotsT, slotsTs, wipeE, Rs.nox, lim, rgD_nat (n := x5) (by omega) (by omega)])
  obtain ⟨fs, rfl, hf⟩ := ex_map (g := fD) p6
  rw [List.length_map] at l6
  have e6' : ev ⟨callN T N (n + 3), N⟩ f_law_3_c1 [some (.hnd 0), some (.int (1 + x1)), some (.int x2), some (.int w0), some (.lst (r.map D.int)), some (.int loose), none, none] s4 = .ok (.lst (fs.map fD)) s6 := by
    have : evr ⟨callN T N (n + 3), N⟩ (.rg1 (.call .next (.cons (.var 0) (.cons (.bin .add (.var 3) (.int 1)) .nil)))) [some (.hnd 0), some (.int (1 + x1)), some (.int x2), some (.int w0), some (.lst (r.map D.int)), some (.int loose), none, none] s4 = evr ⟨callN T N (n + 3), N⟩ (.rg1 (.int x5)) [some (.hnd 0), some (.int (1 + x1)), some (.int x2), some (.int w0), some (.lst (r.map D.int)), some (.int loose), none, none] s5 := by
      simp [runFn, runIni, start, exs, exe, ev, evs, evo, evr, cmpD, binD, ixD, slD, b1D, b2D, isaD, truD, lenD, itD, bT_nm, bT_tup, bT_lst, bTs_nil, bTs_cons, parE, at', isFresh, negD, isNon, L2.atI, L2.ixN, slotsT, slotsTs, wipeE, Rs.nox, lim, e5]
    unfold f_law_3_c1
    rw [ev] at e6 ⊢
    rw [this]
    exact e6
  have e3' : ev ⟨callN T N (n + 3), N⟩ f_law_3_c0 [some (.hnd 0), some (.int (1 + x1)), some (.int x2), some (.int w0), none, none, none, none] s2 = .ok (.lst (r.map D.int)) s3 := e3
  refine ⟨1 + x1, x2, fs, s6, ?_, d6, by omega, by omega, y3, by omega, by omega, hf⟩
  rw [calll h.l3]
  simp [f_law_3, runFn, start, exs, exe, ev, evs, bT_nm, bT_tup, bTs_nil, bTs_cons, binD, e1, e2, e3', e4, hlo, e6', lim, b1D]
theorem r_holds (h4 : T (.law 4) = some f_law_4) {r : List Int} {f : F4} : callN T N (n + 1) (.law 4) [rowD r, fD f] s = .ok (.bl (fits r f)) s := by
  rw [calll h4]
  have hs : b1D .sum (.tup (cutL (r.map D.int) (some f.1) (some f.2.1))) = some (.int (seg r f)) := by
    show (intsOf (cutL (r.map D.int) (some f.1) (some f.2.1))).map _ = _
    rw [cutL_map, intsOf_map]
    rfl
  unfold fits
  by_cases h1 : f.2.2.1 ≤ seg r f <;> simp [f_law_4, runFn, start, exs, exe, ev, evo, ixD, slD, L2.atI, L2.ixN, fD, rowD, hs, cmpD, h1]
end
end MP

end
section
set_option Elab.async false
set_option linter.all false
set_option maxRecDepth 100000
set_option maxHeartbeats 2000000
namespace K01
open PySem PySem.Spec PyProof.Rows L2 MP
def topS (i : Nat) : Stmt := PySem.Challenge.pw_stretchtold_k01_whole_rows_judged.main.body.getD i (.Pass ⟨0, 0, 0, 0⟩)
def inS (i j : Nat) : Stmt := match topS i with
  | .ClassDef (body := b) .. => b.getD j (.Pass ⟨0, 0, 0, 0⟩)
  | _ => .Pass ⟨0, 0, 0, 0⟩
/-- is_integer -/
def d_p_0 : Dd := ⟨.p 0, "is_integer", f_p_0, ⟨("", none), "is_integer", "is_integer", defArgs (topS 12), defBody (topS 12), defScope (topS 12), [], []⟩⟩
/-- is_from -/
def d_p_1 : Dd := ⟨.p 1, "is_from", f_p_1, ⟨("", none), "is_from", "is_from", defArgs (topS 13), defBody (topS 13), defScope (topS 13), [], []⟩⟩
/-- is_fact -/
def d_p_2 : Dd := ⟨.p 2, "is_fact", f_p_2, ⟨("", none), "is_fact", "is_fact", defArgs (topS 14), defBody (topS 14), defScope (topS 14), [], []⟩⟩
/-- Book.__init__ -/
def d_ini_book : Dd := ⟨.ini .book, "__init__", f_ini_book, ⟨("", none), "__init__", "Book.__init__", defArgs (inS 15 0), defBody (inS 15 0), defScope (inS 15 0), [], []⟩⟩
/-- Book.cells -/
def d_pr_book_0 : Dd := ⟨.pr .book 0, "cells", f_pr_book_0, ⟨("", none), "cells", "Book.cells", defArgs (inS 15 1), defBody (inS 15 1), defScope (inS 15 1), [], []⟩⟩
/-- Book.most -/
def d_pr_book_1 : Dd := ⟨.pr .book 1, "most", f_pr_book_1, ⟨("", none), "most", "Book.most", defArgs (inS 15 2), defBody (inS 15 2), defScope (inS 15 2), [], []⟩⟩
/-- Book.facts -/
def d_pr_book_2 : Dd := ⟨.pr .book 2, "facts", f_pr_book_2, ⟨("", none), "facts", "Book.facts", defArgs (inS 15 3), defBody (inS 15 3), defScope (inS 15 3), [], []⟩⟩
/-- Book.__len__ -/
def d_len_book : Dd := ⟨.len .book, "__len__", f_len_book, ⟨("", none), "__len__", "Book.__len__", defArgs (inS 15 4), defBody (inS 15 4), defScope (inS 15 4), [], []⟩⟩
/-- Book.__eq__ -/
def d_eq_book : Dd := ⟨.eq .book, "__eq__", f_eq_book, ⟨("", none), "__eq__", "Book.__eq__", defArgs (inS 15 5), defBody (inS 15 5), defScope (inS 15 5), [], []⟩⟩
/-- check_book -/
def d_p_3 : Dd := ⟨.p 3, "check_book", f_p_3, ⟨("", none), "check_book", "check_book", defArgs (topS 16), defBody (topS 16), defScope (topS 16), [], []⟩⟩
/-- check_row -/
def d_p_4 : Dd := ⟨.p 4, "check_row", f_p_4, ⟨("", none), "check_row", "check_row", defArgs (topS 17), defBody (topS 17), defScope (topS 17), [], []⟩⟩
/-- broken_by -/
def d_p_5 : Dd := ⟨.p 5, "broken_by", f_p_5, ⟨("", none), "broken_by", "broken_by", defArgs (topS 18), defBody (topS 18), defScope (topS 18), [], []⟩⟩
/-- broken -/
def d_p_6 : Dd := ⟨.p 6, "broken", f_p_6, ⟨("", none), "broken", "broken", defArgs (topS 19), defBody (topS 19), defScope (topS 19), [], []⟩⟩
/-- _law_mix -/
def d_mix : Dd := ⟨.mix, "_law_mix", f_mix, ⟨("", none), "_law_mix", "_law_mix", defArgs (topS 21), defBody (topS 21), defScope (topS 21), [], []⟩⟩
/-- _law_next -/
def d_next : Dd := ⟨.next, "_law_next", f_next, ⟨("", none), "_law_next", "_law_next", defArgs (topS 22), defBody (topS 22), defScope (topS 22), [], []⟩⟩
/-- _law_stretch -/
def d_law_1 : Dd := ⟨.law 1, "_law_stretch", f_law_1, ⟨("", none), "_law_stretch", "_law_stretch", defArgs (topS 23), defBody (topS 23), defScope (topS 23), [], []⟩⟩
/-- _law_fact -/
def d_law_2 : Dd := ⟨.law 2, "_law_fact", f_law_2, ⟨("", none), "_law_fact", "_law_fact", defArgs (topS 24), defBody (topS 24), defScope (topS 24), [], []⟩⟩
/-- _law_book -/
def d_law_3 : Dd := ⟨.law 3, "_law_book", f_law_3, ⟨("", none), "_law_book", "_law_book", defArgs (topS 25), defBody (topS 25), defScope (topS 25), [], []⟩⟩
/-- _law_holds -/
def d_law_4 : Dd := ⟨.law 4, "_law_holds", f_law_4, ⟨("", none), "_law_holds", "_law_holds", defArgs (topS 26), defBody (topS 26), defScope (topS 26), [], []⟩⟩
/-- _law_all -/
def d_law_5 : Dd := ⟨.law 5, "_law_all", f_law_5, ⟨("", none), "_law_all", "_law_all", defArgs (topS 27), defBody (topS 27), defScope (topS 27), [], []⟩⟩
/-- _law_fitting -/
def d_law_6 : Dd := ⟨.law 6, "_law_fitting", f_law_6, ⟨("", none), "_law_fitting", "_law_fitting", defArgs (topS 28), defBody (topS 28), defScope (topS 28), [], []⟩⟩
/-- law -/
def d_law_0 : Dd := ⟨.law 0, "law", f_law_0, ⟨("", none), "law", "law", defArgs (topS 29), defBody (topS 29), defScope (topS 29), [], []⟩⟩
def tx : Tx := ⟨[.book], [d_p_0, d_p_1, d_p_2, d_ini_book, d_pr_book_0, d_pr_book_1, d_pr_book_2, d_len_book, d_eq_book, d_p_3, d_p_4, d_p_5, d_p_6, d_mix, d_next, d_law_1, d_law_2, d_law_3, d_law_4, d_law_5, d_law_6, d_law_0], [("MOST_CELLS", .int 20), ("MOST_IN_CELL", .int 1000000000000000000000000000000), ("MOST_FACTS", .int 12), ("MOST_TOLD", .int 100000000000000000000000000000000)]⟩
theorem ok_tx : tx.ok = true := by decide +kernel
def loose0 : List Str := ["CountError", "BadCells", "BadMost", "BadFacts", "BadBook", "BadRow", "MOST_CELLS", "MOST_IN_CELL", "MOST_FACTS", "MOST_TOLD", "is_integer", "is_from", "is_fact", "Book", "check_book", "check_row", "broken_by", "broken", "_law_mix", "_law_next", "_law_stretch", "_law_fact", "_law_book", "_law_holds", "_law_all", "_law_fitting"]
def loose : List Str := loose0
abbrev R : PySem.W.OpenRow := PySem.W.OpenLaw.row PySem.Challenge.rw_stretchtold_k01_whole_rows_judged
abbrev hk : PySem.W.Hook := tx.hook 6
def ob (s : PySem.W.SharedT) : He.Al := tx.obsG 6 (HandSHeadRun.getT s)
theorem ob_eq (s : PySem.W.SharedT) : ob s = hk.obs s.abs := Tx.obsG_eq (HandSHeadRun.getT_eq s)
theorem run (w : World) : HandSHeadRun.RunEq R (PySem.W.view R.prog [29]) hk ob 6000 loose w := by
  intro os
  kernel_rfl
def mixP : List Pos := [⟨84, 4, 84, 14⟩, ⟨84, 17, 84, 26⟩, ⟨84, 4, 84, 26⟩, ⟨85, 8, 85, 17⟩, ⟨85, 21, 85, 32⟩, ⟨86, 8, 86, 18⟩, ⟨86, 21, 86, 24⟩, ⟨86, 25, 86, 35⟩, ⟨86, 38, 86, 43⟩, ⟨86, 25, 86, 43⟩, ⟨86, 46, 86, 49⟩, ⟨86, 50, 86, 59⟩, ⟨86, 46, 86, 60⟩, ⟨86, 63, 86, 73⟩, ⟨86, 46, 86, 73⟩, ⟨86, 25, 86, 73⟩, ⟨86, 76, 86, 77⟩, ⟨86, 25, 86, 77⟩, ⟨86, 21, 86, 78⟩, ⟨86, 81, 86, 91⟩, ⟨86, 21, 86, 91⟩, ⟨86, 8, 86, 91⟩, ⟨85, 4, 86, 91⟩, ⟨87, 12, 87, 22⟩, ⟨87, 24, 87, 28⟩, ⟨87, 29, 87, 40⟩, ⟨87, 24, 87, 41⟩, ⟨87, 43, 87, 44⟩, ⟨87, 11, 87, 45⟩, ⟨87, 4, 87, 45⟩]
theorem hmix : ∀ dm, tx.find .mix = some dm → ∃ p, dm.d.body = mixBody p ∧ dm.d.scope = mixScope ∧ dm.d.dfl = [] ∧ dm.d.kwd = [] ∧ dm.fn.names.take dm.fn.pars = (["_law_script", "_law_seed"] : List Str) := fun dm e => by
  cases e
  exact ⟨fun i => mixP.getD i ⟨0, 0, 0, 0⟩, rfl, rfl, rfl, rfl, rfl⟩
def nextP : List Pos := [⟨89, 4, 89, 13⟩, ⟨89, 17, 89, 23⟩, ⟨89, 24, 89, 25⟩, ⟨89, 17, 89, 26⟩, ⟨89, 30, 89, 31⟩, ⟨89, 29, 89, 32⟩, ⟨89, 17, 89, 32⟩, ⟨89, 34, 89, 37⟩, ⟨89, 38, 89, 44⟩, ⟨89, 45, 89, 46⟩, ⟨89, 38, 89, 47⟩, ⟨89, 34, 89, 48⟩, ⟨89, 51, 89, 54⟩, ⟨89, 55, 89, 56⟩, ⟨89, 58, 89, 61⟩, ⟨89, 62, 89, 68⟩, ⟨89, 69, 89, 70⟩, ⟨89, 62, 89, 71⟩, ⟨89, 58, 89, 72⟩, ⟨89, 51, 89, 73⟩, ⟨89, 34, 89, 73⟩, ⟨89, 16, 89, 74⟩, ⟨89, 4, 89, 74⟩, ⟨90, 7, 90, 16⟩, ⟨90, 20, 90, 22⟩, ⟨90, 26, 90, 28⟩, ⟨90, 20, 90, 28⟩, ⟨90, 7, 90, 28⟩, ⟨91, 8, 91, 18⟩, ⟨91, 21, 91, 27⟩, ⟨91, 28, 91, 29⟩, ⟨91, 21, 91, 30⟩, ⟨91, 8, 91, 30⟩, ⟨92, 8, 92, 18⟩, ⟨92, 19, 92, 22⟩, ⟨92, 23, 92, 29⟩, ⟨92, 30, 92, 31⟩, ⟨92, 23, 92, 32⟩, ⟨92, 19, 92, 33⟩, ⟨92, 36, 92, 39⟩, ⟨92, 40, 92, 50⟩, ⟨92, 36, 92, 51⟩, ⟨92, 19, 92, 51⟩, ⟨92, 8, 92, 52⟩, ⟨92, 55, 92, 64⟩, ⟨92, 68, 92, 78⟩, ⟨92, 55, 92, 78⟩, ⟨92, 8, 92, 78⟩, ⟨93, 15, 93, 18⟩, ⟨93, 19, 93, 28⟩, ⟨93, 15, 93, 29⟩, ⟨93, 32, 93, 42⟩, ⟨93, 15, 93, 42⟩, ⟨93, 8, 93, 42⟩, ⟨90, 4, 93, 42⟩, ⟨94, 4, 94, 10⟩, ⟨94, 11, 94, 12⟩, ⟨94, 4, 94, 13⟩, ⟨94, 16, 94, 19⟩, ⟨94, 20, 94, 26⟩, ⟨94, 27, 94, 28⟩, ⟨94, 20, 94, 29⟩, ⟨94, 32, 94, 37⟩, ⟨94, 20, 94, 37⟩, ⟨94, 40, 94, 49⟩, ⟨94, 52, 94, 57⟩, ⟨94, 40, 94, 57⟩, ⟨94, 20, 94, 57⟩, ⟨94, 60, 94, 62⟩, ⟨94, 20, 94, 62⟩, ⟨94, 16, 94, 63⟩, ⟨94, 66, 94, 76⟩, ⟨94, 16, 94, 76⟩, ⟨94, 4, 94, 76⟩, ⟨95, 4, 95, 10⟩, ⟨95, 11, 95, 12⟩, ⟨95, 4, 95, 13⟩, ⟨95, 16, 95, 22⟩, ⟨95, 23, 95, 24⟩, ⟨95, 16, 95, 25⟩, ⟨95, 28, 95, 29⟩, ⟨95, 16, 95, 29⟩, ⟨95, 4, 95, 29⟩, ⟨96, 11, 96, 14⟩, ⟨96, 15, 96, 21⟩, ⟨96, 22, 96, 23⟩, ⟨96, 15, 96, 24⟩, ⟨96, 28, 96, 29⟩, ⟨96, 15, 96, 29⟩, ⟨96, 11, 96, 30⟩, ⟨96, 33, 96, 43⟩, ⟨96, 11, 96, 43⟩, ⟨96, 4, 96, 43⟩]
theorem hnext : ∀ dm, tx.find .next = some dm → ∃ p, dm.d.body = nextBody p ∧ dm.d.scope = nextScope ∧ dm.d.dfl = [] ∧ dm.d.kwd = [] ∧ dm.fn.names.take dm.fn.pars = (["_law_h", "_law_bound"] : List Str) := fun dm e => by
  cases e
  exact ⟨fun i => nextP.getD i ⟨0, 0, 0, 0⟩, rfl, rfl, rfl, rfl, rfl⟩
end K01
open PySem PySem.W PySem.Calls PyProof.Rows
theorem K01.holds_of (hlaw : ∀ ns : List Int, ns.length ≤ 63 → ∃ N s', MP.callN K01.tx.T N (11 + 1) (.law 0) [.scr ns] [] = .ok (.bl true) s') : PySem.Challenge.rw_stretchtold_k01_whole_rows_judged.Holds := by
  w_on; o_law
  refine HandSHeadRun.head_any (r := OpenLaw.row PySem.Challenge.rw_stretchtold_k01_whole_rows_judged) (q := view (OpenLaw.row PySem.Challenge.rw_stretchtold_k01_whole_rows_judged).prog [29]) (H := K01.hk) (ob := K01.ob) (M := 6000) (loose := K01.loose) (d := HandSHeadRun.topDef (OpenLaw.row PySem.Challenge.rw_stretchtold_k01_whole_rows_judged).prog 29) (kwd := []) K01.ob_eq
    (by kernel_rfl) (fun s => by kernel_rfl) K01.run (by kernel_rfl) (by kernel_rfl) (by kernel_rfl) (by rfl) (by first | assumption | decide +kernel) (by decide +kernel) ⟨rfl, rfl, rfl, rfl, rfl, by decide +kernel⟩ ?hw ?hc
  case hw => w_witness2
  case hc =>
    exact MP.walk_mp (l := PySem.Challenge.rw_stretchtold_k01_whole_rows_judged) (n := 11) (dl := K01.d_law_0) (x := "_law_script") rfl (by kernel_rfl) ⟨rfl, by decide, by decide⟩ (by kernel_rfl) K01.ok_tx K01.hmix K01.hnext rfl rfl rfl rfl hlaw
namespace K01
end K01

end
section
set_option Elab.async false
set_option linter.all false
set_option maxRecDepth 100000
set_option maxHeartbeats 1000000
/-! k01: rows judged. -/
namespace MP
open PySem
theorem cut1 {α : Type} (l : List α) : cutL l (some 1) none = l.drop 1 := by
  unfold cutL
  rw [show HT.sIx l.length 0 (some 1) = min 1 l.length from HT.sIx_nat l.length 0 1, HT.sIx_none]
  cases l with
  | nil => rfl
  | cons x r =>
    rw [show min 1 (x :: r).length = 1 by rw [List.length_cons]; omega]
    show List.take ((x :: r).length - 1) r = r
    rw [List.length_cons, Nat.add_sub_cancel]
    exact List.take_length
theorem evr_rg1 {c : Cfg} {e : E} {ρ : Env} {s s' : Sto} {k : Int} (h : ev c e ρ s = .ok (.int k) s') (k0 : 0 ≤ k) (k1 : k < 1000000) : evr c (.rg1 e) ρ s = .ok ((List.range k.toNat).map fun i => .int (0 + (i : Nat))) s' := by
  rw [evr, h]
  simp only [Rs.bind_ok]
  rw [rgD_nat k0 k1]
  simp only [Rs.opt_some]
theorem last_stmt {c : Cfg} {ρ : Env} {s : Sto} {l : List D} {e : E} (hv : ρ[5]? = some (some (.lst l))) (he : ev c e ρ s = .ok (.lst l) s) (ht : eqD (.lst l) (.lst l) = some true) : exe c (.ret (.and (.cmp .eq (.var 5) e) (.isa (.var 5) .list))) ρ s = .rt (.bl true) s := by
  simp [exe, ev, hv, he, cmpD, ht, isaD]
theorem brk_isP {r : List Int} : ∀ {k : Nat} {fs : List F4}, (brk r k fs).all (isP 7) = true
  | _, [] => rfl
  | k, f :: fs => by
    unfold brk
    rw [List.all_append, brk_isP]
    split <;> rfl
/-- the broken ones by their places -/
theorem brk_range {r : List Int} : ∀ {fs : List F4} {k : Nat}, brk r k fs = (List.range fs.length).filterMap fun i => match fs[i]? with
    | some f => if fits r f then none else some (D.int ((k + i : Nat) : Int))
    | none => none
  | [], k => rfl
  | f :: fs, k => by
    unfold brk
    rw [brk_range (fs := fs) (k := k + 1), List.length_cons, List.range_succ_eq_map, List.filterMap_cons, List.filterMap_map]
    have : (fun i => match fs[i]? with
        | some f => if fits r f then none else some (D.int ((k + 1 + i : Nat) : Int))
        | none => none) = ((fun i => match (f :: fs)[i]? with
        | some f => if fits r f then none else some (D.int ((k + i : Nat) : Int))
        | none => none) ∘ Nat.succ) := by
      funext i
      simp only [Function.comp, List.getElem?_cons_succ, Nat.succ_eq_add_one]
      rw [show k + 1 + i = k + (i + 1) by omega]
    rw [← this]
    simp only [List.getElem?_cons_zero, Nat.add_zero]
    split <;> rfl
theorem exs_nx {c : Cfg} {st : S} {r : Ss} {ρ ρ' : Env} {s s' : Sto} (h : exe c st ρ s = .nx ρ' s') {x : R} (k : exs c r ρ' s' = x) : exs c (.cons st r) ρ s = x := by
  rw [exs, h]
  exact k
theorem exs_rt {c : Cfg} {st : S} {r : Ss} {ρ : Env} {s s' : Sto} {d : D} (h : exe c st ρ s = .rt d s') : exs c (.cons st r) ρ s = .rt d s' := by
  rw [exs, h]
  rfl
theorem runFn_rt {c : Cfg} {fn : Fn} {ds : List D} {s s' : Sto} {d : D} (hl : ds.length = fn.pars) (h : exs c fn.body (start fn ds) s = .rt d s') : runFn c fn ds s = .ok d s' := by
  unfold runFn
  rw [if_pos hl, h]
theorem ite_nx {c : Cfg} {t : E} {a : Ss} {ρ : Env} {s : Sto} (h : ev c t ρ s = .ok (.bl false) s) : exe c (.ite t a .nil) ρ s = .nx ρ s := by
  rw [exe, h]
  simp [truD, exs]
end MP
namespace K01
open PySem MP
theorem eqF_book {c m c' m' : Int} {fs fs' : List F4} (h : m ≠ m' ∨ fs.length ≠ fs'.length) : eqF 8 (heldD c m fs) (heldD c' m' fs') = false := by
  unfold heldD
  simp only [eqF, eqL, Bool.and_true]
  rcases h with h | h
  · have : (m == m') = false := by simpa using h
    rw [this]; simp
  · rw [eqL_len (by simpa using h)]; simp
theorem law_c1 {T : F → Option Fn} {n N : Nat} (l4 : T (.law 4) = some f_law_4) {ns r : List Int} {cells most : Int} {fs : List F4} {B : D} {s4 : Sto} (hl12 : fs.length ≤ 12) : ev ⟨callN T N (n + 11), N⟩ f_law_0_c1 [some (.scr ns), some (.hnd 0), some (.lst [.int cells, .int most, .tup (fs.map fD)]), some B, some (rowD r), some (.lst (brk r 0 fs)), none] s4 = .ok (.lst (brk r 0 fs)) s4 := by
  unfold f_law_0_c1
  rw [ev]
  have er : evr ⟨callN T N (n + 11), N⟩ (.rg1 (.b1 .len (.ix (.var 2) (.int 2)))) [some (.scr ns), some (.hnd 0), some (.lst [.int cells, .int most, .tup (fs.map fD)]), some B, some (rowD r), some (.lst (brk r 0 fs)), none] s4 = .ok ((List.range fs.length).map fun i => .int (0 + (i : Nat))) s4 := by
    have el : ev ⟨callN T N (n + 11), N⟩ (.b1 .len (.ix (.var 2) (.int 2))) [some (.scr ns), some (.hnd 0), some (.lst [.int cells, .int most, .tup (fs.map fD)]), some B, some (rowD r), some (.lst (brk r 0 fs)), none] s4 = .ok (.int fs.length) s4 := by
      have h1 : ev ⟨callN T N (n + 11), N⟩ (.ix (.var 2) (.int 2)) [some (.scr ns), some (.hnd 0), some (.lst [.int cells, .int most, .tup (fs.map fD)]), some B, some (rowD r), some (.lst (brk r 0 fs)), none] s4 = .ok (.tup (fs.map fD)) s4 := rfl
      rw [ev, h1]
      show Rs.ok (D.int ((fs.map fD).length : Int)) s4 = _
      rw [List.length_map]
    have := evr_rg1 el (by omega) (by omega)
    rw [Int.toNat_natCast] at this
    exact this
  rw [er]
  simp only [Rs.bind_ok]
  rw [lciL_pure (g := fun x => match x with
    | .int i => (match fs[i.toNat]? with
      | some f => if fits r f then none else some (.int i)
      | none => none)
    | _ => none)]
  · rw [brk_range, List.nil_append, List.filterMap_map]
    refine congrArg (fun g => Rs.ok (D.lst ((List.range fs.length).filterMap g)) s4) (funext fun i => ?_)
    show (match fs[((0 : Int) + (i : Int)).toNat]? with
      | some f => if fits r f then none else some (D.int ((0 : Int) + (i : Int)))
      | none => none) = _
    rw [Int.zero_add, Int.toNat_natCast, Nat.zero_add]
  · intro y hy
    obtain ⟨i, hi, rfl⟩ := List.mem_map.mp hy
    have hi' := List.mem_range.mp hi
    have eh : callN T N (n + 11) (.law 4) [rowD r, fD fs[i]] s4 = .ok (.bl (fits r fs[i])) s4 := r_holds (n := n + 10) l4
    have hix : ixD (.tup (fs.map fD)) (.int (0 + (i : Int))) = some (fD fs[i]) := by
      show L2.atI (fs.map fD) _ = _
      rw [Int.zero_add]
      unfold L2.atI L2.ixN
      rw [if_pos (by omega), if_pos (by rw [List.length_map]; omega)]
      simp [hi']
    have hg : fs[i]? = some fs[i] := List.getElem?_eq_getElem hi'
    by_cases hfit : fits r fs[i] = true
    · simp [ev, evs, bT_nm, slotsT, wipeE, truD, hix, eh, hfit, hg, ixD, L2.atI, L2.ixN] at hix ⊢
      simp [hi', eh, hfit]
    · have hfit' : fits r fs[i] = false := by simpa using hfit
      simp [ev, evs, bT_nm, slotsT, wipeE, truD, hix, eh, hfit', hg, ixD, L2.atI, L2.ixN] at hix ⊢
      simp [hi', eh, hfit']
  · simp [lim]; omega
theorem law_T {T : F → Option Fn} (bk : Bk T) (bq : Bq T) (bw : Bw T) (ld : Ld T) (l4 : T (.law 4) = some f_law_4) (l0 : T (.law 0) = some f_law_0) (n N : Nat) (ns : List Int) (h : ns.length ≤ 63) : ∃ s', callN T N (n + 12) (.law 0) [.scr ns] [] = .ok (.bl true) s' := by
  obtain ⟨s1, e1, d1⟩ : ∃ s', callN T N (n + 11) .mix [.scr ns, .int 1] [] = .ok (.hnd 0) s' ∧ Dr s' := r_mix (n := n + 10) h
  obtain ⟨x, s2, e2, d2, x0, x3⟩ := r_next (T := T) (N := N) (n + 11) d1 (b := 3) (by omega) (by omega)
  obtain ⟨m0, hm0, m1, m2⟩ : ∃ m0 : Int, ixD (.lst [.int 3, .int 9, .int 1000000000000000000000000000000]) (.int x) = some (.int m0) ∧ 0 ≤ m0 ∧ m0 ≤ 1000000000000000000000000000000 := by
    have : x = 0 ∨ x = 1 ∨ x = 2 := by omega
    rcases this with rfl | rfl | rfl
    · exact ⟨3, rfl, by omega, by omega⟩
    · exact ⟨9, rfl, by omega, by omega⟩
    · exact ⟨1000000000000000000000000000000, rfl, by omega, by omega⟩
  obtain ⟨cells, most, fs, s3, e3, d3, c1, c2, k1, k2, l1, hf⟩ : ∃ (cells most : Int) (fs : List F4) (s' : Sto), callN T N (n + 11) (.law 3) [.hnd 0, .int 20, .int m0, .int 12] s2 = .ok (.lst [.int cells, .int most, .tup (fs.map fD)]) s' ∧ Dr s' ∧ 1 ≤ cells ∧ cells ≤ 20 ∧ 0 ≤ most ∧ most ≤ m0 ∧ (fs.length : Int) ≤ 12 ∧ ∀ f ∈ fs, okF cells f :=
    r_drawbook (T := T) (N := N) (n := n + 7) ld d2 (by omega) (by omega) m1 m2 (by omega) (by omega)
  have hl12 : fs.length ≤ 12 := by omega
  have hm : most ≤ 1000000000000000000000000000000 := by omega
  have e4 : callN T N (n + 11) (.ini .book) [.int cells, .int most, .tup (fs.map fD)] s3 = .ok (bookD cells most fs) s3 := r_book (n := n + 7) bk c1 c2 k1 hm hl12 hf
  have p0 : callN T N (n + 11) (.pr .book 0) [bookD cells most fs] s3 = .ok (.int cells) s3 := r_cells (n := n + 10) bq
  have p1 : callN T N (n + 11) (.pr .book 1) [bookD cells most fs] s3 = .ok (.int most) s3 := r_most (n := n + 10) bq
  have p2 : callN T N (n + 11) (.pr .book 2) [bookD cells most fs] s3 = .ok (.tup (fs.map fD)) s3 := r_facts (n := n + 10) bq
  have pl : callN T N (n + 11) (.len .book) [bookD cells most fs] s3 = .ok (.int fs.length) s3 := r_len (n := n + 10) bq
  have q1 : callN T N (n + 11) (.eq .book) [bookD cells most fs, bookD cells most fs] s3 = .ok (.bl true) s3 := by
    have := r_eqB (T := T) (N := N) (n := n + 10) (s := s3) bq (cells := cells) (most := most) (fs := fs) (cells' := cells) (most' := most) (fs' := fs)
    rw [eqF_refl 8 _ isP_held] at this
    exact this
  have q2 : callN T N (n + 11) (.eq .book) [bookD cells most fs, .tup [.int cells, .int most, .tup (fs.map fD)]] s3 = .ok (.bl false) s3 := r_eqT (n := n + 10) bq
  have t0 : eqD (.int cells) (.int cells) = some true := eqD_refl rfl
  have t1 : eqD (.int most) (.int most) = some true := eqD_refl rfl
  have t2 : eqD (.tup (fs.map fD)) (.tup (fs.map fD)) = some true := eqD_refl isP_fs
  have t3 : eqD (.int fs.length) (.int fs.length) = some true := eqD_refl rfl
  have t4 : eqD (.tup (fs.map fD)) (.tup []) = some fs.isEmpty := by
    unfold eqD
    rw [isP_fs]
    cases fs <;> rfl
  have sl1 : cutL (fs.map fD) (some 1) none = (fs.drop 1).map fD := by rw [cut1, List.map_drop]
  have e5 : callN T N (n + 11) (.ini .book) [.int cells, .int most, .tup ((fs.drop 1).map fD)] s3 = .ok (bookD cells most (fs.drop 1)) s3 := r_book (n := n + 7) bk c1 c2 k1 hm (by rw [List.length_drop]; omega) fun f hx => hf f (List.mem_of_mem_drop hx)
  have q3 : fs.isEmpty = false → callN T N (n + 11) (.eq .book) [bookD cells most fs, bookD cells most (fs.drop 1)] s3 = .ok (.bl false) s3 := fun he => by
    have := r_eqB (T := T) (N := N) (n := n + 10) (s := s3) bq (cells := cells) (most := most) (fs := fs) (cells' := cells) (most' := most) (fs' := fs.drop 1)
    rw [eqF_book (.inr (by
      rw [List.length_drop]
      cases fs with
      | nil => cases he
      | cons y l => rw [List.length_cons]; omega))] at this
    exact this
  have e6 : most < 1000000000000000000000000000000 → callN T N (n + 11) (.ini .book) [.int cells, .int (most + 1), .tup (fs.map fD)] s3 = .ok (bookD cells (most + 1) fs) s3 := fun hlt => r_book (n := n + 7) bk c1 c2 (by omega) (by omega) hl12 hf
  have q4 : callN T N (n + 11) (.eq .book) [bookD cells most fs, bookD cells (most + 1) fs] s3 = .ok (.bl false) s3 := by
    have := r_eqB (T := T) (N := N) (n := n + 10) (s := s3) bq (cells := cells) (most := most) (fs := fs) (cells' := cells) (most' := most + 1) (fs' := fs)
    rw [eqF_book (.inl (by omega))] at this
    exact this
  obtain ⟨rs, s4, e7, d4, l4', p4⟩ := rows_of (s := s3) (c := ⟨callN T N (n + 11), N⟩) (e := .call .next (.cons (.var 1) (.cons (.bin .add (.ix (.var 2) (.int 1)) (.int 1)) .nil))) (ρ := [some (.scr ns), some (.hnd 0), some (.lst [.int cells, .int most, .tup (fs.map fD)]), some (bookD cells most fs), none, none, none]) (i := 6) (k := cells) (P := fun d => ∃ a, d = D.int a ∧ 0 ≤ a ∧ a ≤ most) d3 (by omega) (by omega)
    (fun x s hs => by
      obtain ⟨a, s', e, d', a1, a2⟩ := r_next (T := T) (N := N) (n + 11) hs (b := most + 1) (by omega) (by omega)
      refine ⟨.int a, s', ?_, d', a, rfl, a1, by omega⟩
      simp [runFn, runIni, MP.start, exs, exe, ev, evs, evo, evr, cmpD, binD, ixD, slD, b1D, b2D, isaD, truD, lenD, itD, bT_nm, bT_tup, bT_lst, bTs_nil, bTs_cons, parE, at', isFresh, negD, isNon, L2.atI, L2.ixN, slotsT, slotsTs, wipeE, Rs.nox, lim, e]) (r := .rg1 (.ix (.var 2) (.int 0))) (evr_rg1 rfl (by omega) (by omega))
  obtain ⟨r, rfl, hr⟩ := ex_map (g := D.int) p4
  rw [List.length_map] at l4'
  have e7' : ev ⟨callN T N (n + 11), N⟩ f_law_0_c0 [some (.scr ns), some (.hnd 0), some (.lst [.int cells, .int most, .tup (fs.map fD)]), some (bookD cells most fs), none, none, none] s3 = .ok (.lst (r.map D.int)) s4 := e7
  have e8 : callN T N (n + 11) (.p 6) [bookD cells most fs, rowD r] s4 = .ok (.lst (brk r 0 fs)) s4 := r_broken (n := n + 7) bw bk l4' hr (by omega)
  have e9 := law_c1 (T := T) (n := n) (N := N) l4 (ns := ns) (r := r) (cells := cells) (most := most) (fs := fs) (B := bookD cells most fs) (s4 := s4) hl12
  have t5 : eqD (.lst (brk r 0 fs)) (.lst (brk r 0 fs)) = some true := eqD_refl (by unfold isP; exact brk_isP)
  refine ⟨s4, ?_⟩
  rw [calll l0]
  have rowE : D.tup (r.map D.int) = rowD r := rfl
  have hlen : (0 : Int) ≤ fs.length ∧ (fs.length : Int) < 9223372036854775808 := by omega
  obtain ⟨B, hB⟩ : ∃ B, B = D.ins .book [.tup [.int cells, .int most, .tup (fs.map fD)]] := ⟨_, rfl⟩
  obtain ⟨L, hL⟩ : ∃ L, L = D.lst [.int cells, .int most, .tup (fs.map fD)] := ⟨_, rfl⟩
  have u1 : exe ⟨callN T N (n + 11), N⟩ (.asg (.nm 1) (.call (.mix) (.cons (.var 0) (.cons (.int 1) .nil)))) [some (.scr ns), none, none, none, none, none, none] [] = .nx [some (.scr ns), some (.hnd 0), none, none, none, none, none] s1 := by
    simp [runFn, runIni, MP.start, exs, exe, ev, evs, evo, evr, cmpD, binD, ixD, slD, b1D, b2D, isaD, truD, lenD, itD, bT_nm, bT_tup, bT_lst, bTs_nil, bTs_cons, parE, at', isFresh, negD, isNon, L2.atI, L2.ixN, slotsT, slotsTs, wipeE, Rs.nox, lim, e1]
  refine runFn_rt rfl (exs_nx u1 (exs_nx (s' := s3) (ρ' := [some (.scr ns), some (.hnd 0), some L, none, none, none, none]) ?_ (exs_nx (s' := s3) (ρ' := [some (.scr ns), some (.hnd 0), some L, some B, none, none, none]) ?_ (exs_nx (s' := s3) (ρ' := [some (.scr ns), some (.hnd 0), some L, some B, none, none, none]) (ite_nx ?_) (exs_nx (s' := s3) (ρ' := [some (.scr ns), some (.hnd 0), some L, some B, none, none, none]) (ite_nx ?_) (exs_nx (s' := s3) (ρ' := [some (.scr ns), some (.hnd 0), some L, some B, none, none, none]) (ite_nx ?_) (exs_nx (s' := s4) (ρ' := [some (.scr ns), some (.hnd 0), some L, some B, some (rowD r), none, none]) ?_ (exs_nx (s' := s4) (ρ' := [some (.scr ns), some (.hnd 0), some L, some B, some (rowD r), some (.lst (brk r 0 fs)), none]) ?_ (exs_rt ?_)))))))))
  · subst hL
    simp [exe, ev, evs, bT_nm, pow30, e2, hm0, e3, lim]
  · subst hL hB
    simp [runFn, runIni, MP.start, exs, exe, ev, evs, evo, evr, cmpD, binD, ixD, slD, b1D, b2D, isaD, truD, lenD, itD, bT_nm, bT_tup, bT_lst, bTs_nil, bTs_cons, parE, at', isFresh, negD, isNon, L2.atI, L2.ixN, slotsT, slotsTs, wipeE, Rs.nox, lim, e4, bookD]
  · subst hL hB
    simp only [bookD] at p0 p1 p2 pl
    simp [runFn, runIni, MP.start, exs, exe, ev, evs, evo, evr, cmpD, binD, ixD, slD, b1D, b2D, isaD, truD, lenD, itD, bT_nm, bT_tup, bT_lst, bTs_nil, bTs_cons, parE, at', isFresh, negD, isNon, L2.atI, L2.ixN, slotsT, slotsTs, wipeE, Rs.nox, lim, p0, p1, p2, pl, t0, t1, t2, t3, hlen.1, hlen.2]
  · subst hL hB
    simp only [bookD] at e4 q1 q2
    simp [runFn, runIni, MP.start, exs, exe, ev, evs, evo, evr, cmpD, binD, ixD, slD, b1D, b2D, isaD, truD, lenD, itD, bT_nm, bT_tup, bT_lst, bTs_nil, bTs_cons, parE, at', isFresh, negD, isNon, L2.atI, L2.ixN, slotsT, slotsTs, wipeE, Rs.nox, lim, e4, q1, q2, eqRt]
  · subst hL hB
    cases he : fs.isEmpty with
    | true =>
      by_cases hlt : most < 1000000000000000000000000000000
      · have e6' := e6 hlt
        simp only [bookD] at e6' q4
        simp [runFn, runIni, MP.start, exs, exe, ev, evs, evo, evr, cmpD, binD, ixD, slD, b1D, b2D, isaD, truD, lenD, itD, bT_nm, bT_tup, bT_lst, bTs_nil, bTs_cons, parE, at', isFresh, negD, isNon, L2.atI, L2.ixN, slotsT, slotsTs, wipeE, Rs.nox, lim, pow30, t4, he, e6', q4, hlt, eqRt]
      · simp [runFn, runIni, MP.start, exs, exe, ev, evs, evo, evr, cmpD, binD, ixD, slD, b1D, b2D, isaD, truD, lenD, itD, bT_nm, bT_tup, bT_lst, bTs_nil, bTs_cons, parE, at', isFresh, negD, isNon, L2.atI, L2.ixN, slotsT, slotsTs, wipeE, Rs.nox, lim, pow30, t4, he, hlt]
    | false =>
      have q3' := q3 he
      simp only [bookD, List.drop_one, List.map_tail] at q3' e5
      by_cases hlt : most < 1000000000000000000000000000000
      · have e6' := e6 hlt
        simp only [bookD] at e6' q4
        simp [runFn, runIni, MP.start, exs, exe, ev, evs, evo, evr, cmpD, binD, ixD, slD, b1D, b2D, isaD, truD, lenD, itD, bT_nm, bT_tup, bT_lst, bTs_nil, bTs_cons, parE, at', isFresh, negD, isNon, L2.atI, L2.ixN, slotsT, slotsTs, wipeE, Rs.nox, lim, pow30, t4, he, sl1, e5, q3', e6', q4, hlt, eqRt, List.drop_one]
      · simp [runFn, runIni, MP.start, exs, exe, ev, evs, evo, evr, cmpD, binD, ixD, slD, b1D, b2D, isaD, truD, lenD, itD, bT_nm, bT_tup, bT_lst, bTs_nil, bTs_cons, parE, at', isFresh, negD, isNon, L2.atI, L2.ixN, slotsT, slotsTs, wipeE, Rs.nox, lim, pow30, t4, he, sl1, e5, q3', hlt, eqRt, List.drop_one]
  · subst hL hB
    rw [exe, ev, show ev ⟨callN T N (n + 11), N⟩ f_law_0_c0 [some (.scr ns), some (.hnd 0), some (.lst [.int cells, .int most, .tup (fs.map fD)]), some (.ins .book [.tup [.int cells, .int most, .tup (fs.map fD)]]), none, none, none] s3 = .ok (.lst (r.map D.int)) s4 from e7']
    rfl
  · subst hL hB
    rw [exe, show ev ⟨callN T N (n + 11), N⟩ (.call (.p 6) (.cons (.var 3) (.cons (.var 4) .nil))) [some (.scr ns), some (.hnd 0), some (.lst [.int cells, .int most, .tup (fs.map fD)]), some (.ins .book [.tup [.int cells, .int most, .tup (fs.map fD)]]), some (rowD r), none, none] s4 = .ok (.lst (brk r 0 fs)) s4 from by
      rw [ev]
      exact e8]
    rfl
  · subst hL hB
    exact last_stmt rfl e9 t5
theorem bk : Bk tx.T := ⟨rfl, rfl, rfl, rfl⟩
theorem bq : Bq tx.T := ⟨rfl, rfl, rfl, rfl, rfl⟩
theorem bw : Bw tx.T := ⟨rfl, rfl, rfl, rfl⟩
theorem ld : Ld tx.T := ⟨rfl, rfl, rfl⟩
theorem l4 : tx.T (.law 4) = some f_law_4 := rfl
theorem l0 : tx.T (.law 0) = some f_law_0 := rfl
theorem law (N : Nat) (ns : List Int) (h : ns.length ≤ 63) : ∃ s', callN tx.T N (11 + 1) (.law 0) [.scr ns] [] = .ok (.bl true) s' := law_T bk bq bw ld l4 l0 0 N ns h
end K01
theorem PySem.Challenge.cw_stretchtold_k01_whole_rows_judged_holds : PySem.Challenge.rw_stretchtold_k01_whole_rows_judged.Holds := by
  exact K01.holds_of fun ns h => ⟨0, K01.law 0 ns h⟩

end
